/- What the functions compute that the laws of ApplyEvent reach: contracts. Conditions stand in each theorem. -/
import Derived.Test.YtjneccbpkckdfaaGreatProg
import Derived.KernelRfl
import Derived.Test.YtjneccbpkckdfaaGreatTApplyEventa
set_option linter.unusedVariables false
set_option linter.unusedSimpArgs false
namespace Go.Proofs.YtjneccbpkckdfaaGreatR
open Go Go.RowKit Go.Proofs
open Nat (reduceEqDiff reduceLT reduceLeDiff reduceAdd reduceMul)
open List (reduceReplicate)
def mkL{α:Type}(mk:α→Int→α)(c:α→Nat):List α→Int→List α
 | [],_=>[]
 |x::l,k=>mk x k::mkL mk c l (k+(c x:Nat))
def ctL{α:Type}(c:α→Nat)(l:List α):Nat:=(l.map c).sum
def iMk(_:Int)(k:Int):Int:=k
def iCt(_:Int):Nat:=1
def bMk(_:Bool)(k:Int):Bool:=k.tmod 3==0
section
variable {α:Type} {mk:α→Int→α} {c:α→Nat} {l:List α} {k:Int} {i:Nat} {x:α} {f:α→List T}
theorem K3v:mkL mk c [] k=[]:=rfl
theorem K1e:ctL c []=0:=rfl
theorem Kf(h:l[i]? =some x):ctL c (l.take (i+1))=ctL c (l.take i)+c x:=K6h h
theorem Kt(i:Nat):ctL c (l.take i)≤ctL c l:=K3e l i
theorem K9:∀ {l:List α} {k:Int},(mkL mk c l k).length=l.length
 | [],_=>rfl
 |x::l,k=>by simp[mkL,K9 (l:=l)]
theorem K7x:∀ {l m:List α} {k:Int},mkL mk c (l++m) k=mkL mk c l k++mkL mk c m (k+(ctL c l:Nat))
 | [],m,k=>by simp[mkL,ctL]
 |x::l,m,k=>by
  simp only[List.cons_append,mkL,K7x (l:=l),ctL,List.map_cons,List.sum_cons]
  rw[show k+(c x:Nat)+(((l.map c).sum:Nat):Int)=k+((c x+(l.map c).sum:Nat):Int)by omega]
theorem mkL_snoc(h:l[i]? =some x):mkL mk c (l.take (i+1)) k=mkL mk c (l.take i) k++[mk x (k+(ctL c (l.take i):Nat))]:=by
 rw[Kc h,K7x];rfl
theorem K3u(h:l[i]? =some x):(mkL mk c l k)[i]? =some (mk x (k+(ctL c (l.take i):Nat))):=by
 have hi:=Kg h
 have e:mkL mk c l k=mkL mk c (l.take i) k++mkL mk c (l.drop i) (k+(ctL c (l.take i):Nat)):=by
  rw[←K7x,List.take_append_drop]
 rw[e,List.getElem?_append_right (by rw[K9];simp;omega),K9,List.length_take,Nat.min_eq_left (Nat.le_of_lt hi),Nat.sub_self,Ki h]
 rfl
def mid(A:List (List T))(e:List T)(B:List (List T)):List (List T):=A++e::B
theorem K4h(h:l[i]? =some x):(mkL mk c (l.take i) k).map f++(l.drop i).map f=mid ((mkL mk c (l.take i) k).map f) (f x) ((l.drop (i+1)).map f):=by
 rw[Ki h];rfl
theorem K4g(h:l[i]? =some x):(∀e,(mid ((mkL mk c (l.take i) k).map f) e ((l.drop (i+1)).map f))[i]? =some e)∧
  (∀e e',(mid ((mkL mk c (l.take i) k).map f) e ((l.drop (i+1)).map f)).set i e'=mid ((mkL mk c (l.take i) k).map f) e' ((l.drop (i+1)).map f))∧
  (∀e,(mid ((mkL mk c (l.take i) k).map f) e ((l.drop (i+1)).map f)).length=l.length)∧
  (∀e,(mid ((mkL mk c (l.take i) k).map f) e ((l.drop (i+1)).map f)).getD i []=e):=by
 have hi:=Kg h
 have hl:((mkL mk c (l.take i) k).map f).length=i:=by rw[List.length_map,K9];simp;omega
 generalize (mkL mk c (l.take i) k).map f=A at hl
 subst hl
 have h1:∀e,(mid A e ((l.drop (A.length+1)).map f))[A.length]? =some e:=fun e=>by simp[mid]
 refine⟨h1,fun e e'=>by simp[mid],fun e=>by simp[mid];omega,fun e=>by rw[List.getD_eq_getElem?_getD,h1];rfl⟩
theorem K3c(h:l[i]? =some x):mid ((mkL mk c (l.take i) k).map f) (f (mk x (k+(ctL c (l.take i):Nat)))) ((l.drop (i+1)).map f)=(mkL mk c (l.take (i+1)) k).map f++(l.drop (i+1)).map f:=by
 rw[mkL_snoc h];simp[mid]
theorem Kv{sz:Nat}{es:List α}{rs:List RV}(h:bdVA (oL sz (es.map f)::rs)):es.length≤roomB:=by
 simp only[bdVA,List.map_cons,bdL,bdT,List.length_map]at h
 exact h.1.1.1
theorem waK{K K':Int}(h:K=K')(h1:0≤K')(h2:K'≤9223372036854775807):IntKind.i64.wrap K=K':=by
 subst h;rw[wI (by omega) (by omega)]
theorem K5l{s:α→Nat}(h:∀x,c x≤16*(1+s x)):∀l:List α,ctL c l≤16*(l.length+(l.map s).sum)
 | []=>by simp[ctL]
 |x::l=>by
  have h1:=h x
  have h2:=K5l h l
  simp only[ctL,List.map_cons,List.sum_cons,List.length_cons]at*
  omega
theorem ctL_le'(h:∀x,c x≤16):∀l:List α,ctL c l≤16*l.length
 | []=>by simp[ctL]
 |x::l=>by
  have h1:=h x
  have h2:=ctL_le' h l
  simp only[ctL,List.map_cons,List.sum_cons,List.length_cons]at*
  omega
end
abbrev oS(ts:List T):RV:=⟨true,own ts⟩
attribute [go_sem] oS
theorem K87:¬(3:Int)=0:=by decide
attribute [go_sem] K9
def Mgf:MC:=
(Zs [.mv 4 (ci 0)] [0,1] (.seq (Zs [.mv 5 (ci 0)] [0,1,5] (.block 0 (.loop ([0,1,5],[]) (.seq (Zs [mS 6 5,mS 7 0,nS 8 7,bS 9 .lss 6 8] [0,1,5,9] (cX 9 0))
(.seq (.block 1 (Zs [mS 12 0,mS 13 5,mS 14 1,xS 15 1 12 13,sS 1 15 14] [0,1,5] (pr [mS 16 1,bC 17 .add 16 1,mS 1 17] [0,1,5])))
(pr [mS 10 5,bC 11 .add 10 1,mS 5 11] [0,1,5]))))))
(Zs [mS 18 1,mS 4 18] [4] .ret)))
theorem C1n(xs:List Int)(k:Int)(hk:0≤k)(hN:k+(ctL iCt xs:Nat)≤4611686018427387904):CtrI Tryz.prog N1q [oL 1 (xs.map encI),iI k] [some (1,(mkL iMk iCt xs k).map encI)] [rI (k+(ctL iCt xs:Nat))]:=by
 refine Ky (M:=Mgf) (m:=0) (n:=19) (res:=[(.tmp 4,[false])]) hmix Tryz.func32 rfl (by kernel_rfl) rfl (by kernel_rfl) (by kernel_rfl) (Nat.le_of_ble_eq_true rfl) rfl rfl ?_;unfold Mgf
 intro hb
 have hl:=Kv hb
 clear hb
 simp only[go_sem]
 refine K5 xs (fun i=>[(1,vI (k+(ctL iCt (xs.take i):Nat))),(5,vI i)]) (fun i=>[(0,⟨1,.row true 1 ((mkL iMk iCt (xs.take i) k).map encI++(xs.drop i).map encI)⟩)]) (fun _=>True) hl ?_
 simp only[go_sem]
 refine⟨?_,trivial,?_,?_⟩
 ·simp only[go_sem,List.take_zero,List.drop_zero,K3v,K1e]
  all_goals simp
 ·intro i x hx _ h0 h1 hw
  have hR:=K4h (mk:=iMk) (c:=iCt) (k:=k) (f:=encI) hx
  have hA:=K4g (mk:=iMk) (c:=iCt) (k:=k) (f:=encI) hx
  generalize hAe:(mkL iMk iCt (xs.take i) k).map encI=A at hR hA
  generalize hBe:(xs.drop (i+1)).map encI=B at hR hA
  obtain⟨hg,hs,hl,hd⟩:=hA
  have hc:=Kt (c:=iCt) (i+1) (l:=xs)
  rw[Kf hx]at hc
  have hK0:0≤k+((ctL iCt (xs.take i):Nat):Int):=by omega
  have hK1:k+((ctL iCt (xs.take i):Nat):Int)+(iCt x:Nat)≤4611686018427387904:=by omega
  generalize hK:k+((ctL iCt (xs.take i):Nat):Int)=K at hK0 hK1
  simp only[iCt]at hK1
  simp only[go_sem,hw,hR,hg,hs,hl,h0,h1,waK (K:=K+1) (K':=K+1) (by omega) (by omega) (by omega)]
  subst hK hAe hBe
  refine⟨?_,K3c hx⟩
  rw[Kf hx]
  simp only[iCt]
  omega
 ·intro _
  simp only[go_sem,List.take_length,List.drop_length,List.map_nil,List.append_nil,K9]
def Mgd:MC:=
(Zs [.mv 4 (ci 0)] [0,1] (.seq (Zs [.mv 5 (ci 0)] [0,1,5] (.block 0 (.loop ([0,1,5],[]) (.seq (Zs [mS 6 5,mS 7 0,nS 8 7,bS 9 .lss 6 8] [0,1,5,9] (cX 9 0))
(.seq (.block 1 (.seq (Zs [mS 12 0,mS 13 5,xS 14 1 12 13,lF 15 1 14,mS 16 1,bS 17 .neq 15 16] [0,1,5,17] (.cond (.s 17) (Zs [.mv 4 (.c (.int .i64 (-1)))] [4] .ret) .skip))
(pr [mS 18 1,bC 19 .add 18 1,mS 1 19] [0,1,5])))
(pr [mS 10 5,bC 11 .add 10 1,mS 5 11] [0,1,5]))))))
(Zs [mS 20 1,mS 4 20] [4] .ret)))
theorem C3x(xs:List Int)(k:Int)(hk:0≤k)(hN:k+(ctL iCt xs:Nat)≤4611686018427387904):Ctr Tryz.prog N40 [aL 1 ((mkL iMk iCt xs k).map encI),aI k] [rI (k+(ctL iCt xs:Nat))]:=by
 refine cA Mgd 0 21 [(.tmp 4,[false])] Tryz.func100 rfl rfl ?_;unfold Mgd
 intro hb
 simp only[bdA,bdL,bdT,Ke,K10,roomB,and_true,List.length_map]at hb
 have hl:=hb.1.1
 rw[K9]at hl
 clear hb
 simp only[go_sem]
 refine K5 xs (fun i=>[(1,vI (k+(ctL iCt (xs.take i):Nat))),(5,vI i)]) (fun i=>[]) (fun _=>True) hl ?_
 simp only[go_sem]
 refine⟨?_,trivial,?_,?_⟩
 ·simp only[go_sem,List.take_zero,K1e]
  all_goals simp
 ·intro i x hx _ h0 h1 hw
  have hg:=K3u (mk:=iMk) (c:=iCt) (k:=k) hx
  have hc:=Kt (c:=iCt) (i+1) (l:=xs)
  rw[Kf hx]at hc
  have hK0:0≤k+((ctL iCt (xs.take i):Nat):Int):=by omega
  have hK1:k+((ctL iCt (xs.take i):Nat):Int)+(iCt x:Nat)≤4611686018427387904:=by omega
  generalize hK:k+((ctL iCt (xs.take i):Nat):Int)=K at hK0 hK1 hg
  simp only[iCt]at hK1
  simp only[go_sem,hw,K4 hg,h0,h1,K9,iMk,waK (K:=K+1) (K':=K+1) (by omega) (by omega) (by omega)]
  rw[Kf hx]
  simp only[iCt]
  omega
 ·intro _
  simp only[go_sem,List.take_length,K9]
def GAddress.mkd(x:GAddress)(k:Int):GAddress:=⟨k,(k+1),(k+2)⟩
def GAddress.ct(x:GAddress):Nat:=3
def GResource.mkd(x:GResource)(k:Int):GResource:=⟨k,(mkL iMk iCt x.Body (k+1)),⟨((k+1)+(ctL iCt x.Body:Nat)),(((k+1)+(ctL iCt x.Body:Nat))+1),(((k+1)+(ctL iCt x.Body:Nat))+2)⟩⟩
def GResource.ct(x:GResource):Nat:=4+ctL iCt x.Body
theorem GResource.ct_le(x:GResource):x.ct≤16*(1+x.size):=by
 simp only[GResource.ct,GResource.size]
 have h0:=ctL_le' (c:=iCt) (fun y=>by simp only[iCt];omega) x.Body
 omega
def GResource.mks(x:GResource)(k:Int):GResource:={x with Body:=mkL iMk iCt x.Body (k)}
def GResource.cts(x:GResource):Nat:=ctL iCt x.Body
theorem GResource.cts_le(x:GResource):x.cts≤16*x.size:=by
 simp only[GResource.cts,GResource.size]
 have hBody:=ctL_le' (c:=iCt) (fun y=>by simp only[iCt];omega) x.Body
 omega
@[go_sem] theorem GResource.mks_len0 (x:GResource) (k:Int):((x.mks k).Body).length=x.Body.length:=K9
def M7r:MC:=
(Zs [.box 2 1 (.s 0),.mv 4 (ci 0)] [1,2] (Zs [fS 5 2 1,lF 6 1 5,mS 7 1,.callI 8 [] (.f N1q) [.s 6,.s 7] [0] [],mS 1 8] [1] (Zs [mS 9 1,mS 4 9] [4] .ret)))
theorem Cki(x:GResource)(k:Int)(hk:0≤k)(hN:k+(x.cts:Nat)≤4611686018427387904):CtrI Tryz.prog N8g [oS x.enc,iI k] [some (1,(x.mks k).Body.map encI)] [rI (k+(x.cts:Nat))]:=by
 refine Ky (M:=M7r) (m:=1) (n:=10) (res:=[(.tmp 4,[false])]) hmix Tryz.func188 rfl (by kernel_rfl) rfl (by kernel_rfl) (by kernel_rfl) (Nat.le_of_ble_eq_true rfl) rfl rfl ?_;unfold M7r
 intro hb
 clear hb
 simp only[GResource.cts]at hN ⊢
 simp only[go_sem]
 refine K7 (C1n x.Body (k) (by omega) (by omega)) ?_
 simp only[go_sem]
 all_goals (try omega)
 repeat' (first|rfl|omega|refine And.intro ?_ ?_)
def GPart.mkd(x:GPart)(k:Int):GPart:=⟨k,⟨(k+1),(mkL iMk iCt x.Resource.Body (k+2)),⟨((k+2)+(ctL iCt x.Resource.Body:Nat)),(((k+2)+(ctL iCt x.Resource.Body:Nat))+1),(((k+2)+(ctL iCt x.Resource.Body:Nat))+2)⟩⟩,(((k+2)+(ctL iCt x.Resource.Body:Nat))+3)⟩
def GPart.ct(x:GPart):Nat:=6+ctL iCt x.Resource.Body
theorem GPart.ct_le(x:GPart):x.ct≤16*(1+x.size):=by
 simp only[GPart.ct,GPart.size,GResource.size]
 have h0:=ctL_le' (c:=iCt) (fun y=>by simp only[iCt];omega) x.Resource.Body
 omega
def GPart.mks(x:GPart)(k:Int):GPart:={x with Resource:=x.Resource.mks (k)}
def GPart.cts(x:GPart):Nat:=x.Resource.cts
theorem GPart.cts_le(x:GPart):x.cts≤16*x.size:=by
 simp only[GPart.cts,GPart.size]
 have hResource:=GResource.cts_le x.Resource
 omega
@[go_sem] theorem GPart.mks_len0 (x:GPart) (k:Int):((x.mks k).Resource.Body).length=x.Resource.Body.length:=K9
def GPiece.mkd(x:GPiece)(k:Int):GPiece:=⟨k,(k+1),(mkL iMk iCt x.New (k+2))⟩
def GPiece.ct(x:GPiece):Nat:=2+ctL iCt x.New
theorem GPiece.ct_le(x:GPiece):x.ct≤16*(1+x.size):=by
 simp only[GPiece.ct,GPiece.size]
 have h0:=ctL_le' (c:=iCt) (fun y=>by simp only[iCt];omega) x.New
 omega
def GPiece.mks(x:GPiece)(k:Int):GPiece:={x with New:=mkL iMk iCt x.New (k)}
def GPiece.cts(x:GPiece):Nat:=ctL iCt x.New
theorem GPiece.cts_le(x:GPiece):x.cts≤16*x.size:=by
 simp only[GPiece.cts,GPiece.size]
 have hNew:=ctL_le' (c:=iCt) (fun y=>by simp only[iCt];omega) x.New
 omega
@[go_sem] theorem GPiece.mks_len0 (x:GPiece) (k:Int):((x.mks k).New).length=x.New.length:=K9
def GVersion.mkd(x:GVersion)(k:Int):GVersion:=⟨⟨k,(k+1),(k+2)⟩,(k+3),⟨(k+4),(mkL iMk iCt x.Resource.Body (k+5)),⟨((k+5)+(ctL iCt x.Resource.Body:Nat)),(((k+5)+(ctL iCt x.Resource.Body:Nat))+1),(((k+5)+(ctL iCt x.Resource.Body:Nat))+2)⟩⟩⟩
def GVersion.ct(x:GVersion):Nat:=8+ctL iCt x.Resource.Body
theorem GVersion.ct_le(x:GVersion):x.ct≤16*(1+x.size):=by
 simp only[GVersion.ct,GVersion.size,GResource.size]
 have h0:=ctL_le' (c:=iCt) (fun y=>by simp only[iCt];omega) x.Resource.Body
 omega
def Y25:MC:=
(Zs [.mv 4 (ci 0)] [0,1] (.seq (Zs [.mv 5 (ci 0)] [0,1,5] (.block 0 (.loop ([0,1,5],[1]) (.seq (Zs [mS 6 5,mS 7 0,nS 8 7,bS 9 .lss 6 8] [0,1,5,9] (cX 9 0))
(.seq (.block 1 (Zs [mS 12 0,mS 13 5,mS 14 1,xS 15 9 12 13,fS 16 15 0,fS 17 16 0,sS 1 17 14] [0,1,5] (Zs [mS 18 1,bC 19 .add 18 1,mS 1 19] [0,1,5] (Zs [mS 20 0,mS 21 5,mS 22 1,xS 23 9 20 21,fS 24 23 0,fS 25 24 1,sS 1 25 22] [0,1,5] (Zs [mS 26 1,bC 27 .add 26 1,mS 1 27] [0,1,5] (Zs [mS 28 0,mS 29 5,mS 30 1,xS 31 9 28 29,fS 32 31 0,fS 33 32 2,sS 1 33 30] [0,1,5] (Zs [mS 34 1,bC 35 .add 34 1,mS 1 35] [0,1,5] (Zs [mS 36 0,mS 37 5,mS 38 1,xS 39 9 36 37,fS 40 39 3,sS 1 40 38] [0,1,5] (Zs [mS 41 1,bC 42 .add 41 1,mS 1 42] [0,1,5] (Zs [mS 43 0,mS 44 5,mS 45 1,xS 46 9 43 44,fS 47 46 4,fS 48 47 0,sS 1 48 45] [0,1,5] (Zs [mS 49 1,bC 50 .add 49 1,mS 1 50] [0,1,5] (Zs [mS 51 0,mS 52 5,xS 53 9 51 52,fS 54 53 4,fS 55 54 1,.loadT 56 1 (.s 55),mS 57 1,.callI 58 [] (.f N1q) [.s 56,.s 57] [1] [0],mS 1 58] [0,1,5] (Zs [mS 59 0,mS 60 5,mS 61 1,xS 62 9 59 60,fS 63 62 4,fS 64 63 2,fS 65 64 0,sS 1 65 61] [0,1,5] (Zs [mS 66 1,bC 67 .add 66 1,mS 1 67] [0,1,5] (Zs [mS 68 0,mS 69 5,mS 70 1,xS 71 9 68 69,fS 72 71 4,fS 73 72 2,fS 74 73 1,sS 1 74 70] [0,1,5] (Zs [mS 75 1,bC 76 .add 75 1,mS 1 76] [0,1,5] (Zs [mS 77 0,mS 78 5,mS 79 1,xS 80 9 77 78,fS 81 80 4,fS 82 81 2,fS 83 82 2,sS 1 83 79] [0,1,5] (pr [mS 84 1,bC 85 .add 84 1,mS 1 85] [0,1,5]))))))))))))))))))
(pr [mS 10 5,bC 11 .add 10 1,mS 5 11] [0,1,5]))))))
(Zs [mS 86 1,mS 4 86] [4] .ret)))
attribute [go_sem] Y25
def M7s:MC:=Y25
theorem Ckj(xs:List GVersion)(k:Int)(hk:0≤k)(hN:k+(ctL GVersion.ct xs:Nat)≤4611686018427387904):CtrI Tryz.prog N8h [oL 9 (xs.map GVersion.enc),iI k] [some (9,(mkL GVersion.mkd GVersion.ct xs k).map GVersion.enc)] [rI (k+(ctL GVersion.ct xs:Nat))]:=by
 refine Ky (M:=M7s) (m:=1) (n:=87) (res:=[(.tmp 4,[false])]) hmix Tryz.func88 rfl (by kernel_rfl) rfl (by kernel_rfl) (by kernel_rfl) (Nat.le_of_ble_eq_true rfl) rfl rfl ?_;unfold M7s
 intro hb
 have hl:=Kv hb
 clear hb
 simp only[go_sem]
 refine K5 xs (fun i=>[(1,vI (k+(ctL GVersion.ct (xs.take i):Nat))),(5,vI i)]) (fun i=>[(0,⟨1,.row true 9 ((mkL GVersion.mkd GVersion.ct (xs.take i) k).map GVersion.enc++(xs.drop i).map GVersion.enc)⟩)]) (fun _=>True) hl ?_
 simp only[go_sem]
 refine⟨?_,trivial,?_,?_⟩
 ·simp only[go_sem,List.take_zero,List.drop_zero,K3v,K1e]
  all_goals simp
 ·intro i x hx _ h0 h1 hw
  have hR:=K4h (mk:=GVersion.mkd) (c:=GVersion.ct) (k:=k) (f:=GVersion.enc) hx
  have hA:=K4g (mk:=GVersion.mkd) (c:=GVersion.ct) (k:=k) (f:=GVersion.enc) hx
  generalize hAe:(mkL GVersion.mkd GVersion.ct (xs.take i) k).map GVersion.enc=A at hR hA
  generalize hBe:(xs.drop (i+1)).map GVersion.enc=B at hR hA
  obtain⟨hg,hs,hl,hd⟩:=hA
  have hc:=Kt (c:=GVersion.ct) (i+1) (l:=xs)
  rw[Kf hx]at hc
  have hK0:0≤k+((ctL GVersion.ct (xs.take i):Nat):Int):=by omega
  have hK1:k+((ctL GVersion.ct (xs.take i):Nat):Int)+(GVersion.ct x:Nat)≤4611686018427387904:=by omega
  generalize hK:k+((ctL GVersion.ct (xs.take i):Nat):Int)=K at hK0 hK1
  simp only[GVersion.ct]at hK1
  simp only[go_sem,hR,hg,hs,hl,h0,h1,waK (K:=K+1) (K':=K+1) (by omega) (by omega) (by omega),waK (K:=K+1+1) (K':=K+2) (by omega) (by omega) (by omega),waK (K:=K+2+1) (K':=K+3) (by omega) (by omega) (by omega),waK (K:=K+3+1) (K':=K+4) (by omega) (by omega) (by omega),waK (K:=K+4+1) (K':=K+5) (by omega) (by omega) (by omega)]
  refine K7 (C1n x.Resource.Body (K+5) (by omega) (by omega)) ?_
  have hK1:0≤K+5+(ctL iCt x.Resource.Body:Nat):=by omega
  generalize eK1:K+5+((ctL iCt x.Resource.Body:Nat):Int)=K1 at hK1
  simp only[go_sem,hw,hg,hs,hl,hd,h0,h1,waK (K:=K1+1) (K':=K1+1) (by omega) (by omega) (by omega),waK (K:=K1+1+1) (K':=K1+2) (by omega) (by omega) (by omega),waK (K:=K1+2+1) (K':=K1+3) (by omega) (by omega) (by omega)]
  subst eK1
  subst hK hAe hBe
  refine⟨?_,K3c hx⟩
  rw[Kf hx]
  simp only[GVersion.ct]
  omega
 ·intro _
  simp only[go_sem,List.take_length,List.drop_length,List.map_nil,List.append_nil,K9]
def Y26:MC:=
(Zs [.mv 4 (ci 0)] [0,1] (.seq (Zs [.mv 5 (ci 0)] [0,1,5] (.block 0 (.loop ([0,1,5],[]) (.seq (Zs [mS 6 5,mS 7 0,nS 8 7,bS 9 .lss 6 8] [0,1,5,9] (cX 9 0))
(.seq (.block 1 (.seq (Zs [mS 12 0,mS 13 5,xS 14 9 12 13,fS 15 14 0,fS 16 15 0,lF 17 1 16,mS 18 1,bS 19 .neq 17 18] [0,1,5,19] (.cond (.s 19) (Zs [.mv 4 (.c (.int .i64 (-1)))] [4] .ret) .skip))
(Zs [mS 20 1,bC 21 .add 20 1,mS 1 21] [0,1,5] (.seq (Zs [mS 22 0,mS 23 5,xS 24 9 22 23,fS 25 24 0,fS 26 25 1,lF 27 1 26,mS 28 1,bS 29 .neq 27 28] [0,1,5,29] (.cond (.s 29) (Zs [.mv 4 (.c (.int .i64 (-1)))] [4] .ret) .skip))
(Zs [mS 30 1,bC 31 .add 30 1,mS 1 31] [0,1,5] (.seq (Zs [mS 32 0,mS 33 5,xS 34 9 32 33,fS 35 34 0,fS 36 35 2,lF 37 1 36,mS 38 1,bS 39 .neq 37 38] [0,1,5,39] (.cond (.s 39) (Zs [.mv 4 (.c (.int .i64 (-1)))] [4] .ret) .skip))
(Zs [mS 40 1,bC 41 .add 40 1,mS 1 41] [0,1,5] (.seq (Zs [mS 42 0,mS 43 5,xS 44 9 42 43,fS 45 44 3,lF 46 1 45,mS 47 1,bS 48 .neq 46 47] [0,1,5,48] (.cond (.s 48) (Zs [.mv 4 (.c (.int .i64 (-1)))] [4] .ret) .skip))
(Zs [mS 49 1,bC 50 .add 49 1,mS 1 50] [0,1,5] (.seq (Zs [mS 51 0,mS 52 5,xS 53 9 51 52,fS 54 53 4,fS 55 54 0,lF 56 1 55,mS 57 1,bS 58 .neq 56 57] [0,1,5,58] (.cond (.s 58) (Zs [.mv 4 (.c (.int .i64 (-1)))] [4] .ret) .skip))
(Zs [mS 59 1,bC 60 .add 59 1,mS 1 60] [0,1,5] (Zs [mS 61 0,mS 62 5,xS 63 9 61 62,fS 64 63 4,fS 65 64 1,lF 66 1 65,mS 67 1,.call 68 [] (.f N40) [.s 66,.s 67],mS 1 68] [0,1,5] (.seq (Zs [mS 69 1,bC 70 .lss 69 0] [0,1,5,70] (.cond (.s 70) (Zs [.mv 4 (.c (.int .i64 (-1)))] [4] .ret) .skip))
(.seq (Zs [mS 71 0,mS 72 5,xS 73 9 71 72,fS 74 73 4,fS 75 74 2,fS 76 75 0,lF 77 1 76,mS 78 1,bS 79 .neq 77 78] [0,1,5,79] (.cond (.s 79) (Zs [.mv 4 (.c (.int .i64 (-1)))] [4] .ret) .skip))
(Zs [mS 80 1,bC 81 .add 80 1,mS 1 81] [0,1,5] (.seq (Zs [mS 82 0,mS 83 5,xS 84 9 82 83,fS 85 84 4,fS 86 85 2,fS 87 86 1,lF 88 1 87,mS 89 1,bS 90 .neq 88 89] [0,1,5,90] (.cond (.s 90) (Zs [.mv 4 (.c (.int .i64 (-1)))] [4] .ret) .skip))
(Zs [mS 91 1,bC 92 .add 91 1,mS 1 92] [0,1,5] (.seq (Zs [mS 93 0,mS 94 5,xS 95 9 93 94,fS 96 95 4,fS 97 96 2,fS 98 97 2,lF 99 1 98,mS 100 1,bS 101 .neq 99 100] [0,1,5,101] (.cond (.s 101) (Zs [.mv 4 (.c (.int .i64 (-1)))] [4] .ret) .skip))
(pr [mS 102 1,bC 103 .add 102 1,mS 1 103] [0,1,5])))))))))))))))))))
(pr [mS 10 5,bC 11 .add 10 1,mS 5 11] [0,1,5]))))))
(Zs [mS 104 1,mS 4 104] [4] .ret)))
attribute [go_sem] Y26
def M7o:MC:=Y26
theorem Ckf(xs:List GVersion)(k:Int)(hk:0≤k)(hN:k+(ctL GVersion.ct xs:Nat)≤4611686018427387904):Ctr Tryz.prog N8d [aL 9 ((mkL GVersion.mkd GVersion.ct xs k).map GVersion.enc),aI k] [rI (k+(ctL GVersion.ct xs:Nat))]:=by
 refine cA M7o 0 105 [(.tmp 4,[false])] Tryz.func95 rfl rfl ?_;unfold M7o
 intro hb
 simp only[bdA,bdL,bdT,Ke,K10,roomB,and_true,List.length_map]at hb
 have hl:=hb.1.1
 rw[K9]at hl
 clear hb
 simp only[go_sem]
 refine K5 xs (fun i=>[(1,vI (k+(ctL GVersion.ct (xs.take i):Nat))),(5,vI i)]) (fun i=>[]) (fun _=>True) hl ?_
 simp only[go_sem]
 refine⟨?_,trivial,?_,?_⟩
 ·simp only[go_sem,List.take_zero,K1e]
  all_goals simp
 ·intro i x hx _ h0 h1 hw
  have hg:=K3u (mk:=GVersion.mkd) (c:=GVersion.ct) (k:=k) hx
  have hc:=Kt (c:=GVersion.ct) (i+1) (l:=xs)
  rw[Kf hx]at hc
  have hK0:0≤k+((ctL GVersion.ct (xs.take i):Nat):Int):=by omega
  have hK1:k+((ctL GVersion.ct (xs.take i):Nat):Int)+(GVersion.ct x:Nat)≤4611686018427387904:=by omega
  generalize hK:k+((ctL GVersion.ct (xs.take i):Nat):Int)=K at hK0 hK1 hg
  simp only[GVersion.ct]at hK1
  try simp only[go_sem,K4 hg,h0,h1,K9,GVersion.mkd,waK (K:=K+1) (K':=K+1) (by omega) (by omega) (by omega),waK (K:=K+1+1) (K':=K+2) (by omega) (by omega) (by omega),waK (K:=K+2+1) (K':=K+3) (by omega) (by omega) (by omega),waK (K:=K+3+1) (K':=K+4) (by omega) (by omega) (by omega),waK (K:=K+4+1) (K':=K+5) (by omega) (by omega) (by omega)]
  refine K0 (C3x x.Resource.Body (K+5) (by omega) (by omega)) ?_
  have hK1:0≤K+5+(ctL iCt x.Resource.Body:Nat):=by omega
  generalize eK1:K+5+((ctL iCt x.Resource.Body:Nat):Int)=K1 at hK1
  have nK1:¬K1<0:=by omega
  simp only[go_sem,hw,K4 hg,h0,h1,K9,GVersion.mkd,nK1,eK1]
  intro _
  simp only[go_sem,waK (K:=K1+1) (K':=K1+1) (by omega) (by omega) (by omega),waK (K:=K1+1+1) (K':=K1+2) (by omega) (by omega) (by omega),waK (K:=K1+2+1) (K':=K1+3) (by omega) (by omega) (by omega)]
  subst eK1
  rw[Kf hx]
  simp only[GVersion.ct]
  omega
 ·intro _
  simp only[go_sem,List.take_length,K9]
def GVersion.mks(x:GVersion)(k:Int):GVersion:={x with Resource:=x.Resource.mks (k)}
def GVersion.cts(x:GVersion):Nat:=x.Resource.cts
theorem GVersion.cts_le(x:GVersion):x.cts≤16*x.size:=by
 simp only[GVersion.cts,GVersion.size]
 have hResource:=GResource.cts_le x.Resource
 omega
@[go_sem] theorem GVersion.mks_len0 (x:GVersion) (k:Int):((x.mks k).Resource.Body).length=x.Resource.Body.length:=K9
def M9p:MC:=
(Zs [.box 2 1 (.s 0),.mv 4 (ci 0)] [1,2] (Zs [fS 5 2 4,lT 6 5 5,mS 7 1,.callI 8 [] (.f N8g) [.s 6,.s 7] [0] [],mS 1 8] [1] (Zs [mS 9 1,mS 4 9] [4] .ret)))
theorem Cl2(x:GVersion)(k:Int)(hk:0≤k)(hN:k+(x.cts:Nat)≤4611686018427387904):CtrI Tryz.prog Nad [oS x.enc,iI k] [some (1,(x.mks k).Resource.Body.map encI)] [rI (k+(x.cts:Nat))]:=by
 refine Ky (M:=M9p) (m:=1) (n:=10) (res:=[(.tmp 4,[false])]) hmix Tryz.func94 rfl (by kernel_rfl) rfl (by kernel_rfl) (by kernel_rfl) (Nat.le_of_ble_eq_true rfl) rfl rfl ?_;unfold M9p
 intro hb
 clear hb
 simp only[GVersion.cts]at hN ⊢
 simp only[go_sem]
 refine K7 (Cki x.Resource (k) (by omega) (by omega)) ?_
 simp only[go_sem]
 all_goals (try omega)
 repeat' (first|rfl|omega|refine And.intro ?_ ?_)
def GOp.mkd(x:GOp)(k:Int):GOp:=⟨k,(k+1),(k+2),(k+3)⟩
def GOp.ct(x:GOp):Nat:=4
def Y27:MC:=
(Zs [.mv 4 (ci 0)] [0,1] (.seq (Zs [.mv 5 (ci 0)] [0,1,5] (.block 0 (.loop ([0,1,5],[]) (.seq (Zs [mS 6 5,mS 7 0,nS 8 7,bS 9 .lss 6 8] [0,1,5,9] (cX 9 0))
(.seq (.block 1 (Zs [mS 12 0,mS 13 5,mS 14 1,xS 15 4 12 13,fS 16 15 0,sS 1 16 14] [0,1,5] (Zs [mS 17 1,bC 18 .add 17 1,mS 1 18] [0,1,5] (Zs [mS 19 0,mS 20 5,mS 21 1,xS 22 4 19 20,fS 23 22 1,sS 1 23 21] [0,1,5] (Zs [mS 24 1,bC 25 .add 24 1,mS 1 25] [0,1,5] (Zs [mS 26 0,mS 27 5,mS 28 1,xS 29 4 26 27,fS 30 29 2,sS 1 30 28] [0,1,5] (Zs [mS 31 1,bC 32 .add 31 1,mS 1 32] [0,1,5] (Zs [mS 33 0,mS 34 5,mS 35 1,xS 36 4 33 34,fS 37 36 3,sS 1 37 35] [0,1,5] (pr [mS 38 1,bC 39 .add 38 1,mS 1 39] [0,1,5])))))))))
(pr [mS 10 5,bC 11 .add 10 1,mS 5 11] [0,1,5]))))))
(Zs [mS 40 1,mS 4 40] [4] .ret)))
attribute [go_sem] Y27
def Mhz:MC:=Y27
theorem Chg(xs:List GOp)(k:Int)(hk:0≤k)(hN:k+(ctL GOp.ct xs:Nat)≤4611686018427387904):CtrI Tryz.prog N8w [oL 4 (xs.map GOp.enc),iI k] [some (4,(mkL GOp.mkd GOp.ct xs k).map GOp.enc)] [rI (k+(ctL GOp.ct xs:Nat))]:=by
 refine Ky (M:=Mhz) (m:=0) (n:=41) (res:=[(.tmp 4,[false])]) hmix Tryz.func89 rfl (by kernel_rfl) rfl (by kernel_rfl) (by kernel_rfl) (Nat.le_of_ble_eq_true rfl) rfl rfl ?_;unfold Mhz
 intro hb
 have hl:=Kv hb
 clear hb
 simp only[go_sem]
 refine K5 xs (fun i=>[(1,vI (k+(ctL GOp.ct (xs.take i):Nat))),(5,vI i)]) (fun i=>[(0,⟨1,.row true 4 ((mkL GOp.mkd GOp.ct (xs.take i) k).map GOp.enc++(xs.drop i).map GOp.enc)⟩)]) (fun _=>True) hl ?_
 simp only[go_sem]
 refine⟨?_,trivial,?_,?_⟩
 ·simp only[go_sem,List.take_zero,List.drop_zero,K3v,K1e]
  all_goals simp
 ·intro i x hx _ h0 h1 hw
  have hR:=K4h (mk:=GOp.mkd) (c:=GOp.ct) (k:=k) (f:=GOp.enc) hx
  have hA:=K4g (mk:=GOp.mkd) (c:=GOp.ct) (k:=k) (f:=GOp.enc) hx
  generalize hAe:(mkL GOp.mkd GOp.ct (xs.take i) k).map GOp.enc=A at hR hA
  generalize hBe:(xs.drop (i+1)).map GOp.enc=B at hR hA
  obtain⟨hg,hs,hl,hd⟩:=hA
  have hc:=Kt (c:=GOp.ct) (i+1) (l:=xs)
  rw[Kf hx]at hc
  have hK0:0≤k+((ctL GOp.ct (xs.take i):Nat):Int):=by omega
  have hK1:k+((ctL GOp.ct (xs.take i):Nat):Int)+(GOp.ct x:Nat)≤4611686018427387904:=by omega
  generalize hK:k+((ctL GOp.ct (xs.take i):Nat):Int)=K at hK0 hK1
  simp only[GOp.ct]at hK1
  simp only[go_sem,hw,hR,hg,hs,hl,h0,h1,waK (K:=K+1) (K':=K+1) (by omega) (by omega) (by omega),waK (K:=K+1+1) (K':=K+2) (by omega) (by omega) (by omega),waK (K:=K+2+1) (K':=K+3) (by omega) (by omega) (by omega),waK (K:=K+3+1) (K':=K+4) (by omega) (by omega) (by omega)]
  subst hK hAe hBe
  refine⟨?_,K3c hx⟩
  rw[Kf hx]
  simp only[GOp.ct]
  omega
 ·intro _
  simp only[go_sem,List.take_length,List.drop_length,List.map_nil,List.append_nil,K9]
def Y28:MC:=
(Zs [.mv 4 (ci 0)] [0,1] (.seq (Zs [.mv 5 (ci 0)] [0,1,5] (.block 0 (.loop ([0,1,5],[]) (.seq (Zs [mS 6 5,mS 7 0,nS 8 7,bS 9 .lss 6 8] [0,1,5,9] (cX 9 0))
(.seq (.block 1 (.seq (Zs [mS 12 0,mS 13 5,xS 14 4 12 13,fS 15 14 0,lF 16 1 15,mS 17 1,bS 18 .neq 16 17] [0,1,5,18] (.cond (.s 18) (Zs [.mv 4 (.c (.int .i64 (-1)))] [4] .ret) .skip))
(Zs [mS 19 1,bC 20 .add 19 1,mS 1 20] [0,1,5] (.seq (Zs [mS 21 0,mS 22 5,xS 23 4 21 22,fS 24 23 1,lF 25 1 24,mS 26 1,bS 27 .neq 25 26] [0,1,5,27] (.cond (.s 27) (Zs [.mv 4 (.c (.int .i64 (-1)))] [4] .ret) .skip))
(Zs [mS 28 1,bC 29 .add 28 1,mS 1 29] [0,1,5] (.seq (Zs [mS 30 0,mS 31 5,xS 32 4 30 31,fS 33 32 2,lF 34 1 33,mS 35 1,bS 36 .neq 34 35] [0,1,5,36] (.cond (.s 36) (Zs [.mv 4 (.c (.int .i64 (-1)))] [4] .ret) .skip))
(Zs [mS 37 1,bC 38 .add 37 1,mS 1 38] [0,1,5] (.seq (Zs [mS 39 0,mS 40 5,xS 41 4 39 40,fS 42 41 3,lF 43 1 42,mS 44 1,bS 45 .neq 43 44] [0,1,5,45] (.cond (.s 45) (Zs [.mv 4 (.c (.int .i64 (-1)))] [4] .ret) .skip))
(pr [mS 46 1,bC 47 .add 46 1,mS 1 47] [0,1,5])))))))))
(pr [mS 10 5,bC 11 .add 10 1,mS 5 11] [0,1,5]))))))
(Zs [mS 48 1,mS 4 48] [4] .ret)))
attribute [go_sem] Y28
def Mhy:MC:=Y28
theorem Chd(xs:List GOp)(k:Int)(hk:0≤k)(hN:k+(ctL GOp.ct xs:Nat)≤4611686018427387904):Ctr Tryz.prog N8v [aL 4 ((mkL GOp.mkd GOp.ct xs k).map GOp.enc),aI k] [rI (k+(ctL GOp.ct xs:Nat))]:=by
 refine cA Mhy 0 49 [(.tmp 4,[false])] Tryz.func96 rfl rfl ?_;unfold Mhy
 intro hb
 simp only[bdA,bdL,bdT,Ke,K10,roomB,and_true,List.length_map]at hb
 have hl:=hb.1.1
 rw[K9]at hl
 clear hb
 simp only[go_sem]
 refine K5 xs (fun i=>[(1,vI (k+(ctL GOp.ct (xs.take i):Nat))),(5,vI i)]) (fun i=>[]) (fun _=>True) hl ?_
 simp only[go_sem]
 refine⟨?_,trivial,?_,?_⟩
 ·simp only[go_sem,List.take_zero,K1e]
  all_goals simp
 ·intro i x hx _ h0 h1 hw
  have hg:=K3u (mk:=GOp.mkd) (c:=GOp.ct) (k:=k) hx
  have hc:=Kt (c:=GOp.ct) (i+1) (l:=xs)
  rw[Kf hx]at hc
  have hK0:0≤k+((ctL GOp.ct (xs.take i):Nat):Int):=by omega
  have hK1:k+((ctL GOp.ct (xs.take i):Nat):Int)+(GOp.ct x:Nat)≤4611686018427387904:=by omega
  generalize hK:k+((ctL GOp.ct (xs.take i):Nat):Int)=K at hK0 hK1 hg
  simp only[GOp.ct]at hK1
  simp only[go_sem,hw,K4 hg,h0,h1,K9,GOp.mkd,waK (K:=K+1) (K':=K+1) (by omega) (by omega) (by omega),waK (K:=K+1+1) (K':=K+2) (by omega) (by omega) (by omega),waK (K:=K+2+1) (K':=K+3) (by omega) (by omega) (by omega),waK (K:=K+3+1) (K':=K+4) (by omega) (by omega) (by omega)]
  rw[Kf hx]
  simp only[GOp.ct]
  omega
 ·intro _
  simp only[go_sem,List.take_length,K9]
def GState.mkd(x:GState)(k:Int):GState:=⟨k,(mkL iMk iCt x.Regs (k+1)),(mkL iMk iCt x.Slots ((k+1)+(ctL iCt x.Regs:Nat))),(mkL iMk iCt x.Nodes (((k+1)+(ctL iCt x.Regs:Nat))+(ctL iCt x.Slots:Nat)))⟩
def GState.ct(x:GState):Nat:=1+ctL iCt x.Regs+ctL iCt x.Slots+ctL iCt x.Nodes
theorem GState.ct_le(x:GState):x.ct≤16*(1+x.size):=by
 simp only[GState.ct,GState.size]
 have h0:=ctL_le' (c:=iCt) (fun y=>by simp only[iCt];omega) x.Regs
 have h1:=ctL_le' (c:=iCt) (fun y=>by simp only[iCt];omega) x.Slots
 have h2:=ctL_le' (c:=iCt) (fun y=>by simp only[iCt];omega) x.Nodes
 omega
def GState.mks(x:GState)(k:Int):GState:={x with Regs:=mkL iMk iCt x.Regs (k),Slots:=mkL iMk iCt x.Slots (k+(ctL iCt x.Regs:Nat)),Nodes:=mkL iMk iCt x.Nodes (k+(ctL iCt x.Regs:Nat)+(ctL iCt x.Slots:Nat))}
def GState.cts(x:GState):Nat:=ctL iCt x.Regs+ctL iCt x.Slots+ctL iCt x.Nodes
theorem GState.cts_le(x:GState):x.cts≤16*x.size:=by
 simp only[GState.cts,GState.size]
 have hRegs:=ctL_le' (c:=iCt) (fun y=>by simp only[iCt];omega) x.Regs
 have hSlots:=ctL_le' (c:=iCt) (fun y=>by simp only[iCt];omega) x.Slots
 have hNodes:=ctL_le' (c:=iCt) (fun y=>by simp only[iCt];omega) x.Nodes
 omega
@[go_sem] theorem GState.mks_len0 (x:GState) (k:Int):((x.mks k).Regs).length=x.Regs.length:=K9
@[go_sem] theorem GState.mks_len1 (x:GState) (k:Int):((x.mks k).Slots).length=x.Slots.length:=K9
@[go_sem] theorem GState.mks_len2 (x:GState) (k:Int):((x.mks k).Nodes).length=x.Nodes.length:=K9
def GWant.mkd(x:GWant)(k:Int):GWant:=⟨k,⟨(k+1),(k+2),(k+3)⟩⟩
def GWant.ct(x:GWant):Nat:=4
def GEntry.mkd(x:GEntry)(k:Int):GEntry:=⟨k,⟨(k+1),(k+2),(k+3)⟩,(k+4)⟩
def GEntry.ct(x:GEntry):Nat:=5
def Mbt:MC:=
(Zs [.mv 4 (ci 0)] [0,1] (.seq (Zs [.mv 5 (ci 0)] [0,1,5] (.block 0 (.loop ([0,1,5],[]) (.seq (Zs [mS 6 5,mS 7 0,nS 8 7,bS 9 .lss 6 8] [0,1,5,9] (cX 9 0))
(.seq (.block 1 (Zs [mS 12 0,mS 13 5,mS 14 1,xS 15 5 12 13,fS 16 15 0,sS 1 16 14] [0,1,5] (Zs [mS 17 1,bC 18 .add 17 1,mS 1 18] [0,1,5] (Zs [mS 19 0,mS 20 5,mS 21 1,xS 22 5 19 20,fS 23 22 1,fS 24 23 0,sS 1 24 21] [0,1,5] (Zs [mS 25 1,bC 26 .add 25 1,mS 1 26] [0,1,5] (Zs [mS 27 0,mS 28 5,mS 29 1,xS 30 5 27 28,fS 31 30 1,fS 32 31 1,sS 1 32 29] [0,1,5] (Zs [mS 33 1,bC 34 .add 33 1,mS 1 34] [0,1,5] (Zs [mS 35 0,mS 36 5,mS 37 1,xS 38 5 35 36,fS 39 38 1,fS 40 39 2,sS 1 40 37] [0,1,5] (Zs [mS 41 1,bC 42 .add 41 1,mS 1 42] [0,1,5] (Zs [mS 43 0,mS 44 5,mS 45 1,xS 46 5 43 44,fS 47 46 4,sS 1 47 45] [0,1,5] (pr [mS 48 1,bC 49 .add 48 1,mS 1 49] [0,1,5])))))))))))
(pr [mS 10 5,bC 11 .add 10 1,mS 5 11] [0,1,5]))))))
(Zs [mS 50 1,mS 4 50] [4] .ret)))
theorem Cm9(xs:List GEntry)(k:Int)(hk:0≤k)(hN:k+(ctL GEntry.ct xs:Nat)≤4611686018427387904):CtrI Tryz.prog Ncx [oL 5 (xs.map GEntry.enc),iI k] [some (5,(mkL GEntry.mkd GEntry.ct xs k).map GEntry.enc)] [rI (k+(ctL GEntry.ct xs:Nat))]:=by
 refine Ky (M:=Mbt) (m:=0) (n:=51) (res:=[(.tmp 4,[false])]) hmix Tryz.func280 rfl (by kernel_rfl) rfl (by kernel_rfl) (by kernel_rfl) (Nat.le_of_ble_eq_true rfl) rfl rfl ?_;unfold Mbt
 intro hb
 have hl:=Kv hb
 clear hb
 simp only[go_sem]
 refine K5 xs (fun i=>[(1,vI (k+(ctL GEntry.ct (xs.take i):Nat))),(5,vI i)]) (fun i=>[(0,⟨1,.row true 5 ((mkL GEntry.mkd GEntry.ct (xs.take i) k).map GEntry.enc++(xs.drop i).map GEntry.enc)⟩)]) (fun _=>True) hl ?_
 simp only[go_sem]
 refine⟨?_,trivial,?_,?_⟩
 ·simp only[go_sem,List.take_zero,List.drop_zero,K3v,K1e]
  all_goals simp
 ·intro i x hx _ h0 h1 hw
  have hR:=K4h (mk:=GEntry.mkd) (c:=GEntry.ct) (k:=k) (f:=GEntry.enc) hx
  have hA:=K4g (mk:=GEntry.mkd) (c:=GEntry.ct) (k:=k) (f:=GEntry.enc) hx
  generalize hAe:(mkL GEntry.mkd GEntry.ct (xs.take i) k).map GEntry.enc=A at hR hA
  generalize hBe:(xs.drop (i+1)).map GEntry.enc=B at hR hA
  obtain⟨hg,hs,hl,hd⟩:=hA
  have hc:=Kt (c:=GEntry.ct) (i+1) (l:=xs)
  rw[Kf hx]at hc
  have hK0:0≤k+((ctL GEntry.ct (xs.take i):Nat):Int):=by omega
  have hK1:k+((ctL GEntry.ct (xs.take i):Nat):Int)+(GEntry.ct x:Nat)≤4611686018427387904:=by omega
  generalize hK:k+((ctL GEntry.ct (xs.take i):Nat):Int)=K at hK0 hK1
  simp only[GEntry.ct]at hK1
  simp only[go_sem,hw,hR,hg,hs,hl,h0,h1,waK (K:=K+1) (K':=K+1) (by omega) (by omega) (by omega),waK (K:=K+1+1) (K':=K+2) (by omega) (by omega) (by omega),waK (K:=K+2+1) (K':=K+3) (by omega) (by omega) (by omega),waK (K:=K+3+1) (K':=K+4) (by omega) (by omega) (by omega),waK (K:=K+4+1) (K':=K+5) (by omega) (by omega) (by omega)]
  subst hK hAe hBe
  refine⟨?_,K3c hx⟩
  rw[Kf hx]
  simp only[GEntry.ct]
  omega
 ·intro _
  simp only[go_sem,List.take_length,List.drop_length,List.map_nil,List.append_nil,K9]
def Mbr:MC:=
(Zs [.mv 4 (ci 0)] [0,1] (.seq (Zs [.mv 5 (ci 0)] [0,1,5] (.block 0 (.loop ([0,1,5],[]) (.seq (Zs [mS 6 5,mS 7 0,nS 8 7,bS 9 .lss 6 8] [0,1,5,9] (cX 9 0))
(.seq (.block 1 (.seq (Zs [mS 12 0,mS 13 5,xS 14 5 12 13,fS 15 14 0,lF 16 1 15,mS 17 1,bS 18 .neq 16 17] [0,1,5,18] (.cond (.s 18) (Zs [.mv 4 (.c (.int .i64 (-1)))] [4] .ret) .skip))
(Zs [mS 19 1,bC 20 .add 19 1,mS 1 20] [0,1,5] (.seq (Zs [mS 21 0,mS 22 5,xS 23 5 21 22,fS 24 23 1,fS 25 24 0,lF 26 1 25,mS 27 1,bS 28 .neq 26 27] [0,1,5,28] (.cond (.s 28) (Zs [.mv 4 (.c (.int .i64 (-1)))] [4] .ret) .skip))
(Zs [mS 29 1,bC 30 .add 29 1,mS 1 30] [0,1,5] (.seq (Zs [mS 31 0,mS 32 5,xS 33 5 31 32,fS 34 33 1,fS 35 34 1,lF 36 1 35,mS 37 1,bS 38 .neq 36 37] [0,1,5,38] (.cond (.s 38) (Zs [.mv 4 (.c (.int .i64 (-1)))] [4] .ret) .skip))
(Zs [mS 39 1,bC 40 .add 39 1,mS 1 40] [0,1,5] (.seq (Zs [mS 41 0,mS 42 5,xS 43 5 41 42,fS 44 43 1,fS 45 44 2,lF 46 1 45,mS 47 1,bS 48 .neq 46 47] [0,1,5,48] (.cond (.s 48) (Zs [.mv 4 (.c (.int .i64 (-1)))] [4] .ret) .skip))
(Zs [mS 49 1,bC 50 .add 49 1,mS 1 50] [0,1,5] (.seq (Zs [mS 51 0,mS 52 5,xS 53 5 51 52,fS 54 53 4,lF 55 1 54,mS 56 1,bS 57 .neq 55 56] [0,1,5,57] (.cond (.s 57) (Zs [.mv 4 (.c (.int .i64 (-1)))] [4] .ret) .skip))
(pr [mS 58 1,bC 59 .add 58 1,mS 1 59] [0,1,5])))))))))))
(pr [mS 10 5,bC 11 .add 10 1,mS 5 11] [0,1,5]))))))
(Zs [mS 60 1,mS 4 60] [4] .ret)))
theorem Cm7(xs:List GEntry)(k:Int)(hk:0≤k)(hN:k+(ctL GEntry.ct xs:Nat)≤4611686018427387904):Ctr Tryz.prog Ncv [aL 5 ((mkL GEntry.mkd GEntry.ct xs k).map GEntry.enc),aI k] [rI (k+(ctL GEntry.ct xs:Nat))]:=by
 refine cA Mbr 0 61 [(.tmp 4,[false])] Tryz.func282 rfl rfl ?_;unfold Mbr
 intro hb
 simp only[bdA,bdL,bdT,Ke,K10,roomB,and_true,List.length_map]at hb
 have hl:=hb.1.1
 rw[K9]at hl
 clear hb
 simp only[go_sem]
 refine K5 xs (fun i=>[(1,vI (k+(ctL GEntry.ct (xs.take i):Nat))),(5,vI i)]) (fun i=>[]) (fun _=>True) hl ?_
 simp only[go_sem]
 refine⟨?_,trivial,?_,?_⟩
 ·simp only[go_sem,List.take_zero,K1e]
  all_goals simp
 ·intro i x hx _ h0 h1 hw
  have hg:=K3u (mk:=GEntry.mkd) (c:=GEntry.ct) (k:=k) hx
  have hc:=Kt (c:=GEntry.ct) (i+1) (l:=xs)
  rw[Kf hx]at hc
  have hK0:0≤k+((ctL GEntry.ct (xs.take i):Nat):Int):=by omega
  have hK1:k+((ctL GEntry.ct (xs.take i):Nat):Int)+(GEntry.ct x:Nat)≤4611686018427387904:=by omega
  generalize hK:k+((ctL GEntry.ct (xs.take i):Nat):Int)=K at hK0 hK1 hg
  simp only[GEntry.ct]at hK1
  simp only[go_sem,hw,K4 hg,h0,h1,K9,GEntry.mkd,waK (K:=K+1) (K':=K+1) (by omega) (by omega) (by omega),waK (K:=K+1+1) (K':=K+2) (by omega) (by omega) (by omega),waK (K:=K+2+1) (K':=K+3) (by omega) (by omega) (by omega),waK (K:=K+3+1) (K':=K+4) (by omega) (by omega) (by omega),waK (K:=K+4+1) (K':=K+5) (by omega) (by omega) (by omega)]
  rw[Kf hx]
  simp only[GEntry.ct]
  omega
 ·intro _
  simp only[go_sem,List.take_length,K9]
def GCapture.mkd(x:GCapture)(k:Int):GCapture:=⟨⟨k,(k+1),(k+2)⟩,(k+3),⟨(k+4),(mkL iMk iCt x.Resource.Body (k+5)),⟨((k+5)+(ctL iCt x.Resource.Body:Nat)),(((k+5)+(ctL iCt x.Resource.Body:Nat))+1),(((k+5)+(ctL iCt x.Resource.Body:Nat))+2)⟩⟩⟩
def GCapture.ct(x:GCapture):Nat:=8+ctL iCt x.Resource.Body
theorem GCapture.ct_le(x:GCapture):x.ct≤16*(1+x.size):=by
 simp only[GCapture.ct,GCapture.size,GResource.size]
 have h0:=ctL_le' (c:=iCt) (fun y=>by simp only[iCt];omega) x.Resource.Body
 omega
def M7p:MC:=Y25
theorem Ckg(xs:List GCapture)(k:Int)(hk:0≤k)(hN:k+(ctL GCapture.ct xs:Nat)≤4611686018427387904):CtrI Tryz.prog N8e [oL 9 (xs.map GCapture.enc),iI k] [some (9,(mkL GCapture.mkd GCapture.ct xs k).map GCapture.enc)] [rI (k+(ctL GCapture.ct xs:Nat))]:=by
 refine Ky (M:=M7p) (m:=1) (n:=87) (res:=[(.tmp 4,[false])]) hmix Tryz.func281 rfl (by kernel_rfl) rfl (by kernel_rfl) (by kernel_rfl) (Nat.le_of_ble_eq_true rfl) rfl rfl ?_;unfold M7p
 intro hb
 have hl:=Kv hb
 clear hb
 simp only[go_sem]
 refine K5 xs (fun i=>[(1,vI (k+(ctL GCapture.ct (xs.take i):Nat))),(5,vI i)]) (fun i=>[(0,⟨1,.row true 9 ((mkL GCapture.mkd GCapture.ct (xs.take i) k).map GCapture.enc++(xs.drop i).map GCapture.enc)⟩)]) (fun _=>True) hl ?_
 simp only[go_sem]
 refine⟨?_,trivial,?_,?_⟩
 ·simp only[go_sem,List.take_zero,List.drop_zero,K3v,K1e]
  all_goals simp
 ·intro i x hx _ h0 h1 hw
  have hR:=K4h (mk:=GCapture.mkd) (c:=GCapture.ct) (k:=k) (f:=GCapture.enc) hx
  have hA:=K4g (mk:=GCapture.mkd) (c:=GCapture.ct) (k:=k) (f:=GCapture.enc) hx
  generalize hAe:(mkL GCapture.mkd GCapture.ct (xs.take i) k).map GCapture.enc=A at hR hA
  generalize hBe:(xs.drop (i+1)).map GCapture.enc=B at hR hA
  obtain⟨hg,hs,hl,hd⟩:=hA
  have hc:=Kt (c:=GCapture.ct) (i+1) (l:=xs)
  rw[Kf hx]at hc
  have hK0:0≤k+((ctL GCapture.ct (xs.take i):Nat):Int):=by omega
  have hK1:k+((ctL GCapture.ct (xs.take i):Nat):Int)+(GCapture.ct x:Nat)≤4611686018427387904:=by omega
  generalize hK:k+((ctL GCapture.ct (xs.take i):Nat):Int)=K at hK0 hK1
  simp only[GCapture.ct]at hK1
  simp only[go_sem,hR,hg,hs,hl,h0,h1,waK (K:=K+1) (K':=K+1) (by omega) (by omega) (by omega),waK (K:=K+1+1) (K':=K+2) (by omega) (by omega) (by omega),waK (K:=K+2+1) (K':=K+3) (by omega) (by omega) (by omega),waK (K:=K+3+1) (K':=K+4) (by omega) (by omega) (by omega),waK (K:=K+4+1) (K':=K+5) (by omega) (by omega) (by omega)]
  refine K7 (C1n x.Resource.Body (K+5) (by omega) (by omega)) ?_
  have hK1:0≤K+5+(ctL iCt x.Resource.Body:Nat):=by omega
  generalize eK1:K+5+((ctL iCt x.Resource.Body:Nat):Int)=K1 at hK1
  simp only[go_sem,hw,hg,hs,hl,hd,h0,h1,waK (K:=K1+1) (K':=K1+1) (by omega) (by omega) (by omega),waK (K:=K1+1+1) (K':=K1+2) (by omega) (by omega) (by omega),waK (K:=K1+2+1) (K':=K1+3) (by omega) (by omega) (by omega)]
  subst eK1
  subst hK hAe hBe
  refine⟨?_,K3c hx⟩
  rw[Kf hx]
  simp only[GCapture.ct]
  omega
 ·intro _
  simp only[go_sem,List.take_length,List.drop_length,List.map_nil,List.append_nil,K9]
def M7m:MC:=Y26
theorem Ckd(xs:List GCapture)(k:Int)(hk:0≤k)(hN:k+(ctL GCapture.ct xs:Nat)≤4611686018427387904):Ctr Tryz.prog N8b [aL 9 ((mkL GCapture.mkd GCapture.ct xs k).map GCapture.enc),aI k] [rI (k+(ctL GCapture.ct xs:Nat))]:=by
 refine cA M7m 0 105 [(.tmp 4,[false])] Tryz.func283 rfl rfl ?_;unfold M7m
 intro hb
 simp only[bdA,bdL,bdT,Ke,K10,roomB,and_true,List.length_map]at hb
 have hl:=hb.1.1
 rw[K9]at hl
 clear hb
 simp only[go_sem]
 refine K5 xs (fun i=>[(1,vI (k+(ctL GCapture.ct (xs.take i):Nat))),(5,vI i)]) (fun i=>[]) (fun _=>True) hl ?_
 simp only[go_sem]
 refine⟨?_,trivial,?_,?_⟩
 ·simp only[go_sem,List.take_zero,K1e]
  all_goals simp
 ·intro i x hx _ h0 h1 hw
  have hg:=K3u (mk:=GCapture.mkd) (c:=GCapture.ct) (k:=k) hx
  have hc:=Kt (c:=GCapture.ct) (i+1) (l:=xs)
  rw[Kf hx]at hc
  have hK0:0≤k+((ctL GCapture.ct (xs.take i):Nat):Int):=by omega
  have hK1:k+((ctL GCapture.ct (xs.take i):Nat):Int)+(GCapture.ct x:Nat)≤4611686018427387904:=by omega
  generalize hK:k+((ctL GCapture.ct (xs.take i):Nat):Int)=K at hK0 hK1 hg
  simp only[GCapture.ct]at hK1
  try simp only[go_sem,K4 hg,h0,h1,K9,GCapture.mkd,waK (K:=K+1) (K':=K+1) (by omega) (by omega) (by omega),waK (K:=K+1+1) (K':=K+2) (by omega) (by omega) (by omega),waK (K:=K+2+1) (K':=K+3) (by omega) (by omega) (by omega),waK (K:=K+3+1) (K':=K+4) (by omega) (by omega) (by omega),waK (K:=K+4+1) (K':=K+5) (by omega) (by omega) (by omega)]
  refine K0 (C3x x.Resource.Body (K+5) (by omega) (by omega)) ?_
  have hK1:0≤K+5+(ctL iCt x.Resource.Body:Nat):=by omega
  generalize eK1:K+5+((ctL iCt x.Resource.Body:Nat):Int)=K1 at hK1
  have nK1:¬K1<0:=by omega
  simp only[go_sem,hw,K4 hg,h0,h1,K9,GCapture.mkd,nK1,eK1]
  intro _
  simp only[go_sem,waK (K:=K1+1) (K':=K1+1) (by omega) (by omega) (by omega),waK (K:=K1+1+1) (K':=K1+2) (by omega) (by omega) (by omega),waK (K:=K1+2+1) (K':=K1+3) (by omega) (by omega) (by omega)]
  subst eK1
  rw[Kf hx]
  simp only[GCapture.ct]
  omega
 ·intro _
  simp only[go_sem,List.take_length,K9]
def GCapture.mks(x:GCapture)(k:Int):GCapture:={x with Resource:=x.Resource.mks (k)}
def GCapture.cts(x:GCapture):Nat:=x.Resource.cts
theorem GCapture.cts_le(x:GCapture):x.cts≤16*x.size:=by
 simp only[GCapture.cts,GCapture.size]
 have hResource:=GResource.cts_le x.Resource
 omega
@[go_sem] theorem GCapture.mks_len0 (x:GCapture) (k:Int):((x.mks k).Resource.Body).length=x.Resource.Body.length:=K9
def GChoice.mkd(x:GChoice)(k:Int):GChoice:=⟨k,(k+1)⟩
def GChoice.ct(x:GChoice):Nat:=2
def GWander.mks(x:GWander)(k:Int):GWander:={x with State:=x.State.mks (k),Choices:=mkL GChoice.mkd GChoice.ct x.Choices (k+(x.State.cts:Nat)),Labels:=mkL iMk iCt x.Labels (k+(x.State.cts:Nat)+(ctL GChoice.ct x.Choices:Nat))}
def GWander.cts(x:GWander):Nat:=x.State.cts+ctL GChoice.ct x.Choices+ctL iCt x.Labels
theorem GWander.cts_le(x:GWander):x.cts≤16*x.size:=by
 simp only[GWander.cts,GWander.size]
 have hState:=GState.cts_le x.State
 have hChoices:=ctL_le' (c:=GChoice.ct) (fun y=>by simp only[GChoice.ct];omega) x.Choices
 have hLabels:=ctL_le' (c:=iCt) (fun y=>by simp only[iCt];omega) x.Labels
 omega
@[go_sem] theorem GWander.mks_len0 (x:GWander) (k:Int):((x.mks k).State.Regs).length=x.State.Regs.length:=K9
@[go_sem] theorem GWander.mks_len1 (x:GWander) (k:Int):((x.mks k).State.Slots).length=x.State.Slots.length:=K9
@[go_sem] theorem GWander.mks_len2 (x:GWander) (k:Int):((x.mks k).State.Nodes).length=x.State.Nodes.length:=K9
@[go_sem] theorem GWander.mks_len3 (x:GWander) (k:Int):((x.mks k).Choices).length=x.Choices.length:=K9
@[go_sem] theorem GWander.mks_len4 (x:GWander) (k:Int):((x.mks k).Labels).length=x.Labels.length:=K9
def GModel.mkd(x:GModel)(k:Int):GModel:=⟨k,(k+1),(k+2),(bMk x.Fits (k+3))⟩
def GModel.ct(x:GModel):Nat:=4
def GShown.mkd(x:GShown)(k:Int):GShown:=⟨k,⟨(k+1),(k+2),(k+3)⟩⟩
def GShown.ct(x:GShown):Nat:=4
def GLeaf.mkd(x:GLeaf)(k:Int):GLeaf:=⟨k,(k+1),(bMk x.Hidden (k+2)),(k+3)⟩
def GLeaf.ct(x:GLeaf):Nat:=4
def GEdition.mks(x:GEdition)(k:Int):GEdition:={x with Captures:=mkL GCapture.mkd GCapture.ct x.Captures (k),Hidden:=mkL GAddress.mkd GAddress.ct x.Hidden (k+(ctL GCapture.ct x.Captures:Nat))}
def GEdition.cts(x:GEdition):Nat:=ctL GCapture.ct x.Captures+ctL GAddress.ct x.Hidden
theorem GEdition.cts_le(x:GEdition):x.cts≤16*x.size:=by
 simp only[GEdition.cts,GEdition.size]
 have hCaptures:=K5l (c:=GCapture.ct) (s:=GCapture.size) GCapture.ct_le x.Captures
 have hHidden:=ctL_le' (c:=GAddress.ct) (fun y=>by simp only[GAddress.ct];omega) x.Hidden
 omega
@[go_sem] theorem GEdition.mks_len0 (x:GEdition) (k:Int):((x.mks k).Captures).length=x.Captures.length:=K9
@[go_sem] theorem GEdition.mks_len1 (x:GEdition) (k:Int):((x.mks k).Hidden).length=x.Hidden.length:=K9
def GExclusion.mkd(x:GExclusion)(k:Int):GExclusion:=⟨k,(k+1),(k+2),(k+3),(k+4)⟩
def GExclusion.ct(x:GExclusion):Nat:=5
def M5v:MC:=
(Zs [.mv 4 (ci 0)] [0,1] (.seq (Zs [.mv 5 (ci 0)] [0,1,5] (.block 0 (.loop ([0,1,5],[]) (.seq (Zs [mS 6 5,mS 7 0,nS 8 7,bS 9 .lss 6 8] [0,1,5,9] (cX 9 0))
(.seq (.block 1 (Zs [mS 12 0,mS 13 5,mS 14 1,xS 15 5 12 13,fS 16 15 0,sS 1 16 14] [0,1,5] (Zs [mS 17 1,bC 18 .add 17 1,mS 1 18] [0,1,5] (Zs [mS 19 0,mS 20 5,mS 21 1,xS 22 5 19 20,fS 23 22 1,sS 1 23 21] [0,1,5] (Zs [mS 24 1,bC 25 .add 24 1,mS 1 25] [0,1,5] (Zs [mS 26 0,mS 27 5,mS 28 1,xS 29 5 26 27,fS 30 29 2,sS 1 30 28] [0,1,5] (Zs [mS 31 1,bC 32 .add 31 1,mS 1 32] [0,1,5] (Zs [mS 33 0,mS 34 5,mS 35 1,xS 36 5 33 34,fS 37 36 3,sS 1 37 35] [0,1,5] (Zs [mS 38 1,bC 39 .add 38 1,mS 1 39] [0,1,5] (Zs [mS 40 0,mS 41 5,mS 42 1,xS 43 5 40 41,fS 44 43 4,sS 1 44 42] [0,1,5] (pr [mS 45 1,bC 46 .add 45 1,mS 1 46] [0,1,5])))))))))))
(pr [mS 10 5,bC 11 .add 10 1,mS 5 11] [0,1,5]))))))
(Zs [mS 47 1,mS 4 47] [4] .ret)))
theorem Chf(xs:List GExclusion)(k:Int)(hk:0≤k)(hN:k+(ctL GExclusion.ct xs:Nat)≤4611686018427387904):CtrI Tryz.prog N63 [oL 5 (xs.map GExclusion.enc),iI k] [some (5,(mkL GExclusion.mkd GExclusion.ct xs k).map GExclusion.enc)] [rI (k+(ctL GExclusion.ct xs:Nat))]:=by
 refine Ky (M:=M5v) (m:=0) (n:=48) (res:=[(.tmp 4,[false])]) hmix Tryz.func91 rfl (by kernel_rfl) rfl (by kernel_rfl) (by kernel_rfl) (Nat.le_of_ble_eq_true rfl) rfl rfl ?_;unfold M5v
 intro hb
 have hl:=Kv hb
 clear hb
 simp only[go_sem]
 refine K5 xs (fun i=>[(1,vI (k+(ctL GExclusion.ct (xs.take i):Nat))),(5,vI i)]) (fun i=>[(0,⟨1,.row true 5 ((mkL GExclusion.mkd GExclusion.ct (xs.take i) k).map GExclusion.enc++(xs.drop i).map GExclusion.enc)⟩)]) (fun _=>True) hl ?_
 simp only[go_sem]
 refine⟨?_,trivial,?_,?_⟩
 ·simp only[go_sem,List.take_zero,List.drop_zero,K3v,K1e]
  all_goals simp
 ·intro i x hx _ h0 h1 hw
  have hR:=K4h (mk:=GExclusion.mkd) (c:=GExclusion.ct) (k:=k) (f:=GExclusion.enc) hx
  have hA:=K4g (mk:=GExclusion.mkd) (c:=GExclusion.ct) (k:=k) (f:=GExclusion.enc) hx
  generalize hAe:(mkL GExclusion.mkd GExclusion.ct (xs.take i) k).map GExclusion.enc=A at hR hA
  generalize hBe:(xs.drop (i+1)).map GExclusion.enc=B at hR hA
  obtain⟨hg,hs,hl,hd⟩:=hA
  have hc:=Kt (c:=GExclusion.ct) (i+1) (l:=xs)
  rw[Kf hx]at hc
  have hK0:0≤k+((ctL GExclusion.ct (xs.take i):Nat):Int):=by omega
  have hK1:k+((ctL GExclusion.ct (xs.take i):Nat):Int)+(GExclusion.ct x:Nat)≤4611686018427387904:=by omega
  generalize hK:k+((ctL GExclusion.ct (xs.take i):Nat):Int)=K at hK0 hK1
  simp only[GExclusion.ct]at hK1
  simp only[go_sem,hw,hR,hg,hs,hl,h0,h1,waK (K:=K+1) (K':=K+1) (by omega) (by omega) (by omega),waK (K:=K+1+1) (K':=K+2) (by omega) (by omega) (by omega),waK (K:=K+2+1) (K':=K+3) (by omega) (by omega) (by omega),waK (K:=K+3+1) (K':=K+4) (by omega) (by omega) (by omega),waK (K:=K+4+1) (K':=K+5) (by omega) (by omega) (by omega)]
  subst hK hAe hBe
  refine⟨?_,K3c hx⟩
  rw[Kf hx]
  simp only[GExclusion.ct]
  omega
 ·intro _
  simp only[go_sem,List.take_length,List.drop_length,List.map_nil,List.append_nil,K9]
def M5s:MC:=
(Zs [.mv 4 (ci 0)] [0,1] (.seq (Zs [.mv 5 (ci 0)] [0,1,5] (.block 0 (.loop ([0,1,5],[]) (.seq (Zs [mS 6 5,mS 7 0,nS 8 7,bS 9 .lss 6 8] [0,1,5,9] (cX 9 0))
(.seq (.block 1 (.seq (Zs [mS 12 0,mS 13 5,xS 14 5 12 13,fS 15 14 0,lF 16 1 15,mS 17 1,bS 18 .neq 16 17] [0,1,5,18] (.cond (.s 18) (Zs [.mv 4 (.c (.int .i64 (-1)))] [4] .ret) .skip))
(Zs [mS 19 1,bC 20 .add 19 1,mS 1 20] [0,1,5] (.seq (Zs [mS 21 0,mS 22 5,xS 23 5 21 22,fS 24 23 1,lF 25 1 24,mS 26 1,bS 27 .neq 25 26] [0,1,5,27] (.cond (.s 27) (Zs [.mv 4 (.c (.int .i64 (-1)))] [4] .ret) .skip))
(Zs [mS 28 1,bC 29 .add 28 1,mS 1 29] [0,1,5] (.seq (Zs [mS 30 0,mS 31 5,xS 32 5 30 31,fS 33 32 2,lF 34 1 33,mS 35 1,bS 36 .neq 34 35] [0,1,5,36] (.cond (.s 36) (Zs [.mv 4 (.c (.int .i64 (-1)))] [4] .ret) .skip))
(Zs [mS 37 1,bC 38 .add 37 1,mS 1 38] [0,1,5] (.seq (Zs [mS 39 0,mS 40 5,xS 41 5 39 40,fS 42 41 3,lF 43 1 42,mS 44 1,bS 45 .neq 43 44] [0,1,5,45] (.cond (.s 45) (Zs [.mv 4 (.c (.int .i64 (-1)))] [4] .ret) .skip))
(Zs [mS 46 1,bC 47 .add 46 1,mS 1 47] [0,1,5] (.seq (Zs [mS 48 0,mS 49 5,xS 50 5 48 49,fS 51 50 4,lF 52 1 51,mS 53 1,bS 54 .neq 52 53] [0,1,5,54] (.cond (.s 54) (Zs [.mv 4 (.c (.int .i64 (-1)))] [4] .ret) .skip))
(pr [mS 55 1,bC 56 .add 55 1,mS 1 56] [0,1,5])))))))))))
(pr [mS 10 5,bC 11 .add 10 1,mS 5 11] [0,1,5]))))))
(Zs [mS 57 1,mS 4 57] [4] .ret)))
theorem Chc(xs:List GExclusion)(k:Int)(hk:0≤k)(hN:k+(ctL GExclusion.ct xs:Nat)≤4611686018427387904):Ctr Tryz.prog N61 [aL 5 ((mkL GExclusion.mkd GExclusion.ct xs k).map GExclusion.enc),aI k] [rI (k+(ctL GExclusion.ct xs:Nat))]:=by
 refine cA M5s 0 58 [(.tmp 4,[false])] Tryz.func98 rfl rfl ?_;unfold M5s
 intro hb
 simp only[bdA,bdL,bdT,Ke,K10,roomB,and_true,List.length_map]at hb
 have hl:=hb.1.1
 rw[K9]at hl
 clear hb
 simp only[go_sem]
 refine K5 xs (fun i=>[(1,vI (k+(ctL GExclusion.ct (xs.take i):Nat))),(5,vI i)]) (fun i=>[]) (fun _=>True) hl ?_
 simp only[go_sem]
 refine⟨?_,trivial,?_,?_⟩
 ·simp only[go_sem,List.take_zero,K1e]
  all_goals simp
 ·intro i x hx _ h0 h1 hw
  have hg:=K3u (mk:=GExclusion.mkd) (c:=GExclusion.ct) (k:=k) hx
  have hc:=Kt (c:=GExclusion.ct) (i+1) (l:=xs)
  rw[Kf hx]at hc
  have hK0:0≤k+((ctL GExclusion.ct (xs.take i):Nat):Int):=by omega
  have hK1:k+((ctL GExclusion.ct (xs.take i):Nat):Int)+(GExclusion.ct x:Nat)≤4611686018427387904:=by omega
  generalize hK:k+((ctL GExclusion.ct (xs.take i):Nat):Int)=K at hK0 hK1 hg
  simp only[GExclusion.ct]at hK1
  simp only[go_sem,hw,K4 hg,h0,h1,K9,GExclusion.mkd,waK (K:=K+1) (K':=K+1) (by omega) (by omega) (by omega),waK (K:=K+1+1) (K':=K+2) (by omega) (by omega) (by omega),waK (K:=K+2+1) (K':=K+3) (by omega) (by omega) (by omega),waK (K:=K+3+1) (K':=K+4) (by omega) (by omega) (by omega),waK (K:=K+4+1) (K':=K+5) (by omega) (by omega) (by omega)]
  rw[Kf hx]
  simp only[GExclusion.ct]
  omega
 ·intro _
  simp only[go_sem,List.take_length,K9]
def GStatement.mkd(x:GStatement)(k:Int):GStatement:=⟨k,(k+1),(k+2),(k+3)⟩
def GStatement.ct(x:GStatement):Nat:=4
def M5w:MC:=Y27
theorem Chh(xs:List GStatement)(k:Int)(hk:0≤k)(hN:k+(ctL GStatement.ct xs:Nat)≤4611686018427387904):CtrI Tryz.prog N64 [oL 4 (xs.map GStatement.enc),iI k] [some (4,(mkL GStatement.mkd GStatement.ct xs k).map GStatement.enc)] [rI (k+(ctL GStatement.ct xs:Nat))]:=by
 refine Ky (M:=M5w) (m:=0) (n:=41) (res:=[(.tmp 4,[false])]) hmix Tryz.func93 rfl (by kernel_rfl) rfl (by kernel_rfl) (by kernel_rfl) (Nat.le_of_ble_eq_true rfl) rfl rfl ?_;unfold M5w
 intro hb
 have hl:=Kv hb
 clear hb
 simp only[go_sem]
 refine K5 xs (fun i=>[(1,vI (k+(ctL GStatement.ct (xs.take i):Nat))),(5,vI i)]) (fun i=>[(0,⟨1,.row true 4 ((mkL GStatement.mkd GStatement.ct (xs.take i) k).map GStatement.enc++(xs.drop i).map GStatement.enc)⟩)]) (fun _=>True) hl ?_
 simp only[go_sem]
 refine⟨?_,trivial,?_,?_⟩
 ·simp only[go_sem,List.take_zero,List.drop_zero,K3v,K1e]
  all_goals simp
 ·intro i x hx _ h0 h1 hw
  have hR:=K4h (mk:=GStatement.mkd) (c:=GStatement.ct) (k:=k) (f:=GStatement.enc) hx
  have hA:=K4g (mk:=GStatement.mkd) (c:=GStatement.ct) (k:=k) (f:=GStatement.enc) hx
  generalize hAe:(mkL GStatement.mkd GStatement.ct (xs.take i) k).map GStatement.enc=A at hR hA
  generalize hBe:(xs.drop (i+1)).map GStatement.enc=B at hR hA
  obtain⟨hg,hs,hl,hd⟩:=hA
  have hc:=Kt (c:=GStatement.ct) (i+1) (l:=xs)
  rw[Kf hx]at hc
  have hK0:0≤k+((ctL GStatement.ct (xs.take i):Nat):Int):=by omega
  have hK1:k+((ctL GStatement.ct (xs.take i):Nat):Int)+(GStatement.ct x:Nat)≤4611686018427387904:=by omega
  generalize hK:k+((ctL GStatement.ct (xs.take i):Nat):Int)=K at hK0 hK1
  simp only[GStatement.ct]at hK1
  simp only[go_sem,hw,hR,hg,hs,hl,h0,h1,waK (K:=K+1) (K':=K+1) (by omega) (by omega) (by omega),waK (K:=K+1+1) (K':=K+2) (by omega) (by omega) (by omega),waK (K:=K+2+1) (K':=K+3) (by omega) (by omega) (by omega),waK (K:=K+3+1) (K':=K+4) (by omega) (by omega) (by omega)]
  subst hK hAe hBe
  refine⟨?_,K3c hx⟩
  rw[Kf hx]
  simp only[GStatement.ct]
  omega
 ·intro _
  simp only[go_sem,List.take_length,List.drop_length,List.map_nil,List.append_nil,K9]
def M5t:MC:=Y28
theorem Che(xs:List GStatement)(k:Int)(hk:0≤k)(hN:k+(ctL GStatement.ct xs:Nat)≤4611686018427387904):Ctr Tryz.prog N62 [aL 4 ((mkL GStatement.mkd GStatement.ct xs k).map GStatement.enc),aI k] [rI (k+(ctL GStatement.ct xs:Nat))]:=by
 refine cA M5t 0 49 [(.tmp 4,[false])] Tryz.func101 rfl rfl ?_;unfold M5t
 intro hb
 simp only[bdA,bdL,bdT,Ke,K10,roomB,and_true,List.length_map]at hb
 have hl:=hb.1.1
 rw[K9]at hl
 clear hb
 simp only[go_sem]
 refine K5 xs (fun i=>[(1,vI (k+(ctL GStatement.ct (xs.take i):Nat))),(5,vI i)]) (fun i=>[]) (fun _=>True) hl ?_
 simp only[go_sem]
 refine⟨?_,trivial,?_,?_⟩
 ·simp only[go_sem,List.take_zero,K1e]
  all_goals simp
 ·intro i x hx _ h0 h1 hw
  have hg:=K3u (mk:=GStatement.mkd) (c:=GStatement.ct) (k:=k) hx
  have hc:=Kt (c:=GStatement.ct) (i+1) (l:=xs)
  rw[Kf hx]at hc
  have hK0:0≤k+((ctL GStatement.ct (xs.take i):Nat):Int):=by omega
  have hK1:k+((ctL GStatement.ct (xs.take i):Nat):Int)+(GStatement.ct x:Nat)≤4611686018427387904:=by omega
  generalize hK:k+((ctL GStatement.ct (xs.take i):Nat):Int)=K at hK0 hK1 hg
  simp only[GStatement.ct]at hK1
  simp only[go_sem,hw,K4 hg,h0,h1,K9,GStatement.mkd,waK (K:=K+1) (K':=K+1) (by omega) (by omega) (by omega),waK (K:=K+1+1) (K':=K+2) (by omega) (by omega) (by omega),waK (K:=K+2+1) (K':=K+3) (by omega) (by omega) (by omega),waK (K:=K+3+1) (K':=K+4) (by omega) (by omega) (by omega)]
  rw[Kf hx]
  simp only[GStatement.ct]
  omega
 ·intro _
  simp only[go_sem,List.take_length,K9]
def GLibrary.mkd(x:GLibrary)(k:Int):GLibrary:=⟨k,(mkL iMk iCt x.Digests (k+1)),(bMk x.Up ((k+1)+(ctL iCt x.Digests:Nat))),(bMk x.Lies (((k+1)+(ctL iCt x.Digests:Nat))+1))⟩
def GLibrary.ct(x:GLibrary):Nat:=3+ctL iCt x.Digests
theorem GLibrary.ct_le(x:GLibrary):x.ct≤16*(1+x.size):=by
 simp only[GLibrary.ct,GLibrary.size]
 have h0:=ctL_le' (c:=iCt) (fun y=>by simp only[iCt];omega) x.Digests
 omega
def M7q:MC:=
(Zs [.mv 4 (ci 0)] [0,1] (.seq (Zs [.mv 5 (ci 0)] [0,1,5] (.block 0 (.loop ([0,1,5],[1]) (.seq (Zs [mS 6 5,mS 7 0,nS 8 7,bS 9 .lss 6 8] [0,1,5,9] (cX 9 0))
(.seq (.block 1 (Zs [mS 12 0,mS 13 5,mS 14 1,xS 15 4 12 13,fS 16 15 0,sS 1 16 14] [0,1,5] (Zs [mS 17 1,bC 18 .add 17 1,mS 1 18] [0,1,5] (Zs [mS 19 0,mS 20 5,xS 21 4 19 20,fS 22 21 1,.loadT 23 1 (.s 22),mS 24 1,.callI 25 [] (.f N1q) [.s 23,.s 24] [1] [0],mS 1 25] [0,1,5] (Zs [mS 26 0,mS 27 5,mS 28 1,bC 29 .rem 28 3,bC 30 .eql 29 0,xS 31 4 26 27,fS 32 31 2,sS 1 32 30] [0,1,5] (Zs [mS 33 1,bC 34 .add 33 1,mS 1 34] [0,1,5] (Zs [mS 35 0,mS 36 5,mS 37 1,bC 38 .rem 37 3,bC 39 .eql 38 0,xS 40 4 35 36,fS 41 40 3,sS 1 41 39] [0,1,5] (pr [mS 42 1,bC 43 .add 42 1,mS 1 43] [0,1,5]))))))))
(pr [mS 10 5,bC 11 .add 10 1,mS 5 11] [0,1,5]))))))
(Zs [mS 44 1,mS 4 44] [4] .ret)))
theorem Ckh(xs:List GLibrary)(k:Int)(hk:0≤k)(hN:k+(ctL GLibrary.ct xs:Nat)≤4611686018427387904):CtrI Tryz.prog N8f [oL 4 (xs.map GLibrary.enc),iI k] [some (4,(mkL GLibrary.mkd GLibrary.ct xs k).map GLibrary.enc)] [rI (k+(ctL GLibrary.ct xs:Nat))]:=by
 refine Ky (M:=M7q) (m:=1) (n:=45) (res:=[(.tmp 4,[false])]) hmix Tryz.func92 rfl (by kernel_rfl) rfl (by kernel_rfl) (by kernel_rfl) (Nat.le_of_ble_eq_true rfl) rfl rfl ?_;unfold M7q
 intro hb
 have hl:=Kv hb
 clear hb
 simp only[go_sem]
 refine K5 xs (fun i=>[(1,vI (k+(ctL GLibrary.ct (xs.take i):Nat))),(5,vI i)]) (fun i=>[(0,⟨1,.row true 4 ((mkL GLibrary.mkd GLibrary.ct (xs.take i) k).map GLibrary.enc++(xs.drop i).map GLibrary.enc)⟩)]) (fun _=>True) hl ?_
 simp only[go_sem]
 refine⟨?_,trivial,?_,?_⟩
 ·simp only[go_sem,List.take_zero,List.drop_zero,K3v,K1e]
  all_goals simp
 ·intro i x hx _ h0 h1 hw
  have hR:=K4h (mk:=GLibrary.mkd) (c:=GLibrary.ct) (k:=k) (f:=GLibrary.enc) hx
  have hA:=K4g (mk:=GLibrary.mkd) (c:=GLibrary.ct) (k:=k) (f:=GLibrary.enc) hx
  generalize hAe:(mkL GLibrary.mkd GLibrary.ct (xs.take i) k).map GLibrary.enc=A at hR hA
  generalize hBe:(xs.drop (i+1)).map GLibrary.enc=B at hR hA
  obtain⟨hg,hs,hl,hd⟩:=hA
  have hc:=Kt (c:=GLibrary.ct) (i+1) (l:=xs)
  rw[Kf hx]at hc
  have hK0:0≤k+((ctL GLibrary.ct (xs.take i):Nat):Int):=by omega
  have hK1:k+((ctL GLibrary.ct (xs.take i):Nat):Int)+(GLibrary.ct x:Nat)≤4611686018427387904:=by omega
  generalize hK:k+((ctL GLibrary.ct (xs.take i):Nat):Int)=K at hK0 hK1
  simp only[GLibrary.ct]at hK1
  simp only[go_sem,hR,hg,hs,hl,h0,h1,waK (K:=K+1) (K':=K+1) (by omega) (by omega) (by omega)]
  refine K7 (C1n x.Digests (K+1) (by omega) (by omega)) ?_
  have hK1:0≤K+1+(ctL iCt x.Digests:Nat):=by omega
  generalize eK1:K+1+((ctL iCt x.Digests:Nat):Int)=K1 at hK1
  simp only[go_sem,hw,hg,hs,hl,hd,h0,h1,K87,waK (K:=K1+1) (K':=K1+1) (by omega) (by omega) (by omega),waK (K:=K1+1+1) (K':=K1+2) (by omega) (by omega) (by omega)]
  subst eK1
  subst hK hAe hBe
  refine⟨?_,K3c hx⟩
  rw[Kf hx]
  simp only[GLibrary.ct]
  omega
 ·intro _
  simp only[go_sem,List.take_length,List.drop_length,List.map_nil,List.append_nil,K9]
def M7n:MC:=
(Zs [.mv 4 (ci 0)] [0,1] (.seq (Zs [.mv 5 (ci 0)] [0,1,5] (.block 0 (.loop ([0,1,5],[]) (.seq (Zs [mS 6 5,mS 7 0,nS 8 7,bS 9 .lss 6 8] [0,1,5,9] (cX 9 0))
(.seq (.block 1 (.seq (Zs [mS 12 0,mS 13 5,xS 14 4 12 13,fS 15 14 0,lF 16 1 15,mS 17 1,bS 18 .neq 16 17] [0,1,5,18] (.cond (.s 18) (Zs [.mv 4 (.c (.int .i64 (-1)))] [4] .ret) .skip))
(Zs [mS 19 1,bC 20 .add 19 1,mS 1 20] [0,1,5] (Zs [mS 21 0,mS 22 5,xS 23 4 21 22,fS 24 23 1,lF 25 1 24,mS 26 1,.call 27 [] (.f N40) [.s 25,.s 26],mS 1 27] [0,1,5] (.seq (Zs [mS 28 1,bC 29 .lss 28 0] [0,1,5,29] (.cond (.s 29) (Zs [.mv 4 (.c (.int .i64 (-1)))] [4] .ret) .skip))
(.seq (Zs [mS 30 0,mS 31 5,xS 32 4 30 31,fS 33 32 2,lF 34 1 33,mS 35 1,bC 36 .rem 35 3,bC 37 .eql 36 0,.bin 38 true .neq (.s 34) (.s 37)] [0,1,5,38] (.cond (.s 38) (Zs [.mv 4 (.c (.int .i64 (-1)))] [4] .ret) .skip))
(Zs [mS 39 1,bC 40 .add 39 1,mS 1 40] [0,1,5] (.seq (Zs [mS 41 0,mS 42 5,xS 43 4 41 42,fS 44 43 3,lF 45 1 44,mS 46 1,bC 47 .rem 46 3,bC 48 .eql 47 0,.bin 49 true .neq (.s 45) (.s 48)] [0,1,5,49] (.cond (.s 49) (Zs [.mv 4 (.c (.int .i64 (-1)))] [4] .ret) .skip))
(pr [mS 50 1,bC 51 .add 50 1,mS 1 51] [0,1,5])))))))))
(pr [mS 10 5,bC 11 .add 10 1,mS 5 11] [0,1,5]))))))
(Zs [mS 52 1,mS 4 52] [4] .ret)))
theorem Cke(xs:List GLibrary)(k:Int)(hk:0≤k)(hN:k+(ctL GLibrary.ct xs:Nat)≤4611686018427387904):Ctr Tryz.prog N8c [aL 4 ((mkL GLibrary.mkd GLibrary.ct xs k).map GLibrary.enc),aI k] [rI (k+(ctL GLibrary.ct xs:Nat))]:=by
 refine cA M7n 0 53 [(.tmp 4,[false])] Tryz.func99 rfl rfl ?_;unfold M7n
 intro hb
 simp only[bdA,bdL,bdT,Ke,K10,roomB,and_true,List.length_map]at hb
 have hl:=hb.1.1
 rw[K9]at hl
 clear hb
 simp only[go_sem]
 refine K5 xs (fun i=>[(1,vI (k+(ctL GLibrary.ct (xs.take i):Nat))),(5,vI i)]) (fun i=>[]) (fun _=>True) hl ?_
 simp only[go_sem]
 refine⟨?_,trivial,?_,?_⟩
 ·simp only[go_sem,List.take_zero,K1e]
  all_goals simp
 ·intro i x hx _ h0 h1 hw
  have hg:=K3u (mk:=GLibrary.mkd) (c:=GLibrary.ct) (k:=k) hx
  have hc:=Kt (c:=GLibrary.ct) (i+1) (l:=xs)
  rw[Kf hx]at hc
  have hK0:0≤k+((ctL GLibrary.ct (xs.take i):Nat):Int):=by omega
  have hK1:k+((ctL GLibrary.ct (xs.take i):Nat):Int)+(GLibrary.ct x:Nat)≤4611686018427387904:=by omega
  generalize hK:k+((ctL GLibrary.ct (xs.take i):Nat):Int)=K at hK0 hK1 hg
  simp only[GLibrary.ct]at hK1
  try simp only[go_sem,K4 hg,h0,h1,K9,GLibrary.mkd,bMk,waK (K:=K+1) (K':=K+1) (by omega) (by omega) (by omega)]
  refine K0 (C3x x.Digests (K+1) (by omega) (by omega)) ?_
  have hK1:0≤K+1+(ctL iCt x.Digests:Nat):=by omega
  generalize eK1:K+1+((ctL iCt x.Digests:Nat):Int)=K1 at hK1
  have nK1:¬K1<0:=by omega
  simp only[go_sem,hw,K4 hg,h0,h1,K9,GLibrary.mkd,K87,bMk,nK1,eK1]
  intro _
  simp only[go_sem,waK (K:=K1+1) (K':=K1+1) (by omega) (by omega) (by omega),waK (K:=K1+1+1) (K':=K1+2) (by omega) (by omega) (by omega)]
  subst eK1
  rw[Kf hx]
  simp only[GLibrary.ct]
  omega
 ·intro _
  simp only[go_sem,List.take_length,K9]
def GLibrary.mks(x:GLibrary)(k:Int):GLibrary:={x with Digests:=mkL iMk iCt x.Digests (k)}
def GLibrary.cts(x:GLibrary):Nat:=ctL iCt x.Digests
theorem GLibrary.cts_le(x:GLibrary):x.cts≤16*x.size:=by
 simp only[GLibrary.cts,GLibrary.size]
 have hDigests:=ctL_le' (c:=iCt) (fun y=>by simp only[iCt];omega) x.Digests
 omega
@[go_sem] theorem GLibrary.mks_len0 (x:GLibrary) (k:Int):((x.mks k).Digests).length=x.Digests.length:=K9
def GContainer.mkd(x:GContainer)(k:Int):GContainer:=⟨(mkL GOp.mkd GOp.ct x.Script k),(mkL GEntry.mkd GEntry.ct x.Entries (k+(ctL GOp.ct x.Script:Nat))),(mkL GCapture.mkd GCapture.ct x.Captures ((k+(ctL GOp.ct x.Script:Nat))+(ctL GEntry.ct x.Entries:Nat))),(((k+(ctL GOp.ct x.Script:Nat))+(ctL GEntry.ct x.Entries:Nat))+(ctL GCapture.ct x.Captures:Nat))⟩
def GContainer.ct(x:GContainer):Nat:=1+ctL GOp.ct x.Script+ctL GEntry.ct x.Entries+ctL GCapture.ct x.Captures
theorem GContainer.ct_le(x:GContainer):x.ct≤16*(1+x.size):=by
 simp only[GContainer.ct,GContainer.size]
 have h0:=ctL_le' (c:=GOp.ct) (fun y=>by simp only[GOp.ct];omega) x.Script
 have h1:=ctL_le' (c:=GEntry.ct) (fun y=>by simp only[GEntry.ct];omega) x.Entries
 have h2:=K5l (c:=GCapture.ct) (s:=GCapture.size) GCapture.ct_le x.Captures
 omega
def M5u:MC:=
(Zs [.mv 4 (ci 0)] [0,1] (.seq (Zs [.mv 5 (ci 0)] [0,1,5] (.block 0 (.loop ([0,1,5],[1,2,3]) (.seq (Zs [mS 6 5,mS 7 0,nS 8 7,bS 9 .lss 6 8] [0,1,5,9] (cX 9 0))
(.seq (.block 1 (Zs [mS 12 0,mS 13 5,xS 14 4 12 13,fS 15 14 0,.loadT 16 1 (.s 15),mS 17 1,.callI 18 [] (.f N8w) [.s 16,.s 17] [1] [0],mS 1 18] [0,1,5] (Zs [mS 19 0,mS 20 5,xS 21 4 19 20,fS 22 21 1,.loadT 23 2 (.s 22),mS 24 1,.callI 25 [] (.f Ncx) [.s 23,.s 24] [2] [0],mS 1 25] [0,1,5] (Zs [mS 26 0,mS 27 5,xS 28 4 26 27,fS 29 28 2,.loadT 30 3 (.s 29),mS 31 1,.callI 32 [] (.f N8e) [.s 30,.s 31] [3] [0],mS 1 32] [0,1,5] (Zs [mS 33 0,mS 34 5,mS 35 1,xS 36 4 33 34,fS 37 36 3,sS 1 37 35] [0,1,5] (pr [mS 38 1,bC 39 .add 38 1,mS 1 39] [0,1,5]))))))
(pr [mS 10 5,bC 11 .add 10 1,mS 5 11] [0,1,5]))))))
(Zs [mS 40 1,mS 4 40] [4] .ret)))
theorem C5n(xs:List GContainer)(k:Int)(hk:0≤k)(hN:k+(ctL GContainer.ct xs:Nat)≤4611686018427387904):CtrI Tryz.prog N32 [oL 4 (xs.map GContainer.enc),iI k] [some (4,(mkL GContainer.mkd GContainer.ct xs k).map GContainer.enc)] [rI (k+(ctL GContainer.ct xs:Nat))]:=by
 refine Ky (M:=M5u) (m:=3) (n:=41) (res:=[(.tmp 4,[false])]) hmix Tryz.func186 rfl (by kernel_rfl) rfl (by kernel_rfl) (by kernel_rfl) (Nat.le_of_ble_eq_true rfl) rfl rfl ?_;unfold M5u
 intro hb
 have hl:=Kv hb
 clear hb
 simp only[go_sem]
 refine K5 xs (fun i=>[(1,vI (k+(ctL GContainer.ct (xs.take i):Nat))),(5,vI i)]) (fun i=>[(0,⟨1,.row true 4 ((mkL GContainer.mkd GContainer.ct (xs.take i) k).map GContainer.enc++(xs.drop i).map GContainer.enc)⟩)]) (fun _=>True) hl ?_
 simp only[go_sem]
 refine⟨?_,trivial,?_,?_⟩
 ·simp only[go_sem,List.take_zero,List.drop_zero,K3v,K1e]
  all_goals simp
 ·intro i x hx _ h0 h1 hw
  have hR:=K4h (mk:=GContainer.mkd) (c:=GContainer.ct) (k:=k) (f:=GContainer.enc) hx
  have hA:=K4g (mk:=GContainer.mkd) (c:=GContainer.ct) (k:=k) (f:=GContainer.enc) hx
  generalize hAe:(mkL GContainer.mkd GContainer.ct (xs.take i) k).map GContainer.enc=A at hR hA
  generalize hBe:(xs.drop (i+1)).map GContainer.enc=B at hR hA
  obtain⟨hg,hs,hl,hd⟩:=hA
  have hc:=Kt (c:=GContainer.ct) (i+1) (l:=xs)
  rw[Kf hx]at hc
  have hK0:0≤k+((ctL GContainer.ct (xs.take i):Nat):Int):=by omega
  have hK1:k+((ctL GContainer.ct (xs.take i):Nat):Int)+(GContainer.ct x:Nat)≤4611686018427387904:=by omega
  generalize hK:k+((ctL GContainer.ct (xs.take i):Nat):Int)=K at hK0 hK1
  simp only[GContainer.ct]at hK1
  simp only[go_sem,hR,hg,hl,h0,h1]
  refine K7 (Chg x.Script K (by omega) (by omega)) ?_
  have hK1:0≤K+(ctL GOp.ct x.Script:Nat):=by omega
  generalize eK1:K+((ctL GOp.ct x.Script:Nat):Int)=K1 at hK1
  simp only[go_sem,hg,hs,hl,hd,h0,h1]
  refine K7 (Cm9 x.Entries K1 (by omega) (by omega)) ?_
  have hK2:0≤K1+(ctL GEntry.ct x.Entries:Nat):=by omega
  generalize eK2:K1+((ctL GEntry.ct x.Entries:Nat):Int)=K2 at hK2
  simp only[go_sem,hg,hs,hl,hd,h0,h1]
  refine K7 (Ckg x.Captures K2 (by omega) (by omega)) ?_
  have hK3:0≤K2+(ctL GCapture.ct x.Captures:Nat):=by omega
  generalize eK3:K2+((ctL GCapture.ct x.Captures:Nat):Int)=K3 at hK3
  simp only[go_sem,hw,hg,hs,hl,hd,h0,h1,waK (K:=K3+1) (K':=K3+1) (by omega) (by omega) (by omega)]
  subst eK3
  subst eK2
  subst eK1
  subst hK hAe hBe
  refine⟨?_,K3c hx⟩
  rw[Kf hx]
  simp only[GContainer.ct]
  omega
 ·intro _
  simp only[go_sem,List.take_length,List.drop_length,List.map_nil,List.append_nil,K9]
def M5r:MC:=
(Zs [.mv 4 (ci 0)] [0,1] (.seq (Zs [.mv 5 (ci 0)] [0,1,5] (.block 0 (.loop ([0,1,5],[]) (.seq (Zs [mS 6 5,mS 7 0,nS 8 7,bS 9 .lss 6 8] [0,1,5,9] (cX 9 0))
(.seq (.block 1 (Zs [mS 12 0,mS 13 5,xS 14 4 12 13,fS 15 14 0,lF 16 1 15,mS 17 1,.call 18 [] (.f N8v) [.s 16,.s 17],mS 1 18] [0,1,5] (.seq (Zs [mS 19 1,bC 20 .lss 19 0] [0,1,5,20] (.cond (.s 20) (Zs [.mv 4 (.c (.int .i64 (-1)))] [4] .ret) .skip))
(Zs [mS 21 0,mS 22 5,xS 23 4 21 22,fS 24 23 1,lF 25 1 24,mS 26 1,.call 27 [] (.f Ncv) [.s 25,.s 26],mS 1 27] [0,1,5] (.seq (Zs [mS 28 1,bC 29 .lss 28 0] [0,1,5,29] (.cond (.s 29) (Zs [.mv 4 (.c (.int .i64 (-1)))] [4] .ret) .skip))
(Zs [mS 30 0,mS 31 5,xS 32 4 30 31,fS 33 32 2,lF 34 1 33,mS 35 1,.call 36 [] (.f N8b) [.s 34,.s 35],mS 1 36] [0,1,5] (.seq (Zs [mS 37 1,bC 38 .lss 37 0] [0,1,5,38] (.cond (.s 38) (Zs [.mv 4 (.c (.int .i64 (-1)))] [4] .ret) .skip))
(.seq (Zs [mS 39 0,mS 40 5,xS 41 4 39 40,fS 42 41 3,lF 43 1 42,mS 44 1,bS 45 .neq 43 44] [0,1,5,45] (.cond (.s 45) (Zs [.mv 4 (.c (.int .i64 (-1)))] [4] .ret) .skip))
(pr [mS 46 1,bC 47 .add 46 1,mS 1 47] [0,1,5])))))))))
(pr [mS 10 5,bC 11 .add 10 1,mS 5 11] [0,1,5]))))))
(Zs [mS 48 1,mS 4 48] [4] .ret)))
theorem C5m(xs:List GContainer)(k:Int)(hk:0≤k)(hN:k+(ctL GContainer.ct xs:Nat)≤4611686018427387904):Ctr Tryz.prog N31 [aL 4 ((mkL GContainer.mkd GContainer.ct xs k).map GContainer.enc),aI k] [rI (k+(ctL GContainer.ct xs:Nat))]:=by
 refine cA M5r 0 49 [(.tmp 4,[false])] Tryz.func189 rfl rfl ?_;unfold M5r
 intro hb
 simp only[bdA,bdL,bdT,Ke,K10,roomB,and_true,List.length_map]at hb
 have hl:=hb.1.1
 rw[K9]at hl
 clear hb
 simp only[go_sem]
 refine K5 xs (fun i=>[(1,vI (k+(ctL GContainer.ct (xs.take i):Nat))),(5,vI i)]) (fun i=>[]) (fun _=>True) hl ?_
 simp only[go_sem]
 refine⟨?_,trivial,?_,?_⟩
 ·simp only[go_sem,List.take_zero,K1e]
  all_goals simp
 ·intro i x hx _ h0 h1 hw
  have hg:=K3u (mk:=GContainer.mkd) (c:=GContainer.ct) (k:=k) hx
  have hc:=Kt (c:=GContainer.ct) (i+1) (l:=xs)
  rw[Kf hx]at hc
  have hK0:0≤k+((ctL GContainer.ct (xs.take i):Nat):Int):=by omega
  have hK1:k+((ctL GContainer.ct (xs.take i):Nat):Int)+(GContainer.ct x:Nat)≤4611686018427387904:=by omega
  generalize hK:k+((ctL GContainer.ct (xs.take i):Nat):Int)=K at hK0 hK1 hg
  simp only[GContainer.ct]at hK1
  try simp only[go_sem,K4 hg,h0,h1,K9,GContainer.mkd]
  refine K0 (Chd x.Script K (by omega) (by omega)) ?_
  have hK1:0≤K+(ctL GOp.ct x.Script:Nat):=by omega
  generalize eK1:K+((ctL GOp.ct x.Script:Nat):Int)=K1 at hK1
  have nK1:¬K1<0:=by omega
  simp only[go_sem,K4 hg,h0,h1,K9,GContainer.mkd,nK1,eK1]
  intro _
  try simp only[go_sem,hw,K4 hg,h0,h1,K9,hK,GContainer.mkd,bne_self_eq_false,beq_self_eq_true,K87,bMk,nK1,eK1,waK (K:=K1) (K':=K1) rfl (by omega) (by omega),waK (K:=K1+1) (K':=K1+1) (by omega) (by omega) (by omega)]
  refine K0 (Cm7 x.Entries K1 (by omega) (by omega)) ?_
  have hK2:0≤K1+(ctL GEntry.ct x.Entries:Nat):=by omega
  generalize eK2:K1+((ctL GEntry.ct x.Entries:Nat):Int)=K2 at hK2
  have nK2:¬K2<0:=by omega
  simp only[go_sem,K4 hg,h0,h1,K9,GContainer.mkd,eK1,nK2,eK2]
  intro _
  try simp only[go_sem,hw,K4 hg,h0,h1,K9,hK,GContainer.mkd,bne_self_eq_false,beq_self_eq_true,K87,bMk,nK1,eK1,nK2,eK2,waK (K:=K2) (K':=K2) rfl (by omega) (by omega),waK (K:=K2+1) (K':=K2+1) (by omega) (by omega) (by omega)]
  refine K0 (Ckd x.Captures K2 (by omega) (by omega)) ?_
  have hK3:0≤K2+(ctL GCapture.ct x.Captures:Nat):=by omega
  generalize eK3:K2+((ctL GCapture.ct x.Captures:Nat):Int)=K3 at hK3
  have nK3:¬K3<0:=by omega
  simp only[go_sem,hw,K4 hg,h0,h1,K9,GContainer.mkd,eK1,eK2,nK3,eK3]
  intro _
  simp only[go_sem,waK (K:=K3+1) (K':=K3+1) (by omega) (by omega) (by omega)]
  subst eK3
  subst eK2
  subst eK1
  rw[Kf hx]
  simp only[GContainer.ct]
  omega
 ·intro _
  simp only[go_sem,List.take_length,K9]
def GContainer.mks(x:GContainer)(k:Int):GContainer:={x with Script:=mkL GOp.mkd GOp.ct x.Script (k),Entries:=mkL GEntry.mkd GEntry.ct x.Entries (k+(ctL GOp.ct x.Script:Nat)),Captures:=mkL GCapture.mkd GCapture.ct x.Captures (k+(ctL GOp.ct x.Script:Nat)+(ctL GEntry.ct x.Entries:Nat))}
def GContainer.cts(x:GContainer):Nat:=ctL GOp.ct x.Script+ctL GEntry.ct x.Entries+ctL GCapture.ct x.Captures
theorem GContainer.cts_le(x:GContainer):x.cts≤16*x.size:=by
 simp only[GContainer.cts,GContainer.size]
 have hScript:=ctL_le' (c:=GOp.ct) (fun y=>by simp only[GOp.ct];omega) x.Script
 have hEntries:=ctL_le' (c:=GEntry.ct) (fun y=>by simp only[GEntry.ct];omega) x.Entries
 have hCaptures:=K5l (c:=GCapture.ct) (s:=GCapture.size) GCapture.ct_le x.Captures
 omega
@[go_sem] theorem GContainer.mks_len0 (x:GContainer) (k:Int):((x.mks k).Script).length=x.Script.length:=K9
@[go_sem] theorem GContainer.mks_len1 (x:GContainer) (k:Int):((x.mks k).Entries).length=x.Entries.length:=K9
@[go_sem] theorem GContainer.mks_len2 (x:GContainer) (k:Int):((x.mks k).Captures).length=x.Captures.length:=K9
def GFound.mkd(x:GFound)(k:Int):GFound:=⟨⟨k,(k+1),(k+2)⟩,(k+3),(k+4),(k+5)⟩
def GFound.ct(x:GFound):Nat:=6
def Mbu:MC:=
(Zs [.mv 4 (ci 0)] [0,1] (.seq (Zs [.mv 5 (ci 0)] [0,1,5] (.block 0 (.loop ([0,1,5],[]) (.seq (Zs [mS 6 5,mS 7 0,nS 8 7,bS 9 .lss 6 8] [0,1,5,9] (cX 9 0))
(.seq (.block 1 (Zs [mS 12 0,mS 13 5,mS 14 1,xS 15 6 12 13,fS 16 15 0,fS 17 16 0,sS 1 17 14] [0,1,5] (Zs [mS 18 1,bC 19 .add 18 1,mS 1 19] [0,1,5] (Zs [mS 20 0,mS 21 5,mS 22 1,xS 23 6 20 21,fS 24 23 0,fS 25 24 1,sS 1 25 22] [0,1,5] (Zs [mS 26 1,bC 27 .add 26 1,mS 1 27] [0,1,5] (Zs [mS 28 0,mS 29 5,mS 30 1,xS 31 6 28 29,fS 32 31 0,fS 33 32 2,sS 1 33 30] [0,1,5] (Zs [mS 34 1,bC 35 .add 34 1,mS 1 35] [0,1,5] (Zs [mS 36 0,mS 37 5,mS 38 1,xS 39 6 36 37,fS 40 39 3,sS 1 40 38] [0,1,5] (Zs [mS 41 1,bC 42 .add 41 1,mS 1 42] [0,1,5] (Zs [mS 43 0,mS 44 5,mS 45 1,xS 46 6 43 44,fS 47 46 4,sS 1 47 45] [0,1,5] (Zs [mS 48 1,bC 49 .add 48 1,mS 1 49] [0,1,5] (Zs [mS 50 0,mS 51 5,mS 52 1,xS 53 6 50 51,fS 54 53 5,sS 1 54 52] [0,1,5] (pr [mS 55 1,bC 56 .add 55 1,mS 1 56] [0,1,5])))))))))))))
(pr [mS 10 5,bC 11 .add 10 1,mS 5 11] [0,1,5]))))))
(Zs [mS 57 1,mS 4 57] [4] .ret)))
theorem Cma(xs:List GFound)(k:Int)(hk:0≤k)(hN:k+(ctL GFound.ct xs:Nat)≤4611686018427387904):CtrI Tryz.prog Ncy [oL 6 (xs.map GFound.enc),iI k] [some (6,(mkL GFound.mkd GFound.ct xs k).map GFound.enc)] [rI (k+(ctL GFound.ct xs:Nat))]:=by
 refine Ky (M:=Mbu) (m:=0) (n:=58) (res:=[(.tmp 4,[false])]) hmix Tryz.func187 rfl (by kernel_rfl) rfl (by kernel_rfl) (by kernel_rfl) (Nat.le_of_ble_eq_true rfl) rfl rfl ?_;unfold Mbu
 intro hb
 have hl:=Kv hb
 clear hb
 simp only[go_sem]
 refine K5 xs (fun i=>[(1,vI (k+(ctL GFound.ct (xs.take i):Nat))),(5,vI i)]) (fun i=>[(0,⟨1,.row true 6 ((mkL GFound.mkd GFound.ct (xs.take i) k).map GFound.enc++(xs.drop i).map GFound.enc)⟩)]) (fun _=>True) hl ?_
 simp only[go_sem]
 refine⟨?_,trivial,?_,?_⟩
 ·simp only[go_sem,List.take_zero,List.drop_zero,K3v,K1e]
  all_goals simp
 ·intro i x hx _ h0 h1 hw
  have hR:=K4h (mk:=GFound.mkd) (c:=GFound.ct) (k:=k) (f:=GFound.enc) hx
  have hA:=K4g (mk:=GFound.mkd) (c:=GFound.ct) (k:=k) (f:=GFound.enc) hx
  generalize hAe:(mkL GFound.mkd GFound.ct (xs.take i) k).map GFound.enc=A at hR hA
  generalize hBe:(xs.drop (i+1)).map GFound.enc=B at hR hA
  obtain⟨hg,hs,hl,hd⟩:=hA
  have hc:=Kt (c:=GFound.ct) (i+1) (l:=xs)
  rw[Kf hx]at hc
  have hK0:0≤k+((ctL GFound.ct (xs.take i):Nat):Int):=by omega
  have hK1:k+((ctL GFound.ct (xs.take i):Nat):Int)+(GFound.ct x:Nat)≤4611686018427387904:=by omega
  generalize hK:k+((ctL GFound.ct (xs.take i):Nat):Int)=K at hK0 hK1
  simp only[GFound.ct]at hK1
  simp only[go_sem,hw,hR,hg,hs,hl,h0,h1,waK (K:=K+1) (K':=K+1) (by omega) (by omega) (by omega),waK (K:=K+1+1) (K':=K+2) (by omega) (by omega) (by omega),waK (K:=K+2+1) (K':=K+3) (by omega) (by omega) (by omega),waK (K:=K+3+1) (K':=K+4) (by omega) (by omega) (by omega),waK (K:=K+4+1) (K':=K+5) (by omega) (by omega) (by omega),waK (K:=K+5+1) (K':=K+6) (by omega) (by omega) (by omega)]
  subst hK hAe hBe
  refine⟨?_,K3c hx⟩
  rw[Kf hx]
  simp only[GFound.ct]
  omega
 ·intro _
  simp only[go_sem,List.take_length,List.drop_length,List.map_nil,List.append_nil,K9]
def Mbs:MC:=
(Zs [.mv 4 (ci 0)] [0,1] (.seq (Zs [.mv 5 (ci 0)] [0,1,5] (.block 0 (.loop ([0,1,5],[]) (.seq (Zs [mS 6 5,mS 7 0,nS 8 7,bS 9 .lss 6 8] [0,1,5,9] (cX 9 0))
(.seq (.block 1 (.seq (Zs [mS 12 0,mS 13 5,xS 14 6 12 13,fS 15 14 0,fS 16 15 0,lF 17 1 16,mS 18 1,bS 19 .neq 17 18] [0,1,5,19] (.cond (.s 19) (Zs [.mv 4 (.c (.int .i64 (-1)))] [4] .ret) .skip))
(Zs [mS 20 1,bC 21 .add 20 1,mS 1 21] [0,1,5] (.seq (Zs [mS 22 0,mS 23 5,xS 24 6 22 23,fS 25 24 0,fS 26 25 1,lF 27 1 26,mS 28 1,bS 29 .neq 27 28] [0,1,5,29] (.cond (.s 29) (Zs [.mv 4 (.c (.int .i64 (-1)))] [4] .ret) .skip))
(Zs [mS 30 1,bC 31 .add 30 1,mS 1 31] [0,1,5] (.seq (Zs [mS 32 0,mS 33 5,xS 34 6 32 33,fS 35 34 0,fS 36 35 2,lF 37 1 36,mS 38 1,bS 39 .neq 37 38] [0,1,5,39] (.cond (.s 39) (Zs [.mv 4 (.c (.int .i64 (-1)))] [4] .ret) .skip))
(Zs [mS 40 1,bC 41 .add 40 1,mS 1 41] [0,1,5] (.seq (Zs [mS 42 0,mS 43 5,xS 44 6 42 43,fS 45 44 3,lF 46 1 45,mS 47 1,bS 48 .neq 46 47] [0,1,5,48] (.cond (.s 48) (Zs [.mv 4 (.c (.int .i64 (-1)))] [4] .ret) .skip))
(Zs [mS 49 1,bC 50 .add 49 1,mS 1 50] [0,1,5] (.seq (Zs [mS 51 0,mS 52 5,xS 53 6 51 52,fS 54 53 4,lF 55 1 54,mS 56 1,bS 57 .neq 55 56] [0,1,5,57] (.cond (.s 57) (Zs [.mv 4 (.c (.int .i64 (-1)))] [4] .ret) .skip))
(Zs [mS 58 1,bC 59 .add 58 1,mS 1 59] [0,1,5] (.seq (Zs [mS 60 0,mS 61 5,xS 62 6 60 61,fS 63 62 5,lF 64 1 63,mS 65 1,bS 66 .neq 64 65] [0,1,5,66] (.cond (.s 66) (Zs [.mv 4 (.c (.int .i64 (-1)))] [4] .ret) .skip))
(pr [mS 67 1,bC 68 .add 67 1,mS 1 68] [0,1,5])))))))))))))
(pr [mS 10 5,bC 11 .add 10 1,mS 5 11] [0,1,5]))))))
(Zs [mS 69 1,mS 4 69] [4] .ret)))
theorem Cm8(xs:List GFound)(k:Int)(hk:0≤k)(hN:k+(ctL GFound.ct xs:Nat)≤4611686018427387904):Ctr Tryz.prog Ncw [aL 6 ((mkL GFound.mkd GFound.ct xs k).map GFound.enc),aI k] [rI (k+(ctL GFound.ct xs:Nat))]:=by
 refine cA Mbs 0 70 [(.tmp 4,[false])] Tryz.func190 rfl rfl ?_;unfold Mbs
 intro hb
 simp only[bdA,bdL,bdT,Ke,K10,roomB,and_true,List.length_map]at hb
 have hl:=hb.1.1
 rw[K9]at hl
 clear hb
 simp only[go_sem]
 refine K5 xs (fun i=>[(1,vI (k+(ctL GFound.ct (xs.take i):Nat))),(5,vI i)]) (fun i=>[]) (fun _=>True) hl ?_
 simp only[go_sem]
 refine⟨?_,trivial,?_,?_⟩
 ·simp only[go_sem,List.take_zero,K1e]
  all_goals simp
 ·intro i x hx _ h0 h1 hw
  have hg:=K3u (mk:=GFound.mkd) (c:=GFound.ct) (k:=k) hx
  have hc:=Kt (c:=GFound.ct) (i+1) (l:=xs)
  rw[Kf hx]at hc
  have hK0:0≤k+((ctL GFound.ct (xs.take i):Nat):Int):=by omega
  have hK1:k+((ctL GFound.ct (xs.take i):Nat):Int)+(GFound.ct x:Nat)≤4611686018427387904:=by omega
  generalize hK:k+((ctL GFound.ct (xs.take i):Nat):Int)=K at hK0 hK1 hg
  simp only[GFound.ct]at hK1
  simp only[go_sem,hw,K4 hg,h0,h1,K9,GFound.mkd,waK (K:=K+1) (K':=K+1) (by omega) (by omega) (by omega),waK (K:=K+1+1) (K':=K+2) (by omega) (by omega) (by omega),waK (K:=K+2+1) (K':=K+3) (by omega) (by omega) (by omega),waK (K:=K+3+1) (K':=K+4) (by omega) (by omega) (by omega),waK (K:=K+4+1) (K':=K+5) (by omega) (by omega) (by omega),waK (K:=K+5+1) (K':=K+6) (by omega) (by omega) (by omega)]
  rw[Kf hx]
  simp only[GFound.ct]
  omega
 ·intro _
  simp only[go_sem,List.take_length,K9]
def GDisk.mks(x:GDisk)(k:Int):GDisk:={x with Containers:=mkL GContainer.mkd GContainer.ct x.Containers (k),Index:=mkL GFound.mkd GFound.ct x.Index (k+(ctL GContainer.ct x.Containers:Nat)),Wanted:=mkL GContainer.mkd GContainer.ct x.Wanted (k+(ctL GContainer.ct x.Containers:Nat)+(ctL GFound.ct x.Index:Nat))}
def GDisk.cts(x:GDisk):Nat:=ctL GContainer.ct x.Containers+ctL GFound.ct x.Index+ctL GContainer.ct x.Wanted
theorem GDisk.cts_le(x:GDisk):x.cts≤16*x.size:=by
 simp only[GDisk.cts,GDisk.size]
 have hContainers:=K5l (c:=GContainer.ct) (s:=GContainer.size) GContainer.ct_le x.Containers
 have hIndex:=ctL_le' (c:=GFound.ct) (fun y=>by simp only[GFound.ct];omega) x.Index
 have hWanted:=K5l (c:=GContainer.ct) (s:=GContainer.size) GContainer.ct_le x.Wanted
 omega
@[go_sem] theorem GDisk.mks_len0 (x:GDisk) (k:Int):((x.mks k).Containers).length=x.Containers.length:=K9
@[go_sem] theorem GDisk.mks_len1 (x:GDisk) (k:Int):((x.mks k).Index).length=x.Index.length:=K9
@[go_sem] theorem GDisk.mks_len2 (x:GDisk) (k:Int):((x.mks k).Wanted).length=x.Wanted.length:=K9
def Mge:MC:=
(Zs [.box 2 3 (.s 0),.mv 4 (ci 0)] [1,2] (Zs [fS 5 2 0,lF 6 1 5,mS 7 1,.callI 8 [] (.f N32) [.s 6,.s 7] [0] [],mS 1 8] [1,2] (Zs [fS 9 2 1,lF 10 1 9,mS 11 1,.callI 12 [] (.f Ncy) [.s 10,.s 11] [1] [],mS 1 12] [1,2] (Zs [fS 13 2 2,lF 14 1 13,mS 15 1,.callI 16 [] (.f N32) [.s 14,.s 15] [2] [],mS 1 16] [1] (Zs [mS 17 1,mS 4 17] [4] .ret)))))
theorem Co3(x:GDisk)(k:Int)(hk:0≤k)(hN:k+(x.cts:Nat)≤4611686018427387904):CtrI Tryz.prog Ngw [oS x.enc,iI k] [some (4,(x.mks k).Containers.map GContainer.enc),some (6,(x.mks k).Index.map GFound.enc),some (4,(x.mks k).Wanted.map GContainer.enc)] [rI (k+(x.cts:Nat))]:=by
 refine Ky (M:=Mge) (m:=1) (n:=18) (res:=[(.tmp 4,[false])]) hmix Tryz.func90 rfl (by kernel_rfl) rfl (by kernel_rfl) (by kernel_rfl) (Nat.le_of_ble_eq_true rfl) rfl rfl ?_;unfold Mge
 intro hb
 clear hb
 simp only[GDisk.cts]at hN ⊢
 simp only[go_sem]
 refine K7 (C5n x.Containers (k) (by omega) (by omega)) ?_
 simp only[go_sem]
 refine K7 (Cma x.Index (k+(ctL GContainer.ct x.Containers:Nat)) (by omega) (by omega)) ?_
 simp only[go_sem]
 refine K7 (C5n x.Wanted (k+(ctL GContainer.ct x.Containers:Nat)+(ctL GFound.ct x.Index:Nat)) (by omega) (by omega)) ?_
 simp only[go_sem]
 all_goals (try omega)
 repeat' (first|rfl|omega|refine And.intro ?_ ?_)
def Mgc:MC:=Y13 N31 Ncw N31
theorem Co2(x:GDisk)(k:Int)(hk:0≤k)(hN:k+(x.cts:Nat)≤4611686018427387904):Ctr Tryz.prog Ngv [aS (x.mks k).enc,aI k] [rI (k+(x.cts:Nat))]:=by
 refine cA Mgc 1 24 [(.tmp 4,[false])] Tryz.func97 rfl rfl ?_;unfold Mgc
 intro hb
 clear hb
 simp only[GDisk.cts]at hN ⊢
 simp only[go_sem]
 refine K0 (C5m x.Containers (k) (by omega) (by omega)) ?_
 have n1:¬k+(ctL GContainer.ct x.Containers:Nat)<0:=by omega
 simp only[go_sem,n1]
 try intro _
 refine K0 (Cm8 x.Index (k+(ctL GContainer.ct x.Containers:Nat)) (by omega) (by omega)) ?_
 have n2:¬k+(ctL GContainer.ct x.Containers:Nat)+(ctL GFound.ct x.Index:Nat)<0:=by omega
 simp only[go_sem,n2]
 try intro _
 refine K0 (C5m x.Wanted (k+(ctL GContainer.ct x.Containers:Nat)+(ctL GFound.ct x.Index:Nat)) (by omega) (by omega)) ?_
 have n3:¬k+(ctL GContainer.ct x.Containers:Nat)+(ctL GFound.ct x.Index:Nat)+(ctL GContainer.ct x.Wanted:Nat)<0:=by omega
 simp only[go_sem,n3]
 try intro _
 all_goals (try omega)
 all_goals (try simp only[n1,n2,n3])
def GArchive.mks(x:GArchive)(k:Int):GArchive:={x with Site:=mkL GVersion.mkd GVersion.ct x.Site (k),Script:=mkL GOp.mkd GOp.ct x.Script (k+(ctL GVersion.ct x.Site:Nat)),Disk:=x.Disk.mks (k+(ctL GVersion.ct x.Site:Nat)+(ctL GOp.ct x.Script:Nat)),Exclusions:=mkL GExclusion.mkd GExclusion.ct x.Exclusions (k+(ctL GVersion.ct x.Site:Nat)+(ctL GOp.ct x.Script:Nat)+(x.Disk.cts:Nat)),Libraries:=mkL GLibrary.mkd GLibrary.ct x.Libraries (k+(ctL GVersion.ct x.Site:Nat)+(ctL GOp.ct x.Script:Nat)+(x.Disk.cts:Nat)+(ctL GExclusion.ct x.Exclusions:Nat)),Keys:=mkL iMk iCt x.Keys (k+(ctL GVersion.ct x.Site:Nat)+(ctL GOp.ct x.Script:Nat)+(x.Disk.cts:Nat)+(ctL GExclusion.ct x.Exclusions:Nat)+(ctL GLibrary.ct x.Libraries:Nat)),Statements:=mkL GStatement.mkd GStatement.ct x.Statements (k+(ctL GVersion.ct x.Site:Nat)+(ctL GOp.ct x.Script:Nat)+(x.Disk.cts:Nat)+(ctL GExclusion.ct x.Exclusions:Nat)+(ctL GLibrary.ct x.Libraries:Nat)+(ctL iCt x.Keys:Nat))}
def GArchive.cts(x:GArchive):Nat:=ctL GVersion.ct x.Site+ctL GOp.ct x.Script+x.Disk.cts+ctL GExclusion.ct x.Exclusions+ctL GLibrary.ct x.Libraries+ctL iCt x.Keys+ctL GStatement.ct x.Statements
theorem GArchive.cts_le(x:GArchive):x.cts≤16*x.size:=by
 simp only[GArchive.cts,GArchive.size]
 have hSite:=K5l (c:=GVersion.ct) (s:=GVersion.size) GVersion.ct_le x.Site
 have hScript:=ctL_le' (c:=GOp.ct) (fun y=>by simp only[GOp.ct];omega) x.Script
 have hDisk:=GDisk.cts_le x.Disk
 have hExclusions:=ctL_le' (c:=GExclusion.ct) (fun y=>by simp only[GExclusion.ct];omega) x.Exclusions
 have hLibraries:=K5l (c:=GLibrary.ct) (s:=GLibrary.size) GLibrary.ct_le x.Libraries
 have hKeys:=ctL_le' (c:=iCt) (fun y=>by simp only[iCt];omega) x.Keys
 have hStatements:=ctL_le' (c:=GStatement.ct) (fun y=>by simp only[GStatement.ct];omega) x.Statements
 omega
@[go_sem] theorem GArchive.mks_len0 (x:GArchive) (k:Int):((x.mks k).Site).length=x.Site.length:=K9
@[go_sem] theorem GArchive.mks_len1 (x:GArchive) (k:Int):((x.mks k).Script).length=x.Script.length:=K9
@[go_sem] theorem GArchive.mks_len2 (x:GArchive) (k:Int):((x.mks k).Disk.Containers).length=x.Disk.Containers.length:=K9
@[go_sem] theorem GArchive.mks_len3 (x:GArchive) (k:Int):((x.mks k).Disk.Index).length=x.Disk.Index.length:=K9
@[go_sem] theorem GArchive.mks_len4 (x:GArchive) (k:Int):((x.mks k).Disk.Wanted).length=x.Disk.Wanted.length:=K9
@[go_sem] theorem GArchive.mks_len5 (x:GArchive) (k:Int):((x.mks k).Exclusions).length=x.Exclusions.length:=K9
@[go_sem] theorem GArchive.mks_len6 (x:GArchive) (k:Int):((x.mks k).Libraries).length=x.Libraries.length:=K9
@[go_sem] theorem GArchive.mks_len7 (x:GArchive) (k:Int):((x.mks k).Keys).length=x.Keys.length:=K9
@[go_sem] theorem GArchive.mks_len8 (x:GArchive) (k:Int):((x.mks k).Statements).length=x.Statements.length:=K9
def M9o:MC:=
(Zs [.box 2 9 (.s 0),.mv 4 (ci 0)] [1,2] (Zs [fS 5 2 0,lF 6 1 5,mS 7 1,.callI 8 [] (.f N8h) [.s 6,.s 7] [0] [],mS 1 8] [1,2] (Zs [fS 9 2 1,lF 10 1 9,mS 11 1,.callI 12 [] (.f N8w) [.s 10,.s 11] [1] [],mS 1 12] [1,2] (Zs [fS 13 2 2,lT 14 3 13,mS 15 1,.callI 16 [] (.f Ngw) [.s 14,.s 15] [2,3,4] [],mS 1 16] [1,2] (Zs [fS 17 2 5,lF 18 1 17,mS 19 1,.callI 20 [] (.f N63) [.s 18,.s 19] [5] [],mS 1 20] [1,2] (Zs [fS 21 2 6,lF 22 1 21,mS 23 1,.callI 24 [] (.f N8f) [.s 22,.s 23] [6] [],mS 1 24] [1,2] (Zs [fS 25 2 7,lF 26 1 25,mS 27 1,.callI 28 [] (.f N1q) [.s 26,.s 27] [7] [],mS 1 28] [1,2] (Zs [fS 29 2 8,lF 30 1 29,mS 31 1,.callI 32 [] (.f N64) [.s 30,.s 31] [8] [],mS 1 32] [1] (Zs [mS 33 1,mS 4 33] [4] .ret)))))))))
theorem C94(x:GArchive)(k:Int)(hk:0≤k)(hN:k+(x.cts:Nat)≤4611686018427387904):CtrI Tryz.prog N49 [oS x.enc,iI k] [some (9,(x.mks k).Site.map GVersion.enc),some (4,(x.mks k).Script.map GOp.enc),some (4,(x.mks k).Disk.Containers.map GContainer.enc),some (6,(x.mks k).Disk.Index.map GFound.enc),some (4,(x.mks k).Disk.Wanted.map GContainer.enc),some (5,(x.mks k).Exclusions.map GExclusion.enc),some (4,(x.mks k).Libraries.map GLibrary.enc),some (1,(x.mks k).Keys.map encI),some (4,(x.mks k).Statements.map GStatement.enc)] [rI (k+(x.cts:Nat))]:=by
 refine Ky (M:=M9o) (m:=1) (n:=34) (res:=[(.tmp 4,[false])]) hmix Tryz.func16 rfl (by kernel_rfl) rfl (by kernel_rfl) (by kernel_rfl) (Nat.le_of_ble_eq_true rfl) rfl rfl ?_;unfold M9o
 intro hb
 clear hb
 simp only[GArchive.cts]at hN ⊢
 simp only[go_sem]
 refine K7 (Ckj x.Site (k) (by omega) (by omega)) ?_
 simp only[go_sem]
 refine K7 (Chg x.Script (k+(ctL GVersion.ct x.Site:Nat)) (by omega) (by omega)) ?_
 simp only[go_sem]
 refine K7 (Co3 x.Disk (k+(ctL GVersion.ct x.Site:Nat)+(ctL GOp.ct x.Script:Nat)) (by omega) (by omega)) ?_
 simp only[go_sem]
 refine K7 (Chf x.Exclusions (k+(ctL GVersion.ct x.Site:Nat)+(ctL GOp.ct x.Script:Nat)+(x.Disk.cts:Nat)) (by omega) (by omega)) ?_
 simp only[go_sem]
 refine K7 (Ckh x.Libraries (k+(ctL GVersion.ct x.Site:Nat)+(ctL GOp.ct x.Script:Nat)+(x.Disk.cts:Nat)+(ctL GExclusion.ct x.Exclusions:Nat)) (by omega) (by omega)) ?_
 simp only[go_sem]
 refine K7 (C1n x.Keys (k+(ctL GVersion.ct x.Site:Nat)+(ctL GOp.ct x.Script:Nat)+(x.Disk.cts:Nat)+(ctL GExclusion.ct x.Exclusions:Nat)+(ctL GLibrary.ct x.Libraries:Nat)) (by omega) (by omega)) ?_
 simp only[go_sem]
 refine K7 (Chh x.Statements (k+(ctL GVersion.ct x.Site:Nat)+(ctL GOp.ct x.Script:Nat)+(x.Disk.cts:Nat)+(ctL GExclusion.ct x.Exclusions:Nat)+(ctL GLibrary.ct x.Libraries:Nat)+(ctL iCt x.Keys:Nat)) (by omega) (by omega)) ?_
 simp only[go_sem]
 all_goals (try omega)
 repeat' (first|rfl|omega|refine And.intro ?_ ?_)
def M9n:MC:=Y14 N8d N8v Ngv N61 N8c N40 N62
theorem C93(x:GArchive)(k:Int)(hk:0≤k)(hN:k+(x.cts:Nat)≤4611686018427387904):Ctr Tryz.prog N48 [aS (x.mks k).enc,aI k] [rI (k+(x.cts:Nat))]:=by
 refine cA M9n 1 48 [(.tmp 4,[false])] Tryz.func18 rfl rfl ?_;unfold M9n
 intro hb
 clear hb
 simp only[GArchive.cts]at hN ⊢
 simp only[go_sem]
 refine K0 (Ckf x.Site (k) (by omega) (by omega)) ?_
 have n1:¬k+(ctL GVersion.ct x.Site:Nat)<0:=by omega
 simp only[go_sem,n1]
 try intro _
 refine K0 (Chd x.Script (k+(ctL GVersion.ct x.Site:Nat)) (by omega) (by omega)) ?_
 have n2:¬k+(ctL GVersion.ct x.Site:Nat)+(ctL GOp.ct x.Script:Nat)<0:=by omega
 simp only[go_sem,n2]
 try intro _
 refine K0 (Co2 x.Disk (k+(ctL GVersion.ct x.Site:Nat)+(ctL GOp.ct x.Script:Nat)) (by omega) (by omega)) ?_
 have n3:¬k+(ctL GVersion.ct x.Site:Nat)+(ctL GOp.ct x.Script:Nat)+(x.Disk.cts:Nat)<0:=by omega
 simp only[go_sem,n3]
 try intro _
 refine K0 (Chc x.Exclusions (k+(ctL GVersion.ct x.Site:Nat)+(ctL GOp.ct x.Script:Nat)+(x.Disk.cts:Nat)) (by omega) (by omega)) ?_
 have n4:¬k+(ctL GVersion.ct x.Site:Nat)+(ctL GOp.ct x.Script:Nat)+(x.Disk.cts:Nat)+(ctL GExclusion.ct x.Exclusions:Nat)<0:=by omega
 simp only[go_sem,n4]
 try intro _
 refine K0 (Cke x.Libraries (k+(ctL GVersion.ct x.Site:Nat)+(ctL GOp.ct x.Script:Nat)+(x.Disk.cts:Nat)+(ctL GExclusion.ct x.Exclusions:Nat)) (by omega) (by omega)) ?_
 have n5:¬k+(ctL GVersion.ct x.Site:Nat)+(ctL GOp.ct x.Script:Nat)+(x.Disk.cts:Nat)+(ctL GExclusion.ct x.Exclusions:Nat)+(ctL GLibrary.ct x.Libraries:Nat)<0:=by omega
 simp only[go_sem,n5]
 try intro _
 refine K0 (C3x x.Keys (k+(ctL GVersion.ct x.Site:Nat)+(ctL GOp.ct x.Script:Nat)+(x.Disk.cts:Nat)+(ctL GExclusion.ct x.Exclusions:Nat)+(ctL GLibrary.ct x.Libraries:Nat)) (by omega) (by omega)) ?_
 have n6:¬k+(ctL GVersion.ct x.Site:Nat)+(ctL GOp.ct x.Script:Nat)+(x.Disk.cts:Nat)+(ctL GExclusion.ct x.Exclusions:Nat)+(ctL GLibrary.ct x.Libraries:Nat)+(ctL iCt x.Keys:Nat)<0:=by omega
 simp only[go_sem,n6]
 try intro _
 refine K0 (Che x.Statements (k+(ctL GVersion.ct x.Site:Nat)+(ctL GOp.ct x.Script:Nat)+(x.Disk.cts:Nat)+(ctL GExclusion.ct x.Exclusions:Nat)+(ctL GLibrary.ct x.Libraries:Nat)+(ctL iCt x.Keys:Nat)) (by omega) (by omega)) ?_
 have n7:¬k+(ctL GVersion.ct x.Site:Nat)+(ctL GOp.ct x.Script:Nat)+(x.Disk.cts:Nat)+(ctL GExclusion.ct x.Exclusions:Nat)+(ctL GLibrary.ct x.Libraries:Nat)+(ctL iCt x.Keys:Nat)+(ctL GStatement.ct x.Statements:Nat)<0:=by omega
 simp only[go_sem,n7]
 try intro _
 all_goals (try omega)
 all_goals (try simp only[n1,n2,n3,n4,n5,n6,n7])
def GChange.mkd(x:GChange)(k:Int):GChange:=⟨k,(k+1)⟩
def GChange.ct(x:GChange):Nat:=2
def GPlayed.mks(x:GPlayed)(k:Int):GPlayed:={x with State:=x.State.mks (k)}
def GPlayed.cts(x:GPlayed):Nat:=x.State.cts
theorem GPlayed.cts_le(x:GPlayed):x.cts≤16*x.size:=by
 simp only[GPlayed.cts,GPlayed.size]
 have hState:=GState.cts_le x.State
 omega
@[go_sem] theorem GPlayed.mks_len0 (x:GPlayed) (k:Int):((x.mks k).State.Regs).length=x.State.Regs.length:=K9
@[go_sem] theorem GPlayed.mks_len1 (x:GPlayed) (k:Int):((x.mks k).State.Slots).length=x.State.Slots.length:=K9
@[go_sem] theorem GPlayed.mks_len2 (x:GPlayed) (k:Int):((x.mks k).State.Nodes).length=x.State.Nodes.length:=K9
end Go.Proofs.YtjneccbpkckdfaaGreatR
namespace Go.Proofs.YtjneccbpkckdfaaGreatR
open Go Go.RowKit Go.Proofs
open Nat (reduceEqDiff reduceLT reduceLeDiff reduceAdd reduceMul)
open List (reduceReplicate)
def K7c(x:GExclusion):Bool:=decide ((1≤x.Host∧x.Host≤9)∧(-1≤x.Path∧x.Path≤99)∧(0≤x.From∧x.From≤x.Until)∧x.Until≤2000∧(0≤x.Asked∧x.Asked≤2000))
def M9d:MC:=
(Zs [.box 1 0 (.s 0),.mv 2 cF] [1] (.seq (.reg [Za (fS 3 1 0),Za (lF 4 1 3),Za (.call 5 [] (.f N1) [.s 4,.c (.int .i64 1),.c (.int .i64 9)]),Za (mS 6 5),Zb 6 true (fS 7 1 1),Zb 6 true (lF 8 1 7),Zb 6 true (.call 9 [] (.f N1) [.s 8,.c (.int .i64 (-1)),.c (.int .i64 99)]),Za (.pick 10 (.s 6) (.s 9) cF),Za (mS 11 10),Zb 11 true (fS 12 1 2),Zb 11 true (lF 13 1 12),Zb 11 true (fS 14 1 3),Zb 11 true (lF 15 1 14),Zb 11 true (.call 16 [] (.f N1) [.s 13,.c (.int .i64 0),.s 15]),Za (.pick 17 (.s 11) (.s 16) cF),Za (mS 18 17),Zb 18 true (fS 19 1 3),Zb 18 true (lF 20 1 19),Zb 18 true (bC 21 .leq 20 2000),Za (.pick 22 (.s 18) (.s 21) cF),Za (mS 23 22),Zb 23 true (fS 24 1 4),Zb 23 true (lF 25 1 24),Zb 23 true (.call 26 [] (.f N1) [.s 25,.c (.int .i64 0),.c (.int .i64 2000)]),Za (.pick 27 (.s 23) (.s 26) cF),Za (mS 2 27)] [2])
.ret))
theorem Cku(x:GExclusion):Ctr Tryz.prog Na6 [aS x.enc] [rB (K7c x)]:=by
 refine cA M9d 1 28 [(.tmp 2,[false])] Tryz.func168 rfl rfl ?_;unfold M9d
 intro hb
 clear hb
 simp only[go_sem]
 repeat' first
  |(refine And.intro ?_ ?_<;>intro h)
  |(apply K0 (C2 _ _ _);simp only[go_sem])
 all_goals (unfold K7c;first|(symm;rw[decide_eq_false_iff_not];omega)|(rw[Bool.eq_iff_iff];simp only[decide_eq_true_eq];omega))
def M9x:MC:=
(Zs [.box 1 0 (.s 0),.mv 2 cF] [1] (.seq (.reg [Za (fS 3 1 0),Za (lF 4 1 3),Za (.call 5 [] (.f N0) [.s 4,.c (.int .i64 1),.c (.int .i64 9)]),Za (mS 6 5),Zb 6 true (fS 7 1 1),Zb 6 true (lF 8 1 7),Zb 6 true (.call 9 [] (.f N0) [.s 8,.c (.int .i64 (-1)),.c (.int .i64 99)]),Za (.pick 10 (.s 6) (.s 9) cF),Za (mS 11 10),Zb 11 true (fS 12 1 2),Zb 11 true (lF 13 1 12),Zb 11 true (.call 14 [] (.f N0) [.s 13,.c (.int .i64 0),.c (.int .i64 2000)]),Za (.pick 15 (.s 11) (.s 14) cF),Za (mS 16 15),Zb 16 true (fS 17 1 3),Zb 16 true (lF 18 1 17),Zb 16 true (fS 19 1 2),Zb 16 true (lF 20 1 19),Zb 16 true (.call 21 [] (.f N0) [.s 18,.s 20,.c (.int .i64 2000)]),Za (.pick 22 (.s 16) (.s 21) cF),Za (mS 23 22),Zb 23 true (fS 24 1 4),Zb 23 true (lF 25 1 24),Zb 23 true (.call 26 [] (.f N0) [.s 25,.c (.int .i64 0),.c (.int .i64 2000)]),Za (.pick 27 (.s 23) (.s 26) cF),Za (mS 2 27)] [2])
.ret))
theorem Clb(x:GExclusion):Ctr Tryz.prog Naj [aS x.enc] [rB (K7c x)]:=by
 refine cA M9x 1 28 [(.tmp 2,[false])] Tryz.func148 rfl rfl ?_;unfold M9x
 intro hb
 clear hb
 simp only[go_sem]
 repeat' first
  |(refine And.intro ?_ ?_<;>intro h)
  |(apply K0 (C3 _ _ _);simp only[go_sem])
 all_goals (unfold K7c;first|(symm;rw[decide_eq_false_iff_not];omega)|(rw[Bool.eq_iff_iff];simp only[decide_eq_true_eq];omega))
def hidesB(x:GExclusion)(c:GCapture):Bool:=K7c x&&decide (c.Address.Host=x.Host∧(x.Path= -1∨c.Address.Path=x.Path)∧x.From≤c.Tick∧c.Tick≤x.Until)
def hiddenBy(x:GExclusion)(c:GCapture)(now:Int):Bool:=decide (x.Asked≤now)&&hidesB x c
def hiddenIn(c:GCapture)(l:List GExclusion)(now:Int):Bool:=l.any fun x=>hiddenBy x c now
def visible(cs:List GCapture)(l:List GExclusion)(now:Int):List GCapture:=cs.filter fun c=> !hiddenIn c l now
end Go.Proofs.YtjneccbpkckdfaaGreatR
namespace Go.Proofs.YtjneccbpkckdfaaGreatR
open Go Go.RowKit Go.Proofs
open Nat (reduceEqDiff reduceLT reduceLeDiff reduceAdd reduceMul)
open List (reduceReplicate)
def K3a(a:GArchive)(n:Int):Bool:=decide ((1≤n∧n≤100)∧0≤a.Now∧a.Now≤1000-n)
def K54(a:GArchive)(n:Int):GArchive:=if K3a a n then {a with Now:=a.Now+n}else a
def Mg7:MC:=
(Zs [.box 2 0 (.s 0),.alloc 4 1 [.emp 9,.emp 4,.emp 4,.emp 6,.emp 4,.emp 5,.emp 4,.emp 1,.emp 4,pz],.mv 5 cF] [1,2,4] (Zs [lT 7 10 2,.call 8 [2,3,4,5,6,7,8,9,10] (.f N5) [.s 7],.alloc 6 11 [.emp 9,.emp 4,.emp 4,.emp 6,.emp 4,.emp 5,.emp 4,.emp 1,.emp 4,pz],sS 10 6 8] [1,2,4,6] (.seq (.seq (.reg [Za (mS 9 1),Za (.call 10 [] (.f N1) [.s 9,.c (.int .i64 1),.c (.int .i64 100)]),Za (.un 11 .not (.s 10)),Za (mS 12 11),Zb 12 false (fS 13 2 9),Zb 12 false (lF 14 1 13),Zb 12 false (bC 15 .lss 14 0),Za (.pick 16 (.s 12) cT (.s 15)),Za (mS 17 16),Zb 17 false (fS 18 2 9),Zb 17 false (lF 19 1 18),Zb 17 false (mS 20 1),Zb 17 false (.bin 21 false .sub (ci 1000) (.s 20)),Zb 17 false (bS 22 .gtr 19 21),Za (.pick 23 (.s 17) cT (.s 22))] [1,4,6,23])
(.cond (.s 23) (Zs [lT 24 10 6,sS 10 4 24,.mv 5 cF] [4,5] .ret) .skip))
(Zs [fS 25 6 9,lF 26 1 25,mS 27 1,bS 28 .add 26 27,fS 29 6 9,sS 1 29 28] [4,6] (Zs [lT 30 10 6,sS 10 4 30,.mv 5 cT] [4,5] .ret)))))
theorem Cnz(a:GArchive)(n:Int)(hs:a.size≤1073741824):Ctr Tryz.prog Ngs [aS a.enc,aI n] [rS (K54 a n).enc,rB (K3a a n)]:=by
  refine cA Mg7 12 31 [(.cell 4 true 10,[true,true,true,true,true,true,true,true,true,false]),(.tmp 5,[false])] Tryz.func78 rfl rfl ?_;unfold Mg7
  intro hb
  clear hb
  have hW:(1≤n∧n≤100)→IntKind.i64.wrap (1000-n)=1000-n:=fun h=>wI (by omega) (by omega)
  simp only[go_sem]
  apply K0 (C9 a hs)
  simp only[go_sem]
  intros
  apply K0 (C2 _ _ _)
  simp only[go_sem]
  repeat' first
    |(refine And.intro ?_ ?_<;>intro h)
  all_goals
    first
      |(have hT:K3a a n=false:=by
         unfold K3a
         rw[decide_eq_false_iff_not]
         rintro ⟨h1,h2,h3⟩
         have:=hW h1
         omega
        simp[K54,hT]
        done)
      |(have hT:K3a a n=true:=by
         unfold K3a
         rw[decide_eq_true_eq]
         have:=hW (by assumption)
         omega
        have hN:IntKind.i64.wrap (a.Now+n)=a.Now+n:=by
         unfold K3a at hT
         rw[decide_eq_true_eq]at hT
         exact wI (by omega) (by omega)
        simp[K54,hT,hN])
def Mgo:MC:=
(Zs [.box 2 0 (.s 0),.alloc 4 1 [.emp 9,.emp 4,.emp 4,.emp 6,.emp 4,.emp 5,.emp 4,.emp 1,.emp 4,pz],.mv 5 cF] [1,2,4] (Zs [lT 7 10 2,.call 8 [2,3,4,5,6,7,8,9,10] (.f Ng) [.s 7],.alloc 6 11 [.emp 9,.emp 4,.emp 4,.emp 6,.emp 4,.emp 5,.emp 4,.emp 1,.emp 4,pz],sS 10 6 8] [1,2,4,6] (.seq (.seq (.reg [Za (mS 9 1),Za (.call 10 [] (.f N0) [.s 9,.c (.int .i64 1),.c (.int .i64 100)]),Za (.un 11 .not (.s 10)),Za (mS 12 11),Zb 12 false (fS 13 2 9),Zb 12 false (lF 14 1 13),Zb 12 false (mS 15 1),Zb 12 false (.bin 16 false .sub (ci 1000) (.s 15)),Zb 12 false (.call 17 [] (.f N0) [.s 14,.c (.int .i64 0),.s 16]),Zb 12 false (.un 18 .not (.s 17)),Za (.pick 19 (.s 12) cT (.s 18))] [1,2,4,6,19])
(.cond (.s 19) (Zs [lT 20 10 6,sS 10 4 20,.mv 5 cF] [4,5] .ret) .skip))
(Zs [fS 21 2 9,lF 22 1 21,mS 23 1,bS 24 .add 22 23,fS 25 6 9,sS 1 25 24] [4,6] (Zs [lT 26 10 6,sS 10 4 26,.mv 5 cT] [4,5] .ret)))))
theorem Co9(a:GArchive)(n:Int)(hs:a.size≤1073741824):Ctr Tryz.prog Nh1 [aS a.enc,aI n] [rS (K54 a n).enc,rB (K3a a n)]:=by
  refine cA Mgo 12 27 [(.cell 4 true 10,[true,true,true,true,true,true,true,true,true,false]),(.tmp 5,[false])] Tryz.func61 rfl rfl ?_;unfold Mgo
  intro hb
  clear hb
  have hW:(1≤n∧n≤100)→IntKind.i64.wrap (1000-n)=1000-n:=fun h=>wI (by omega) (by omega)
  simp only[go_sem]
  apply K0 (Cs a hs)
  simp only[go_sem]
  intros
  apply K0 (C3 _ _ _)
  simp only[go_sem]
  repeat' first
    |(refine And.intro ?_ ?_<;>intro h)
    |(apply K0 (C3 _ _ _);simp only[go_sem])
  all_goals
    first
      |(have hT:K3a a n=false:=by
         unfold K3a
         rw[decide_eq_false_iff_not]
         rintro ⟨h1,h2,h3⟩
         have:=hW h1
         omega
        simp[K54,hT]
        done)
      |(have hT:K3a a n=true:=by
         unfold K3a
         rw[decide_eq_true_eq]
         have:=hW (by assumption)
         omega
        have hN:IntKind.i64.wrap (a.Now+n)=a.Now+n:=by
         unfold K3a at hT
         rw[decide_eq_true_eq]at hT
         exact wI (by omega) (by omega)
        simp[K54,hT,hN])
theorem tick_size(a:GArchive)(n:Int):(K54 a n).size=a.size:=by unfold K54;split<;>rfl
end Go.Proofs.YtjneccbpkckdfaaGreatR
namespace Go.Proofs.YtjneccbpkckdfaaGreatR
open Go Go.RowKit Go.Proofs
open Nat (reduceEqDiff reduceLT reduceLeDiff reduceAdd reduceMul)
open List (reduceReplicate)
def K2l(a:GArchive)(x:GExclusion):Bool:=K7c {x with Asked:=a.Now}&&decide (a.Exclusions.length<8)
def K3z(a:GArchive)(x:GExclusion):GArchive:=if K2l a x then {a with Exclusions:=a.Exclusions++[{x with Asked:=a.Now}]}else a
def Y29(v0:Nat)(v1:Nat):MC:=
(Zs [.box 2 0 (.s 0),.box 3 1 (.s 1),.alloc 4 2 [.emp 9,.emp 4,.emp 4,.emp 6,.emp 4,.emp 5,.emp 4,.emp 1,.emp 4,pz],.mv 5 cF] [2,3,4] (Zs [lT 7 10 2,.call 8 [3,4,5,6,7,8,9,10,11] (.f v0) [.s 7],.alloc 6 12 [.emp 9,.emp 4,.emp 4,.emp 6,.emp 4,.emp 5,.emp 4,.emp 1,.emp 4,pz],sS 10 6 8] [2,3,4,6] (Zs [fS 9 2 9,lF 10 1 9,fS 11 3 4,sS 1 11 10] [2,3,4,6] (.seq (.seq (.reg [Za (lT 12 5 3),Za (.call 13 [] (.f v1) [.s 12]),Za (.un 14 .not (.s 13)),Za (mS 15 14),Zb 15 false (fS 16 2 5),Zb 15 false (lF 17 1 16),Zb 15 false (nS 18 17),Zb 15 false (bC 19 .geq 18 8),Za (.pick 20 (.s 15) cT (.s 19))] [3,4,6,20])
(.cond (.s 20) (Zs [lT 21 10 6,sS 10 4 21,.mv 5 cF] [4,5] .ret) .skip))
(Zs [fS 22 6 5,lF 23 1 22,lT 24 5 3,.lit 25 13 5 40 [.s 24],.app 26 8 5 40 (.s 23) (.s 25),fS 27 6 5,sS 1 27 26] [4,6] (Zs [lT 28 10 6,sS 10 4 28,.mv 5 cT] [4,5] .ret))))))
attribute [go_sem] Y29
def M9h:MC:=Y29 N5 Na6
theorem Ckx(a:GArchive)(x:GExclusion)(hs:a.size≤1073741824):Ctr Tryz.prog Na9 [aS a.enc,aS x.enc] [rS (K3z a x).enc,rB (K2l a x)]:=by
  refine cA M9h 14 29 [(.cell 4 true 10,[true,true,true,true,true,true,true,true,true,false]),(.tmp 5,[false])] Tryz.func75 rfl rfl ?_;unfold M9h
  intro hb
  clear hb
  have hx:a.Exclusions.length≤a.size:=by simp only[GArchive.size];omega
  simp only[go_sem]
  apply K0 (C9 a hs)
  simp only[go_sem]
  intros
  apply K0 (Cku {x with Asked:=a.Now})
  simp only[go_sem]
  repeat' first
    |(refine And.intro ?_ ?_<;>intro h)
  all_goals
    first
      |(have hT:K2l a x=false:=by unfold K2l;simp_all
        simp[K3z,hT]
        done)
      |(have hT:K2l a x=false:=by unfold K2l;rw[decide_eq_false (by omega),Bool.and_false]
        simp[K3z,hT]
        done)
      |(have hT:K2l a x=true:=by
         unfold K2l
         rw[decide_eq_true (show a.Exclusions.length<8 by omega),Bool.and_true]
         assumption
        simp[K3z,hT,roomB,GExclusion.enc]
        omega)
def Ma1:MC:=Y29 Ng Naj
theorem Cle(a:GArchive)(x:GExclusion)(hs:a.size≤1073741824):Ctr Tryz.prog Nam [aS a.enc,aS x.enc] [rS (K3z a x).enc,rB (K2l a x)]:=by
  refine cA Ma1 14 29 [(.cell 4 true 10,[true,true,true,true,true,true,true,true,true,false]),(.tmp 5,[false])] Tryz.func58 rfl rfl ?_;unfold Ma1
  intro hb
  clear hb
  have hx:a.Exclusions.length≤a.size:=by simp only[GArchive.size];omega
  simp only[go_sem]
  apply K0 (Cs a hs)
  simp only[go_sem]
  intros
  apply K0 (Clb {x with Asked:=a.Now})
  simp only[go_sem]
  repeat' first
    |(refine And.intro ?_ ?_<;>intro h)
  all_goals
    first
      |(have hT:K2l a x=false:=by unfold K2l;simp_all
        simp[K3z,hT]
        done)
      |(have hT:K2l a x=false:=by unfold K2l;rw[decide_eq_false (by omega),Bool.and_false]
        simp[K3z,hT]
        done)
      |(have hT:K2l a x=true:=by
         unfold K2l
         rw[decide_eq_true (show a.Exclusions.length<8 by omega),Bool.and_true]
         assumption
        simp[K3z,hT,roomB,GExclusion.enc]
        omega)
theorem excl_size(a:GArchive)(x:GExclusion):(K3z a x).size≤a.size+1:=by
 unfold K3z
 split
 ·simp only[GArchive.size,List.length_append,List.length_cons,List.length_nil];omega
 ·omega
end Go.Proofs.YtjneccbpkckdfaaGreatR
namespace Go.Proofs.YtjneccbpkckdfaaGreatR
open Go Go.RowKit Go.Proofs
open Nat (reduceEqDiff reduceLT reduceLeDiff reduceAdd reduceMul)
open List (reduceReplicate)
theorem idxF_pos{α:Type}{p:α→Bool}:∀ {l:List α},¬idxF p l<0→∃(n:Nat) (x:α),idxF p l=n∧l[n]? =some x
 |l,h=>by
  unfold idxF at h ⊢
  split at h
  ·rename_i ha
   rw[if_pos ha]
   obtain⟨x,hx,hp⟩:=List.any_eq_true.1 ha
   have key:∀l:List α,x∈l→(l.takeWhile fun x=> !p x).length<l.length:=by
    intro l
    induction l with
    |nil=>intro h;simp at h
    |cons y l ih=>
     intro h
     rw[List.takeWhile_cons]
     split
     ·rename_i hy
      rcases List.mem_cons.1 h with rfl|h
      ·simp[hp]at hy
      ·have:=ih h;simp only[List.length_cons];omega
     ·simp
   obtain⟨y,hy⟩:=Kb (key l hx)
   exact⟨_,y,rfl,hy⟩
  ·omega
def libP(id:Int)(up:Bool)(x:GLibrary):Bool:=x.Id==id&&(x.Up != up)
def setUp(l:List GLibrary)(n:Nat)(up:Bool):List GLibrary:=match l[n]? with
 |some x=>l.set n {x with Up:=up}
 |none=>l
def K3w(a:GArchive)(id:Int)(up:Bool):Bool:=decide (0≤idxF (libP id up) a.Libraries)
def K2g(a:GArchive)(id:Int)(up:Bool):GArchive:=if K3w a id up then {a with Libraries:=setUp a.Libraries (idxF (libP id up) a.Libraries).toNat up}else a
theorem set_map_up{l:List GLibrary}{n:Nat}{x:GLibrary}{up:Bool}(h:l[n]? =some x):(l.map GLibrary.enc).set n (GLibrary.enc {x with Up:=up})=(setUp l n up).map GLibrary.enc:=by
 unfold setUp
 rw[h]
 simp only
 rw[List.map_set]
theorem lib_end{a:GArchive}{id:Int}{up:Bool}{n:Nat}{x:GLibrary}(hn:idxF (libP id up) a.Libraries=n)(hx:a.Libraries[n]? =some x)(hT:K3w a id up=true):
  a.Libraries.length=((List.map GLibrary.enc a.Libraries).set n (GLibrary.enc {x with Up:=up})).length∧
  (List.map GVersion.enc a.Site=List.map GVersion.enc (K2g a id up).Site∧List.map GOp.enc a.Script=List.map GOp.enc (K2g a id up).Script∧
   List.map GContainer.enc a.Disk.Containers=List.map GContainer.enc (K2g a id up).Disk.Containers∧List.map GFound.enc a.Disk.Index=List.map GFound.enc (K2g a id up).Disk.Index∧
   List.map GContainer.enc a.Disk.Wanted=List.map GContainer.enc (K2g a id up).Disk.Wanted∧List.map GExclusion.enc a.Exclusions=List.map GExclusion.enc (K2g a id up).Exclusions∧
   (List.map GLibrary.enc a.Libraries).set n (GLibrary.enc {x with Up:=up})=List.map GLibrary.enc (K2g a id up).Libraries∧List.map encI a.Keys=List.map encI (K2g a id up).Keys∧
   List.map GStatement.enc a.Statements=List.map GStatement.enc (K2g a id up).Statements∧a.Now=(K2g a id up).Now)∧true=K3w a id up:=by
 have e:K2g a id up={a with Libraries:=setUp a.Libraries n up}:=by unfold K2g;rw[if_pos hT,hn];rfl
 refine⟨by simp,?_,hT.symm⟩
 rw[e]
 exact⟨rfl,rfl,rfl,rfl,rfl,rfl,set_map_up hx,rfl,rfl,rfl⟩
def M6i:MC:=
(Zs [.box 3 0 (.s 0),.mv 4 cF] [1,2,3] (.seq (.reg [Za (fS 5 3 0),Za (lF 6 1 5),Za (lF 7 1 1),Za (bS 8 .eql 6 7),Za (mS 9 8),Zb 9 true (fS 10 3 2),Zb 9 true (lF 11 1 10),Zb 9 true (lF 12 1 2),Zb 9 true (.bin 13 true .neq (.s 11) (.s 12)),Za (.pick 14 (.s 9) (.s 13) cF),Za (mS 4 14)] [4])
.ret))
theorem Civ(x:GLibrary)(id:Int)(up:Bool):Ctr Tryz.prog N6t [aS x.enc,(false,[.pb [tI id]]),(false,[.pb [tB up]])] [rB (libP id up x)]:=by
 refine cA M6i 1 15 [(.tmp 4,[false])] Tryz.func170 rfl rfl ?_;unfold M6i
 intro hb
 clear hb
 simp only[go_sem]
 repeat' first
  |(refine And.intro ?_ ?_<;>intro h)
 all_goals (unfold libP;cases x.Up<;>cases up<;>simp_all)
def M9i:MC:=
(Zs [.box 3 0 (.s 0),.box 4 1 (.s 1),.box 5 2 (.s 2),.alloc 6 3 [.emp 9,.emp 4,.emp 4,.emp 6,.emp 4,.emp 5,.emp 4,.emp 1,.emp 4,pz],.mv 7 cF] [3,4,5,6] (Zs [lT 10 10 3,.call 11 [4,5,6,7,8,9,10,11,12] (.f N5) [.s 10],.alloc 8 13 [.emp 9,.emp 4,.emp 4,.emp 6,.emp 4,.emp 5,.emp 4,.emp 1,.emp 4,pz],sS 10 8 11] [3,4,5,6,8] (Zs [fS 12 3 6,lF 13 1 12,.clos 14 N6t [4,5],.call 15 [] (.f Nc) [.s 13,.s 14],mS 9 15] [5,6,8,9] (.seq (Zs [mS 16 9,bC 17 .lss 16 0] [5,6,8,9,17] (.cond (.s 17) (Zs [lT 18 10 8,sS 10 6 18,.mv 7 cF] [6,7] .ret) .skip))
(Zs [fS 19 8 6,lF 20 1 19,mS 21 9,lF 22 1 5,xS 23 4 20 21,fS 24 23 2,sS 1 24 22] [6,8] (Zs [lT 25 10 8,sS 10 6 25,.mv 7 cT] [6,7] .ret))))))
theorem Cky(a:GArchive)(id:Int)(up:Bool)(hs:a.size≤1073741824):Ctr Tryz.prog Naa [aS a.enc,aI id,aB up] [rS (K2g a id up).enc,rB (K3w a id up)]:=by
 refine cA M9i 14 26 [(.cell 6 true 10,[true,true,true,true,true,true,true,true,true,false]),(.tmp 7,[false])] Tryz.func76 rfl rfl ?_;unfold M9i
 intro hb
 clear hb
 simp only[go_sem]
 apply K0 (C9 a hs)
 simp only[go_sem]
 intros
 apply K0 (C3e a.Libraries _ [.pb [tI id],.pb [tB up]] (libP id up) fun x _=>Civ x id up)
 simp only[go_sem]
 intros
 refine And.intro ?_ ?_<;>intro h
 ·have hT:K3w a id up=false:=by unfold K3w;rw[decide_eq_false (by omega)]
  simp[K2g,hT]
 ·have hT:K3w a id up=true:=by unfold K3w;rw[decide_eq_true (by omega)]
  obtain⟨n,x,hn,hx⟩:=idxF_pos h
  have hlt:=Kg hx
  have h1:(0:Int)≤n:=by omega
  have h2:(n:Int)<a.Libraries.length:=by omega
  simp only[go_sem,hn,K4 hx,h1,h2]
  exact lib_end hn hx hT
def Ma2:MC:=
(Zs [.box 3 0 (.s 0),.alloc 6 1 [.emp 9,.emp 4,.emp 4,.emp 6,.emp 4,.emp 5,.emp 4,.emp 1,.emp 4,pz],.mv 7 cF] [1,2,3,6] (Zs [lT 10 10 3,.call 11 [2,3,4,5,6,7,8,9,10] (.f Ng) [.s 10],.alloc 8 11 [.emp 9,.emp 4,.emp 4,.emp 6,.emp 4,.emp 5,.emp 4,.emp 1,.emp 4,pz],sS 10 8 11] [1,2,3,6,8] (.seq (Zs [.mv 9 (ci 0)] [1,2,3,6,8,9] (.block 0 (.loop ([1,2,3,6,8,9],[]) (.seq (Zs [mS 12 9,fS 13 3 6,lF 14 1 13,nS 15 14,bS 16 .lss 12 15] [1,2,3,6,8,9,16] (cX 16 0))
(.seq (.block 1 (.seq (.reg [Za (fS 19 3 6),Za (lF 20 1 19),Za (mS 21 9),Za (xS 22 4 20 21),Za (fS 23 22 0),Za (lF 24 1 23),Za (mS 25 1),Za (bS 26 .eql 24 25),Za (mS 27 26),Zb 27 true (fS 28 3 6),Zb 27 true (lF 29 1 28),Zb 27 true (mS 30 9),Zb 27 true (xS 31 4 29 30),Zb 27 true (fS 32 31 2),Zb 27 true (lF 33 1 32),Zb 27 true (mS 34 2),Zb 27 true (.bin 35 true .neq (.s 33) (.s 34)),Za (.pick 36 (.s 27) (.s 35) cF)] [1,2,3,6,8,9,36])
(.cond (.s 36) (Zs [fS 37 8 6,lF 38 1 37,mS 39 9,mS 40 2,xS 41 4 38 39,fS 42 41 2,sS 1 42 40] [6,8] (Zs [lT 43 10 8,sS 10 6 43,.mv 7 cT] [6,7] .ret)) .skip)))
(pr [mS 17 9,bC 18 .add 17 1,mS 9 18] [1,2,3,6,8,9]))))))
(Zs [lT 44 10 8,sS 10 6 44,.mv 7 cF] [6,7] .ret))))
theorem Clf(a:GArchive)(id:Int)(up:Bool)(hs:a.size≤1073741824):Ctr Tryz.prog Nan [aS a.enc,aI id,aB up] [rS (K2g a id up).enc,rB (K3w a id up)]:=by
 refine cA Ma2 12 45 [(.cell 6 true 10,[true,true,true,true,true,true,true,true,true,false]),(.tmp 7,[false])] Tryz.func59 rfl rfl ?_;unfold Ma2
 intro hb
 clear hb
 have hl:a.Libraries.length≤roomB:=by simp only[GArchive.size]at hs;simp only[roomB];omega
 simp only[go_sem]
 apply K0 (Cs a hs)
 simp only[go_sem]
 intros
 refine K5 a.Libraries (fun k=>[(9,vI k)]) (fun k=>[]) (fun k=>((a.Libraries.take k).any (libP id up))=false) hl ?_
 simp only[go_sem]
 refine⟨?_,by simp,?_,?_⟩
 ·simp only[go_sem]
  try trivial
 ·intro k x hx hI h0 h1 hw
  simp only[go_sem,K4 hx,h0,h1,hw]
  refine⟨fun h2=>⟨fun h3=>?_,fun h3=>?_⟩,fun h2=>?_⟩
  ·have hn:=K2w hx hI (p:=libP id up) (by unfold libP;rw[h2,beq_self_eq_true,Bool.true_and];exact bne_iff_ne.2 h3)
   exact lib_end hn hx (by unfold K3w;rw[hn,decide_eq_true (by omega)])
  ·exact K2v hx hI (by unfold libP;rw[h3];simp)
  ·exact K2v hx hI (by unfold libP;simp[h2])
 ·intro hI
  simp only[go_sem]
  rw[List.take_length]at hI
  have hT:K3w a id up=false:=by unfold K3w;rw[K37 hI];rfl
  simp[K2g,hT]
theorem sum_set{α:Type}{f:α→Nat}:∀ {l:List α} {n:Nat} {x y:α},l[n]? =some x→f y=f x→((l.set n y).map f).sum=(l.map f).sum
 | [],n,x,y,h,_=>by simp at h
 |z::l,0,x,y,h,e=>by simp at h;subst h;simp[e]
 |z::l,n+1,x,y,h,e=>by
  have:=sum_set (l:=l) (n:=n) (by simpa using h) e
  simp only[List.set_cons_succ,List.map_cons,List.sum_cons,this]
theorem Kde(a:GArchive)(id:Int)(up:Bool):(K2g a id up).size≤a.size:=by
 unfold K2g
 split
 ·unfold setUp
  split
  ·rename_i x hx
   simp only[GArchive.size,List.length_set]
   rw[sum_set (y:={x with Up:=up}) hx (f:=GLibrary.size) rfl]
   omega
  ·exact Nat.le_refl _
 ·exact Nat.le_refl _
end Go.Proofs.YtjneccbpkckdfaaGreatR
namespace Go.Proofs.YtjneccbpkckdfaaGreatR
namespace Srt
structure Swo {α:Type} (lt:α→α→Bool):Prop where
 asy:∀x y,lt x y=true→lt y x=false
 neg:∀x y z,lt x z=true→lt x y=true∨lt y z=true
variable {α:Type} {lt:α→α→Bool}
theorem Swo.tr(h:Swo lt){x y z:α}(h1:lt x y=true)(h2:lt y z=true):lt x z=true:=by
 rcases h.neg x z y h1 with k|k
 ·exact k
 ·rw[h.asy y z h2]at k;cases k
theorem Swo.ntr(h:Swo lt){x y z:α}(h1:lt x y=false)(h2:lt y z=false):lt x z=false:=by
 cases k:lt x z
 ·rfl
 ·rcases h.neg x y z k with k|k<;>simp_all
theorem Swo.irr(h:Swo lt)(x:α):lt x x=false:=by
 cases k:lt x x
 ·rfl
 ·have:=h.asy x x k;simp_all
theorem Swo.lf(h:Swo lt){x y z:α}(h1:lt x y=true)(h2:lt z y=false):lt x z=true:=by
 rcases h.neg x z y h1 with k|k<;>simp_all
theorem Swo.fl(h:Swo lt){x y z:α}(h1:lt y x=false)(h2:lt y z=true):lt x z=true:=by
 rcases h.neg y x z h2 with k|k<;>simp_all
variable (lt)
def ins(x:α):List α→List α
 | []=>[x]
 |z::zs=>if lt x z then x::z::zs else z::ins x zs
def mrg(A B:List α):List α:=B.foldl (fun acc x=>ins lt x acc) A
def isort(l:List α):List α:=mrg lt [] l
def srt(l:List α):Prop:=l.Pairwise fun x y=>lt y x=false
variable {lt}
theorem mem_ins{x y:α}:∀ {l:List α},y∈ins lt x l↔y=x∨y∈l
 | []=>by simp[ins]
 |z::zs=>by
  simp only[ins]
  split
  ·simp
  ·rw[List.mem_cons,mem_ins,List.mem_cons]
   constructor<;>rintro (h|h|h)<;>simp[h]
theorem len_ins{x:α}:∀ {l:List α},(ins lt x l).length=l.length+1
 | []=>rfl
 |z::zs=>by
  simp only[ins]
  split
  ·rfl
  ·simp[len_ins]
theorem mrg_nil{A:List α}:mrg lt A []=A:=rfl
theorem mrg_cons{A B:List α}{x:α}:mrg lt A (x::B)=mrg lt (ins lt x A) B:=rfl
theorem K49{A B C:List α}:mrg lt A (B++C)=mrg lt (mrg lt A B) C:=List.foldl_append
theorem mem_mrg{y:α}:∀ {B A:List α},y∈mrg lt A B↔y∈A∨y∈B
 | [],A=>by simp[mrg_nil]
 |x::B,A=>by
  rw[mrg_cons,mem_mrg,mem_ins,List.mem_cons]
  exact⟨fun h=>h.elim (fun h=>h.elim (fun h=> .inr (.inl h)) .inl) (fun h=> .inr (.inr h)),fun h=>h.elim (fun h=> .inl (.inr h)) (fun h=>h.elim (fun h=> .inl (.inl h)) .inr)⟩
theorem len_mrg:∀ {B A:List α},(mrg lt A B).length=A.length+B.length
 | [],A=>rfl
 |x::B,A=>by
  rw[mrg_cons,len_mrg,len_ins,List.length_cons];omega
theorem len_isort{l:List α}:(isort lt l).length=l.length:=by
 unfold isort;rw[len_mrg];simp
theorem Kda(h:Swo lt){x y:α}(hxy:lt x y=true):∀(A:List α),ins lt y (ins lt x A)=ins lt x (ins lt y A)
 | []=>by simp[ins,hxy,h.asy x y hxy]
 |z::zs=>by
  cases k1:lt x z<;>cases k2:lt y z
  ·simp[ins,k1,k2,Kda h hxy zs]
  ·rw[h.tr hxy k2]at k1;cases k1
  ·simp[ins,k1,k2,h.asy x y hxy]
  ·simp[ins,k1,k2,hxy,h.asy x y hxy]
theorem Kdh(h:Swo lt){x:α}:∀ {s A:List α},(∀y∈s,lt x y=true)→mrg lt (ins lt x A) s=ins lt x (mrg lt A s)
 | [],A,_=>rfl
 |y::s,A,hs=>by
  rw[mrg_cons,Kda h (hs y (by simp)),Kdh h (fun z hz=>hs z (by simp[hz])),mrg_cons]
theorem K84{x:α}{l:List α}:srt lt (x::l)↔(∀y∈l,lt y x=false)∧srt lt l:=List.pairwise_cons
theorem srt_append{A B:List α}:srt lt (A++B)↔srt lt A∧srt lt B∧∀a∈A,∀b∈B,lt b a=false:=List.pairwise_append
theorem srt_ins(h:Swo lt){x:α}:∀ {l:List α},srt lt l→srt lt (ins lt x l)
 | [],_=>by simp[ins,srt]
 |z::zs,hs=>by
  obtain⟨h1,h2⟩:=K84.1 hs
  simp only[ins]
  split
  ·rename_i k
   refine K84.2 ⟨fun y hy=>?_,hs⟩
   rcases List.mem_cons.1 hy with rfl|hy
   ·exact h.asy _ _ k
   ·exact h.ntr (h1 y hy) (h.asy _ _ k)
  ·rename_i k
   refine K84.2 ⟨fun y hy=>?_,srt_ins h h2⟩
   rcases mem_ins.1 hy with rfl|hy
   ·simpa using k
   ·exact h1 y hy
theorem srt_mrg(h:Swo lt):∀ {B A:List α},srt lt A→srt lt (mrg lt A B)
 | [],A,hA=>hA
 |x::B,A,hA=>srt_mrg h (B:=B) (srt_ins h hA)
theorem srt_isort(h:Swo lt)(l:List α):srt lt (isort lt l):=srt_mrg h List.Pairwise.nil
theorem Kc7(h:Swo lt){x:α}:∀ {l:List α},srt lt l→∃s t,l=s++t∧ins lt x l=s++x::t∧∀y∈t,lt x y=true
 | [],_=>⟨[],[],rfl,rfl,by simp⟩
 |z::zs,hs=>by
  obtain⟨h1,h2⟩:=K84.1 hs
  cases k:lt x z
  ·obtain⟨s,t,e,e2,h3⟩:=Kc7 h (x:=x) h2
   exact⟨z::s,t,by simp[e],by simp[ins,k,e2],h3⟩
  ·refine⟨[],z::zs,rfl,by simp[ins,k],fun y hy=>?_⟩
   rcases List.mem_cons.1 hy with rfl|hy
   ·exact k
   ·exact h.lf k (h1 y hy)
theorem mrg_ins(h:Swo lt){x:α}{A s:List α}(hs:srt lt s):mrg lt A (ins lt x s)=ins lt x (mrg lt A s):=by
 obtain⟨s1,s2,rfl,e,h2⟩:=Kc7 h (x:=x) hs
 rw[e,K49,mrg_cons,Kdh h h2,K49]
theorem isort_snoc{l:List α}{x:α}:isort lt (l++[x])=ins lt x (isort lt l):=by
 unfold isort;rw[K49];rfl
theorem mrg_isort(h:Swo lt){A:List α}(r:List α):mrg lt A (isort lt r)=mrg lt A r:=by
 suffices H:∀(n:Nat) (r:List α),r.length=n→mrg lt A (isort lt r)=mrg lt A r from H _ r rfl
 intro n
 induction n with
 |zero=>intro r hr;obtain rfl:=List.length_eq_zero_iff.1 hr;rfl
 |succ n ih=>
  intro r hr
  rcases List.eq_nil_or_concat r with rfl|⟨s,x,rfl⟩
  ·rfl
  ·rw[List.concat_eq_append]at*
   rw[isort_snoc,mrg_ins h (srt_isort h s),ih s (by simpa using hr),K49];rfl
theorem K8r(h:Swo lt)(l r:List α):isort lt (l++r)=mrg lt (isort lt l) (isort lt r):=by
 rw[mrg_isort h];unfold isort;rw[K49]
theorem Kdb{b:α}{A2:List α}(h:∀a∈A2.head?,lt b a=true):∀(A1:List α),ins lt b (A1++A2)=ins lt b A1++A2
 | []=>by
  cases A2 with
  |nil=>rfl
  |cons z zs=>simp[ins,h z (by simp)]
 |z::zs=>by
  simp only[List.cons_append,ins]
  split
  ·rfl
  ·rw[Kdb h zs,List.cons_append]
theorem K8q{b:α}{A2:List α}:∀ {A1:List α},(∀a∈A1,lt b a=false)→ins lt b (A1++A2)=A1++ins lt b A2
 | [],_=>rfl
 |z::zs,h=>by
  simp only[List.cons_append,ins,h z (by simp),K8q (A1:=zs) (fun a ha=>h a (by simp[ha]))]
  rfl
theorem ins_mid{x:α}{s t:List α}(h1:∀a∈s,lt x a=false)(h2:∀a∈t.head?,lt x a=true):ins lt x (s++t)=s++x::t:=by
 rw[K8q h1]
 cases t with
 |nil=>rfl
 |cons z zs=>simp[ins,h2 z (by simp)]
theorem Kdg{A2:List α}:∀ {B A1:List α},(∀b∈B,∀a∈A2.head?,lt b a=true)→mrg lt (A1++A2) B=mrg lt A1 B++A2
 | [],_,_=>rfl
 |b::B,A1,h=>by
  rw[mrg_cons,Kdb (h b (by simp)),Kdg (fun b hb=>h b (by simp[hb])),mrg_cons]
theorem K8u{A1:List α}:∀ {B A2:List α},(∀b∈B,∀a∈A1,lt b a=false)→mrg lt (A1++A2) B=A1++mrg lt A2 B
 | [],_,_=>rfl
 |b::B,A2,h=>by
  rw[mrg_cons,K8q (h b (by simp)),K8u (fun b hb=>h b (by simp[hb])),mrg_cons]
theorem mrg_nil_srt(h:Swo lt){l:List α}(hs:srt lt l):mrg lt [] l=l:=by
 suffices H:∀(l A:List α),srt lt (A++l)→mrg lt A l=A++l from H l [] (by simpa using hs)
 intro l
 induction l with
 |nil=>intro A _;simp[mrg_nil]
 |cons x l ih=>
  intro A hA
  have:=srt_append.1 hA
  rw[mrg_cons,show ins lt x A=A++[x]from by
   have:=ins_mid (lt:=lt) (x:=x) (s:=A) (t:=[]) (fun a ha=>(srt_append.1 hA).2.2 a ha x (by simp)) (by simp)
   simpa using this,ih (A++[x]) (by simpa using hA)]
  simp
theorem Kcb{A1 A2 B1 B2:List α}(h1:∀b∈B1,∀a∈A2.head?,lt b a=true)(h2:∀b∈B2,∀a∈A1,lt b a=false)(h3:∀b∈B2,∀a∈B1,lt b a=false):mrg lt (A1++A2) (B1++B2)=mrg lt A1 B1++mrg lt A2 B2:=by
 rw[K49,Kdg h1,K8u]
 intro b hb a ha
 rcases mem_mrg.1 ha with k|k
 ·exact h2 b hb a k
 ·exact h3 b hb a k
def blk(lt:α→α→Bool)(s:Nat)(l:List α):List α:=
 if h:s=0∨l.length≤s then isort lt l else isort lt (l.take s)++blk lt s (l.drop s)
termination_by l.length
decreasing_by
 simp only[List.length_drop]
 omega
end Srt
end Go.Proofs.YtjneccbpkckdfaaGreatR
namespace Go.Proofs.YtjneccbpkckdfaaGreatR
open Go Go.RowKit Go.Proofs
open Nat (reduceEqDiff reduceLT reduceLeDiff reduceAdd reduceMul)
open List (reduceReplicate)
abbrev fI(f:FuncId):RV:=⟨false,[(false,.fn f [])]⟩
attribute [go_sem] fI
def two(A:List (List T))(e:List T)(B:List (List T))(e':List T)(C:List (List T)):List (List T):=A++e::(B++e'::C)
theorem K5r{A B C:List (List T)}{p q:Nat}(hp:A.length=p)(hq:p+1+B.length=q):
  (∀e e',(two A e B e' C)[p]? =some e)∧(∀e e',(two A e B e' C)[q]? =some e')∧
  (∀e e' u,(two A e B e' C).set p u=two A u B e' C)∧(∀e e' u,(two A e B e' C).set q u=two A e B u C)∧
  (∀e e',(two A e B e' C).length=A.length+B.length+C.length+2)∧
  (∀e e',(two A e B e' C).getD p []=e)∧(∀e e',(two A e B e' C).getD q []=e'):=by
 subst hp hq
 have h1:∀e e',(two A e B e' C)[A.length]? =some e:=fun e e'=>by simp[two]
 have h2:∀e e',(two A e B e' C)[A.length+1+B.length]? =some e':=fun e e'=>by
  unfold two
  rw[List.getElem?_append_right (by omega),show A.length+1+B.length-A.length=B.length+1 by omega,List.getElem?_cons_succ,List.getElem?_append_right (by omega),Nat.sub_self]
  rfl
 refine⟨h1,h2,fun e e' u=>by simp[two],fun e e' u=>?_,fun e e'=>by simp[two];omega,fun e e'=>by rw[List.getD_eq_getElem?_getD,h1];rfl,fun e e'=>by rw[List.getD_eq_getElem?_getD,h2];rfl⟩
 unfold two
 rw[List.set_append_right _ _ (by omega),show A.length+1+B.length-A.length=B.length+1 by omega,List.set_cons_succ,List.set_append_right _ _ (by omega),Nat.sub_self]
 rfl
def swp{α:Type}(P X M Y Q:List α)(i:Nat):List α:=(P++Y.take i)++(X.drop i++M++X.take i)++(Y.drop i++Q)
theorem swp_len{α:Type}{P X M Y Q:List α}{i:Nat}(h:X.length=Y.length):(swp P X M Y Q i).length=(P++X++M++Y++Q).length:=by
 simp[swp,List.length_take,List.length_drop];omega
theorem swp_two{α:Type}{P X M Y Q:List α}{i:Nat}{x y:α}{f:α→List T}(hx:X[i]? =some x)(hy:Y[i]? =some y):
  (swp P X M Y Q i).map f=two ((P++Y.take i).map f) (f x) ((X.drop (i+1)++M++X.take i).map f) (f y) ((Y.drop (i+1)++Q).map f)∧
  (swp P X M Y Q (i+1)).map f=two ((P++Y.take i).map f) (f y) ((X.drop (i+1)++M++X.take i).map f) (f x) ((Y.drop (i+1)++Q).map f):=by
 constructor
 ·simp[swp,two,Ki hx,Ki hy]
 ·simp[swp,two,Kc hx,Kc hy]
theorem wN{a b:Nat}(h:a+b≤9223372036854775807):IntKind.i64.wrap ((a:Int)+(b:Int))=((a+b:Nat):Int):=by
 rw[wI (by omega) (by omega)];omega
theorem wN1{a:Nat}(h:a+1≤9223372036854775807):IntKind.i64.wrap ((a:Int)+1)=((a+1:Nat):Int):=by
 rw[wI (by omega) (by omega)];omega
theorem wS{a b:Nat}(h:b≤a)(h2:a≤9223372036854775807):IntKind.i64.wrap ((a:Int)-(b:Int))=((a-b:Nat):Int):=by
 rw[wI (by omega) (by omega)];omega
theorem wS1{a:Nat}(h:1≤a)(h2:a≤9223372036854775807):IntKind.i64.wrap ((a:Int)-1)=((a-1:Nat):Int):=by
 rw[wI (by omega) (by omega)];omega
def M1k:MC:=
(Zs [.mv 10 (ci 0)] [0,1,2,3,10] (.block 0 (.loop ([0,1,2,3,10],[]) (.seq (Zs [mS 11 10,mS 12 3,bS 13 .lss 11 12] [0,1,2,3,10,13] (cX 13 0))
(.seq (.block 1 (.dreg [Zc [17,18,19,20,21,22,23,24,25,26,27,28,29,30,31,32,33,34,35] (mS 16 0),Zc [16,18,20,21,22,23,24,25,26,27,28,29,30,31,32,33,34,35] (mS 17 1),Zc [16,17,20,21,22,23,24,25,26,27,28,29,30,31,32,33,34,35] (mS 18 10),Zd [16,20,21,22,23,24,25,26,27,28,29,30,31,32,33,34,35] [1,2] (bS 19 .add 17 18),Zf [16,17,18,19,21,22,23,24,25,26,27,28,29,30,31,32,33,34,35,36] [0] (mS 20 0),Zf [16,17,18,19,20,22,24,25,26,27,28,29,30,31,32,33,34,35,36] [0] (mS 21 2),Zf [16,17,18,19,20,21,24,25,26,27,28,29,30,31,32,33,34,35,36] [0] (mS 22 10),Zg [16,17,18,19,20,24,25,26,27,28,29,30,31,32,33,34,35,36] [0] [5,6] (bS 23 .add 21 22),Zc [16,17,18,19,20,21,22,23,25,26,27,30,31,32,33,34,35] (mS 24 0),Zc [16,17,18,19,20,21,22,23,24,26,30,31,32,33,34,35] (mS 25 2),Zc [16,17,18,19,20,21,22,23,24,25,30,31,32,33,34,35] (mS 26 10),Zd [16,17,18,19,20,21,22,23,24,30,31,32,33,34,35] [9,10] (bS 27 .add 25 26),Zd [16,17,18,19,20,21,22,23,30,31,32,33,34,35] [8,9,10,11] (xS 28 6 24 27),Zd [16,17,18,19,20,21,22,23,30,31,32,33,34,35] [8,9,10,11,12] (lT 29 6 28),Zc [16,17,18,19,20,21,22,23,24,25,26,27,28,29,31,32,33] (mS 30 0),Zc [16,17,18,19,20,21,22,23,24,25,26,27,28,29,30,32] (mS 31 1),Zc [16,17,18,19,20,21,22,23,24,25,26,27,28,29,30,31] (mS 32 10),Zd [16,17,18,19,20,21,22,23,24,25,26,27,28,29,30] [15,16] (bS 33 .add 31 32),Zd [16,17,18,19,20,21,22,23,24,25,26,27,28,29] [14,15,16,17] (xS 34 6 30 33),Zd [16,17,18,19,20,21,22,23,24,25,26,27,28,29] [14,15,16,17,18] (lT 35 6 34),Zd [20,21,22,23] [0,1,2,3,8,9,10,11,12,13,14,15,16,17,18,19] (xS 36 6 16 19),{o:=sS 6 36 29,hs:=[20,21,22,23],ws:=[0],bf:=[0,1,2,3,8,9,10,11,12,13,14,15,16,17,18,19,20]},Ze (.range 22) (xS 37 6 20 23),{o:=sS 6 37 35,ws:=[0],bf:=(.range 23)}] [0,1,2,3,10]))
(pr [mS 14 10,bC 15 .add 14 1,mS 10 15] [0,1,2,3,10]))))))
theorem C1v(P X M Y Q:List GFound)(f:FuncId){a b n:Nat}(ha:P.length=a)(hb:(P++X++M).length=b)(hX:X.length=n)(hY:Y.length=n):CtrI Tryz.prog N1m [oL 6 ((P++X++M++Y++Q).map GFound.enc),iI a,iI b,iI n,fI f] [some (6,(P++Y++M++X++Q).map GFound.enc)] []:=by
 have hL0:(P++X++M++Y++Q).length=b+n+Q.length:=by rw[List.length_append,List.length_append,hb,hY]
 have hL1:(P++Y++M++X++Q).length=(P++X++M++Y++Q).length:=by simp;omega
 have hb':b=a+n+M.length:=by rw[←hb];simp;omega
 have hsw0:swp P X M Y Q 0=P++X++M++Y++Q:=by simp[swp]
 have hswn:swp P X M Y Q n=P++Y++M++X++Q:=by simp[swp,←hX,List.take_of_length_le (show Y.length≤X.length by omega),List.drop_of_length_le (show Y.length≤X.length by omega)]
 refine Ky (M:=M1k) (m:=0) (n:=38) (res:=[]) hmix Tryz.func387 rfl (by kernel_rfl) rfl (by kernel_rfl) (by kernel_rfl) (Nat.le_of_ble_eq_true rfl) rfl rfl ?_;unfold M1k
 intro hbd
 have hl:=Kv hbd
 clear hbd
 simp only[roomB]at hl
 rw[←hsw0,←hswn]
 rw[←hsw0,←hswn]at hL1
 rw[←hsw0]at hl hL0
 subst hX
 generalize hN:(swp P X M Y Q 0).length=N at*
 simp only[go_sem,hN]
 refine K5 X (fun i=>[(10,vI i)]) (fun i=>[(0,⟨1,.row true 6 ((swp P X M Y Q i).map GFound.enc)⟩)]) (fun _=>True) (by simp only[roomB];omega) ?_
 simp only[go_sem]
 refine⟨?_,trivial,?_,?_⟩
 ·simp only[go_sem]
 ·intro i x hx _ h0 h1 hw
  have hi:=Kg hx
  obtain⟨y,hy⟩:=Kb (show i<Y.length by omega)
  obtain⟨e1,e2⟩:=swp_two (P:=P) (M:=M) (Q:=Q) (f:=GFound.enc) hx hy
  have hlen:=swp_len (P:=P) (X:=X) (M:=M) (Y:=Y) (Q:=Q) (i:=i) hY.symm
  rw[e1,e2]
  generalize hAe:(P++Y.take i).map GFound.enc=A at e1 e2
  generalize hBe:(X.drop (i+1)++M++X.take i).map GFound.enc=B at e1 e2
  generalize hCe:(Y.drop (i+1)++Q).map GFound.enc=C at e1 e2
  have hA:A.length=a+i:=by subst hAe;simp;omega
  have hB:(a+i)+1+B.length=b+i:=by subst hBe;simp;omega
  have hC:C.length=Y.length-(i+1)+Q.length:=by subst hCe;simp
  obtain⟨g1,g2,s1,s2,hL,d1,d2⟩:=K5r (C:=C) hA hB
  have hL':∀e e',(two A e B e' C).length=N:=fun e e'=>by rw[hL];omega
  have k1:(0:Int)≤((a+i:Nat):Int):=by omega
  have k2:((a+i:Nat):Int)<(N:Int):=by omega
  have k3:(0:Int)≤((b+i:Nat):Int):=by omega
  have k4:((b+i:Nat):Int)<(N:Int):=by omega
  have k5:¬b+i=a+i:=by omega
  simp only[go_sem,g1,g2,s1,s2,hL',hw,h1,wN (a:=a) (b:=i) (by omega),wN (a:=b) (b:=i) (by omega),k1,k2,k3,k4]
 ·intro _
  simp only[go_sem]
def RotI(P X Y Q:List GFound)(m:Nat)(d:List GFound)(i j:Nat):Prop:=
 ∃C X' Y' D,d=P++C++X'++Y'++D++Q∧X'.length=i∧Y'.length=j∧P.length+C.length+i=m∧C++Y'++X'++D=Y++X∧0<i∧0<j
theorem RotI.gt{P X Y Q:List GFound}{m:Nat}{d:List GFound}{i j:Nat}(h:RotI P X Y Q m d i j)(hij:j<i):
  ∃P' X1 M Y' Q',d=P'++X1++M++Y'++Q'∧P'.length=m-i∧(P'++X1++M).length=m∧X1.length=j∧Y'.length=j∧RotI P X Y Q m (P'++Y'++M++X1++Q') (i-j) j:=by
 obtain⟨C,X',Y',D,rfl,rfl,rfl,h3,h4,h5,h6⟩:=h
 obtain⟨X1,X2,rfl,hX1⟩:∃X1 X2,X'=X1++X2∧X1.length=Y'.length:=⟨X'.take Y'.length,X'.drop Y'.length,(List.take_append_drop _ _).symm,by simp;omega⟩
 simp only[List.length_append]at*
 exact⟨P++C,X1,X2,Y',D++Q,by simp,by simp;omega,by simp;omega,hX1,rfl,C++Y',X2,X1,D,by simp,by omega,by omega,by simp;omega,by rw[←h4];simp,by omega,by omega⟩
theorem RotI.le{P X Y Q:List GFound}{m:Nat}{d:List GFound}{i j:Nat}(h:RotI P X Y Q m d i j)(hij:i<j):
  ∃P' X' M Y2 Q',d=P'++X'++M++Y2++Q'∧P'.length=m-i∧(P'++X'++M).length=m+j-i∧X'.length=i∧Y2.length=i∧RotI P X Y Q m (P'++Y2++M++X'++Q') i (j-i):=by
 obtain⟨C,X',Y',D,rfl,rfl,rfl,h3,h4,h5,h6⟩:=h
 obtain⟨Y1,Y2,rfl,hY2⟩:∃Y1 Y2,Y'=Y1++Y2∧Y2.length=X'.length:=⟨Y'.take (Y'.length-X'.length),Y'.drop (Y'.length-X'.length),(List.take_append_drop _ _).symm,by simp;omega⟩
 simp only[List.length_append]at*
 exact⟨P++C,X',Y1,Y2,D++Q,by simp,by simp;omega,by simp;omega,rfl,hY2,C,Y2,Y1,X'++D,by simp,by omega,by omega,by omega,by rw[←h4];simp,by omega,by omega⟩
theorem RotI.eq{P X Y Q:List GFound}{m:Nat}{d:List GFound}{i:Nat}(h:RotI P X Y Q m d i i):
  ∃P' X' Y' Q',d=P'++X'++[]++Y'++Q'∧P'.length=m-i∧(P'++X'++[]).length=m∧X'.length=i∧Y'.length=i∧P'++Y'++[]++X'++Q'=P++Y++X++Q:=by
 obtain⟨C,X',Y',D,rfl,rfl,h2,h3,h4,h5,h6⟩:=h
 refine⟨P++C,X',Y',D++Q,by simp,by simp;omega,by simp;omega,rfl,h2,?_⟩
 have:=congrArg (fun l=>P++(l++Q)) h4
 simpa using this
theorem RotI.len{P X Y Q:List GFound}{m:Nat}{d:List GFound}{i j:Nat}(h:RotI P X Y Q m d i j):d.length=(P++X++Y++Q).length∧i≤m∧m+j≤d.length∧0<i∧0<j:=by
 obtain⟨C,X',Y',D,rfl,rfl,rfl,h3,h4,h5,h6⟩:=h
 have:=congrArg List.length h4
 simp at this ⊢
 omega
theorem RotI.start{P X Y Q:List GFound}{m i j:Nat}(hm:P.length+X.length=m)(hi:X.length=i)(hj:Y.length=j)(hX:0<X.length)(hY:0<Y.length):RotI P X Y Q m (P++X++Y++Q) i j:=
 ⟨[],X,Y,[],by simp,hi,hj,by simp;omega,by simp,by omega,by omega⟩
def Y30(v0:Nat):MC:=
(Zs [mS 12 2,mS 13 1,bS 14 .sub 12 13,mS 10 14] [0,2,3,4,10] (Zs [mS 15 3,mS 16 2,bS 17 .sub 15 16,mS 11 17] [0,2,4,10,11] (.seq (.block 0 (.loop ([0,2,4,10,11],[]) (.seq (Zs [mS 18 10,mS 19 11,bS 20 .neq 18 19] [0,2,4,10,11,20] (cX 20 0))
(.block 1 (Zs [mS 21 10,mS 22 11,bS 23 .gtr 21 22] [0,2,4,10,11,23] (.cond (.s 23) (Zs [mS 24 0,mS 25 2,mS 26 10,bS 27 .sub 25 26,mS 28 2,mS 29 11,mS 30 4,.callI 31 [] (.f v0) [.s 24,.s 27,.s 28,.s 29,.s 30] [0] []] [0,2,4,10,11] (pr [mS 32 10,mS 33 11,bS 34 .sub 32 33,mS 10 34] [0,2,4,10,11])) (Zs [mS 35 0,mS 36 2,mS 37 10,bS 38 .sub 36 37,mS 39 2,mS 40 11,bS 41 .add 39 40,mS 42 10,bS 43 .sub 41 42,mS 44 10,mS 45 4,.callI 46 [] (.f v0) [.s 35,.s 38,.s 43,.s 44,.s 45] [0] []] [0,2,4,10,11] (pr [mS 47 11,mS 48 10,bS 49 .sub 47 48,mS 11 49] [0,2,4,10,11]))))))))
(pr [mS 50 0,mS 51 2,mS 52 10,bS 53 .sub 51 52,mS 54 2,mS 55 10,mS 56 4,.callI 57 [] (.f v0) [.s 50,.s 53,.s 54,.s 55,.s 56] [0] []] []))))
attribute [go_sem] Y30
def M1y:MC:=Y30 N1m
theorem Cb(P X Y Q:List GFound)(f:FuncId){a m b:Nat}(ha:P.length=a)(hm:(P++X).length=m)(hb:(P++X++Y).length=b)(hX:0<X.length)(hY:0<Y.length):CtrI Tryz.prog N22 [oL 6 ((P++X++Y++Q).map GFound.enc),iI a,iI m,iI b,fI f] [some (6,(P++Y++X++Q).map GFound.enc)] []:=by
 refine Ky (M:=M1y) (m:=0) (n:=58) (res:=[]) hmix Tryz.func365 rfl (by kernel_rfl) rfl (by kernel_rfl) (by kernel_rfl) (Nat.le_of_ble_eq_true rfl) rfl rfl ?_;unfold M1y
 intro hbd
 have hl:=Kv hbd
 clear hbd
 have hN2:(P++Y++X++Q).length=(P++X++Y++Q).length:=by simp;omega
 have hm':m=a+X.length:=by rw[←hm,←ha];simp
 have hb':b=m+Y.length:=by rw[←hb,←hm];simp;omega
 have hbN:b≤(P++X++Y++Q).length:=by rw[List.length_append,hb];omega
 generalize hN:(P++X++Y++Q).length=N at*
 simp only[roomB]at hl
 simp only[go_sem,hN,wS (a:=m) (b:=a) (by omega) (by omega),wS (a:=b) (b:=m) (by omega) (by omega)]
 refine Kj (ι:=List GFound×Nat×Nat) (fun s=>[(10,vI s.2.1),(11,vI s.2.2)]) (fun s=>[(0,⟨1,.row true 6 (s.1.map GFound.enc)⟩)]) (fun s=>RotI P X Y Q m s.1 s.2.1 s.2.2) (fun s=>s.2.1+s.2.2) (P++X++Y++Q,m-a,b-m) ?_
 simp only[go_sem]
 refine⟨?_,RotI.start (by omega) (show X.length=m-a by omega) (show Y.length=b-m by omega) hX hY,?_⟩
 ·simp only[go_sem]
 ·rintro ⟨d,i,j⟩ hI
  simp only at hI
  obtain⟨hd,h1,h2,h3,h4⟩:=hI.len
  rw[hN]at hd
  simp only[go_sem,hd]
  refine⟨fun hne=>⟨fun hgt=>?_,fun hle=>?_⟩,fun heq=>?_⟩
  ·obtain⟨P',X1,M,Y',Q',rfl,k1,k2,k3,k4,hR⟩:=hI.gt (by omega)
   have hd2:=hR.len.1
   rw[hN]at hd2
   rw[wS h1 (by omega)]
   apply K7 (C1v P' X1 M Y' Q' f k1 k2 k3 k4)
   simp only[go_sem,wS (a:=i) (b:=j) (by omega) (by omega)]
   exact⟨(_,i-j,j),⟨⟨rfl,rfl⟩,rfl⟩,hR,by show i-j+j<i+j;omega⟩
  ·obtain⟨P',X1,M,Y',Q',rfl,k1,k2,k3,k4,hR⟩:=hI.le (by omega)
   have hd2:=hR.len.1
   rw[hN]at hd2
   rw[wS h1 (by omega),wN (by omega),wS (a:=m+j) (b:=i) (by omega) (by omega)]
   apply K7 (C1v P' X1 M Y' Q' f k1 k2 k3 k4)
   simp only[go_sem,wS (a:=j) (b:=i) (by omega) (by omega)]
   exact⟨(_,i,j-i),⟨⟨rfl,rfl⟩,rfl⟩,hR,by show i+(j-i)<i+j;omega⟩
  ·obtain rfl:i=j:=by omega
   obtain⟨P',X1,Y',Q',rfl,k1,k2,k3,k4,hR⟩:=hI.eq
   rw[wS h1 (by omega)]
   apply K7 (C1v P' X1 [] Y' Q' f k1 k2 k3 k4)
   rw[hR]
   simp only[go_sem]
def ltc(c:GFound→GFound→Int)(x y:GFound):Bool:=decide (c x y<0)
def InsI(lt:GFound→GFound→Bool)(P S R:List GFound)(x:GFound)(d:List GFound)(j:Nat):Prop:=
 ∃s1 s2,d=P++s1++x::s2++R∧P.length+s1.length=j∧s1++s2=S∧∀y∈s2,lt x y=true
theorem InsI.len{lt:GFound→GFound→Bool}{P S R:List GFound}{x:GFound}{d:List GFound}{j:Nat}(h:InsI lt P S R x d j):d.length=P.length+S.length+1+R.length∧P.length≤j∧j≤P.length+S.length:=by
 obtain⟨s1,s2,rfl,rfl,rfl,h⟩:=h
 simp;omega
theorem InsI.done{lt:GFound→GFound→Bool}(hw:Srt.Swo lt){P S R:List GFound}{x:GFound}{d:List GFound}{j:Nat}(h:InsI lt P S R x d j)(hs:Srt.srt lt S)(hj:j=P.length∨∀z∈d[j-1]?,lt x z=false):d=P++Srt.ins lt x S++R:=by
 obtain⟨s1,s2,rfl,rfl,rfl,h⟩:=h
 rw[Srt.ins_mid]
 ·simp
 ·intro y hy
  rcases List.eq_nil_or_concat s1 with rfl|⟨s,z,rfl⟩
  ·simp at hy
  ·rcases hj with hj|hj
   ·simp at hj
   ·rw[List.concat_eq_append]at*
    have hz:lt x z=false:=hj z (by simp[])
    rcases List.mem_append.1 hy with k|k
    ·have:=(Srt.srt_append.1 (Srt.srt_append.1 hs).1).2.2 y k z (by simp)
     exact hw.ntr hz this
    ·obtain rfl:=List.mem_singleton.1 k
     exact hz
 ·intro y hy
  exact h y (List.mem_of_mem_head? hy)
theorem InsI.step{lt:GFound→GFound→Bool}{P S R:List GFound}{x:GFound}{d:List GFound}{j:Nat}(h:InsI lt P S R x d j)(hj:P.length<j):
  ∃A z C,d=A++z::([]++x::C)∧A.length=j-1∧d[j-1]? =some z∧(lt x z=true→InsI lt P S R x (A++x::([]++z::C)) (j-1)):=by
 obtain⟨s1,s2,rfl,rfl,rfl,h⟩:=h
 rcases List.eq_nil_or_concat s1 with rfl|⟨s,z,rfl⟩
 ·simp at hj
 ·rw[List.concat_eq_append]at*
  refine⟨P++s,z,s2++R,by simp,by simp,by simp[],fun hl=>⟨s,z::s2,by simp,by simp,by simp,?_⟩⟩
  intro y hy
  rcases List.mem_cons.1 hy with rfl|k
  ·exact hl
  ·exact h y k
def M1b:MC:=
(Zs [mS 10 1,bC 11 .add 10 1,mS 8 11] [0,1,2,3,8] (.block 0 (.loop ([0,1,2,3,8],[]) (.seq (Zs [mS 12 8,mS 13 2,bS 14 .lss 12 13] [0,1,2,3,8,14] (cX 14 0))
(.seq (.block 1 (Zs [mS 17 8,mS 9 17] [0,1,2,3,8,9] (.block 2 (.loop ([0,1,2,3,8,9],[]) (.seq (.seq (.dreg [Zc [19] (mS 18 9),Zc [18] (mS 19 1),Ze [0,1] (bS 20 .gtr 18 19),Ze [0,1,2] (mS 21 20),{o:=mS 22 3,g:=some (21,true),hs:=[23,24,25,26,27,28,29,30,31],bf:=(.range 4)},{o:=mS 23 0,g:=some (21,true),hs:=[22,24,27,28,29,30,31],bf:=(.range 4)},{o:=mS 24 9,g:=some (21,true),hs:=[22,23,27,28,29,30,31],bf:=(.range 4)},{o:=xS 25 6 23 24,g:=some (21,true),hs:=[22,27,28,29,30,31],bf:=[0,1,2,3,5,6]},{o:=lT 26 6 25,g:=some (21,true),hs:=[22,27,28,29,30,31],bf:=[0,1,2,3,5,6,7]},{o:=mS 27 0,g:=some (21,true),hs:=[22,23,24,25,26,28,29],bf:=(.range 4)},{o:=mS 28 9,g:=some (21,true),hs:=[22,23,24,25,26,27],bf:=(.range 4)},{o:=bC 29 .sub 28 1,g:=some (21,true),hs:=[22,23,24,25,26,27],bf:=[0,1,2,3,10]},{o:=xS 30 6 27 29,g:=some (21,true),hs:=[22,23,24,25,26],bf:=[0,1,2,3,9,10,11]},{o:=lT 31 6 30,g:=some (21,true),hs:=[22,23,24,25,26],bf:=[0,1,2,3,9,10,11,12]},{o:= .call 32 [] (.s 22) [.s 26,.s 31],g:=some (21,true),bf:=(.range 14)},{o:=bC 33 .lss 32 0,g:=some (21,true),bf:=(.range 15)},Ze (.range 16) (.pick 34 (.s 21) (.s 33) cF)] [0,1,2,3,8,9,34])
(cX 34 2))
(.seq (.block 3 (.dreg [Zc [38,39,40,41,42,43,44,45,46,47,48,49,50] (mS 37 0),Zc [37,39,40,41,42,43,44,45,46,47,48,49,50] (mS 38 9),Zf [37,38,40,41,42,43,44,45,46,47,48,49,50,51] [0] (mS 39 0),Zf [37,38,39,42,43,44,45,46,47,48,49,50,51] [0] (mS 40 9),Zg [37,38,39,42,43,44,45,46,47,48,49,50,51] [0] [3] (bC 41 .sub 40 1),Zc [37,38,39,40,41,43,44,47,48,49,50] (mS 42 0),Zc [37,38,39,40,41,42,47,48,49,50] (mS 43 9),Zd [37,38,39,40,41,42,47,48,49,50] [6] (bC 44 .sub 43 1),Zd [37,38,39,40,41,47,48,49,50] [5,6,7] (xS 45 6 42 44),Zd [37,38,39,40,41,47,48,49,50] [5,6,7,8] (lT 46 6 45),Zc [37,38,39,40,41,42,43,44,45,46,48] (mS 47 0),Zc [37,38,39,40,41,42,43,44,45,46,47] (mS 48 9),Zd [37,38,39,40,41,42,43,44,45,46] [10,11] (xS 49 6 47 48),Zd [37,38,39,40,41,42,43,44,45,46] [10,11,12] (lT 50 6 49),Zd [39,40,41] [0,1,5,6,7,8,9,10,11,12,13] (xS 51 6 37 38),{o:=sS 6 51 46,hs:=[39,40,41],ws:=[0],bf:=[0,1,5,6,7,8,9,10,11,12,13,14]},Ze (.range 16) (xS 52 6 39 41),{o:=sS 6 52 50,ws:=[0],bf:=(.range 17)}] [0,1,2,3,8,9]))
(pr [mS 35 9,bC 36 .sub 35 1,mS 9 36] [0,1,2,3,8,9])))))))
(pr [mS 15 8,bC 16 .add 15 1,mS 8 16] [0,1,2,3,8]))))))
theorem C2q(P X Q:List GFound)(f:FuncId)(c:GFound→GFound→Int)(hc:∀x y,Ctr Tryz.prog f [aS x.enc,aS y.enc] [rI (c x y)])(hw:Srt.Swo (ltc c)){a b:Nat}(ha:P.length=a)(hb:(P++X).length=b):CtrI Tryz.prog N1e [oL 6 ((P++X++Q).map GFound.enc),iI a,iI b,fI f] [some (6,(P++Srt.isort (ltc c) X++Q).map GFound.enc)] []:=by
 have hlk:∀k,(P++Srt.isort (ltc c) (X.take k)++(X.drop k++Q)).length=(P++X++Q).length:=fun k=>by simp[Srt.len_isort];omega
 refine Ky (M:=M1b) (m:=0) (n:=53) (res:=[]) hmix Tryz.func319 rfl (by kernel_rfl) rfl (by kernel_rfl) (by kernel_rfl) (Nat.le_of_ble_eq_true rfl) rfl rfl ?_;unfold M1b
 intro hbd
 have hl:=Kv hbd
 clear hbd
 have hb':b=a+X.length:=by rw[←hb,←ha];simp
 have hbN:b≤(P++X++Q).length:=by rw[List.length_append,hb];omega
 generalize hN:(P++X++Q).length=N at*
 simp only[roomB]at hl
 simp only[go_sem,hN,wN1 (a:=a) (by omega)]
 refine Kj (fun k:Nat=>[(8,vI ((a+k:Nat):Int))]) (fun k=>[(0,⟨1,.row true 6 ((P++Srt.isort (ltc c) (X.take k)++(X.drop k++Q)).map GFound.enc)⟩)]) (fun k=>1≤k∧(k≤X.length∨k=1)) (fun k=>X.length-k) 1 ?_
 simp only[go_sem]
 refine⟨?_,⟨by omega,by omega⟩,?_⟩
 ·simp only[go_sem]
  cases X with
  |nil=>simp[Srt.isort,Srt.mrg]
  |cons x X=>simp[Srt.isort,Srt.mrg,Srt.ins]
 ·rintro k ⟨h1,h2⟩
  simp only[go_sem]
  refine⟨fun hlt=>?_,fun hge=>?_⟩
  ·obtain⟨x,hx⟩:=Kb (show k<X.length by omega)
   refine Kj (ι:=List GFound×Nat) (fun s=>[(9,vI s.2)]) (fun s=>[(0,⟨1,.row true 6 (s.1.map GFound.enc)⟩)]) (fun s=>InsI (ltc c) P (Srt.isort (ltc c) (X.take k)) (X.drop (k+1)++Q) x s.1 s.2) (fun s=>s.2) (P++Srt.isort (ltc c) (X.take k)++(X.drop k++Q),a+k) ?_
   simp only[go_sem]
   refine⟨?_,⟨Srt.isort (ltc c) (X.take k),[],by simp[Ki hx],by simp[Srt.len_isort];omega,by simp,by simp⟩,?_⟩
   ·simp only[go_sem]
   ·rintro ⟨d,j⟩ hI
    simp only at hI
    obtain⟨hd,h3,h4⟩:=hI.len
    have hdN:d.length=N:=by
     have:=hlk k
     simp[Ki hx]at this hd
     omega
    have hdone:(j=P.length∨∀z∈d[j-1]?,ltc c x z=false)→d.map GFound.enc=(P++Srt.isort (ltc c) (X.take (k+1))++(X.drop (k+1)++Q)).map GFound.enc:=fun h=>by
     rw[hI.done hw (Srt.srt_isort hw _) h,Kc hx,Srt.isort_snoc]
    by_cases hj:P.length<j
    ·obtain⟨A,z,C,e,k1,k2,k3⟩:=hI.step hj
     have e':d.map GFound.enc=two (A.map GFound.enc) z.enc [] x.enc (C.map GFound.enc):=by subst e;simp[two]
     have e2:(A++x::([]++z::C)).map GFound.enc=two (A.map GFound.enc) x.enc [] z.enc (C.map GFound.enc):=by simp[two]
     obtain⟨g1,g2,s1,s2,hL,d1,d2⟩:=K5r (A:=A.map GFound.enc) (B:=[]) (C:=C.map GFound.enc) (p:=j-1) (q:=j) (by simpa using k1) (by simp;omega)
     have hL':∀u v,(two (A.map GFound.enc) u [] v (C.map GFound.enc)).length=N:=fun u v=>by
      rw[←hdN,hL,e];simp;omega
     rw[e']
     have j0:(j:Int)>(a:Int):=by omega
     have j1:(0:Int)≤(j:Int):=by omega
     have j2:(j:Int)<(N:Int):=by omega
     have j3:(0:Int)≤((j-1:Nat):Int):=by omega
     have j4:((j-1:Nat):Int)<(N:Int):=by omega
     simp only[go_sem,hL',g1,g2,j0,j1,j2,j3,j4,wS1 (a:=j) (by omega) (by omega)]
     apply K0 (hc x z)
     simp only[go_sem,hL',g1,g2,s1,s2,j1,j2,j3,j4,wS1 (a:=j) (by omega) (by omega),wN1 (a:=a+k) (by omega)]
     intro _
     refine⟨fun hn=>⟨(A++x::([]++z::C),j-1),⟨rfl,e2.symm⟩,k3 (by simpa[ltc]using hn),by show j-1<j;omega⟩,fun hn=>?_⟩
     have hz:ltc c x z=false:=by simpa[ltc]using hn
     have:=hdone (.inr (by rw[k2];intro y hy;obtain rfl:=Option.some.inj hy;exact hz))
     rw[e']at this
     exact⟨k+1,⟨rfl,this⟩,⟨by omega,by omega⟩,by omega⟩
    ·have j0:¬(j:Int)>(a:Int):=by omega
     simp only[go_sem,j0,wN1 (a:=a+k) (by omega)]
     have:=hdone (.inl (by omega))
     exact⟨k+1,⟨rfl,this⟩,⟨by omega,by omega⟩,by omega⟩
  ·have hk:X.length≤k:=by omega
   rw[List.take_of_length_le hk,List.drop_of_length_le hk,List.nil_append]
end Go.Proofs.YtjneccbpkckdfaaGreatR
namespace Go.Proofs.YtjneccbpkckdfaaGreatR
open Go Go.RowKit Go.Proofs
open Nat (reduceEqDiff reduceLT reduceLeDiff reduceAdd reduceMul)
open List (reduceReplicate)
namespace Srt
variable {α:Type} {lt:α→α→Bool}
theorem srt_at{l:List α}(h:srt lt l){i j:Nat}{x y:α}(hi:l[i]? =some x)(hj:l[j]? =some y)(hij:i<j):lt y x=false:=by
 obtain⟨h1,rfl⟩:=List.getElem?_eq_some_iff.1 hi
 obtain⟨h2,rfl⟩:=List.getElem?_eq_some_iff.1 hj
 exact(List.pairwise_iff_getElem.1 h) i j h1 h2 hij
theorem K44(hw:Swo lt){l:List α}(h:srt lt l){i j:Nat}{x y:α}(hi:l[i]? =some x)(hj:l[j]? =some y)(hij:i≤j):lt y x=false:=by
 rcases Nat.lt_or_eq_of_le hij with k|rfl
 ·exact srt_at h hi hj k
 ·obtain rfl:=Option.some.inj (hi.symm.trans hj)
  exact hw.irr x
theorem K3t{l:List α}{u:Nat}{x:α}(h:x∈l.take u):∃i,i<u∧l[i]? =some x:=by
 obtain⟨i,hi⟩:=List.mem_iff_getElem?.1 h
 rw[List.getElem?_take]at hi
 split at hi
 ·exact⟨i,by assumption,hi⟩
 ·cases hi
theorem K4f{l:List α}{u:Nat}{x:α}(h:x∈l.drop u):∃i,u≤i∧l[i]? =some x:=by
 obtain⟨i,hi⟩:=List.mem_iff_getElem?.1 h
 rw[List.getElem?_drop]at hi
 exact⟨u+i,by omega,hi⟩
theorem Kd8{l:List α}{u:Nat}{x:α}(h:x∈(l.drop u).head?):l[u]? =some x:=by
 rw[List.head?_drop]at h
 exact h
theorem mrg_sym(hw:Swo lt){X Y:List α}(hX:srt lt X)(hY:srt lt Y){u M:Nat}(huX:u≤X.length)(huM:u≤M)
  (h1:u=0∨Y.length≤M-u∨∃y x,Y[M-u]? =some y∧X[u-1]? =some x∧lt y x=false)
  (h2:u=M∨u=X.length∨∃y x,Y[M-1-u]? =some y∧X[u]? =some x∧lt y x=true):
  mrg lt X Y=mrg lt (X.take u) (Y.take (M-u))++mrg lt (X.drop u) (Y.drop (M-u)):=by
 conv=>lhs;rw[←List.take_append_drop u X,←List.take_append_drop (M-u) Y]
 refine Kcb ?_ ?_ ?_
 ·intro b hb a ha
  obtain⟨i,hi,eb⟩:=K3t hb
  have ea:=Kd8 ha
  have hlt:=Kg ea
  rcases h2 with h2|h2|⟨y,x,e1,e2,h2⟩
  ·omega
  ·omega
  ·obtain rfl:=Option.some.inj (e2.symm.trans ea)
   exact hw.fl (K44 hw hY eb e1 (by omega)) h2
 ·intro b hb a ha
  obtain⟨i,hi,eb⟩:=K4f hb
  obtain⟨k,hk,ea⟩:=K3t ha
  have hlt:=Kg eb
  rcases h1 with h1|h1|⟨y,x,e1,e2,h1⟩
  ·omega
  ·omega
  ·have p1:=K44 hw hY e1 eb (by omega)
   have p2:=K44 hw hX ea e2 (by omega)
   exact hw.ntr (hw.ntr p1 h1) p2
 ·intro b hb a ha
  obtain⟨i,hi,eb⟩:=K4f hb
  obtain⟨k,hk,ea⟩:=K3t ha
  exact srt_at hY ea eb (by omega)
theorem mrg_one(hw:Swo lt){x:α}{Y:List α}(hY:srt lt Y){u:Nat}(h1:∀y∈Y.take u,lt y x=true)(h2:∀y∈Y.drop u,lt y x=false):mrg lt [x] Y=Y.take u++x::Y.drop u:=by
 have e:=Kcb (lt:=lt) (A1:=[]) (A2:=[x]) (B1:=Y.take u) (B2:=Y.drop u) (by simpa using h1) (by simp) (by
  intro b hb a ha
  obtain⟨i,hi,eb⟩:=K4f hb
  obtain⟨k,hk,ea⟩:=K3t ha
  exact srt_at hY ea eb (by omega))
 rw[List.take_append_drop,List.nil_append]at e
 rw[e,mrg_nil_srt hw (srt_append.1 ((List.take_append_drop u Y).symm▸hY)).1]
 have e2:=K8u (lt:=lt) (A1:=[x]) (A2:=[]) (B:=Y.drop u) (by simpa using h2)
 rw[List.append_nil]at e2
 rw[e2,mrg_nil_srt hw (srt_append.1 ((List.take_append_drop u Y).symm▸hY)).2.1]
 rfl
theorem mrg_last{y:α}{X:List α}{u:Nat}(h1:∀z∈X.take u,lt y z=false)(h2:∀z∈X.drop u,lt y z=true):mrg lt X [y]=X.take u++y::X.drop u:=by
 have:=ins_mid (lt:=lt) (x:=y) h1 (fun z hz=>h2 z (List.mem_of_mem_head? hz))
 rw[List.take_append_drop]at this
 exact this
theorem lo_of(hw:Swo lt){Y:List α}(hY:srt lt Y){w:Nat}{x y:α}(e:Y[w]? =some y)(h:lt y x=true):∀z∈Y.take (w+1),lt z x=true:=fun z hz=>by
 obtain⟨i,hi,ez⟩:=K3t hz
 exact hw.fl (K44 hw hY ez e (by omega)) h
theorem hi_of(hw:Swo lt){Y:List α}(hY:srt lt Y){w:Nat}{x y:α}(e:Y[w]? =some y)(h:lt y x=false):∀z∈Y.drop w,lt z x=false:=fun z hz=>by
 obtain⟨i,hi,ez⟩:=K4f hz
 exact hw.ntr (K44 hw hY e ez hi) h
theorem lo_of'(hw:Swo lt){X:List α}(hX:srt lt X){w:Nat}{x y:α}(e:X[w]? =some x)(h:lt y x=false):∀z∈X.take (w+1),lt y z=false:=fun z hz=>by
 obtain⟨i,hi,ez⟩:=K3t hz
 exact hw.ntr h (K44 hw hX ez e (by omega))
theorem hi_of'(hw:Swo lt){X:List α}(hX:srt lt X){w:Nat}{x y:α}(e:X[w]? =some x)(h:lt y x=true):∀z∈X.drop w,lt y z=true:=fun z hz=>by
 obtain⟨i,hi,ez⟩:=K4f hz
 exact hw.lf h (K44 hw hX e ez hi)
end Srt
theorem shr1{k:Int}:(if (1:Int)<0 then none else some (Value.int IntKind.u64 (k.fdiv (2^min (Int.toNat 1) 64))))=some (Value.int IntKind.u64 (k.fdiv 2)):=by rw[if_neg (by decide)];rfl
theorem u64_wrap{n:Int}(h1:0≤n)(h2:n≤9223372036854775807):IntKind.u64.wrap n=n:=by
 simp only[IntKind.wrap,IntKind.signed,IntKind.bits,Bool.false_and,Bool.false_eq_true,if_false]
 omega
theorem K3s{i j:Nat}(h:i+j≤9223372036854775807):(IntKind.u64.wrap (IntKind.i64.wrap ((i:Int)+(j:Int)))).fdiv 2=(((i+j)/2:Nat):Int):=by
 rw[wN h,u64_wrap (by omega) (by omega),Int.fdiv_eq_ediv_of_nonneg _ (by omega)]
 omega
theorem wK{k:Nat}(h:k≤9223372036854775807):IntKind.i64.wrap (k:Int)=(k:Int):=wI (by omega) (by omega)
def SymI(lt:GFound→GFound→Bool)(X Y:List GFound)(M u0 v0 u v:Nat):Prop:=
 u0≤u∧u≤v∧v≤v0∧(u=0∨Y.length≤M-u∨∃y x,Y[M-u]? =some y∧X[u-1]? =some x∧lt y x=false)∧
  (v=M∨v=X.length∨∃y x,Y[M-1-v]? =some y∧X[v]? =some x∧lt y x=true)
theorem SymI.fin{lt:GFound→GFound→Bool}(hw:Srt.Swo lt){X Y:List GFound}{M u0 v0 u:Nat}(h:SymI lt X Y M u0 v0 u u)(hX:Srt.srt lt X)(hY:Srt.srt lt Y)(q2:v0≤M)(q3:v0≤X.length)(q4:M≤u0+Y.length):
  ∃A1 A2 B1 B2,X=A1++A2∧Y=B1++B2∧A1.length=u∧B1.length=M-u∧u≤M∧Srt.mrg lt X Y=Srt.mrg lt A1 B1++Srt.mrg lt A2 B2∧Srt.srt lt A1∧Srt.srt lt A2∧Srt.srt lt B1∧Srt.srt lt B2:=by
 obtain⟨h1,h2,h3,h4,h5⟩:=h
 have e:=Srt.mrg_sym hw hX hY (by omega) (by omega) h4 h5
 have sX:=Srt.srt_append.1 ((List.take_append_drop u X).symm▸hX)
 have sY:=Srt.srt_append.1 ((List.take_append_drop (M-u) Y).symm▸hY)
 exact⟨X.take u,X.drop u,Y.take (M-u),Y.drop (M-u),(List.take_append_drop _ _).symm,(List.take_append_drop _ _).symm,by simp;omega,by simp;omega,by omega,e,sX.1,sX.2.1,sY.1,sY.2.1⟩
theorem sym7{u l2 k l4 M:Nat}(hk:k=M-u)(huM:u≤M)(hM:M=(u+l2+(k+l4))/2)(hX:2≤u+l2)(hY:2≤k+l4):
  (0<u∧0<l2∧0<k∧0<l4)∨(u=0∧0<l2∧0<k∧0<l4)∨(0<u∧l2=0∧0<k∧0<l4)∨(0<u∧0<l2∧k=0∧0<l4)∨(0<u∧0<l2∧0<k∧l4=0)∨(u=0∧0<l2∧0<k∧l4=0)∨(0<u∧l2=0∧k=0∧0<l4):=by omega
theorem K8{i j:Nat}(k:Nat)(h:j=i+k)(hk:0<k):(i:Int)<(j:Int):=by omega
theorem Kr{i j:Nat}(k:Nat)(h:j=i+k)(hk:k=0):¬(i:Int)<(j:Int):=by omega
theorem symL(lt:GFound→GFound→Bool){P A1 A2 B1 B2 Q:List GFound}{a m b M u N n:Nat}(ha:P.length=a)(hA1:A1.length=u)(hB1:B1.length=M-u)(huM:u≤M)(hm:m=a+(A1++A2).length)(hb:b=m+(B1++B2).length)
  (hN:(P++(A1++A2)++(B1++B2)++Q).length=N) (hM:M=((A1++A2).length+(B1++B2).length)/2) (hn:(A1++A2).length+(B1++B2).length≤n+1) (h1:¬((m-a:Nat):Int)=1) (h2:¬((b-m:Nat):Int)=1) (hX:0<(A1++A2).length) (hY:0<(B1++B2).length):
  ((P++A1++B1++A2++(B2++Q)).length=N∧(P++A1++A2++B1++(B2++Q)).length=N∧(P++A1++B1++(A2++(B2++Q))).length=N∧(P++Srt.mrg lt A1 B1++A2++B2++Q).length=N∧(P++Srt.mrg lt A1 B1++(A2++(B2++Q))).length=N∧(P++Srt.mrg lt A1 B1++Srt.mrg lt A2 B2++Q).length=N)∧
  ((P++A1).length=a+u∧(P++A1++A2).length=m∧(P++A1++A2++B1).length=m+(M-u)∧(P++A1++B1).length=a+M∧(P++Srt.mrg lt A1 B1).length=a+M∧(P++Srt.mrg lt A1 B1++A2).length=m+(M-u)∧(P++Srt.mrg lt A1 B1++A2++B2).length=b)∧
  A1.length+B1.length≤n∧A2.length+B2.length≤n∧
  (m=a+u+A2.length∧m+(M-u)=m+B1.length∧a+u=a+A1.length∧a+M=a+u+B1.length∧m+(M-u)=a+M+A2.length∧b=m+(M-u)+B2.length)∧
  ((0<A1.length∧0<A2.length∧0<B1.length∧0<B2.length)∨(A1.length=0∧0<A2.length∧0<B1.length∧0<B2.length)∨(0<A1.length∧A2.length=0∧0<B1.length∧0<B2.length)∨(0<A1.length∧0<A2.length∧B1.length=0∧0<B2.length)∨(0<A1.length∧0<A2.length∧0<B1.length∧B2.length=0)∨(A1.length=0∧0<A2.length∧0<B1.length∧B2.length=0)∨(0<A1.length∧A2.length=0∧B1.length=0∧0<B2.length)):=by
 simp only[List.length_append,Srt.len_mrg]at*
 have h7:=sym7 (u:=A1.length) (l2:=A2.length) (k:=B1.length) (l4:=B2.length) (M:=M) (by omega) (by omega) (by omega) (by omega) (by omega)
 refine⟨⟨?_,?_,?_,?_,?_,?_⟩,⟨?_,?_,?_,?_,?_,?_,?_⟩,?_,?_,⟨?_,?_,?_,?_,?_,?_⟩,h7⟩<;>clear h7<;>omega
def M1o:MC:=
(.seq (Zs [mS 25 2,mS 26 1,bS 27 .sub 25 26,bC 28 .eql 27 1] [0,1,2,3,4,28] (.cond (.s 28) (Zs [mS 29 2,mS 10 29] [0,1,3,4,10] (Zs [mS 30 3,mS 11 30] [0,1,4,10,11] (.seq (.block 0 (.loop ([0,1,4,10,11],[]) (.seq (Zs [mS 31 10,mS 32 11,bS 33 .lss 31 32] [0,1,4,10,11,33] (cX 33 0))
(.block 1 (Zs [mS 34 10,mS 35 11,bS 36 .add 34 35,.convI 37 .u64 (.s 36),.bin 38 false .shr (.s 37) (.c (.int .u64 1)),.convI 39 .i64 (.s 38),mS 12 39] [0,1,4,10,11,12] (.seq (.dreg [Zc [41,42,43,44,45,46,47,48] (mS 40 4),Zc [40,42,45,46,47,48] (mS 41 0),Zc [40,41,45,46,47,48] (mS 42 12),Zd [40,45,46,47,48] [1,2] (xS 43 6 41 42),Zd [40,45,46,47,48] [1,2,3] (lT 44 6 43),Zc [40,41,42,43,44,46] (mS 45 0),Zc [40,41,42,43,44,45] (mS 46 1),Zd [40,41,42,43,44] [5,6] (xS 47 6 45 46),Zd [40,41,42,43,44] [5,6,7] (lT 48 6 47),Ze (.range 9) (.call 49 [] (.s 40) [.s 44,.s 48]),Ze (.range 10) (bC 50 .lss 49 0)] [0,1,4,10,11,12,50])
(.cond (.s 50) (pr [mS 51 12,bC 52 .add 51 1,mS 10 52] [0,1,4,10,11]) (pr [mS 53 12,mS 11 53] [0,1,4,10,11]))))))))
(.seq (Zs [mS 54 1,mS 13 54] [0,10,13] (.block 2 (.loop ([0,10,13],[]) (.seq (Zs [mS 55 13,mS 56 10,bC 57 .sub 56 1,bS 58 .lss 55 57] [0,10,13,58] (cX 58 2))
(.seq (.block 3 (.dreg [Zc [62,63,64,65,66,67,68,69,70,71,72,73,74] (mS 61 0),Zc [61,63,64,65,66,67,68,69,70,71,72,73,74] (mS 62 13),Zf [61,62,64,65,66,67,68,69,70,71,72,73,74,75] [0] (mS 63 0),Zf [61,62,63,66,67,68,69,70,71,72,73,74,75] [0] (mS 64 13),Zg [61,62,63,66,67,68,69,70,71,72,73,74,75] [0] [3] (bC 65 .add 64 1),Zc [61,62,63,64,65,67,68,71,72,73,74] (mS 66 0),Zc [61,62,63,64,65,66,71,72,73,74] (mS 67 13),Zd [61,62,63,64,65,66,71,72,73,74] [6] (bC 68 .add 67 1),Zd [61,62,63,64,65,71,72,73,74] [5,6,7] (xS 69 6 66 68),Zd [61,62,63,64,65,71,72,73,74] [5,6,7,8] (lT 70 6 69),Zc [61,62,63,64,65,66,67,68,69,70,72] (mS 71 0),Zc [61,62,63,64,65,66,67,68,69,70,71] (mS 72 13),Zd [61,62,63,64,65,66,67,68,69,70] [10,11] (xS 73 6 71 72),Zd [61,62,63,64,65,66,67,68,69,70] [10,11,12] (lT 74 6 73),Zd [63,64,65] [0,1,5,6,7,8,9,10,11,12,13] (xS 75 6 61 62),{o:=sS 6 75 70,hs:=[63,64,65],ws:=[0],bf:=[0,1,5,6,7,8,9,10,11,12,13,14]},Ze (.range 16) (xS 76 6 63 65),{o:=sS 6 76 74,ws:=[0],bf:=(.range 17)}] [0,10,13]))
(pr [mS 59 13,bC 60 .add 59 1,mS 13 60] [0,10,13]))))))
.ret)))) .skip))
(.seq (Zs [mS 77 3,mS 78 2,bS 79 .sub 77 78,bC 80 .eql 79 1] [0,1,2,3,4,80] (.cond (.s 80) (Zs [mS 81 1,mS 14 81] [0,2,4,14] (Zs [mS 82 2,mS 15 82] [0,2,4,14,15] (.seq (.block 4 (.loop ([0,2,4,14,15],[]) (.seq (Zs [mS 83 14,mS 84 15,bS 85 .lss 83 84] [0,2,4,14,15,85] (cX 85 4))
(.block 5 (Zs [mS 86 14,mS 87 15,bS 88 .add 86 87,.convI 89 .u64 (.s 88),.bin 90 false .shr (.s 89) (.c (.int .u64 1)),.convI 91 .i64 (.s 90),mS 16 91] [0,2,4,14,15,16] (.seq (.dreg [Zc [93,94,95,96,97,98,99,100] (mS 92 4),Zc [92,94,97,98,99,100] (mS 93 0),Zc [92,93,97,98,99,100] (mS 94 2),Zd [92,97,98,99,100] [1,2] (xS 95 6 93 94),Zd [92,97,98,99,100] [1,2,3] (lT 96 6 95),Zc [92,93,94,95,96,98] (mS 97 0),Zc [92,93,94,95,96,97] (mS 98 16),Zd [92,93,94,95,96] [5,6] (xS 99 6 97 98),Zd [92,93,94,95,96] [5,6,7] (lT 100 6 99),Ze (.range 9) (.call 101 [] (.s 92) [.s 96,.s 100]),Ze (.range 10) (bC 102 .lss 101 0),Ze (.range 11) (.un 103 .not (.s 102))] [0,2,4,14,15,16,103])
(.cond (.s 103) (pr [mS 104 16,bC 105 .add 104 1,mS 14 105] [0,2,4,14,15]) (pr [mS 106 16,mS 15 106] [0,2,4,14,15]))))))))
(.seq (Zs [mS 107 2,mS 17 107] [0,14,17] (.block 6 (.loop ([0,14,17],[]) (.seq (Zs [mS 108 17,mS 109 14,bS 110 .gtr 108 109] [0,14,17,110] (cX 110 6))
(.seq (.block 7 (.dreg [Zc [114,115,116,117,118,119,120,121,122,123,124,125,126] (mS 113 0),Zc [113,115,116,117,118,119,120,121,122,123,124,125,126] (mS 114 17),Zf [113,114,116,117,118,119,120,121,122,123,124,125,126,127] [0] (mS 115 0),Zf [113,114,115,118,119,120,121,122,123,124,125,126,127] [0] (mS 116 17),Zg [113,114,115,118,119,120,121,122,123,124,125,126,127] [0] [3] (bC 117 .sub 116 1),Zc [113,114,115,116,117,119,120,123,124,125,126] (mS 118 0),Zc [113,114,115,116,117,118,123,124,125,126] (mS 119 17),Zd [113,114,115,116,117,118,123,124,125,126] [6] (bC 120 .sub 119 1),Zd [113,114,115,116,117,123,124,125,126] [5,6,7] (xS 121 6 118 120),Zd [113,114,115,116,117,123,124,125,126] [5,6,7,8] (lT 122 6 121),Zc [113,114,115,116,117,118,119,120,121,122,124] (mS 123 0),Zc [113,114,115,116,117,118,119,120,121,122,123] (mS 124 17),Zd [113,114,115,116,117,118,119,120,121,122] [10,11] (xS 125 6 123 124),Zd [113,114,115,116,117,118,119,120,121,122] [10,11,12] (lT 126 6 125),Zd [115,116,117] [0,1,5,6,7,8,9,10,11,12,13] (xS 127 6 113 114),{o:=sS 6 127 122,hs:=[115,116,117],ws:=[0],bf:=[0,1,5,6,7,8,9,10,11,12,13,14]},Ze (.range 16) (xS 128 6 115 117),{o:=sS 6 128 126,ws:=[0],bf:=(.range 17)}] [0,14,17]))
(pr [mS 111 17,bC 112 .sub 111 1,mS 17 112] [0,14,17]))))))
.ret)))) .skip))
(Zs [mS 129 1,mS 130 3,bS 131 .add 129 130,.convI 132 .u64 (.s 131),.bin 133 false .shr (.s 132) (.c (.int .u64 1)),.convI 134 .i64 (.s 133),mS 18 134] [0,1,2,3,4,18] (Zs [mS 135 18,mS 136 2,bS 137 .add 135 136,mS 19 137] [0,1,2,3,4,18,19] (Zs [.mv 20 (ci 0),.mv 21 (ci 0)] [0,1,2,3,4,18,19] (.seq (Zs [mS 138 2,mS 139 18,bS 140 .gtr 138 139] [0,1,2,3,4,18,19,140] (.cond (.s 140) (Zs [mS 141 19,mS 142 3,bS 143 .sub 141 142,mS 20 143] [0,1,2,3,4,18,19,20] (pr [mS 144 18,mS 21 144] [0,1,2,3,4,18,19,20,21])) (Zs [mS 145 1,mS 20 145] [0,1,2,3,4,18,19,20] (pr [mS 146 2,mS 21 146] [0,1,2,3,4,18,19,20,21]))))
(Zs [mS 147 19,bC 148 .sub 147 1,mS 22 148] [0,1,2,3,4,18,19,20,21,22] (.seq (.block 8 (.loop ([0,1,2,3,4,18,19,20,21,22],[]) (.seq (Zs [mS 149 20,mS 150 21,bS 151 .lss 149 150] [0,1,2,3,4,18,19,20,21,22,151] (cX 151 8))
(.block 9 (Zs [mS 152 20,mS 153 21,bS 154 .add 152 153,.convI 155 .u64 (.s 154),.bin 156 false .shr (.s 155) (.c (.int .u64 1)),.convI 157 .i64 (.s 156),mS 23 157] [0,1,2,3,4,18,19,20,21,22,23] (.seq (.dreg [Zc [159,160,161,162,163,164,165,166,167,168] (mS 158 4),Zc [158,160,161,162,165,166,167,168] (mS 159 0),Zc [158,159,161,165,166,167,168] (mS 160 22),Zc [158,159,160,165,166,167,168] (mS 161 23),Zd [158,159,165,166,167,168] [2,3] (bS 162 .sub 160 161),Zd [158,165,166,167,168] [1,2,3,4] (xS 163 6 159 162),Zd [158,165,166,167,168] [1,2,3,4,5] (lT 164 6 163),Zc [158,159,160,161,162,163,164,166] (mS 165 0),Zc [158,159,160,161,162,163,164,165] (mS 166 23),Zd [158,159,160,161,162,163,164] [7,8] (xS 167 6 165 166),Zd [158,159,160,161,162,163,164] [7,8,9] (lT 168 6 167),Ze (.range 11) (.call 169 [] (.s 158) [.s 164,.s 168]),Ze (.range 12) (bC 170 .lss 169 0),Ze (.range 13) (.un 171 .not (.s 170))] [0,1,2,3,4,18,19,20,21,22,23,171])
(.cond (.s 171) (pr [mS 172 23,bC 173 .add 172 1,mS 20 173] [0,1,2,3,4,18,19,20,21,22]) (pr [mS 174 23,mS 21 174] [0,1,2,3,4,18,19,20,21,22]))))))))
(Zs [mS 175 19,mS 176 20,bS 177 .sub 175 176,mS 24 177] [0,1,2,3,4,18,20,24] (.seq (.seq (.reg [Za (mS 178 20),Za (mS 179 2),Za (bS 180 .lss 178 179),Za (mS 181 180),Zb 181 true (mS 182 2),Zb 181 true (mS 183 24),Zb 181 true (bS 184 .lss 182 183),Za (.pick 185 (.s 181) (.s 184) cF)] [0,1,2,3,4,18,20,24,185])
(.cond (.s 185) (pr [mS 186 0,mS 187 20,mS 188 2,mS 189 24,mS 190 4,.callI 191 [] (.f N22) [.s 186,.s 187,.s 188,.s 189,.s 190] [0] []] [0,1,3,4,18,20,24]) .skip))
(.seq (.seq (.reg [Za (mS 192 1),Za (mS 193 20),Za (bS 194 .lss 192 193),Za (mS 195 194),Zb 195 true (mS 196 20),Zb 195 true (mS 197 18),Zb 195 true (bS 198 .lss 196 197),Za (.pick 199 (.s 195) (.s 198) cF)] [0,1,3,4,18,20,24,199])
(.cond (.s 199) (pr [mS 200 0,mS 201 1,mS 202 20,mS 203 18,mS 204 4,.callI 205 [] (.f Nf) [.s 200,.s 201,.s 202,.s 203,.s 204] [0] []] [0,3,4,18,24]) .skip))
(.seq (.reg [Za (mS 206 18),Za (mS 207 24),Za (bS 208 .lss 206 207),Za (mS 209 208),Zb 209 true (mS 210 24),Zb 209 true (mS 211 3),Zb 209 true (bS 212 .lss 210 211),Za (.pick 213 (.s 209) (.s 212) cF)] [0,3,4,18,24,213])
(.cond (.s 213) (pr [mS 214 0,mS 215 18,mS 216 24,mS 217 3,mS 218 4,.callI 219 [] (.f Nf) [.s 214,.s 215,.s 216,.s 217,.s 218] [0] []] []) .skip)))))))))))))
set_option maxHeartbeats 4000000 in
theorem C42(f:FuncId)(c:GFound→GFound→Int)(hc:∀x y,Ctr Tryz.prog f [aS x.enc,aS y.enc] [rI (c x y)])(hw:Srt.Swo (ltc c))(n:Nat):∀(P X Y Q:List GFound) {a m b:Nat},X.length+Y.length≤n→P.length=a→(P++X).length=m→(P++X++Y).length=b→0<X.length→0<Y.length→Srt.srt (ltc c) X→Srt.srt (ltc c) Y→
  CtrI Tryz.prog Nf [oL 6 ((P++X++Y++Q).map GFound.enc),iI a,iI m,iI b,fI f] [some (6,(P++Srt.mrg (ltc c) X Y++Q).map GFound.enc)] []:=by
 induction n with
 |zero=>intro P X Y Q a m b hn _ _ _ hX;omega
 |succ n ih=>
  intro P X Y Q a m b hn ha hm hb hX hY sX sY
  have hN2:(P++Srt.mrg (ltc c) X Y++Q).length=(P++X++Y++Q).length:=by simp[Srt.len_mrg];omega
  refine Ky (M:=M1o) (m:=0) (n:=220) (res:=[]) hmix Tryz.func320 rfl (by kernel_rfl) rfl (by kernel_rfl) (by kernel_rfl) (Nat.le_of_ble_eq_true rfl) rfl rfl ?_;unfold M1o
  intro hbd
  have hl:=Kv hbd
  clear hbd
  have hm':m=a+X.length:=by rw[←hm,←ha];simp
  have hb':b=m+Y.length:=by rw[←hb,←hm];simp;omega
  have hbN:b≤(P++X++Y++Q).length:=by rw[List.length_append,hb];omega
  generalize hN:(P++X++Y++Q).length=N at*
  simp only[roomB]at hl
  simp only[go_sem,hN,wS (a:=m) (b:=a) (by omega) (by omega)]
  refine⟨fun h1=>?_,fun h1=>?_⟩
  ·obtain⟨x,rfl⟩:∃x,X=[x]:=List.length_eq_one_iff.1 (by omega)
   simp only[List.length_cons,List.length_nil]at hm' hn
   have hxa:(P++[x]++Y++Q)[a]? =some x:=by rw[←ha];simp
   have hya:∀w,w<Y.length→(P++[x]++Y++Q)[m+w]? =Y[w]? :=fun w hw=>by
    rw[List.append_assoc,List.getElem?_append_right (by simp;omega),List.getElem?_append_left (by simp;omega)]
    congr 1;simp;omega
   refine Kj (ι:=Nat×Nat) (fun s=>[(10,vI ((m+s.1:Nat):Int)),(11,vI ((m+s.2:Nat):Int))]) (fun s=>[]) (fun s=>s.1≤s.2∧s.2≤Y.length∧(∀y∈Y.take s.1,ltc c y x=true)∧(∀y∈Y.drop s.2,ltc c y x=false)) (fun s=>s.2-s.1) (0,Y.length) ?_
   simp only[go_sem]
   refine⟨?_,⟨by omega,by omega,by simp,by simp⟩,?_⟩
   ·simp only[go_sem]
    exact⟨by omega,by omega⟩
   ·rintro ⟨u,v⟩ ⟨i1,i2,i3,i4⟩
    simp only at i1 i2 i3 i4
    simp only[go_sem,hN,shr1,K3s (i:=m+u) (j:=m+v) (by omega)]
    refine⟨fun hlt=>?_,fun hge=>?_⟩
    ·have hwx:(m+u+(m+v))/2=m+(u+v)/2:=by omega
     have w1:u≤(u+v)/2:=by omega
     have w2:(u+v)/2<v:=by omega
     rw[hwx]
     generalize (u+v)/2=w at w1 w2
     obtain⟨y,hy⟩:=Kb (show w<Y.length by omega)
     have hyw:=(hya w (by omega)).trans hy
     have k1:(0:Int)≤((m+w:Nat):Int):=by omega
     have k2:((m+w:Nat):Int)<(N:Int):=by omega
     have k3:(0:Int)≤(a:Int):=by omega
     have k4:(a:Int)<(N:Int):=by omega
     simp only[go_sem,wK (k:=m+w) (by omega),k1,k2,k3,k4,K4 hyw,K4 hxa]
     apply K0 (hc y x)
     simp only[go_sem,wN1 (a:=m+w) (by omega)]
     intro _
     refine⟨fun hn=>⟨(w+1,v),⟨rfl,rfl⟩,⟨by omega,i2,Srt.lo_of hw sY hy (by simpa[ltc]using hn),i4⟩,by omega⟩,fun hn=>⟨(u,w),⟨rfl,rfl⟩,⟨w1,by omega,i3,Srt.hi_of hw sY hy (by simpa[ltc]using hn)⟩,by omega⟩⟩
    ·obtain rfl:u=v:=by omega
     have hres:=Srt.mrg_one hw sY i3 i4
     have hlt:∀t,(P++(Y.take t++x::Y.drop t)++Q).length=N:=fun t=>by rw[←hN];simp;omega
     refine Kj (fun t:Nat=>[(13,vI ((a+t:Nat):Int))]) (fun t=>[(0,⟨1,.row true 6 ((P++(Y.take t++x::Y.drop t)++Q).map GFound.enc)⟩)]) (fun t=>t≤u) (fun t=>u-t) 0 ?_
     simp only[go_sem]
     refine⟨?_,by omega,?_⟩
     ·simp only[go_sem]
      simp
     ·intro t ht
      have hs1:IntKind.i64.wrap (((m+u:Nat):Int)-1)=((a+u:Nat):Int):=by
       rw[wI (by omega) (by omega)];omega
      by_cases htu:t<u
      ·obtain⟨y,hy⟩:=Kb (show t<Y.length by omega)
       have e1:(P++(Y.take t++x::Y.drop t)++Q).map GFound.enc=two ((P++Y.take t).map GFound.enc) x.enc [] y.enc ((Y.drop (t+1)++Q).map GFound.enc):=by simp[two,Ki hy]
       have e2:(P++(Y.take (t+1)++x::Y.drop (t+1))++Q).map GFound.enc=two ((P++Y.take t).map GFound.enc) y.enc [] x.enc ((Y.drop (t+1)++Q).map GFound.enc):=by simp[two,Kc hy]
       have hA:((P++Y.take t).map GFound.enc).length=a+t:=by simp;omega
       have hL0:∀p q,(two ((P++Y.take t).map GFound.enc) p [] q ((Y.drop (t+1)++Q).map GFound.enc)).length=N:=fun p q=>by
        rw[←hlt t];simp[two,Ki hy]
       generalize (P++Y.take t).map GFound.enc=A at*
       generalize (Y.drop (t+1)++Q).map GFound.enc=C at*
       obtain⟨g1,g2,s1,s2,hL,d1,d2⟩:=K5r (A:=A) (B:=[]) (C:=C) (p:=a+t) (q:=a+t+1) hA (by simp)
       have k1:(0:Int)≤((a+t:Nat):Int):=by omega
       have k2:((a+t:Nat):Int)<(N:Int):=by omega
       have k3:(0:Int)≤((a+t+1:Nat):Int):=by omega
       have k4:((a+t+1:Nat):Int)<(N:Int):=by omega
       have k5:((a+t:Nat):Int)<((a+u:Nat):Int):=by omega
       rw[e1]
       simp only[go_sem,hs1,hL0,g1,g2,s1,s2,k1,k2,k3,k4,k5,wN1 (a:=a+t) (by omega)]
       exact⟨t+1,⟨rfl,e2.symm⟩,by omega,by omega⟩
      ·obtain rfl:t=u:=by omega
       simp only[go_sem,hs1]
       rw[hres]
  ·simp only[go_sem,wS (a:=b) (b:=m) (by omega) (by omega)]
   refine⟨fun h2=>?_,fun h2=>?_⟩
   ·obtain⟨y,rfl⟩:∃y,Y=[y]:=List.length_eq_one_iff.1 (by omega)
    simp only[List.length_cons,List.length_nil]at hb' hn
    have hym:(P++X++[y]++Q)[m]? =some y:=by rw[←hm];simp
    have hxa:∀w,w<X.length→(P++X++[y]++Q)[a+w]? =X[w]? :=fun w hw=>by
     rw[List.append_assoc,List.append_assoc,List.getElem?_append_right (by omega),List.getElem?_append_left (by omega)]
     congr 1;omega
    refine Kj (ι:=Nat×Nat) (fun s=>[(14,vI ((a+s.1:Nat):Int)),(15,vI ((a+s.2:Nat):Int))]) (fun s=>[]) (fun s=>s.1≤s.2∧s.2≤X.length∧(∀z∈X.take s.1,ltc c y z=false)∧(∀z∈X.drop s.2,ltc c y z=true)) (fun s=>s.2-s.1) (0,X.length) ?_
    simp only[go_sem]
    refine⟨?_,⟨by omega,by omega,by simp,by simp⟩,?_⟩
    ·simp only[go_sem]
     exact⟨by omega,by omega⟩
    ·rintro ⟨u,v⟩ ⟨i1,i2,i3,i4⟩
     simp only at i1 i2 i3 i4
     simp only[go_sem,hN,shr1,K3s (i:=a+u) (j:=a+v) (by omega)]
     refine⟨fun hlt=>?_,fun hge=>?_⟩
     ·have hwx:(a+u+(a+v))/2=a+(u+v)/2:=by omega
      have w1:u≤(u+v)/2:=by omega
      have w2:(u+v)/2<v:=by omega
      rw[hwx]
      generalize (u+v)/2=w at w1 w2
      obtain⟨x,hx⟩:=Kb (show w<X.length by omega)
      have hxw:=(hxa w (by omega)).trans hx
      have k1:(0:Int)≤((a+w:Nat):Int):=by omega
      have k2:((a+w:Nat):Int)<(N:Int):=by omega
      have k3:(0:Int)≤(m:Int):=by omega
      have k4:(m:Int)<(N:Int):=by omega
      simp only[go_sem,wK (k:=a+w) (by omega),k1,k2,k3,k4,K4 hxw,K4 hym]
      apply K0 (hc y x)
      simp only[go_sem,wN1 (a:=a+w) (by omega)]
      intro _
      refine⟨fun hn=>⟨(w+1,v),⟨rfl,rfl⟩,⟨by omega,i2,Srt.lo_of' hw sX hx (by simpa[ltc]using hn),i4⟩,by omega⟩,fun hn=>⟨(u,w),⟨rfl,rfl⟩,⟨w1,by omega,i3,Srt.hi_of' hw sX hx (by simpa[ltc]using hn)⟩,by omega⟩⟩
     ·obtain rfl:u=v:=by omega
      have hres:=Srt.mrg_last i3 i4
      have hlt:∀t,(P++(X.take t++y::X.drop t)++Q).length=N:=fun t=>by rw[←hN];simp;omega
      refine Kj (fun t:Nat=>[(17,vI ((a+t:Nat):Int))]) (fun t=>[(0,⟨1,.row true 6 ((P++(X.take t++y::X.drop t)++Q).map GFound.enc)⟩)]) (fun t=>u≤t∧t≤X.length) (fun t=>t-u) X.length ?_
      simp only[go_sem]
      refine⟨?_,⟨i2,by omega⟩,?_⟩
      ·simp only[go_sem,hm']
       simp
      ·rintro t ⟨ht,ht2⟩
       by_cases htu:u<t
       ·obtain⟨t,rfl⟩:∃s,t=s+1:=⟨t-1,by omega⟩
        obtain⟨x,hx⟩:=Kb (show t<X.length by omega)
        have e1:(P++(X.take (t+1)++y::X.drop (t+1))++Q).map GFound.enc=two ((P++X.take t).map GFound.enc) x.enc [] y.enc ((X.drop (t+1)++Q).map GFound.enc):=by simp[two,Kc hx]
        have e2:(P++(X.take t++y::X.drop t)++Q).map GFound.enc=two ((P++X.take t).map GFound.enc) y.enc [] x.enc ((X.drop (t+1)++Q).map GFound.enc):=by simp[two,Ki hx]
        have hA:((P++X.take t).map GFound.enc).length=a+t:=by simp;omega
        have hL0:∀p q,(two ((P++X.take t).map GFound.enc) p [] q ((X.drop (t+1)++Q).map GFound.enc)).length=N:=fun p q=>by
         rw[←hlt t];simp[two,Ki hx]
        generalize (P++X.take t).map GFound.enc=A at*
        generalize (X.drop (t+1)++Q).map GFound.enc=C at*
        obtain⟨g1,g2,s1,s2,hL,d1,d2⟩:=K5r (A:=A) (B:=[]) (C:=C) (p:=a+t) (q:=a+t+1) hA (by simp)
        have k1:(0:Int)≤((a+t:Nat):Int):=by omega
        have k2:((a+t:Nat):Int)<(N:Int):=by omega
        have k3:(0:Int)≤((a+t+1:Nat):Int):=by omega
        have k4:((a+t+1:Nat):Int)<(N:Int):=by omega
        have k5:((a+t+1:Nat):Int)>((a+u:Nat):Int):=by omega
        have k6:IntKind.i64.wrap (((a+t+1:Nat):Int)-1)=((a+t:Nat):Int):=by
         rw[wI (by omega) (by omega)];omega
        rw[e1,show a+(t+1)=a+t+1 from rfl]
        simp only[go_sem,hL0,g1,g2,s1,s2,k1,k2,k3,k4,k5,k6]
        exact⟨t,⟨rfl,e2.symm⟩,⟨by omega,by omega⟩,by omega⟩
       ·obtain rfl:t=u:=by omega
        simp only[go_sem]
        rw[hres]
   ·obtain⟨M,hM⟩:∃M,M=(X.length+Y.length)/2:=⟨_,rfl⟩
    have hmid:(a+b)/2=a+M:=by omega
    have hxa:∀w,w<X.length→(P++X++Y++Q)[a+w]? =X[w]? :=fun w hw=>by
     rw[List.append_assoc,List.append_assoc,List.getElem?_append_right (by omega),List.getElem?_append_left (by omega)]
     congr 1;omega
    have hya:∀w,w<Y.length→(P++X++Y++Q)[m+w]? =Y[w]? :=fun w hw=>by
     rw[List.append_assoc,List.getElem?_append_right (by omega),List.getElem?_append_left (by omega)]
     congr 1;omega
    simp only[go_sem,shr1,K3s (i:=a) (j:=b) (by omega),hmid,wK (k:=a+M) (by omega),wN (a:=a+M) (b:=m) (by omega)]
    refine⟨fun h3=>?_,fun h3=>?_⟩
    ·have hs:IntKind.i64.wrap (((a+M+m:Nat):Int)-(b:Int))=((a+(M-Y.length):Nat):Int):=by
      rw[wI (by omega) (by omega)];omega
     simp only[go_sem,hs,wS1 (a:=a+M+m) (by omega) (by omega)]
     obtain⟨u0,hu0⟩:∃u,u=M-Y.length:=⟨_,rfl⟩
     obtain⟨v0,hv0⟩:∃v,v=M:=⟨_,rfl⟩
     rw[←hu0]
     have q1:u0≤v0:=by omega
     have q2:v0≤M:=by omega
     have q3:v0≤X.length:=by omega
     have q4:M≤u0+Y.length:=by omega
     have q5:u0=0∨Y.length≤M-u0:=by omega
     have q6:v0=M∨v0=X.length:=by omega
     have q7:a+M=a+v0:=by omega
     refine Kj (ι:=Nat×Nat) (fun s=>[(20,vI ((a+s.1:Nat):Int)),(21,vI ((a+s.2:Nat):Int))]) (fun s=>[]) (fun s=>SymI (ltc c) X Y M u0 v0 s.1 s.2) (fun s=>s.2-s.1) (u0,v0) ?_
     simp only[go_sem]
     refine⟨?_,⟨by omega,q1,by omega,q5.imp_right .inl,q6.imp_right .inl⟩,?_⟩
     ·simp only[go_sem]
      first|exact⟨by omega,by omega⟩|omega
     ·rintro ⟨u,v⟩ hI
      obtain⟨i1,i2,i3,i4,i5⟩:=hI
      simp only at i1 i2 i3 i4 i5
      simp only[go_sem,hN,shr1,K3s (i:=a+u) (j:=a+v) (by omega)]
      refine⟨fun hlt=>?_,fun hge=>?_⟩
      ·have hwx:(a+u+(a+v))/2=a+(u+v)/2:=by omega
       have w1:u≤(u+v)/2:=by omega
       have w2:(u+v)/2<v:=by omega
       rw[hwx]
       generalize (u+v)/2=w at w1 w2
       have hpc:IntKind.i64.wrap (((a+M+m-1:Nat):Int)-((a+w:Nat):Int))=((m+(M-1-w):Nat):Int):=by
        rw[wI (by omega) (by omega)];omega
       obtain⟨x,hx⟩:=Kb (show w<X.length by omega)
       obtain⟨y,hy⟩:=Kb (show M-1-w<Y.length by omega)
       have hxw:=(hxa w (by omega)).trans hx
       have hyw:=(hya (M-1-w) (by omega)).trans hy
       have k1:(0:Int)≤((a+w:Nat):Int):=by omega
       have k2:((a+w:Nat):Int)<(N:Int):=by omega
       have k3:(0:Int)≤((m+(M-1-w):Nat):Int):=by omega
       have k4:((m+(M-1-w):Nat):Int)<(N:Int):=by omega
       simp only[go_sem,wK (k:=a+w) (by omega),hpc,k1,k2,k3,k4,K4 hxw,K4 hyw]
       apply K0 (hc y x)
       simp only[go_sem,wN1 (a:=a+w) (by omega)]
       intro _
       refine⟨fun hn=>⟨(w+1,v),⟨rfl,rfl⟩,⟨by omega,by omega,i3,.inr (.inr ⟨y,x,by rw[show M-(w+1)=M-1-w by omega];exact hy,hx,by simpa[ltc]using hn⟩),i5⟩,by show v-(w+1)<v-u;omega⟩,fun hn=>⟨(u,w),⟨rfl,rfl⟩,⟨i1,w1,by omega,i4,.inr (.inr ⟨y,x,hy,hx,by simpa[ltc]using hn⟩)⟩,by show w-u<v-u;omega⟩⟩
      ·obtain rfl:u=v:=by omega
       obtain⟨A1,A2,B1,B2,rfl,rfl,hA1,hB1,huM,hres,t1,t2,t3,t4⟩:=SymI.fin hw ⟨i1,i2,i3,i4,i5⟩ sX sY q2 q3 q4
       have hend:IntKind.i64.wrap (((a+M+m:Nat):Int)-((a+u:Nat):Int))=((m+(M-u):Nat):Int):=by
        rw[wI (by omega) (by omega)];omega
       have r0:P++(A1++A2)++(B1++B2)++Q=(P++A1)++A2++B1++(B2++Q):=by simp
       have r1:(P++A1)++B1++A2++(B2++Q)=P++A1++B1++(A2++(B2++Q)):=by simp
       have r2:A2.length=0∨B1.length=0→P++(A1++A2)++(B1++B2)++Q=P++A1++B1++(A2++(B2++Q)):=fun h=>by
        rcases h with h|h
        ·rw[List.length_eq_zero_iff.1 h];simp
        ·rw[List.length_eq_zero_iff.1 h];simp
       have r3:A1.length=0∨B1.length=0→P++A1++B1++(A2++(B2++Q))=(P++Srt.mrg (ltc c) A1 B1)++A2++B2++Q:=fun h=>by
        rcases h with h|h
        ·rw[List.length_eq_zero_iff.1 h,Srt.mrg_nil_srt hw t3];simp
        ·rw[List.length_eq_zero_iff.1 h,Srt.mrg_nil];simp
       have r4:P++Srt.mrg (ltc c) A1 B1++(A2++(B2++Q))=(P++Srt.mrg (ltc c) A1 B1)++A2++B2++Q:=by simp
       have r5:A2.length=0∨B2.length=0→(P++Srt.mrg (ltc c) A1 B1)++A2++B2++Q=(P++Srt.mrg (ltc c) A1 B1)++Srt.mrg (ltc c) A2 B2++Q:=fun h=>by
        rcases h with h|h
        ·rw[List.length_eq_zero_iff.1 h,Srt.mrg_nil_srt hw t4];simp
        ·rw[List.length_eq_zero_iff.1 h,Srt.mrg_nil];simp
       have r6:P++Srt.mrg (ltc c) (A1++A2) (B1++B2)++Q=(P++Srt.mrg (ltc c) A1 B1)++Srt.mrg (ltc c) A2 B2++Q:=by rw[hres];simp
       obtain⟨⟨l0,l1,l2,l3,l4,l5⟩,⟨L1,L2,L3,L4,L5,L6,L7⟩,hn1,hn2,⟨eA,eB,eC,eD,eE,eF⟩,h7⟩:=symL (ltc c) ha hA1 hB1 huM hm' hb' hN hM hn h1 h2 hX hY
       clear hxa hya hres i4 i5
       rcases h7 with ⟨z1,z2,z3,z4⟩|⟨z1,z2,z3,z4⟩|⟨z1,z2,z3,z4⟩|⟨z1,z2,z3,z4⟩|⟨z1,z2,z3,z4⟩|⟨z1,z2,z3,z4⟩|⟨z1,z2,z3,z4⟩
       ·have fA:=K8 A2.length eA z2
        have fB:=K8 B1.length eB z3
        have fC:=K8 A1.length eC z1
        have fD:=K8 B1.length eD z3
        have fE:=K8 A2.length eE z2
        have fF:=K8 B2.length eF z4
        simp only[go_sem,hend,fA,fB,fC,fD,fE,fF]
        rw[r0]
        apply K7 (Cb (P++A1) A2 B1 (B2++Q) f L1 L2 L3 z2 z3)
        simp only[go_sem,fC,fD,l0]
        rw[r1]
        apply K7 (ih P A1 B1 (A2++(B2++Q)) hn1 ha L1 L4 z1 z3 t1 t3)
        simp only[go_sem,fE,fF,l4]
        rw[r4]
        apply K7 (ih (P++Srt.mrg (ltc c) A1 B1) A2 B2 Q hn2 L5 L6 L7 z2 z4 t2 t4)
        simp only[go_sem]
        rw[r6]
       ·have fA:=K8 A2.length eA z2
        have fB:=K8 B1.length eB z3
        have fC:=Kr A1.length eC z1
        have fD:=K8 B1.length eD z3
        have fE:=K8 A2.length eE z2
        have fF:=K8 B2.length eF z4
        simp only[go_sem,hend,fA,fB,fC,fD,fE,fF]
        rw[r0]
        apply K7 (Cb (P++A1) A2 B1 (B2++Q) f L1 L2 L3 z2 z3)
        simp only[go_sem,fC,fE,fF,l0]
        rw[r1]
        rw[r3 (.inl z1)]
        apply K7 (ih (P++Srt.mrg (ltc c) A1 B1) A2 B2 Q hn2 L5 L6 L7 z2 z4 t2 t4)
        simp only[go_sem]
        rw[r6]
       ·have fA:=Kr A2.length eA z2
        have fB:=K8 B1.length eB z3
        have fC:=K8 A1.length eC z1
        have fD:=K8 B1.length eD z3
        have fE:=Kr A2.length eE z2
        have fF:=K8 B2.length eF z4
        simp only[go_sem,hend,fA,fB,fC,fD,fE,fF]
        rw[r2 (.inl z2)]
        apply K7 (ih P A1 B1 (A2++(B2++Q)) hn1 ha L1 L4 z1 z3 t1 t3)
        simp only[go_sem,fE]
        rw[r4]
        rw[r5 (.inl z2)]
        rw[r6]
       ·have fA:=K8 A2.length eA z2
        have fB:=Kr B1.length eB z3
        have fC:=K8 A1.length eC z1
        have fD:=Kr B1.length eD z3
        have fE:=K8 A2.length eE z2
        have fF:=K8 B2.length eF z4
        simp only[go_sem,hend,fA,fB,fC,fD,fE,fF]
        rw[r2 (.inr z3)]
        rw[r3 (.inr z3)]
        apply K7 (ih (P++Srt.mrg (ltc c) A1 B1) A2 B2 Q hn2 L5 L6 L7 z2 z4 t2 t4)
        simp only[go_sem]
        rw[r6]
       ·have fA:=K8 A2.length eA z2
        have fB:=K8 B1.length eB z3
        have fC:=K8 A1.length eC z1
        have fD:=K8 B1.length eD z3
        have fE:=K8 A2.length eE z2
        have fF:=Kr B2.length eF z4
        simp only[go_sem,hend,fA,fB,fC,fD,fE,fF]
        rw[r0]
        apply K7 (Cb (P++A1) A2 B1 (B2++Q) f L1 L2 L3 z2 z3)
        simp only[go_sem,fC,fD,l0]
        rw[r1]
        apply K7 (ih P A1 B1 (A2++(B2++Q)) hn1 ha L1 L4 z1 z3 t1 t3)
        simp only[go_sem,fE,fF]
        rw[r4]
        rw[r5 (.inr z4)]
        rw[r6]
       ·have fA:=K8 A2.length eA z2
        have fB:=K8 B1.length eB z3
        have fC:=Kr A1.length eC z1
        have fD:=K8 B1.length eD z3
        have fE:=K8 A2.length eE z2
        have fF:=Kr B2.length eF z4
        simp only[go_sem,hend,fA,fB,fC,fD,fE,fF]
        rw[r0]
        apply K7 (Cb (P++A1) A2 B1 (B2++Q) f L1 L2 L3 z2 z3)
        simp only[go_sem,fC,fE,fF]
        rw[r1]
        rw[r3 (.inl z1)]
        rw[r5 (.inr z4)]
        rw[r6]
       ·have fA:=Kr A2.length eA z2
        have fB:=Kr B1.length eB z3
        have fC:=K8 A1.length eC z1
        have fD:=Kr B1.length eD z3
        have fE:=Kr A2.length eE z2
        have fF:=K8 B2.length eF z4
        simp only[go_sem,hend,fA,fB,fC,fD,fE,fF]
        rw[r2 (.inl z2)]
        rw[r3 (.inr z3)]
        rw[r5 (.inl z2)]
        rw[r6]
    ·simp only[go_sem,wS1 (a:=a+M+m) (by omega) (by omega)]
     obtain⟨u0,hu0⟩:∃u,u=0:=⟨_,rfl⟩
     obtain⟨v0,hv0⟩:∃v,v=X.length:=⟨_,rfl⟩
     have q1:u0≤v0:=by omega
     have q2:v0≤M:=by omega
     have q3:v0≤X.length:=by omega
     have q4:M≤u0+Y.length:=by omega
     have q5:u0=0∨Y.length≤M-u0:=by omega
     have q6:v0=M∨v0=X.length:=by omega
     refine Kj (ι:=Nat×Nat) (fun s=>[(20,vI ((a+s.1:Nat):Int)),(21,vI ((a+s.2:Nat):Int))]) (fun s=>[]) (fun s=>SymI (ltc c) X Y M u0 v0 s.1 s.2) (fun s=>s.2-s.1) (u0,v0) ?_
     simp only[go_sem]
     refine⟨?_,⟨by omega,q1,by omega,q5.imp_right .inl,q6.imp_right .inl⟩,?_⟩
     ·simp only[go_sem]
      first|exact⟨by omega,by omega⟩|omega
     ·rintro ⟨u,v⟩ hI
      obtain⟨i1,i2,i3,i4,i5⟩:=hI
      simp only at i1 i2 i3 i4 i5
      simp only[go_sem,hN,shr1,K3s (i:=a+u) (j:=a+v) (by omega)]
      refine⟨fun hlt=>?_,fun hge=>?_⟩
      ·have hwx:(a+u+(a+v))/2=a+(u+v)/2:=by omega
       have w1:u≤(u+v)/2:=by omega
       have w2:(u+v)/2<v:=by omega
       rw[hwx]
       generalize (u+v)/2=w at w1 w2
       have hpc:IntKind.i64.wrap (((a+M+m-1:Nat):Int)-((a+w:Nat):Int))=((m+(M-1-w):Nat):Int):=by
        rw[wI (by omega) (by omega)];omega
       obtain⟨x,hx⟩:=Kb (show w<X.length by omega)
       obtain⟨y,hy⟩:=Kb (show M-1-w<Y.length by omega)
       have hxw:=(hxa w (by omega)).trans hx
       have hyw:=(hya (M-1-w) (by omega)).trans hy
       have k1:(0:Int)≤((a+w:Nat):Int):=by omega
       have k2:((a+w:Nat):Int)<(N:Int):=by omega
       have k3:(0:Int)≤((m+(M-1-w):Nat):Int):=by omega
       have k4:((m+(M-1-w):Nat):Int)<(N:Int):=by omega
       simp only[go_sem,wK (k:=a+w) (by omega),hpc,k1,k2,k3,k4,K4 hxw,K4 hyw]
       apply K0 (hc y x)
       simp only[go_sem,wN1 (a:=a+w) (by omega)]
       intro _
       refine⟨fun hn=>⟨(w+1,v),⟨rfl,rfl⟩,⟨by omega,by omega,i3,.inr (.inr ⟨y,x,by rw[show M-(w+1)=M-1-w by omega];exact hy,hx,by simpa[ltc]using hn⟩),i5⟩,by show v-(w+1)<v-u;omega⟩,fun hn=>⟨(u,w),⟨rfl,rfl⟩,⟨i1,w1,by omega,i4,.inr (.inr ⟨y,x,hy,hx,by simpa[ltc]using hn⟩)⟩,by show w-u<v-u;omega⟩⟩
      ·obtain rfl:u=v:=by omega
       obtain⟨A1,A2,B1,B2,rfl,rfl,hA1,hB1,huM,hres,t1,t2,t3,t4⟩:=SymI.fin hw ⟨i1,i2,i3,i4,i5⟩ sX sY q2 q3 q4
       have hend:IntKind.i64.wrap (((a+M+m:Nat):Int)-((a+u:Nat):Int))=((m+(M-u):Nat):Int):=by
        rw[wI (by omega) (by omega)];omega
       have r0:P++(A1++A2)++(B1++B2)++Q=(P++A1)++A2++B1++(B2++Q):=by simp
       have r1:(P++A1)++B1++A2++(B2++Q)=P++A1++B1++(A2++(B2++Q)):=by simp
       have r2:A2.length=0∨B1.length=0→P++(A1++A2)++(B1++B2)++Q=P++A1++B1++(A2++(B2++Q)):=fun h=>by
        rcases h with h|h
        ·rw[List.length_eq_zero_iff.1 h];simp
        ·rw[List.length_eq_zero_iff.1 h];simp
       have r3:A1.length=0∨B1.length=0→P++A1++B1++(A2++(B2++Q))=(P++Srt.mrg (ltc c) A1 B1)++A2++B2++Q:=fun h=>by
        rcases h with h|h
        ·rw[List.length_eq_zero_iff.1 h,Srt.mrg_nil_srt hw t3];simp
        ·rw[List.length_eq_zero_iff.1 h,Srt.mrg_nil];simp
       have r4:P++Srt.mrg (ltc c) A1 B1++(A2++(B2++Q))=(P++Srt.mrg (ltc c) A1 B1)++A2++B2++Q:=by simp
       have r5:A2.length=0∨B2.length=0→(P++Srt.mrg (ltc c) A1 B1)++A2++B2++Q=(P++Srt.mrg (ltc c) A1 B1)++Srt.mrg (ltc c) A2 B2++Q:=fun h=>by
        rcases h with h|h
        ·rw[List.length_eq_zero_iff.1 h,Srt.mrg_nil_srt hw t4];simp
        ·rw[List.length_eq_zero_iff.1 h,Srt.mrg_nil];simp
       have r6:P++Srt.mrg (ltc c) (A1++A2) (B1++B2)++Q=(P++Srt.mrg (ltc c) A1 B1)++Srt.mrg (ltc c) A2 B2++Q:=by rw[hres];simp
       obtain⟨⟨l0,l1,l2,l3,l4,l5⟩,⟨L1,L2,L3,L4,L5,L6,L7⟩,hn1,hn2,⟨eA,eB,eC,eD,eE,eF⟩,h7⟩:=symL (ltc c) ha hA1 hB1 huM hm' hb' hN hM hn h1 h2 hX hY
       clear hxa hya hres i4 i5
       rcases h7 with ⟨z1,z2,z3,z4⟩|⟨z1,z2,z3,z4⟩|⟨z1,z2,z3,z4⟩|⟨z1,z2,z3,z4⟩|⟨z1,z2,z3,z4⟩|⟨z1,z2,z3,z4⟩|⟨z1,z2,z3,z4⟩
       ·have fA:=K8 A2.length eA z2
        have fB:=K8 B1.length eB z3
        have fC:=K8 A1.length eC z1
        have fD:=K8 B1.length eD z3
        have fE:=K8 A2.length eE z2
        have fF:=K8 B2.length eF z4
        simp only[go_sem,hend,fA,fB,fC,fD,fE,fF]
        rw[r0]
        apply K7 (Cb (P++A1) A2 B1 (B2++Q) f L1 L2 L3 z2 z3)
        simp only[go_sem,fC,fD,l0]
        rw[r1]
        apply K7 (ih P A1 B1 (A2++(B2++Q)) hn1 ha L1 L4 z1 z3 t1 t3)
        simp only[go_sem,fE,fF,l4]
        rw[r4]
        apply K7 (ih (P++Srt.mrg (ltc c) A1 B1) A2 B2 Q hn2 L5 L6 L7 z2 z4 t2 t4)
        simp only[go_sem]
        rw[r6]
       ·have fA:=K8 A2.length eA z2
        have fB:=K8 B1.length eB z3
        have fC:=Kr A1.length eC z1
        have fD:=K8 B1.length eD z3
        have fE:=K8 A2.length eE z2
        have fF:=K8 B2.length eF z4
        simp only[go_sem,hend,fA,fB,fC,fD,fE,fF]
        rw[r0]
        apply K7 (Cb (P++A1) A2 B1 (B2++Q) f L1 L2 L3 z2 z3)
        simp only[go_sem,fC,fE,fF,l0]
        rw[r1]
        rw[r3 (.inl z1)]
        apply K7 (ih (P++Srt.mrg (ltc c) A1 B1) A2 B2 Q hn2 L5 L6 L7 z2 z4 t2 t4)
        simp only[go_sem]
        rw[r6]
       ·have fA:=Kr A2.length eA z2
        have fB:=K8 B1.length eB z3
        have fC:=K8 A1.length eC z1
        have fD:=K8 B1.length eD z3
        have fE:=Kr A2.length eE z2
        have fF:=K8 B2.length eF z4
        simp only[go_sem,hend,fA,fB,fC,fD,fE,fF]
        rw[r2 (.inl z2)]
        apply K7 (ih P A1 B1 (A2++(B2++Q)) hn1 ha L1 L4 z1 z3 t1 t3)
        simp only[go_sem,fE]
        rw[r4]
        rw[r5 (.inl z2)]
        rw[r6]
       ·have fA:=K8 A2.length eA z2
        have fB:=Kr B1.length eB z3
        have fC:=K8 A1.length eC z1
        have fD:=Kr B1.length eD z3
        have fE:=K8 A2.length eE z2
        have fF:=K8 B2.length eF z4
        simp only[go_sem,hend,fA,fB,fC,fD,fE,fF]
        rw[r2 (.inr z3)]
        rw[r3 (.inr z3)]
        apply K7 (ih (P++Srt.mrg (ltc c) A1 B1) A2 B2 Q hn2 L5 L6 L7 z2 z4 t2 t4)
        simp only[go_sem]
        rw[r6]
       ·have fA:=K8 A2.length eA z2
        have fB:=K8 B1.length eB z3
        have fC:=K8 A1.length eC z1
        have fD:=K8 B1.length eD z3
        have fE:=K8 A2.length eE z2
        have fF:=Kr B2.length eF z4
        simp only[go_sem,hend,fA,fB,fC,fD,fE,fF]
        rw[r0]
        apply K7 (Cb (P++A1) A2 B1 (B2++Q) f L1 L2 L3 z2 z3)
        simp only[go_sem,fC,fD,l0]
        rw[r1]
        apply K7 (ih P A1 B1 (A2++(B2++Q)) hn1 ha L1 L4 z1 z3 t1 t3)
        simp only[go_sem,fE,fF]
        rw[r4]
        rw[r5 (.inr z4)]
        rw[r6]
       ·have fA:=K8 A2.length eA z2
        have fB:=K8 B1.length eB z3
        have fC:=Kr A1.length eC z1
        have fD:=K8 B1.length eD z3
        have fE:=K8 A2.length eE z2
        have fF:=Kr B2.length eF z4
        simp only[go_sem,hend,fA,fB,fC,fD,fE,fF]
        rw[r0]
        apply K7 (Cb (P++A1) A2 B1 (B2++Q) f L1 L2 L3 z2 z3)
        simp only[go_sem,fC,fE,fF]
        rw[r1]
        rw[r3 (.inl z1)]
        rw[r5 (.inr z4)]
        rw[r6]
       ·have fA:=Kr A2.length eA z2
        have fB:=Kr B1.length eB z3
        have fC:=K8 A1.length eC z1
        have fD:=Kr B1.length eD z3
        have fE:=Kr A2.length eE z2
        have fF:=K8 B2.length eF z4
        simp only[go_sem,hend,fA,fB,fC,fD,fE,fF]
        rw[r2 (.inl z2)]
        rw[r3 (.inr z3)]
        rw[r5 (.inl z2)]
        rw[r6]
end Go.Proofs.YtjneccbpkckdfaaGreatR
namespace Go.Proofs.YtjneccbpkckdfaaGreatR
open Go Go.RowKit Go.Proofs
open Nat (reduceEqDiff reduceLT reduceLeDiff reduceAdd reduceMul)
open List (reduceReplicate)
namespace Srt
variable {α:Type} {lt:α→α→Bool}
def blks(lt:α→α→Bool)(s:Nat):Nat→List α→List α
 |0,l=>l
 |k+1,l=>isort lt (l.take s)++blks lt s k (l.drop s)
theorem len_blks{s:Nat}:∀ {k:Nat} {l:List α},(blks lt s k l).length=l.length
 |0,l=>rfl
 |k+1,l=>by
  simp only[blks,List.length_append,len_isort,len_blks,List.length_take,List.length_drop];omega
theorem blks_snoc{s:Nat}:∀ {k:Nat} {l:List α},(k+1)*s≤l.length→∃A,A.length=k*s∧blks lt s k l=A++((l.drop (k*s)).take s++l.drop ((k+1)*s))∧blks lt s (k+1) l=A++(isort lt ((l.drop (k*s)).take s)++l.drop ((k+1)*s))
 |0,l,h=>⟨[],by simp,by simp[blks],by simp[blks]⟩
 |k+1,l,h=>by
  have h':(k+1)*s≤(l.drop s).length:=by
   rw[Nat.succ_mul]at h
   simp only[List.length_drop];omega
  obtain⟨A,hA,e1,e2⟩:=blks_snoc (k:=k) (l:=l.drop s) h'
  have d1:s+k*s=(k+1)*s:=by rw[Nat.succ_mul];omega
  have d2:s+(k+1)*s=(k+1+1)*s:=by rw[Nat.succ_mul (k+1)];omega
  have hs:s≤l.length:=by rw[Nat.succ_mul]at h;omega
  refine⟨isort lt (l.take s)++A,?_,?_,?_⟩
  ·rw[List.length_append,len_isort,List.length_take,Nat.min_eq_left hs,hA,d1]
  ·rw[blks,e1,List.drop_drop,List.drop_drop,d1,d2,List.append_assoc]
  ·rw[blks,e2,List.drop_drop,List.drop_drop,d1,d2,List.append_assoc]
theorem blks_last{s:Nat}:∀ {k:Nat} {l:List α},k*s≤l.length→l.length<(k+1)*s→∃A,A.length=k*s∧blks lt s k l=A++l.drop (k*s)∧blks lt s (k+1) l=A++isort lt (l.drop (k*s))
 |0,l,_,h=>by
  have h':l.length≤s:=by omega
  exact⟨[],by simp,by simp[blks],by simp[blks,List.take_of_length_le h',List.drop_of_length_le h']⟩
 |k+1,l,h0,h=>by
  have d1:s+k*s=(k+1)*s:=by rw[Nat.succ_mul];omega
  have d2:s+(k+1)*s=(k+1+1)*s:=by rw[Nat.succ_mul (k+1)];omega
  have h1:k*s+s≤l.length:=by rw[←Nat.succ_mul];exact h0
  have h2:l.length<k*s+s+s:=by rw[←Nat.succ_mul,←Nat.succ_mul];exact h
  obtain⟨A,hA,e1,e2⟩:=blks_last (k:=k) (l:=l.drop s) (Nat.le_trans (Nat.le_sub_of_add_le h1) (by rw[List.length_drop];exact Nat.le_refl _)) (by rw[List.length_drop,Nat.succ_mul];exact Nat.sub_lt_right_of_lt_add (Nat.le_trans (Nat.le_add_left _ _) h1) h2)
  have hs:s≤l.length:=Nat.le_trans (Nat.le_add_left _ _) h1
  refine⟨isort lt (l.take s)++A,?_,?_,?_⟩
  ·rw[List.length_append,len_isort,List.length_take,Nat.min_eq_left hs,hA,d1]
  ·rw[blks,e1,List.drop_drop,d1,List.append_assoc]
  ·rw[blks,e2,List.drop_drop,d1,List.append_assoc]
theorem blk_le{s:Nat}{l:List α}(h:l.length≤s):blk lt s l=isort lt l:=by
 rw[blk,dif_pos (.inr h)]
theorem K6a{s:Nat}{l:List α}:blk lt s l=isort lt (l.take s)++blk lt s (l.drop s):=by
 by_cases h:s=0∨l.length≤s
 ·rcases h with rfl|h
  ·simp[isort,mrg]
  ·rw[blk_le h,List.take_of_length_le h,List.drop_of_length_le h,blk_le (by simp)]
   simp[isort,mrg]
 ·rw[blk,dif_neg h]
theorem len_blk{s:Nat}:∀ {n:Nat} {l:List α},l.length≤n→(blk lt s l).length=l.length
 |0,l,h=>by rw[blk_le (by omega),len_isort]
 |n+1,l,h=>by
  by_cases h2:s=0∨l.length≤s
  ·rw[blk,dif_pos h2,len_isort]
  ·rw[K6a,List.length_append,len_isort,len_blk (n:=n) (by simp only[List.length_drop];omega),List.length_take,List.length_drop]
   omega
theorem blks_blk{s:Nat}:∀ {k:Nat} {l:List α},k*s≤l.length→l.length<(k+1)*s→blks lt s (k+1) l=blk lt s l
 |0,l,_,h=>by
  have h':l.length≤s:=by omega
  rw[blk_le h']
  simp[blks,List.take_of_length_le h',List.drop_of_length_le h']
 |k+1,l,h0,h=>by
  rw[Nat.succ_mul]at h0 h
  rw[blks,K6a,blks_blk (k:=k) (l:=l.drop s) (by rw[List.length_drop];omega) (by rw[List.length_drop];omega)]
def mix(lt:α→α→Bool)(s:Nat):Nat→List α→List α
 |0,l=>blk lt s l
 |k+1,l=>isort lt (l.take (2*s))++mix lt s k (l.drop (2*s))
theorem len_mix{s:Nat}:∀ {k:Nat} {l:List α},(mix lt s k l).length=l.length
 |0,l=>len_blk (Nat.le_refl _)
 |k+1,l=>by
  rw[mix,List.length_append,len_isort,len_mix,List.length_take,List.length_drop];omega
theorem mix_step(hw:Swo lt){s:Nat}:∀ {k:Nat} {l:List α},k*(2*s)+2*s≤l.length→∃P X Y Q,P.length=k*(2*s)∧X.length=s∧Y.length=s∧srt lt X∧srt lt Y∧mix lt s k l=P++X++Y++Q∧mix lt s (k+1) l=P++mrg lt X Y++Q
 |0,l,h=>by
  refine⟨[],isort lt (l.take s),isort lt ((l.drop s).take s),blk lt s (l.drop (2*s)),by simp,?_,?_,srt_isort hw _,srt_isort hw _,?_,?_⟩
  ·rw[len_isort,List.length_take];omega
  ·rw[len_isort,List.length_take,List.length_drop];omega
  ·rw[mix,K6a,K6a (l:=l.drop s),List.drop_drop,show s+s=2*s by omega]
   simp
  ·rw[←K8r hw,mix,mix,List.nil_append,←List.take_add,show s+s=2*s by omega]
 |k+1,l,h=>by
  have e:(k+1)*(2*s)=k*(2*s)+2*s:=Nat.succ_mul ..
  rw[e]at h
  obtain⟨P,X,Y,Q,h1,h2,h3,h4,h5,h6,h7⟩:=mix_step hw (s:=s) (k:=k) (l:=l.drop (2*s)) (by rw[List.length_drop];omega)
  refine⟨isort lt (l.take (2*s))++P,X,Y,Q,?_,h2,h3,h4,h5,?_,?_⟩
  ·rw[List.length_append,len_isort,h1,List.length_take,e];omega
  ·rw[mix,h6];simp
  ·rw[mix,h7];simp
theorem mix_end(hw:Swo lt){s:Nat}:∀ {k:Nat} {l:List α},k*(2*s)≤l.length→l.length<k*(2*s)+2*s→
  (k*(2*s)+s<l.length→∃P X Y,P.length=k*(2*s)∧X.length=s∧k*(2*s)+s+Y.length=l.length∧srt lt X∧srt lt Y∧mix lt s k l=P++X++Y∧blk lt (2*s) l=P++mrg lt X Y)∧
  (l.length≤k*(2*s)+s→mix lt s k l=blk lt (2*s) l)
 |0,l,h0,h=>by
  refine⟨fun h1=>⟨[],isort lt (l.take s),isort lt (l.drop s),by simp,?_,?_,srt_isort hw _,srt_isort hw _,?_,?_⟩,fun h1=>?_⟩
  ·rw[len_isort,List.length_take];omega
  ·rw[len_isort,List.length_drop];omega
  ·rw[mix,K6a,blk_le (l:=l.drop s) (by rw[List.length_drop];omega),List.nil_append]
  ·rw[←K8r hw,List.take_append_drop,blk_le (by omega),List.nil_append]
  ·rw[mix,blk_le (by omega),blk_le (by omega)]
 |k+1,l,h0,h=>by
  have e:(k+1)*(2*s)=k*(2*s)+2*s:=Nat.succ_mul ..
  rw[e]at h h0
  obtain⟨i1,i2⟩:=mix_end hw (s:=s) (k:=k) (l:=l.drop (2*s)) (by rw[List.length_drop];omega) (by rw[List.length_drop];omega)
  rw[List.length_drop]at i1 i2
  rw[e]
  refine⟨fun h1=>?_,fun h1=>?_⟩
  ·obtain⟨P,X,Y,h1,h2,h3,h4,h5,h6,h7⟩:=i1 (by omega)
   refine⟨isort lt (l.take (2*s))++P,X,Y,?_,h2,by omega,h4,h5,?_,?_⟩
   ·rw[List.length_append,len_isort,h1,List.length_take];omega
   ·rw[mix,h6];simp
   ·rw[K6a,h7];simp
  ·rw[mix,i2 (by omega),←K6a]
end Srt
def Y31(v0:Nat)(v1:Nat):MC:=
(Zs [.mv 6 (ci 20)] [0,1,2,6] (Zs [mS 10 6,.mv 7 (ci 0),mS 8 10] [0,1,2,6,7,8] (.seq (.block 0 (.loop ([0,1,2,6,7,8],[]) (.seq (Zs [mS 11 8,mS 12 1,bS 13 .leq 11 12] [0,1,2,6,7,8,13] (cX 13 0))
(.block 1 (Zs [mS 14 0,mS 15 7,mS 16 8,mS 17 2,.callI 18 [] (.f v0) [.s 14,.s 15,.s 16,.s 17] [0] []] [0,1,2,6,8] (Zs [mS 19 8,mS 7 19] [0,1,2,6,7,8] (pr [mS 20 8,mS 21 6,bS 22 .add 20 21,mS 8 22] [0,1,2,6,7,8])))))))
(Zs [mS 23 0,mS 24 7,mS 25 1,mS 26 2,.callI 27 [] (.f v0) [.s 23,.s 24,.s 25,.s 26] [0] []] [0,1,2,6] (.block 2 (.loop ([0,1,2,6],[]) (.seq (Zs [mS 28 6,mS 29 1,bS 30 .lss 28 29] [0,1,2,6,30] (cX 30 2))
(.block 3 (Zs [mS 31 6,.bin 32 false .mul (ci 2) (.s 31),.mv 7 (ci 0),mS 8 32] [0,1,2,6,7,8] (.seq (.block 4 (.loop ([0,1,2,6,7,8],[]) (.seq (Zs [mS 33 8,mS 34 1,bS 35 .leq 33 34] [0,1,2,6,7,8,35] (cX 35 4))
(.block 5 (Zs [mS 36 0,mS 37 7,mS 38 7,mS 39 6,bS 40 .add 38 39,mS 41 8,mS 42 2,.callI 43 [] (.f v1) [.s 36,.s 37,.s 40,.s 41,.s 42] [0] []] [0,1,2,6,8] (Zs [mS 44 8,mS 7 44] [0,1,2,6,7,8] (pr [mS 45 8,mS 46 6,.bin 47 false .mul (ci 2) (.s 46),bS 48 .add 45 47,mS 8 48] [0,1,2,6,7,8])))))))
(.seq (Zs [mS 49 7,mS 50 6,bS 51 .add 49 50,mS 9 51] [0,1,2,6,7,9] (Zs [mS 52 9,mS 53 1,bS 54 .lss 52 53] [0,1,2,6,7,9,54] (.cond (.s 54) (pr [mS 55 0,mS 56 7,mS 57 9,mS 58 1,mS 59 2,.callI 60 [] (.f v1) [.s 55,.s 56,.s 57,.s 58,.s 59] [0] []] [0,1,2,6]) .skip)))
(pr [mS 61 6,bC 62 .mul 61 2,mS 6 62] [0,1,2,6]))))))))))))
attribute [go_sem] Y31
def M1z:MC:=Y31 N1e Nf
set_option maxHeartbeats 4000000 in
theorem Ch4(X:List GFound)(f:FuncId)(c:GFound→GFound→Int)(hc:∀x y,Ctr Tryz.prog f [aS x.enc,aS y.enc] [rI (c x y)])(hw:Srt.Swo (ltc c)):CtrI Tryz.prog N23 [oL 6 (X.map GFound.enc),iI X.length,fI f] [some (6,(Srt.isort (ltc c) X).map GFound.enc)] []:=by
 refine Ky (M:=M1z) (m:=0) (n:=63) (res:=[]) hmix Tryz.func239 rfl (by kernel_rfl) rfl (by kernel_rfl) (by kernel_rfl) (Nat.le_of_ble_eq_true rfl) rfl rfl ?_;unfold M1z
 intro hbd
 have hl:=Kv hbd
 clear hbd
 simp only[roomB]at hl
 simp only[go_sem]
 refine Kj (fun k:Nat=>[(7,vI ((k*20:Nat):Int)),(8,vI (((k+1)*20:Nat):Int))]) (fun k=>[(0,⟨1,.row true 6 ((Srt.blks (ltc c) 20 k X).map GFound.enc)⟩)]) (fun k=>k*20≤X.length) (fun k=>X.length-k*20) 0 ?_
 simp only[go_sem]
 refine⟨?_,by omega,?_⟩
 ·simp only[go_sem]
  exact⟨rfl,rfl⟩
 ·intro k hk
  simp only[go_sem,Srt.len_blks]
  refine⟨fun hlt=>?_,fun hge=>?_⟩
  ·obtain⟨A,hA,e1,e2⟩:=Srt.blks_snoc (lt:=ltc c) (s:=20) (k:=k) (l:=X) (by omega)
   have g1:=congrArg List.length e1
   have g2:=congrArg List.length e2
   rw[Srt.len_blks]at g1 g2
   rw[←List.append_assoc]at e1 e2 g1 g2
   rw[e1]
   apply K7 (C2q A _ _ f c hc hw hA (by simp[hA];omega))
   have w1:IntKind.i64.wrap ((((k+1)*20:Nat):Int)+20)=(((k+1+1)*20:Nat):Int):=by
    rw[wI (by omega) (by omega)];omega
   simp only[go_sem,w1]
   exact⟨k+1,⟨⟨rfl,rfl⟩,by rw[e2]⟩,by omega,by omega⟩
  ·obtain⟨A,hA,e1,e2⟩:=Srt.blks_last (lt:=ltc c) (s:=20) (k:=k) (l:=X) (by omega) (by omega)
   have g1:=congrArg List.length e1
   have g2:=congrArg List.length e2
   rw[Srt.len_blks]at g1 g2
   have e1':A++X.drop (k*20)=A++X.drop (k*20)++[]:=by simp
   rw[e1,e1']
   apply K7 (C2q A _ [] f c hc hw hA (by simp[hA];omega))
   rw[List.append_nil,←e2]
   rw[Srt.blks_blk (by omega) (by omega)]
   simp only[go_sem]
   refine Kj (fun s:Nat=>[(6,vI (s:Int))]) (fun s=>[(0,⟨1,.row true 6 ((Srt.blk (ltc c) s X).map GFound.enc)⟩)]) (fun s=>0<s∧s≤2*X.length+20) (fun s=>X.length-s) 20 ?_
   simp only[go_sem]
   refine⟨?_,⟨by omega,by omega⟩,?_⟩
   ·simp only[go_sem]
    first|rfl|exact⟨rfl,rfl⟩
   ·rintro s ⟨hs0,hs1⟩
    clear e1' e1 e2 g1 g2 hA A hge hk
    have w2:IntKind.i64.wrap (2*(s:Int))=((2*s:Nat):Int):=by rw[wI (by omega) (by omega)];omega
    have w3:IntKind.i64.wrap ((s:Int)*2)=((2*s:Nat):Int):=by rw[wI (by omega) (by omega)];omega
    simp only[go_sem,w2]
    refine⟨fun hlt=>?_,fun hge=>?_⟩
    ·refine Kj (fun k:Nat=>[(7,vI ((k*(2*s):Nat):Int)),(8,vI ((k*(2*s)+2*s:Nat):Int))]) (fun k=>[(0,⟨1,.row true 6 ((Srt.mix (ltc c) s k X).map GFound.enc)⟩)]) (fun k=>k*(2*s)≤X.length) (fun k=>X.length-k*(2*s)) 0 ?_
     simp only[go_sem]
     refine⟨?_,by omega,?_⟩
     ·simp only[go_sem]
      refine⟨⟨?_,?_⟩,rfl⟩
      ·rw[Nat.zero_mul];rfl
      ·rw[Nat.zero_mul,Nat.zero_add]
     ·intro k hk
      simp only[go_sem,Srt.len_mix,w3]
      refine⟨fun hle=>?_,fun hgt=>?_⟩
      ·obtain⟨P,A,B,Q,m1,m2,m3,m4,m5,m6,m7⟩:=Srt.mix_step hw (s:=s) (k:=k) (l:=X) (by omega)
       have g1:(P++A++B++Q).length=X.length:=by rw[←m6,Srt.len_mix]
       have g2:(P++Srt.mrg (ltc c) A B++Q).length=X.length:=by rw[←m7,Srt.len_mix]
       have wa:IntKind.i64.wrap (((k*(2*s):Nat):Int)+(s:Int))=((k*(2*s)+s:Nat):Int):=wN (by omega)
       have wb:IntKind.i64.wrap (((k*(2*s)+2*s:Nat):Int)+((2*s:Nat):Int))=(((k+1)*(2*s)+2*s:Nat):Int):=by
        rw[wN (by omega),Nat.succ_mul k (2*s)]
       rw[m6]
       simp only[go_sem,wa]
       apply K7 (C42 f c hc hw _ P A B Q (Nat.le_refl _) m1 (m:=k*(2*s)+s) (b:=k*(2*s)+2*s) (by rw[List.length_append];omega) (by rw[List.length_append,List.length_append];omega) (by omega) (by omega) m4 m5)
       simp only[go_sem]
       have hj:(k+1)*(2*s)=k*(2*s)+2*s:=Nat.succ_mul k (2*s)
       exact⟨k+1,⟨⟨by rw[hj],by rw[w2,wb]⟩,by rw[m7]⟩,by omega,by omega⟩
      ·obtain⟨i1,i2⟩:=Srt.mix_end hw (s:=s) (k:=k) (l:=X) hk (by omega)
       have wa:IntKind.i64.wrap (((k*(2*s):Nat):Int)+(s:Int))=((k*(2*s)+s:Nat):Int):=wN (by omega)
       simp only[go_sem,wa]
       refine⟨fun hlt2=>?_,fun hge2=>?_⟩
       ·obtain⟨P,A,B,m1,m2,m3,m4,m5,m6,m7⟩:=i1 (by omega)
        have g1:(P++A++B++[]).length=X.length:=by rw[List.append_nil,←m6,Srt.len_mix]
        have g2:(P++Srt.mrg (ltc c) A B++[]).length=X.length:=by rw[List.append_nil,←m7,Srt.len_blk (Nat.le_refl _)]
        rw[m6,←List.append_nil (P++A++B)]
        apply K7 (C42 f c hc hw _ P A B [] (Nat.le_refl _) m1 (m:=k*(2*s)+s) (b:=X.length) (by rw[List.length_append];omega) (by rw[List.length_append,List.length_append];omega) (by omega) (by omega) m4 m5)
        simp only[go_sem,w3]
        exact⟨2*s,⟨rfl,by rw[m7]⟩,⟨by omega,by omega⟩,by omega⟩
       ·exact⟨2*s,⟨rfl,by rw[i2 (by omega)]⟩,⟨by omega,by omega⟩,by omega⟩
    ·rw[Srt.blk_le (by omega)]
end Go.Proofs.YtjneccbpkckdfaaGreatR
namespace Go.Proofs.YtjneccbpkckdfaaGreatR
open Go Go.RowKit Go.Proofs
open Nat (reduceEqDiff reduceLT reduceLeDiff reduceAdd reduceMul)
open List (reduceReplicate)
def Mu:MC:=
(pr [mS 4 0,mS 5 0,nS 6 5,mS 7 1,.callI 8 [] (.f N23) [.s 4,.s 6,.s 7] [0] []] [])
theorem Cft(X:List GFound)(f:FuncId)(c:GFound→GFound→Int)(hc:∀x y,Ctr Tryz.prog f [aS x.enc,aS y.enc] [rI (c x y)])(hw:Srt.Swo (ltc c)):CtrI Tryz.prog Nv [oL 6 (X.map GFound.enc),fI f] [some (6,(Srt.isort (ltc c) X).map GFound.enc)] []:=by
 refine Ky (M:=Mu) (m:=0) (n:=9) (res:=[]) hmix Tryz.func128 rfl (by kernel_rfl) rfl (by kernel_rfl) (by kernel_rfl) (Nat.le_of_ble_eq_true rfl) rfl rfl ?_;unfold Mu
 intro hbd
 have hl:=Kv hbd
 clear hbd
 simp only[roomB]at hl
 simp only[go_sem]
 apply K7 (Ch4 X f c hc hw)
 simp only[go_sem]
 try intros
 try trivial
end Go.Proofs.YtjneccbpkckdfaaGreatR
namespace Go.Proofs.YtjneccbpkckdfaaGreatR
open Go Go.RowKit Go.Proofs
open Nat (reduceEqDiff reduceLT reduceLeDiff reduceAdd reduceMul)
open List (reduceReplicate)
attribute [go_sem] eqB
def K5j(a b:GAddress):Bool:=decide (a.Host<b.Host∨a.Host=b.Host∧(a.Path<b.Path∨a.Path=b.Path∧a.Query<b.Query))
def cmpI(x y:Int):Int:=if x<y then -1 else if y<x then 1 else 0
def K79(a b:GFound):Int:=if K5j a.Address b.Address=true then -1 else if K5j b.Address a.Address=true then 1 else cmpI a.Tick b.Tick
def K2p(a b:GFound):Bool:=decide (a.Address.Host<b.Address.Host∨a.Address.Host=b.Address.Host∧(a.Address.Path<b.Address.Path∨a.Address.Path=b.Address.Path∧(a.Address.Query<b.Address.Query∨a.Address.Query=b.Address.Query∧a.Tick<b.Tick)))
theorem K9z:ltc K79=K2p:=by
 funext a b
 unfold ltc K79 K2p K5j cmpI
 rw[Bool.eq_iff_iff]
 simp only[decide_eq_true_eq]
 split
 ·simp;omega
 ·split
  ·simp;omega
  ·split
   ·simp;omega
   ·split<;>simp<;>omega
theorem fndSwo:Srt.Swo (ltc K79):=by
 rw[K9z]
 constructor
 ·intro x y h
  simp only[K2p,decide_eq_true_eq,decide_eq_false_iff_not]at*
  omega
 ·intro x y z h
  simp only[K2p,decide_eq_true_eq]at*
  omega
def fnd1(i:Nat):Nat→List GCapture→List GFound
 |_,[]=>[]
 |k,c::cs=>⟨c.Address,c.Tick,i,k⟩::fnd1 i (k+1) cs
def fnds:Nat→List GContainer→List GFound
 |_,[]=>[]
 |i,x::xs=>fnd1 i 0 x.Captures++fnds (i+1) xs
theorem Kc2{i:Nat}:∀ {cs:List GCapture} {k m:Nat} {c:GCapture},cs[k]? =some c→fnd1 i m (cs.take (k+1))=fnd1 i m (cs.take k)++[⟨c.Address,c.Tick,i,(m+k:Nat)⟩]
 | [],_,_,_,h=>by simp at h
 |c::cs,0,m,d,h=>by
  simp only[List.getElem?_cons_zero,Option.some.injEq]at h
  subst h
  simp[fnd1]
 |c::cs,k+1,m,d,h=>by
  simp only[List.getElem?_cons_succ]at h
  rw[List.take_succ_cons,List.take_succ_cons,fnd1,fnd1,Kc2 h,List.cons_append,show m+1+k=m+(k+1)by omega]
theorem K4p:∀ {l:List GContainer} {k m:Nat} {x:GContainer},l[k]? =some x→fnds m (l.take (k+1))=fnds m (l.take k)++fnd1 (m+k) 0 x.Captures
 | [],_,_,_,h=>by simp at h
 |c::cs,0,m,d,h=>by
  simp only[List.getElem?_cons_zero,Option.some.injEq]at h
  subst h
  simp[fnds]
 |c::cs,k+1,m,d,h=>by
  simp only[List.getElem?_cons_succ]at h
  rw[List.take_succ_cons,List.take_succ_cons,fnds,fnds,K4p h,List.append_assoc,show m+1+k=m+(k+1)by omega]
theorem K7w{i:Nat}:∀ {cs:List GCapture} {k:Nat},(fnd1 i k cs).length=cs.length
 | [],_=>rfl
 |c::cs,k=>by rw[fnd1,List.length_cons,K7w,List.length_cons]
theorem Kdc:∀ {l:List GContainer} {m:Nat},(fnds m l).length=(l.map fun x=>x.Captures.length).sum
 | [],_=>rfl
 |x::l,m=>by rw[fnds,List.length_append,K7w,Kdc,List.map_cons,List.sum_cons]
def index(l:List GContainer):List GFound:=Srt.isort K2p (fnds 0 l)
theorem fndSwo':Srt.Swo K2p:=K9z▸fndSwo
theorem K6x{m:Nat}:∀ {l:List GContainer},(fnds m l).length≤(l.map GContainer.size).sum:=by
 intro l
 rw[Kdc]
 induction l with
 |nil=>simp
 |cons x l ih=>simp only[List.map_cons,List.sum_cons,GContainer.size];omega
theorem K9j{l:List GContainer}{i k:Nat}{x:GContainer}(hx:l[i]? =some x):(fnds 0 (l.take i)++fnd1 i 0 (x.Captures.take k)).length≤(l.map GContainer.size).sum:=by
 have h1:(fnds 0 (l.take (i+1))).length≤(l.map GContainer.size).sum:=Nat.le_trans K6x (K3e l (i+1))
 rw[K4p hx,List.length_append,K7w]at h1
 rw[List.length_append,K7w,List.length_take]
 omega
theorem Kc3{l:List GContainer}{i k:Nat}{x:GContainer}{c:GCapture}(hc:x.Captures[k]? =some c):fnds 0 (l.take i)++fnd1 i 0 (x.Captures.take (k+1))=fnds 0 (l.take i)++fnd1 i 0 (x.Captures.take k)++[⟨c.Address,c.Tick,i,k⟩]:=by
 rw[Kc2 hc,List.append_assoc,Nat.zero_add]
theorem cutA{α:Type}{f:α→List T}{l:List α}{m:Nat}(h:m≤l.length):(if ((m:Int)-0).toNat=l.length then l.map f else List.take ((m:Int)-0).toNat (l.map f))=(l.take m).map f:=by
 rw[show((m:Int)-0).toNat=m by omega]
 split
 ·rename_i e;rw[List.take_of_length_le (by omega)]
 ·rw[List.map_take]
theorem cutB{α:Type}{f:α→List T}{l:List α}{m:Nat}(h:m≤l.length):(if m=0∧((l.length:Int)-(m:Int)).toNat=l.length then l.map f else List.take ((l.length:Int)-(m:Int)).toNat (List.drop m (l.map f)))=(l.drop m).map f:=by
 rw[show((l.length:Int)-(m:Int)).toNat=l.length-m by omega]
 split
 ·rename_i e;rw[e.1];rfl
 ·rw[List.take_of_length_le (by simp),List.map_drop]
namespace Srt
variable {α:Type} {lt:α→α→Bool}
theorem ins_at{l:List α}(hw:Swo lt)(hs:srt lt l){x:α}{n:Nat}(h1:∀z∈l.drop n,lt x z=true)(h2:n=0∨∃y,l[n-1]? =some y∧lt x y=false):ins lt x l=l.take n++[x]++l.drop n:=by
 have e:ins lt x (l.take n++l.drop n)=l.take n++x::l.drop n:=by
  refine ins_mid ?_ (fun a ha=>h1 a (List.mem_of_mem_head? ha))
  intro a ha
  rcases h2 with rfl|⟨y,hy,h⟩
  ·simp at ha
  ·obtain⟨i,hi⟩:=List.mem_iff_getElem?.1 ha
   rw[List.getElem?_take]at hi
   split at hi
   ·rename_i hlt
    by_cases hin:i=n-1
    ·subst hin
     obtain rfl:=Option.some.inj (hi.symm.trans hy)
     exact h
    ·obtain⟨h1,rfl⟩:=List.getElem?_eq_some_iff.1 hi
     obtain⟨h2,rfl⟩:=List.getElem?_eq_some_iff.1 hy
     exact hw.ntr h ((List.pairwise_iff_getElem.1 hs) i (n-1) h1 h2 (by omega))
   ·cases hi
 rw[List.take_append_drop]at e
 rw[e];simp
theorem drop_step{l:List α}{x:α}{n:Nat}{y:α}(hn:0<n)(hy:l[n-1]? =some y)(h:∀z∈l.drop n,lt x z=true)(hx:lt x y=true):∀z∈l.drop (n-1),lt x z=true:=by
 obtain⟨h1,rfl⟩:=List.getElem?_eq_some_iff.1 hy
 rw[List.drop_eq_getElem_cons h1,show n-1+1=n by omega]
 intro z hz
 rcases List.mem_cons.1 hz with rfl|hz
 ·exact hx
 ·exact h z hz
end Srt
def M6f:MC:=
(Zs [.box 2 0 (.s 0),.box 3 1 (.s 1),.mv 4 cF] [2,3] (.seq (.block 0 (Zs [fS 6 2 0,lF 7 1 6,fS 8 3 0,lF 9 1 8,bS 10 .neq 7 9,mS 5 10] [2,3,5] (.cond (.s 5) (Zs [fS 11 2 0,lF 12 1 11,fS 13 3 0,lF 14 1 13,bS 15 .lss 12 14,mS 4 15] [4] .ret) (Zs [fS 17 2 1,lF 18 1 17,fS 19 3 1,lF 20 1 19,bS 21 .neq 18 20,mS 16 21] [2,3,16] (.cond (.s 16) (Zs [fS 22 2 1,lF 23 1 22,fS 24 3 1,lF 25 1 24,bS 26 .lss 23 25,mS 4 26] [4] .ret) .skip)))))
(Zs [fS 27 2 2,lF 28 1 27,fS 29 3 2,lF 30 1 29,bS 31 .lss 28 30,mS 4 31] [4] .ret)))
theorem Cit(a b:GAddress):Ctr Tryz.prog N3a [aS a.enc,aS b.enc] [rB (K5j a b)]:=by
 refine cA M6f 2 32 [(.tmp 4,[false])] Tryz.func130 rfl rfl ?_;unfold M6f
 intro hb
 clear hb
 simp only[go_sem]
 repeat' first
  |(refine And.intro ?_ ?_<;>intro h)
 all_goals (unfold K5j;first|(symm;rw[decide_eq_false_iff_not];omega)|(rw[Bool.eq_iff_iff];simp only[decide_eq_true_eq];omega))
def M6k:MC:=
(Zs [.box 2 0 (.s 0),.box 3 1 (.s 1),.mv 4 cF] [2,3] (.seq (Zs [fS 5 2 0,lF 6 1 5,fS 7 3 0,lF 8 1 7,bS 9 .neq 6 8] [2,3,9] (.cond (.s 9) (Zs [fS 10 2 0,lF 11 1 10,fS 12 3 0,lF 13 1 12,bS 14 .lss 11 13,mS 4 14] [4] .ret) .skip))
(.seq (Zs [fS 15 2 1,lF 16 1 15,fS 17 3 1,lF 18 1 17,bS 19 .neq 16 18] [2,3,19] (.cond (.s 19) (Zs [fS 20 2 1,lF 21 1 20,fS 22 3 1,lF 23 1 22,bS 24 .lss 21 23,mS 4 24] [4] .ret) .skip))
(Zs [fS 25 2 2,lF 26 1 25,fS 27 3 2,lF 28 1 27,bS 29 .lss 26 28,mS 4 29] [4] .ret))))
theorem Ciz(a b:GAddress):Ctr Tryz.prog N6w [aS a.enc,aS b.enc] [rB (K5j a b)]:=by
 refine cA M6k 2 30 [(.tmp 4,[false])] Tryz.func318 rfl rfl ?_;unfold M6k
 intro hb
 clear hb
 simp only[go_sem]
 repeat' first
  |(refine And.intro ?_ ?_<;>intro h)
 all_goals (unfold K5j;first|(symm;rw[decide_eq_false_iff_not];omega)|(rw[Bool.eq_iff_iff];simp only[decide_eq_true_eq];omega))
def Meu:MC:=
(Zs [.box 2 0 (.s 0),.box 3 1 (.s 1),.mv 4 cF] [2,3] (.seq (Zs [fS 5 2 0,lT 6 3 5,fS 7 3 0,lT 8 3 7,.eqA 9 true [.i .i64,.i .i64,.i .i64] (.s 6) (.s 8)] [2,3,9] (.cond (.s 9) (Zs [fS 10 2 0,lT 11 3 10,fS 12 3 0,lT 13 3 12,.call 14 [] (.f N6w) [.s 11,.s 13],mS 4 14] [4] .ret) .skip))
(Zs [fS 15 2 3,lF 16 1 15,fS 17 3 3,lF 18 1 17,bS 19 .lss 16 18,mS 4 19] [4] .ret)))
theorem Cnx(a b:GFound):Ctr Tryz.prog Nfq [aS a.enc,aS b.enc] [rB (K2p a b)]:=by
 refine cA Meu 2 20 [(.tmp 4,[false])] Tryz.func238 rfl rfl ?_;unfold Meu
 intro hb
 clear hb
 simp only[go_sem]
 repeat' first
  |(refine And.intro ?_ ?_<;>intro h)
  |(apply K0 (Ciz _ _);simp only[go_sem])
 all_goals (simp only[K2p,K5j];rw[Bool.eq_iff_iff];simp only[decide_eq_true_eq];simp at h;omega)
def Mg1:MC:=
(Zs [.mv 2 cF] [0] (Zs [mS 3 0,mS 4 0,bS 5 .neq 3 4,mS 2 5] [2] .ret))
theorem Cp2(x:Int):Ctr Tryz.prog N6n [aI x] [rB false]:=by
 refine cA Mg1 0 6 [(.tmp 2,[false])] Tryz.func240 rfl rfl ?_;unfold Mg1
 intro hb
 clear hb
 simp only[go_sem]
def Mb7:MC:=
(Zs [.mv 4 (ci 0)] [0,1] (Zs [mS 7 0,.call 8 [] (.f N6n) [.s 7],mS 5 8] [0,1,5] (Zs [mS 9 1,.call 10 [] (.f N6n) [.s 9],mS 6 10] [0,1,5,6] (.seq (Zs [mS 11 5] [0,1,6,11] (.cond (.s 11) (.seq (Zs [mS 12 6] [12] (.cond (.s 12) (Zs [.mv 4 (ci 0)] [4] .ret) .skip))
(Zs [.mv 4 (.c (.int .i64 (-1)))] [4] .ret)) .skip))
(.seq (Zs [mS 13 6] [0,1,13] (.cond (.s 13) (Zs [.mv 4 (ci 1)] [4] .ret) .skip))
(.seq (Zs [mS 14 0,mS 15 1,bS 16 .lss 14 15] [0,1,16] (.cond (.s 16) (Zs [.mv 4 (.c (.int .i64 (-1)))] [4] .ret) .skip))
(.seq (Zs [mS 17 0,mS 18 1,bS 19 .gtr 17 18] [19] (.cond (.s 19) (Zs [.mv 4 (ci 1)] [4] .ret) .skip))
(Zs [.mv 4 (ci 0)] [4] .ret))))))))
theorem Cj2(x y:Int):Ctr Tryz.prog N4v [aI x,aI y] [rI (cmpI x y)]:=by
 refine cA Mb7 0 20 [(.tmp 4,[false])] Tryz.func131 rfl rfl ?_;unfold Mb7
 intro hb
 clear hb
 simp only[go_sem]
 repeat' first
  |(refine And.intro ?_ ?_<;>intro h)
  |(apply K0 (Cp2 _);simp only[go_sem])
 all_goals (unfold cmpI;first|rfl|(repeat' split)<;>first|rfl|omega)
def M7b:MC:=
(Zs [.box 2 0 (.s 0),.box 3 1 (.s 1),.mv 4 (ci 0)] [2,3] (.seq (.block 0 (Zs [fS 6 2 0,lT 7 3 6,fS 8 3 0,lT 9 3 8,.call 10 [] (.f N3a) [.s 7,.s 9],mS 5 10] [2,3,5] (.cond (.s 5) (Zs [.mv 4 (.c (.int .i64 (-1)))] [4] .ret) (Zs [fS 12 3 0,lT 13 3 12,fS 14 2 0,lT 15 3 14,.call 16 [] (.f N3a) [.s 13,.s 15],mS 11 16] [2,3,11] (.cond (.s 11) (Zs [.mv 4 (ci 1)] [4] .ret) .skip)))))
(Zs [fS 17 2 3,lF 18 1 17,fS 19 3 3,lF 20 1 19,.call 21 [] (.f N4v) [.s 18,.s 20],mS 4 21] [4] .ret)))
theorem Ck7(a b:GFound):Ctr Tryz.prog N85 [aS a.enc,aS b.enc] [rI (K79 a b)]:=by
 refine cA M7b 2 22 [(.tmp 4,[false])] Tryz.func129 rfl rfl ?_;unfold M7b
 intro hb
 clear hb
 simp only[go_sem]
 repeat' first
  |(refine And.intro ?_ ?_<;>intro h)
  |(apply K0 (Cit _ _);simp only[go_sem])
  |(apply K0 (Cj2 _ _);simp only[go_sem])
 all_goals (unfold K79;simp_all)
def Mba:MC:=
(Zs [.nilo 2 0 6] [0] (Zs [.nilo 3 0 6] [0,3] (.seq (Zs [mS 8 0,nS 9 8,.mv 10 (ci 0)] [3,8,9,10] (.block 0 (.loop ([3,8,9,10],[1,2,3]) (Zs [bS 11 .lss 10 9] [3,8,9,10,11] (.seq (cX 11 0)
(.seq (.block 1 (Zs [mS 12 10,xS 13 4 8 10,lT 14 4 13,.alloc 5 1 [.emp 4,.emp 5,.emp 9,pz],mS 4 12,sS 4 5 14] [3,4,5,8,9,10] (Zs [fS 15 5 2,lF 16 1 15,nS 17 16,.mv 18 (ci 0)] [3,4,8,9,10,16,17,18] (.block 2 (.loop ([3,4,8,9,10,16,17,18],[1,2,3]) (Zs [bS 19 .lss 18 17] [3,4,8,9,10,16,17,18,19] (.seq (cX 19 2)
(.seq (.block 3 (Zs [mS 20 18,xS 21 9 16 18,lT 22 9 21,.alloc 7 2 [pz,pz,pz,pz,pz,.emp 1,pz,pz,pz],mS 6 20,sS 9 7 22] [3,4,6,7,8,9,10,16,17,18] (pr [mS 23 3,fS 24 7 0,lT 25 3 24,fS 26 7 3,lF 27 1 26,mS 28 4,mS 29 6,.build 30 [pz,pz,pz,pz,pz,pz] [(0,3,.s 25),(3,1,.s 27),(4,1,.s 28),(5,1,.s 29)],.lit 31 3 6 48 [.s 30],.app 32 0 6 48 (.s 23) (.s 31),mS 3 32] [3,4,8,9,10,16,17,18])))
(pr [bC 33 .add 18 1,mS 18 33] [3,4,8,9,10,16,17,18])))))))))
(pr [bC 34 .add 10 1,mS 10 34] [3,8,9,10])))))))
(Zs [mS 35 3,.callI 36 [] (.f Nv) [.s 35,.f N85] [0] []] [3] (Zs [mS 37 3,mS 2 37] [2] .ret)))))
theorem C2t(l:List GContainer)(hs:l.length+(l.map GContainer.size).sum≤1073741824):Ctr Tryz.prog N1s [aL 4 (l.map GContainer.enc)] [rL 6 ((index l).map GFound.enc)]:=by
 refine cA Mba 4 38 [(.tmp 2,[true])] Tryz.func43 rfl rfl ?_;unfold Mba
 intro hb
 clear hb
 simp only[go_sem]
 refine K5 l (fun i=>[(3,.val false [.ref 0 0 6 0 (fnds 0 (l.take i)).length]),(10,vI i)]) (fun i=>[(0,⟨0,.row true 6 ((fnds 0 (l.take i)).map GFound.enc)⟩)]) (fun _=>True) (by simp only[roomB];omega) ?_
 simp only[go_sem]
 refine⟨?_,trivial,?_,?_⟩
 ·simp only[go_sem,List.take_zero]
  exact⟨rfl,rfl⟩
 ·intro i x hx _ h0 h1 hw
  have hx1:=Kz (f:=GContainer.size) (Km hx)
  have hi:=Kg hx
  have hxl:x.Captures.length≤x.size:=by simp only[GContainer.size];omega
  simp only[go_sem,K4 hx,h0,h1]
  refine K5 x.Captures (fun k=>[(3,.val false [.ref 0 0 6 0 (fnds 0 (l.take i)++fnd1 i 0 (x.Captures.take k)).length]),(18,vI k)]) (fun k=>[(0,⟨0,.row true 6 ((fnds 0 (l.take i)++fnd1 i 0 (x.Captures.take k)).map GFound.enc)⟩)]) (fun _=>True) (by simp only[roomB];omega) ?_
  simp only[go_sem]
  refine⟨?_,trivial,?_,?_⟩
  ·simp only[go_sem,List.take_zero]
   exact⟨by simp[fnd1],by simp[fnd1]⟩
  ·intro k c hc _ h2 h3 hw2
   have hn:=K9j (k:=k) hx
   simp only[go_sem,K4 hc,h2,h3,hw2,Kc3 hc]
   exact⟨by simp only[roomB];omega,by simp only[roomB];omega,by simp only[List.length_append,List.length_cons,List.length_nil],by simp[GFound.enc]⟩
  ·intro _
   simp only[go_sem,List.take_length,hw]
   exact⟨by rw[K4p hx,Nat.zero_add],by rw[K4p hx,Nat.zero_add]⟩
 ·intro _
  simp only[go_sem,List.take_length]
  apply K7 (Cft (fnds 0 l) _ K79 Ck7 fndSwo)
  simp only[go_sem]
  exact⟨Srt.len_isort.symm,by rw[index,K9z]⟩
def Mc5:MC:=
(Zs [.nilo 2 0 6] [0] (Zs [.lit 8 0 6 48 [],mS 3 8] [0,3] (.seq (Zs [.mv 4 (ci 0)] [0,3,4] (.block 0 (.loop ([0,3,4],[1,2,3]) (.seq (Zs [mS 9 4,mS 10 0,nS 11 10,bS 12 .lss 9 11] [0,3,4,12] (cX 12 0))
(.seq (.block 1 (Zs [.mv 5 (ci 0)] [0,3,4,5] (.block 2 (.loop ([0,3,4,5],[1,2,3]) (.seq (Zs [mS 15 5,mS 16 0,mS 17 4,xS 18 4 16 17,fS 19 18 2,lF 20 1 19,nS 21 20,bS 22 .lss 15 21] [0,3,4,5,22] (cX 22 2))
(.seq (.block 3 (.seq (.dreg [Zf [6,26,30,34,35,36,37,38,39,40,41,42,43,44] [1] (mS 25 0),Zf [6,25,30,34,35,36,37,38,39,40,41,42,43,44] [1] (mS 26 4),Zg [6,30,34,35,36,37,38,39,40,41,42,43,44] [1] [0,1] (xS 27 4 25 26),Zg [6,30,34,35,36,37,38,39,40,41,42,43,44] [1] [0,1,2] (fS 28 27 2),Zg [6,30,34,35,36,37,38,39,40,41,42,43,44] [1] (.range 4) (lF 29 1 28),Zf [6,25,26,27,28,29,34,35,36,37,38,39,40,41,42,43,44] [1] (mS 30 5),Zg [6,34,35,36,37,38,39,40,41,42,43,44] [1] (.range 6) (xS 31 9 29 30),Zg [6,34,35,36,37,38,39,40,41,42,43,44] [1] (.range 7) (fS 32 31 0),Zg [6,34,35,36,37,38,39,40,41,42,43,44] [1] (.range 8) (lT 33 3 32),Zf [6,25,26,27,28,29,30,31,32,33,35,39,43,44] [1] (mS 34 0),Zf [6,25,26,27,28,29,30,31,32,33,34,39,43,44] [1] (mS 35 4),Zg [6,25,26,27,28,29,30,31,32,33,39,43,44] [1] [9,10] (xS 36 4 34 35),Zg [6,25,26,27,28,29,30,31,32,33,39,43,44] [1] [9,10,11] (fS 37 36 2),Zg [6,25,26,27,28,29,30,31,32,33,39,43,44] [1] [9,10,11,12] (lF 38 1 37),Zf [6,25,26,27,28,29,30,31,32,33,34,35,36,37,38,43,44] [1] (mS 39 5),Zg [6,25,26,27,28,29,30,31,32,33,43,44] [1] [9,10,11,12,13,14] (xS 40 9 38 39),Zg [6,25,26,27,28,29,30,31,32,33,43,44] [1] [9,10,11,12,13,14,15] (fS 41 40 3),Zg [6,25,26,27,28,29,30,31,32,33,43,44] [1] [9,10,11,12,13,14,15,16] (lF 42 1 41),Zf [6,25,26,27,28,29,30,31,32,33,34,35,36,37,38,39,40,41,42,44] [1] (mS 43 4),Zf [6,25,26,27,28,29,30,31,32,33,34,35,36,37,38,39,40,41,42,43] [1] (mS 44 5),Zg [6] [1] (.range 20) (.build 45 [pz,pz,pz,pz,pz,pz] [(0,3,.s 33),(3,1,.s 42),(4,1,.s 43),(5,1,.s 44)]),{o:= .alloc 6 1 [pz,pz,pz,pz,pz,pz],hs:=[25,26,27,28,29,30,31,32,33,34,35,36,37,38,39,40,41,42,43,44,45],ws:=[1]},{o:=sS 6 6 45,ws:=[1],bf:=(.range 22)}] [0,3,4,5,6])
(Zs [mS 46 3,nS 47 46,mS 7 47] [0,3,4,5,6,7] (.seq (.block 4 (.loop ([0,3,4,5,6,7],[2,3]) (.seq (.seq (.dreg [Za (mS 48 7),Ze [0] (bC 49 .gtr 48 0),Ze [0,1] (mS 50 49),{o:=lT 51 6 6,g:=some (50,true),hs:=[52,53,54,55,56],bf:=[0,1,2]},{o:=mS 52 3,g:=some (50,true),hs:=[51,53,54],bf:=[0,1,2]},{o:=mS 53 7,g:=some (50,true),hs:=[51,52],bf:=[0,1,2]},{o:=bC 54 .sub 53 1,g:=some (50,true),hs:=[51,52],bf:=[0,1,2,5]},{o:=xS 55 6 52 54,g:=some (50,true),hs:=[51],bf:=[0,1,2,4,5,6]},{o:=lT 56 6 55,g:=some (50,true),hs:=[51],bf:=[0,1,2,4,5,6,7]},{o:= .call 57 [] (.f Nfq) [.s 51,.s 56],g:=some (50,true),bf:=(.range 9)},Ze (.range 10) (.pick 58 (.s 50) (.s 57) cF)] [0,3,4,5,6,7,58])
(cX 58 4))
(.block 5 (pr [mS 59 7,bC 60 .sub 59 1,mS 7 60] [0,3,4,5,6,7])))))
(.dreg [{o:= .lit 61 2 6 48 [],hs:=[62,63,64,66,67,69,70,71],ho:=[3],ws:=[2]},Zf [61,63,66,67,69,70,71] [2,3] (mS 62 3),Zf [61,62,66,67,69,70,71] [2,3] (mS 63 7),Zg [61,66,67,69,70,71] [2,3] [1,2] (.slc 64 6 (.s 62) none (some (.s 63)) none),{o:= .app 65 2 6 48 (.s 61) (.s 64),hs:=[66,67,69,70,71],ho:=[3],ws:=[2],bf:=(.range 4)},Zf [61,62,63,64,65,69,70,71] [2] (lT 66 6 6),{o:= .lit 67 3 6 48 [.s 66],hs:=[61,62,63,64,65,69,70,71],ho:=[2],ws:=[3],bf:=[5]},{o:= .app 68 2 6 48 (.s 65) (.s 67),hs:=[69,70,71],ws:=[2],bf:=(.range 7)},Zf [61,62,63,64,65,66,67,68,70] [2,3] (mS 69 3),Zf [61,62,63,64,65,66,67,68,69] [2,3] (mS 70 7),Zg [61,62,63,64,65,66,67,68] [2,3] [8,9] (.slc 71 6 (.s 69) (some (.s 70)) none none),{o:= .app 72 0 6 48 (.s 68) (.s 71),ws:=[0,2],bf:=(.range 11)},Ze (.range 12) (mS 3 72)] [0,3,4,5])))))
(pr [mS 23 5,bC 24 .add 23 1,mS 5 24] [0,3,4,5])))))))
(pr [mS 13 4,bC 14 .add 13 1,mS 4 14] [0,3,4]))))))
(Zs [mS 73 3,mS 2 73] [2] .ret))))
theorem C2v(l:List GContainer)(hs:l.length+(l.map GContainer.size).sum≤1073741824):Ctr Tryz.prog N1u [aL 4 (l.map GContainer.enc)] [rL 6 ((index l).map GFound.enc)]:=by
 refine cA Mc5 4 74 [(.tmp 2,[true])] Tryz.func127 rfl rfl ?_;unfold Mc5
 intro hb
 clear hb
 simp only[go_sem]
 refine K5 l (fun i=>[(3,.val false [.ref 0 0 6 0 (Srt.isort K2p (fnds 0 (l.take i))).length]),(4,vI i)]) (fun i=>[(0,⟨0,.row true 6 ((Srt.isort K2p (fnds 0 (l.take i))).map GFound.enc)⟩)]) (fun _=>True) (by simp only[roomB];omega) ?_
 simp only[go_sem]
 refine⟨?_,trivial,?_,?_⟩
 ·simp only[go_sem,List.take_zero]
  exact⟨rfl,rfl⟩
 ·intro i x hx _ h0 h1 hw
  have hx1:=Kz (f:=GContainer.size) (Km hx)
  have hi:=Kg hx
  have hxl:x.Captures.length≤x.size:=by simp only[GContainer.size];omega
  simp only[go_sem,h1]
  refine K5 x.Captures (fun k=>[(3,.val false [.ref 0 0 6 0 (Srt.isort K2p (fnds 0 (l.take i)++fnd1 i 0 (x.Captures.take k))).length]),(5,vI k)]) (fun k=>[(0,⟨0,.row true 6 ((Srt.isort K2p (fnds 0 (l.take i)++fnd1 i 0 (x.Captures.take k))).map GFound.enc)⟩)]) (fun _=>True) (by simp only[roomB];omega) ?_
  simp only[go_sem]
  refine⟨?_,trivial,?_,?_⟩
  ·simp only[go_sem,List.take_zero]
   exact⟨by simp[fnd1],by simp[fnd1]⟩
  ·intro k c hc _ h2 h3 hw2
   have hn:=K9j (k:=k) hx
   obtain⟨y,hy⟩:∃y:GFound,y=⟨c.Address,c.Tick,i,k⟩:=⟨_,rfl⟩
   obtain⟨out,hout⟩:∃out,out=Srt.isort K2p (fnds 0 (l.take i)++fnd1 i 0 (x.Captures.take k)):=⟨_,rfl⟩
   have hsr:Srt.srt K2p out:=hout▸Srt.srt_isort fndSwo' _
   have hol:out.length≤(l.map GContainer.size).sum:=by rw[hout,Srt.len_isort];exact hn
   have hst:Srt.isort K2p (fnds 0 (l.take i)++fnd1 i 0 (x.Captures.take (k+1)))=Srt.ins K2p y out:=by
    rw[Kc3 hc,Srt.isort_snoc,←hout,←hy]
   have hye:([tI c.Address.Host,tI c.Address.Path,tI c.Address.Query,tI c.Tick,tI (i:Int),tI (k:Int)]:List T)=y.enc:=by rw[hy];rfl
   rw[hst,←hout]
   simp only[go_sem,K4 hx,K4 hc,h0,h1,h2,h3,hw]
   refine Kj (fun n:Nat=>[(7,vI n)]) (fun n=>[]) (fun n=>n≤out.length∧∀z∈out.drop n,K2p y z=true) (fun n=>n) out.length ?_
   simp only[go_sem]
   refine⟨?_,⟨Nat.le_refl _,by simp⟩,?_⟩
   ·simp only[go_sem]
   ·rintro n ⟨hn1,hn2⟩
    simp only[go_sem]
    refine⟨fun hpos=>?_,fun hzero=>?_⟩
    ·obtain⟨m,hm⟩:∃m,m=n-1:=⟨_,rfl⟩
     obtain⟨z,hz⟩:=Kb (show m<out.length by omega)
     have e1:IntKind.i64.wrap ((n:Int)-1)=(m:Int):=by rw[wI (by omega) (by omega)];omega
     rw[e1]
     simp only[go_sem,K4 hz]
     refine⟨⟨by omega,by omega⟩,?_⟩
     apply K0 (Cnx ⟨c.Address,c.Tick,(i:Int),(k:Int)⟩ z)
     simp only[go_sem]
     rw[e1]
     refine⟨fun ht=>⟨m,rfl,⟨by omega,?_⟩,by omega⟩,fun hf=>?_⟩
     ·rw[hm]
      exact Srt.drop_step (by omega) (hm▸hz) hn2 (hy▸ht)
     ·have hstop:n=0∨∃y',out[n-1]? =some y'∧K2p y y'=false:= .inr ⟨z,hm▸hz,hy▸hf⟩
      rw[cutA hn1]
      refine⟨by omega,by omega,?_⟩
      have hA:(out.take n).length=n:=by rw[List.length_take];omega
      have hB:out.length=n+(out.drop n).length:=by rw[List.length_drop];omega
      have eC:=cutB (f:=GFound.enc) hn1
      have e5:List.map GFound.enc (out.take n)++[[T.sc (Value.int IntKind.i64 c.Address.Host),T.sc (Value.int IntKind.i64 c.Address.Path),T.sc (Value.int IntKind.i64 c.Address.Query),T.sc (Value.int IntKind.i64 c.Tick),T.sc (Value.int IntKind.i64 (i:Int)),T.sc (Value.int IntKind.i64 (k:Int))]]=(out.take n++[y]).map GFound.enc:=by rw[hy];simp[GFound.enc]
      have e6:((out.take n++[y]).map GFound.enc).length=(out.take n).length+1:=by simp
      simp only[go_sem,↓Ko (f:=GFound.enc) (fun _=>rfl) (out.take n),↓eC,↓e5,↓e6,↓Ko (f:=GFound.enc) (fun _=>rfl) (out.drop n)]
      rw[Srt.ins_at fndSwo' hsr hn2 hstop]
      simp only[roomB]
      exact⟨by omega,by omega,by omega,⟨by omega,by omega,by omega⟩,by omega,by omega,⟨by simp only[List.length_append,List.length_cons,List.length_nil],hw2⟩,by rw[←List.map_append]⟩
    ·have hstop:n=0∨∃y',out[n-1]? =some y'∧K2p y y'=false:= .inl (by omega)
     rw[cutA hn1]
     refine⟨by omega,by omega,?_⟩
     have hA:(out.take n).length=n:=by rw[List.length_take];omega
     have hB:out.length=n+(out.drop n).length:=by rw[List.length_drop];omega
     have eC:=cutB (f:=GFound.enc) hn1
     have e5:List.map GFound.enc (out.take n)++[[T.sc (Value.int IntKind.i64 c.Address.Host),T.sc (Value.int IntKind.i64 c.Address.Path),T.sc (Value.int IntKind.i64 c.Address.Query),T.sc (Value.int IntKind.i64 c.Tick),T.sc (Value.int IntKind.i64 (i:Int)),T.sc (Value.int IntKind.i64 (k:Int))]]=(out.take n++[y]).map GFound.enc:=by rw[hy];simp[GFound.enc]
     have e6:((out.take n++[y]).map GFound.enc).length=(out.take n).length+1:=by simp
     simp only[go_sem,↓Ko (f:=GFound.enc) (fun _=>rfl) (out.take n),↓eC,↓e5,↓e6,↓Ko (f:=GFound.enc) (fun _=>rfl) (out.drop n)]
     rw[Srt.ins_at fndSwo' hsr hn2 hstop]
     simp only[roomB]
     exact⟨by omega,by omega,by omega,⟨by omega,by omega,by omega⟩,by omega,by omega,⟨by simp only[List.length_append,List.length_cons,List.length_nil],hw2⟩,by rw[←List.map_append]⟩
  ·intro _
   simp only[go_sem,List.take_length,K4 hx,h0,h1,hw,Int.lt_irrefl]
   exact⟨by rw[K4p hx,Nat.zero_add],by rw[K4p hx,Nat.zero_add]⟩
 ·intro _
  simp only[go_sem,List.take_length]
  rfl
end Go.Proofs.YtjneccbpkckdfaaGreatR
namespace Go.Proofs.YtjneccbpkckdfaaGreatR
open Go Go.RowKit Go.Proofs
open Nat (reduceEqDiff reduceLT reduceLeDiff reduceAdd reduceMul)
open List (reduceReplicate)
theorem K67{α:Type}{p:α→Bool}{l:List α}:(l.any fun x=> !p x)= !l.all p:=by
 induction l with
 |nil=>rfl
 |cons x l ih=>rw[List.any_cons,List.all_cons,ih];cases p x<;>rfl
def K1r{α:Type}(n:Nat)(p:α→Bool)(l:List α):Bool:=decide (l.length≤n)&&l.all p
theorem K6l{α:Type}{n:Nat}{p:α→Bool}{l:List α}(h:¬l.length≤n):false=K1r n p l:=by
 unfold K1r;rw[decide_eq_false h];rfl
theorem K5x{α:Type}{n:Nat}{p:α→Bool}{l:List α}(h:l.length≤n):(!l.any fun x=> !p x)=K1r n p l:=by
 unfold K1r;rw[decide_eq_true h,K67,Bool.not_not];rfl
theorem K4o{α:Type}{n:Nat}{p:α→Bool}{l:List α}{k:Nat}{x:α}(hx:l[k]? =some x)(h:p x=false):false=K1r n p l:=by
 unfold K1r;rw[←K95 hx h,Bool.and_false]
theorem K5w{α:Type}{n:Nat}{p:α→Bool}{l:List α}(h:l.all p=true):decide (l.length≤n)=K1r n p l:=by
 unfold K1r;rw[h,Bool.and_true]
theorem K7e{n m:Nat}:decide ((n:Int)≤(m:Int))=decide (n≤m):=by
 rw[Bool.eq_iff_iff];simp only[decide_eq_true_eq];omega
def opOk(o:GOp):Bool:=decide ((0≤o.A∧o.A<4)∧(
 (o.Kind=1∧(1≤o.B∧o.B≤9)∧(0≤o.C∧o.C≤99))∨
 ((o.Kind=2∨o.Kind=3∨o.Kind=4)∧o.B=0∧o.C=0)∨
 (o.Kind=5∧(0≤o.B∧o.B<4)∧(0≤o.C∧o.C<4))∨
 (o.Kind=6∧(0≤o.B∧o.B<4)∧o.C=0)∨
 (o.Kind=7∧(1≤o.B∧o.B≤3)∧o.C=0)∨
 ((o.Kind=8∨o.Kind=9)∧(0≤o.B∧o.B<3)∧o.C=0)))
def K1d(l:List GOp):Bool:=K1r 16 opOk l
def Mmx:MC:=
(Zs [.box 1 0 (.s 0),.mv 2 cF] [1] (.seq (Zs [fS 3 1 1,lF 4 1 3,.call 5 [] (.f N60) [.s 4,.c (.int .i64 4)],.un 6 .not (.s 5)] [1,6] (.cond (.s 6) (Zs [.mv 2 cF] [2] .ret) .skip))
(.seq (Zs [fS 7 1 0,lF 8 1 7] [1,8] (.block 0 (Zs [bC 10 .eql 8 1,mS 9 10] [1,8,9] (.cond (.s 9) (.seq (.reg [Za (fS 11 1 2),Za (lF 12 1 11),Za (.call 13 [] (.f N1) [.s 12,.c (.int .i64 1),.c (.int .i64 9)]),Za (mS 14 13),Zb 14 true (fS 15 1 3),Zb 14 true (lF 16 1 15),Zb 14 true (.call 17 [] (.f N1) [.s 16,.c (.int .i64 0),.c (.int .i64 99)]),Za (.pick 18 (.s 14) (.s 17) cF),Za (mS 2 18)] [2])
.ret) (.seq (Zs [bC 20 .eql 8 2,mS 19 20] [1,8,19] (.cond (.s 19) .skip (Zs [bC 21 .eql 8 3,mS 19 21] [1,8,19] (.cond (.s 19) .skip (pr [bC 22 .eql 8 4,mS 19 22] [1,8,19])))))
(.cond (.s 19) (.seq (.reg [Za (fS 23 1 2),Za (lF 24 1 23),Za (bC 25 .eql 24 0),Za (mS 26 25),Zb 26 true (fS 27 1 3),Zb 26 true (lF 28 1 27),Zb 26 true (bC 29 .eql 28 0),Za (.pick 30 (.s 26) (.s 29) cF),Za (mS 2 30)] [2])
.ret) (Zs [bC 32 .eql 8 5,mS 31 32] [1,8,31] (.cond (.s 31) (.seq (.reg [Za (fS 33 1 2),Za (lF 34 1 33),Za (.call 35 [] (.f N60) [.s 34,.c (.int .i64 4)]),Za (mS 36 35),Zb 36 true (fS 37 1 3),Zb 36 true (lF 38 1 37),Zb 36 true (.call 39 [] (.f N60) [.s 38,.c (.int .i64 4)]),Za (.pick 40 (.s 36) (.s 39) cF),Za (mS 2 40)] [2])
.ret) (Zs [bC 42 .eql 8 6,mS 41 42] [1,8,41] (.cond (.s 41) (.seq (.reg [Za (fS 43 1 2),Za (lF 44 1 43),Za (.call 45 [] (.f N60) [.s 44,.c (.int .i64 4)]),Za (mS 46 45),Zb 46 true (fS 47 1 3),Zb 46 true (lF 48 1 47),Zb 46 true (bC 49 .eql 48 0),Za (.pick 50 (.s 46) (.s 49) cF),Za (mS 2 50)] [2])
.ret) (Zs [bC 52 .eql 8 7,mS 51 52] [1,8,51] (.cond (.s 51) (.seq (.reg [Za (fS 53 1 2),Za (lF 54 1 53),Za (.call 55 [] (.f N1) [.s 54,.c (.int .i64 1),.c (.int .i64 3)]),Za (mS 56 55),Zb 56 true (fS 57 1 3),Zb 56 true (lF 58 1 57),Zb 56 true (bC 59 .eql 58 0),Za (.pick 60 (.s 56) (.s 59) cF),Za (mS 2 60)] [2])
.ret) (.seq (Zs [bC 62 .eql 8 8,mS 61 62] [1,8,61] (.cond (.s 61) .skip (pr [bC 63 .eql 8 9,mS 61 63] [1,61])))
(.cond (.s 61) (.seq (.reg [Za (fS 64 1 2),Za (lF 65 1 64),Za (.call 66 [] (.f N60) [.s 65,.c (.int .i64 3)]),Za (mS 67 66),Zb 67 true (fS 68 1 3),Zb 67 true (lF 69 1 68),Zb 67 true (bC 70 .eql 69 0),Za (.pick 71 (.s 67) (.s 70) cF),Za (mS 2 71)] [2])
.ret) .skip))))))))))))))
(Zs [.mv 2 cF] [2] .ret))))
theorem Cp4(o:GOp):Ctr Tryz.prog Nn4 [aS o.enc] [rB (opOk o)]:=by
 refine cA Mmx 1 72 [(.tmp 2,[false])] Tryz.func294 rfl rfl ?_;unfold Mmx
 intro hb
 clear hb
 simp only[go_sem]
 repeat' first
  |(refine And.intro ?_ ?_<;>intro h)
  |(apply K0 (Cpb _ _);simp only[go_sem])
  |(apply K0 (C2 _ _ _);simp only[go_sem])
 all_goals (unfold opOk;first|(symm;rw[decide_eq_false_iff_not];omega)|(symm;rw[decide_eq_true_eq];omega)|(rw[Bool.eq_iff_iff];simp only[decide_eq_true_eq,beq_iff_eq];omega))
def Mlm:MC:=
(Zs [.box 1 0 (.s 0),.mv 2 cF] [1] (Zs [.mv 3 (ci 3)] [1,3] (.seq (Zs [fS 4 1 1,lF 5 1 4,mS 6 3,.call 7 [] (.f N0) [.s 5,.c (.int .i64 0),.s 6],.un 8 .not (.s 7)] [1,3,8] (.cond (.s 8) (Zs [.mv 2 cF] [2] .ret) .skip))
(.seq (Zs [fS 9 1 0,lF 10 1 9] [1,3,10] (.block 0 (Zs [bC 12 .eql 10 1,mS 11 12] [1,3,10,11] (.cond (.s 11) (.seq (.reg [Za (fS 13 1 2),Za (lF 14 1 13),Za (.call 15 [] (.f N0) [.s 14,.c (.int .i64 1),.c (.int .i64 9)]),Za (mS 16 15),Zb 16 true (fS 17 1 3),Zb 16 true (lF 18 1 17),Zb 16 true (.call 19 [] (.f N0) [.s 18,.c (.int .i64 0),.c (.int .i64 99)]),Za (.pick 20 (.s 16) (.s 19) cF),Za (mS 2 20)] [2])
.ret) (.seq (Zs [bC 22 .eql 10 2,mS 21 22] [1,3,10,21] (.cond (.s 21) .skip (Zs [bC 23 .eql 10 3,mS 21 23] [1,3,10,21] (.cond (.s 21) .skip (pr [bC 24 .eql 10 4,mS 21 24] [1,3,10,21])))))
(.cond (.s 21) (.seq (.reg [Za (fS 25 1 2),Za (lF 26 1 25),Za (bC 27 .eql 26 0),Za (mS 28 27),Zb 28 true (fS 29 1 3),Zb 28 true (lF 30 1 29),Zb 28 true (bC 31 .eql 30 0),Za (.pick 32 (.s 28) (.s 31) cF),Za (mS 2 32)] [2])
.ret) (Zs [bC 34 .eql 10 5,mS 33 34] [1,3,10,33] (.cond (.s 33) (.seq (.reg [Za (fS 35 1 2),Za (lF 36 1 35),Za (mS 37 3),Za (.call 38 [] (.f N0) [.s 36,.c (.int .i64 0),.s 37]),Za (mS 39 38),Zb 39 true (fS 40 1 3),Zb 39 true (lF 41 1 40),Zb 39 true (mS 42 3),Zb 39 true (.call 43 [] (.f N0) [.s 41,.c (.int .i64 0),.s 42]),Za (.pick 44 (.s 39) (.s 43) cF),Za (mS 2 44)] [2])
.ret) (Zs [bC 46 .eql 10 6,mS 45 46] [1,10,45] (.cond (.s 45) (.seq (.reg [Za (fS 47 1 2),Za (lF 48 1 47),Za (.call 49 [] (.f N0) [.s 48,.c (.int .i64 0),.c (.int .i64 3)]),Za (mS 50 49),Zb 50 true (fS 51 1 3),Zb 50 true (lF 52 1 51),Zb 50 true (bC 53 .eql 52 0),Za (.pick 54 (.s 50) (.s 53) cF),Za (mS 2 54)] [2])
.ret) (Zs [bC 56 .eql 10 7,mS 55 56] [1,10,55] (.cond (.s 55) (.seq (.reg [Za (fS 57 1 2),Za (lF 58 1 57),Za (.call 59 [] (.f N0) [.s 58,.c (.int .i64 1),.c (.int .i64 3)]),Za (mS 60 59),Zb 60 true (fS 61 1 3),Zb 60 true (lF 62 1 61),Zb 60 true (bC 63 .eql 62 0),Za (.pick 64 (.s 60) (.s 63) cF),Za (mS 2 64)] [2])
.ret) (.seq (Zs [bC 66 .eql 10 8,mS 65 66] [1,10,65] (.cond (.s 65) .skip (pr [bC 67 .eql 10 9,mS 65 67] [1,65])))
(.cond (.s 65) (.seq (.reg [Za (fS 68 1 2),Za (lF 69 1 68),Za (.call 70 [] (.f N0) [.s 69,.c (.int .i64 0),.c (.int .i64 2)]),Za (mS 71 70),Zb 71 true (fS 72 1 3),Zb 71 true (lF 73 1 72),Zb 71 true (bC 74 .eql 73 0),Za (.pick 75 (.s 71) (.s 74) cF),Za (mS 2 75)] [2])
.ret) .skip))))))))))))))
(Zs [.mv 2 cF] [2] .ret)))))
theorem Coz(o:GOp):Ctr Tryz.prog Nlq [aS o.enc] [rB (opOk o)]:=by
 refine cA Mlm 1 76 [(.tmp 2,[false])] Tryz.func285 rfl rfl ?_;unfold Mlm
 intro hb
 clear hb
 simp only[go_sem]
 repeat' first
  |(refine And.intro ?_ ?_<;>intro h)
  |(apply K0 (C3 _ _ _);simp only[go_sem])
 all_goals (unfold opOk;first|(symm;rw[decide_eq_false_iff_not];omega)|(symm;rw[decide_eq_true_eq];omega)|(rw[Bool.eq_iff_iff];simp only[decide_eq_true_eq,beq_iff_eq];omega))
def Mbe:MC:=
(Zs [.box 1 0 (.s 0),.mv 2 cF] [1] (Zs [lT 3 4 1,.call 4 [] (.f Nn4) [.s 3],.un 5 .not (.s 4),mS 2 5] [2] .ret))
theorem Clw(o:GOp):Ctr Tryz.prog Ncj [aS o.enc] [rB (!opOk o)]:=by
 refine cA Mbe 1 6 [(.tmp 2,[false])] Tryz.func293 rfl rfl ?_;unfold Mbe
 intro hb
 clear hb
 simp only[go_sem]
 apply K0 (Cp4 _)
 simp only[go_sem]
def Mg4:MC:=
(Zs [.mv 2 cF] [0] (.seq (.reg [Za (mS 3 0),Za (nS 4 3),Za (bC 5 .leq 4 16),Za (mS 6 5),Zb 6 true (mS 7 0),Zb 6 true (.call 8 [] (.f N1g) [.s 7,.f Ncj]),Zb 6 true (.un 9 .not (.s 8)),Za (.pick 10 (.s 6) (.s 9) cF),Za (mS 2 10)] [2])
.ret))
theorem C3v(l:List GOp):Ctr Tryz.prog N2i [aL 4 (l.map GOp.enc)] [rB (K1d l)]:=by
 refine cA Mg4 0 11 [(.tmp 2,[false])] Tryz.func212 rfl rfl ?_;unfold Mg4
 intro hb
 clear hb
 simp only[go_sem]
 refine⟨fun h=>?_,fun h=>K6l (by omega)⟩
 refine K0 (Cdr l _ [] (fun o=> !opOk o) fun o _=>Clw o) ?_
 simp only[go_sem]
 exact K5x (by omega)
def Mgm:MC:=
(Zs [.mv 2 cF] [0] (.seq (Zs [.mv 3 (ci 0)] [0,3] (.block 0 (.loop ([0,3],[]) (.seq (Zs [mS 4 3,mS 5 0,nS 6 5,bS 7 .lss 4 6] [0,3,7] (cX 7 0))
(.seq (.block 1 (Zs [mS 10 0,mS 11 3,xS 12 4 10 11,lT 13 4 12,.call 14 [] (.f Nlq) [.s 13],.un 15 .not (.s 14)] [0,3,15] (.cond (.s 15) (Zs [.mv 2 cF] [2] .ret) .skip)))
(pr [mS 8 3,bC 9 .add 8 1,mS 3 9] [0,3]))))))
(Zs [mS 16 0,nS 17 16,bC 18 .leq 17 16,mS 2 18] [2] .ret)))
theorem C3y(l:List GOp):Ctr Tryz.prog N2l [aL 4 (l.map GOp.enc)] [rB (K1d l)]:=by
 refine cA Mgm 0 19 [(.tmp 2,[false])] Tryz.func194 rfl rfl ?_;unfold Mgm
 intro hb
 simp only[bdA,bdL,bdT,Ke,roomB,and_true,List.length_map]at hb
 have hl:=hb.1
 clear hb
 simp only[go_sem]
 refine K5 l (fun k=>[(3,vI k)]) (fun k=>[]) (fun k=>(l.take k).all opOk=true) hl ?_
 simp only[go_sem]
 refine⟨?_,by simp,?_,?_⟩
 ·simp only[go_sem]
 ·intro k x hx h h0 h1 hw
  simp only[go_sem,K4 hx,h0,h1]
  apply K0 (Coz _)
  simp only[go_sem,hw]
  exact⟨fun hn=>K4o hx hn,fun hn=>K3l hx h hn⟩
 ·intro h
  simp only[go_sem]
  rw[List.take_length]at h
  exact K7e.trans (K5w h)
def asks(k:Int):Bool:=decide (1≤k∧k≤4)
def Y32(v0:Nat)(v1:Nat):MC:=
(Zs [.mv 2 cF] [0] (Zs [mS 3 0,.call 4 [] (.f v0) [.s 3,.c (.int .i64 1),.c (.int .i64 v1)],mS 2 4] [2] .ret))
attribute [go_sem] Y32
def Mmv:MC:=Y32 N1 4
theorem Cmt(k:Int):Ctr Tryz.prog Nh6 [aI k] [rB (asks k)]:=by
 refine cA Mmv 0 5 [(.tmp 2,[false])] Tryz.func298 rfl rfl ?_;unfold Mmv
 intro hb
 clear hb
 simp only[go_sem]
 apply K0 (C2 _ _ _)
 simp only[go_sem]
 try rfl
def Mn1:MC:=Y32 N0 4
theorem Cmu(k:Int):Ctr Tryz.prog Nh7 [aI k] [rB (asks k)]:=by
 refine cA Mn1 0 5 [(.tmp 2,[false])] Tryz.func287 rfl rfl ?_;unfold Mn1
 intro hb
 clear hb
 simp only[go_sem]
 apply K0 (C3 _ _ _)
 simp only[go_sem]
 try rfl
def K4u(e:GEntry):Bool:=asks e.Kind&&(decide (0≤e.Value∧e.Value≤999)&&(if e.Kind=1 then K3q e.Address else K2m e.Address))
def Kam(l:List GEntry):Bool:=K1r 16 K4u l
def M79:MC:=
(Zs [.box 1 0 (.s 0),.mv 2 cF] [1] (.seq (Zs [fS 3 1 0,lF 4 1 3,bC 5 .eql 4 1] [1,5] (.cond (.s 5) (.seq (.reg [Za (fS 6 1 1),Za (lT 7 3 6),Za (.call 8 [] (.f N3b) [.s 7]),Za (.un 9 .not (.s 8)),Za (mS 10 9),Zb 10 false (fS 11 1 4),Zb 10 false (lF 12 1 11),Zb 10 false (.call 13 [] (.f N1) [.s 12,.c (.int .i64 0),.c (.int .i64 999)]),Zb 10 false (.un 14 .not (.s 13)),Za (.pick 15 (.s 10) cT (.s 14)),Za (mS 2 15)] [2])
.ret) .skip))
(.seq (.reg [Za (fS 16 1 0),Za (lF 17 1 16),Za (.call 18 [] (.f Nh6) [.s 17]),Za (.un 19 .not (.s 18)),Za (mS 20 19),Zb 20 false (fS 21 1 1),Zb 20 false (lT 22 3 21),Zb 20 false (.build 23 [pz,pz,pz] []),Zb 20 false (.eqA 24 true [.i .i64,.i .i64,.i .i64] (.s 22) (.s 23)),Za (.pick 25 (.s 20) cT (.s 24)),Za (mS 26 25),Zb 26 false (fS 27 1 4),Zb 26 false (lF 28 1 27),Zb 26 false (.call 29 [] (.f N1) [.s 28,.c (.int .i64 0),.c (.int .i64 999)]),Zb 26 false (.un 30 .not (.s 29)),Za (.pick 31 (.s 26) cT (.s 30)),Za (mS 2 31)] [2])
.ret)))
theorem Ck5(e:GEntry):Ctr Tryz.prog N83 [aS e.enc] [rB (!K4u e)]:=by
 refine cA M79 1 32 [(.tmp 2,[false])] Tryz.func312 rfl rfl ?_;unfold M79
 intro hb
 clear hb
 simp only[go_sem]
 repeat' first
  |(refine And.intro ?_ ?_<;>intro h)
  |(apply K0 (C35 _);simp only[go_sem])
  |(apply K0 (Cmt _);simp only[go_sem])
  |(apply K0 (C2 _ _ _);simp only[go_sem])
 all_goals (simp_all[K4u,asks,K2m];try omega)
def Mb9:MC:=
(Zs [.mv 2 cF] [0] (.seq (.reg [Za (mS 3 0),Za (nS 4 3),Za (bC 5 .leq 4 16),Za (mS 6 5),Zb 6 true (mS 7 0),Zb 6 true (.call 8 [] (.f N17) [.s 7,.f N83]),Zb 6 true (.un 9 .not (.s 8)),Za (.pick 10 (.s 6) (.s 9) cF),Za (mS 2 10)] [2])
.ret))
theorem Clt(l:List GEntry):Ctr Tryz.prog Ncg [aL 5 (l.map GEntry.enc)] [rB (Kam l)]:=by
 refine cA Mb9 0 11 [(.tmp 2,[false])] Tryz.func229 rfl rfl ?_;unfold Mb9
 intro hb
 clear hb
 simp only[go_sem]
 refine⟨fun h=>?_,fun h=>K6l (by omega)⟩
 refine K0 (C96 l _ [] (fun o=> !K4u o) fun o _=>Ck5 o) ?_
 simp only[go_sem]
 exact K5x (by omega)
def Mc4:MC:=
(Zs [.mv 2 cF] [0] (.seq (Zs [.mv 3 (ci 0)] [0,3] (.block 0 (.loop ([0,3],[0]) (.seq (Zs [mS 5 3,mS 6 0,nS 7 6,bS 8 .lss 5 7] [0,3,8] (cX 8 0))
(.seq (.block 1 (Zs [mS 11 0,mS 12 3,xS 13 5 11 12,lT 14 5 13,.alloc 4 0 [pz,pz,pz,pz,pz],sS 5 4 14] [0,3,4] (.seq (.reg [Za (fS 15 4 0),Za (lF 16 1 15),Za (.call 17 [] (.f Nh7) [.s 16]),Za (.un 18 .not (.s 17)),Za (mS 19 18),Zb 19 false (fS 20 4 4),Zb 19 false (lF 21 1 20),Zb 19 false (.call 22 [] (.f N0) [.s 21,.c (.int .i64 0),.c (.int .i64 999)]),Zb 19 false (.un 23 .not (.s 22)),Za (.pick 24 (.s 19) cT (.s 23)),Za (mS 25 24),Zb 25 false (fS 26 4 0),Zb 25 false (lF 27 1 26),Zb 25 false (bC 28 .eql 27 1),Zb 25 false (mS 29 28),Zb 29 true (fS 30 4 1),Zb 29 true (lT 31 3 30),Zb 29 true (.call 32 [] (.f N2b) [.s 31]),Zb 29 true (.un 33 .not (.s 32)),Zb 25 false (.pick 34 (.s 29) (.s 33) cF),Za (.pick 35 (.s 25) cT (.s 34)),Za (mS 36 35),Zb 36 false (fS 37 4 0),Zb 36 false (lF 38 1 37),Zb 36 false (bC 39 .neq 38 1),Zb 36 false (mS 40 39),Zb 40 true (fS 41 4 1),Zb 40 true (lT 42 3 41),Zb 40 true (.build 43 [pz,pz,pz] []),Zb 40 true (.eqA 44 true [.i .i64,.i .i64,.i .i64] (.s 42) (.s 43)),Zb 36 false (.pick 45 (.s 40) (.s 44) cF),Za (.pick 46 (.s 36) cT (.s 45))] [0,3,46])
(.cond (.s 46) (Zs [.mv 2 cF] [2] .ret) .skip))))
(pr [mS 9 3,bC 10 .add 9 1,mS 3 10] [0,3]))))))
(Zs [mS 47 0,nS 48 47,bC 49 .leq 48 16,mS 2 49] [2] .ret)))
theorem Cmj(l:List GEntry):Ctr Tryz.prog Nd8 [aL 5 (l.map GEntry.enc)] [rB (Kam l)]:=by
 refine cA Mc4 1 50 [(.tmp 2,[false])] Tryz.func317 rfl rfl ?_;unfold Mc4
 intro hb
 simp only[bdA,bdL,bdT,Ke,roomB,and_true,List.length_map]at hb
 have hl:=hb.1
 clear hb
 simp only[go_sem]
 refine K5 l (fun k=>[(3,vI k)]) (fun k=>[]) (fun k=>(l.take k).all K4u=true) hl ?_
 simp only[go_sem]
 refine⟨?_,by simp,?_,?_⟩
 ·simp only[go_sem]
 ·intro k x hx hT h0 h1 hw
  have hy:K4u x=true→(l.take (k+1)).all K4u=true:=fun hn=>K3l hx hT hn
  have hn:K4u x=false→false=Kam l:=fun hn=>K4o hx hn
  clear hT
  simp only[go_sem,K4 hx,h0,h1]
  repeat' first
   |(refine And.intro ?_ ?_<;>intro h)
   |(apply K0 (C38 _);simp only[go_sem,hw])
   |(apply K0 (Cmu _);simp only[go_sem])
   |(apply K0 (C3 _ _ _);simp only[go_sem,hw])
  all_goals first|(apply hy;clear hy hn hx hw;simp_all[K4u,K2m];done)|(apply hn;clear hy hn hx hw;simp_all[K4u,K2m];done)|(apply hn;clear hy hn hx hw;unfold K4u;rw[decide_eq_false (by assumption)];simp;done)
 ·intro h
  simp only[go_sem]
  rw[List.take_length]at h
  exact K7e.trans (K5w h)
def K4s(c:GCapture):Bool:=K3q c.Address&&(decide (0≤c.Tick∧c.Tick≤2000)&&K1f c.Resource)
def Kai(l:List GCapture):Bool:=K1r 20 K4s l
def Y33(v0:Nat):MC:=
(Zs [.box 1 0 (.s 0),.mv 2 cF] [1] (.seq (.reg [Za (fS 3 1 0),Za (lT 4 3 3),Za (.call 5 [] (.f N3b) [.s 4]),Za (.un 6 .not (.s 5)),Za (mS 7 6),Zb 7 false (fS 8 1 3),Zb 7 false (lF 9 1 8),Zb 7 false (.call 10 [] (.f N1) [.s 9,.c (.int .i64 0),.c (.int .i64 v0)]),Zb 7 false (.un 11 .not (.s 10)),Za (.pick 12 (.s 7) cT (.s 11)),Za (mS 13 12),Zb 13 false (fS 14 1 4),Zb 13 false (lT 15 5 14),Zb 13 false (.call 16 [] (.f N4x) [.s 15]),Zb 13 false (.un 17 .not (.s 16)),Za (.pick 18 (.s 13) cT (.s 17)),Za (mS 2 18)] [2])
.ret))
attribute [go_sem] Y33
def M6e:MC:=Y33 2000
theorem Cis(c:GCapture):Ctr Tryz.prog N6p [aS c.enc] [rB (!K4s c)]:=by
 refine cA M6e 1 19 [(.tmp 2,[false])] Tryz.func296 rfl rfl ?_;unfold M6e
 intro hb
 clear hb
 simp only[go_sem]
 repeat' first
  |(refine And.intro ?_ ?_<;>intro h)
  |(apply K0 (C35 _);simp only[go_sem])
  |(apply K0 (C4s _);simp only[go_sem])
  |(apply K0 (C2 _ _ _);simp only[go_sem])
 all_goals (simp_all[K4s];try omega)
def M9a:MC:=
(Zs [.mv 2 cF] [0] (.seq (.reg [Za (mS 3 0),Za (nS 4 3),Za (bC 5 .leq 4 20),Za (mS 6 5),Zb 6 true (mS 7 0),Zb 6 true (.call 8 [] (.f Nq) [.s 7,.f N6p]),Zb 6 true (.un 9 .not (.s 8)),Za (.pick 10 (.s 6) (.s 9) cF),Za (mS 2 10)] [2])
.ret))
theorem Cks(l:List GCapture):Ctr Tryz.prog Na4 [aL 9 (l.map GCapture.enc)] [rB (Kai l)]:=by
 refine cA M9a 0 11 [(.tmp 2,[false])] Tryz.func213 rfl rfl ?_;unfold M9a
 intro hb
 clear hb
 simp only[go_sem]
 refine⟨fun h=>?_,fun h=>K6l (by omega)⟩
 refine K0 (C71 l _ [] (fun o=> !K4s o) fun o _=>Cis o) ?_
 simp only[go_sem]
 exact K5x (by omega)
def M9u:MC:=
(Zs [.mv 2 cF] [0] (.seq (Zs [.mv 3 (ci 0)] [0,3] (.block 0 (.loop ([0,3],[]) (.seq (Zs [mS 4 3,mS 5 0,nS 6 5,bS 7 .lss 4 6] [0,3,7] (cX 7 0))
(.seq (.block 1 (.seq (.reg [Za (mS 10 0),Za (mS 11 3),Za (xS 12 9 10 11),Za (fS 13 12 0),Za (lT 14 3 13),Za (.call 15 [] (.f N2b) [.s 14]),Za (.un 16 .not (.s 15)),Za (mS 17 16),Zb 17 false (mS 18 0),Zb 17 false (mS 19 3),Zb 17 false (xS 20 9 18 19),Zb 17 false (fS 21 20 3),Zb 17 false (lF 22 1 21),Zb 17 false (.call 23 [] (.f N0) [.s 22,.c (.int .i64 0),.c (.int .i64 2000)]),Zb 17 false (.un 24 .not (.s 23)),Za (.pick 25 (.s 17) cT (.s 24)),Za (mS 26 25),Zb 26 false (mS 27 0),Zb 26 false (mS 28 3),Zb 26 false (xS 29 9 27 28),Zb 26 false (fS 30 29 4),Zb 26 false (lT 31 5 30),Zb 26 false (.call 32 [] (.f N2w) [.s 31]),Zb 26 false (.un 33 .not (.s 32)),Za (.pick 34 (.s 26) cT (.s 33))] [0,3,34])
(.cond (.s 34) (Zs [.mv 2 cF] [2] .ret) .skip)))
(pr [mS 8 3,bC 9 .add 8 1,mS 3 9] [0,3]))))))
(Zs [mS 35 0,nS 36 35,bC 37 .leq 36 20,mS 2 37] [2] .ret)))
theorem Cl9(l:List GCapture):Ctr Tryz.prog Nah [aL 9 (l.map GCapture.enc)] [rB (Kai l)]:=by
 refine cA M9u 0 38 [(.tmp 2,[false])] Tryz.func195 rfl rfl ?_;unfold M9u
 intro hb
 simp only[bdA,bdL,bdT,Ke,roomB,and_true,List.length_map]at hb
 have hl:=hb.1
 clear hb
 simp only[go_sem]
 refine K5 l (fun k=>[(3,vI k)]) (fun k=>[]) (fun k=>(l.take k).all K4s=true) hl ?_
 simp only[go_sem]
 refine⟨?_,by simp,?_,?_⟩
 ·simp only[go_sem]
 ·intro k x hx hT h0 h1 hw
  have hy:K4s x=true→(l.take (k+1)).all K4s=true:=fun hn=>K3l hx hT hn
  have hn:K4s x=false→false=Kai l:=fun hn=>K4o hx hn
  clear hT
  simp only[go_sem,K4 hx,h0,h1]
  repeat' first
   |(refine And.intro ?_ ?_<;>intro h)
   |(apply K0 (C38 _);simp only[go_sem,K4 hx,h0,h1])
   |(apply K0 (C4u _);simp only[go_sem,hw])
   |(apply K0 (C3 _ _ _);simp only[go_sem,K4 hx,h0,h1])
  all_goals first|(apply hy;clear hy hn hx hw;simp_all[K4s];done)|(apply hn;clear hy hn hx hw;simp_all[K4s];done)|(apply hn;clear hy hn hx hw;unfold K4s;rw[decide_eq_false (by assumption)];simp;done)
 ·intro h
  simp only[go_sem]
  rw[List.take_length]at h
  exact K7e.trans (K5w h)
end Go.Proofs.YtjneccbpkckdfaaGreatR
