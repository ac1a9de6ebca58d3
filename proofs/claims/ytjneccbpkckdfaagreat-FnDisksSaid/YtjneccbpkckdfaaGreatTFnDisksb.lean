/- What the functions compute that the laws of FnDisks reach: contracts. Conditions stand in each theorem. -/
import Derived.Test.YtjneccbpkckdfaaGreatTFnDisksa
set_option linter.unusedVariables false
set_option linter.unusedSimpArgs false
namespace Go.Proofs.YtjneccbpkckdfaaGreatR
open Go Go.RowKit Go.Proofs
open Nat (reduceEqDiff reduceLT reduceLeDiff reduceAdd reduceMul)
open List (reduceReplicate)
attribute [go_sem] eqB
def K3p(a b:GAddress):Bool:=decide (a.Host<b.Host∨a.Host=b.Host∧(a.Path<b.Path∨a.Path=b.Path∧a.Query<b.Query))
def cmpI(x y:Int):Int:=if x<y then -1 else if y<x then 1 else 0
def K5h(a b:GFound):Int:=if K3p a.Address b.Address=true then -1 else if K3p b.Address a.Address=true then 1 else cmpI a.Tick b.Tick
def K1l(a b:GFound):Bool:=decide (a.Address.Host<b.Address.Host∨a.Address.Host=b.Address.Host∧(a.Address.Path<b.Address.Path∨a.Address.Path=b.Address.Path∧(a.Address.Query<b.Address.Query∨a.Address.Query=b.Address.Query∧a.Tick<b.Tick)))
theorem K7s:ltc K5h=K1l:=by
 funext a b
 unfold ltc K5h K1l K3p cmpI
 rw[Bool.eq_iff_iff]
 simp only[decide_eq_true_eq]
 split
 ·simp;omega
 ·split
  ·simp;omega
  ·split
   ·simp;omega
   ·split<;>simp<;>omega
theorem fndSwo:Srt.Swo (ltc K5h):=by
 rw[K7s]
 constructor
 ·intro x y h
  simp only[K1l,decide_eq_true_eq,decide_eq_false_iff_not]at*
  omega
 ·intro x y z h
  simp only[K1l,decide_eq_true_eq]at*
  omega
def fnd1(i:Nat):Nat→List GCapture→List GFound
 |_,[]=>[]
 |k,c::cs=>⟨c.Address,c.Tick,i,k⟩::fnd1 i (k+1) cs
def fnds:Nat→List GContainer→List GFound
 |_,[]=>[]
 |i,x::xs=>fnd1 i 0 x.Captures++fnds (i+1) xs
theorem K9k{i:Nat}:∀ {cs:List GCapture} {k m:Nat} {c:GCapture},cs[k]? =some c→fnd1 i m (cs.take (k+1))=fnd1 i m (cs.take k)++[⟨c.Address,c.Tick,i,(m+k:Nat)⟩]
 | [],_,_,_,h=>by simp at h
 |c::cs,0,m,d,h=>by
  simp only[List.getElem?_cons_zero,Option.some.injEq]at h
  subst h
  simp[fnd1]
 |c::cs,k+1,m,d,h=>by
  simp only[List.getElem?_cons_succ]at h
  rw[List.take_succ_cons,List.take_succ_cons,fnd1,fnd1,K9k h,List.cons_append,show m+1+k=m+(k+1)by omega]
theorem K35:∀ {l:List GContainer} {k m:Nat} {x:GContainer},l[k]? =some x→fnds m (l.take (k+1))=fnds m (l.take k)++fnd1 (m+k) 0 x.Captures
 | [],_,_,_,h=>by simp at h
 |c::cs,0,m,d,h=>by
  simp only[List.getElem?_cons_zero,Option.some.injEq]at h
  subst h
  simp[fnds]
 |c::cs,k+1,m,d,h=>by
  simp only[List.getElem?_cons_succ]at h
  rw[List.take_succ_cons,List.take_succ_cons,fnds,fnds,K35 h,List.append_assoc,show m+1+k=m+(k+1)by omega]
theorem K61{i:Nat}:∀ {cs:List GCapture} {k:Nat},(fnd1 i k cs).length=cs.length
 | [],_=>rfl
 |c::cs,k=>by rw[fnd1,List.length_cons,K61,List.length_cons]
theorem K7w:∀ {l:List GContainer} {m:Nat},(fnds m l).length=(l.map fun x=>x.Captures.length).sum
 | [],_=>rfl
 |x::l,m=>by rw[fnds,List.length_append,K61,K7w,List.map_cons,List.sum_cons]
def index(l:List GContainer):List GFound:=Srt.isort K1l (fnds 0 l)
theorem fndSwo':Srt.Swo K1l:=K7s▸fndSwo
theorem K3j{m:Nat}:∀ {l:List GContainer},(fnds m l).length≤(l.map GContainer.size).sum:=by
 intro l
 rw[K7w]
 induction l with
 |nil=>simp
 |cons x l ih=>simp only[List.map_cons,List.sum_cons,GContainer.size];omega
theorem K7g{l:List GContainer}{i k:Nat}{x:GContainer}(hx:l[i]? =some x):(fnds 0 (l.take i)++fnd1 i 0 (x.Captures.take k)).length≤(l.map GContainer.size).sum:=by
 have h1:(fnds 0 (l.take (i+1))).length≤(l.map GContainer.size).sum:=Nat.le_trans K3j (K7l l (i+1))
 rw[K35 hx,List.length_append,K61]at h1
 rw[List.length_append,K61,List.length_take]
 omega
theorem K9l{l:List GContainer}{i k:Nat}{x:GContainer}{c:GCapture}(hc:x.Captures[k]? =some c):fnds 0 (l.take i)++fnd1 i 0 (x.Captures.take (k+1))=fnds 0 (l.take i)++fnd1 i 0 (x.Captures.take k)++[⟨c.Address,c.Tick,i,k⟩]:=by
 rw[K9k hc,List.append_assoc,Nat.zero_add]
theorem cutA{α:Type}{f:α→List T}{l:List α}{m:Nat}(h:m≤l.length):(if ((m:Int)-0).toNat=l.length then l.map f else List.take ((m:Int)-0).toNat (l.map f))=(l.take m).map f:=by
 rw[show((m:Int)-0).toNat=m by omega]
 split
 ·rename_i e;rw[List.take_of_length_le (by omega)]
 ·rw[List.map_take]
theorem cutB{α:Type}{f:α→List T}{l:List α}{m:Nat}(h:m≤l.length):(if m=0∧((l.length:Int)-(m:Int)).toNat=l.length then l.map f else List.take ((l.length:Int)-(m:Int)).toNat (List.drop m (l.map f)))=(l.drop m).map f:=by
 rw[show((l.length:Int)-(m:Int)).toNat=l.length-m by omega]
 split
 ·rename_i e;rw[e.1];rfl
 ·rw[List.take_of_length_le (by simp),List.map_drop]
namespace Srt
variable {α:Type} {lt:α→α→Bool}
theorem ins_at{l:List α}(hw:Swo lt)(hs:srt lt l){x:α}{n:Nat}(h1:∀z∈l.drop n,lt x z=true)(h2:n=0∨∃y,l[n-1]? =some y∧lt x y=false):ins lt x l=l.take n++[x]++l.drop n:=by
 have e:ins lt x (l.take n++l.drop n)=l.take n++x::l.drop n:=by
  refine ins_mid ?_ (fun a ha=>h1 a (List.mem_of_mem_head? ha))
  intro a ha
  rcases h2 with rfl|⟨y,hy,h⟩
  ·simp at ha
  ·obtain⟨i,hi⟩:=List.mem_iff_getElem?.1 ha
   rw[List.getElem?_take]at hi
   split at hi
   ·rename_i hlt
    by_cases hin:i=n-1
    ·subst hin
     obtain rfl:=Option.some.inj (hi.symm.trans hy)
     exact h
    ·obtain⟨h1,rfl⟩:=List.getElem?_eq_some_iff.1 hi
     obtain⟨h2,rfl⟩:=List.getElem?_eq_some_iff.1 hy
     exact hw.ntr h ((List.pairwise_iff_getElem.1 hs) i (n-1) h1 h2 (by omega))
   ·cases hi
 rw[List.take_append_drop]at e
 rw[e];simp
theorem drop_step{l:List α}{x:α}{n:Nat}{y:α}(hn:0<n)(hy:l[n-1]? =some y)(h:∀z∈l.drop n,lt x z=true)(hx:lt x y=true):∀z∈l.drop (n-1),lt x z=true:=by
 obtain⟨h1,rfl⟩:=List.getElem?_eq_some_iff.1 hy
 rw[List.drop_eq_getElem_cons h1,show n-1+1=n by omega]
 intro z hz
 rcases List.mem_cons.1 hz with rfl|hz
 ·exact hx
 ·exact h z hz
end Srt
def M3a:MC:=
(Zs [.box 2 0 (.s 0),.box 3 1 (.s 1),.mv 4 cF] [2,3] (.seq (.block 0 (Zs [fS 6 2 0,lF 7 1 6,fS 8 3 0,lF 9 1 8,bS 10 .neq 7 9,mS 5 10] [2,3,5] (.cond (.s 5) (Zs [fS 11 2 0,lF 12 1 11,fS 13 3 0,lF 14 1 13,bS 15 .lss 12 14,mS 4 15] [4] .ret) (Zs [fS 17 2 1,lF 18 1 17,fS 19 3 1,lF 20 1 19,bS 21 .neq 18 20,mS 16 21] [2,3,16] (.cond (.s 16) (Zs [fS 22 2 1,lF 23 1 22,fS 24 3 1,lF 25 1 24,bS 26 .lss 23 25,mS 4 26] [4] .ret) .skip)))))
(Zs [fS 27 2 2,lF 28 1 27,fS 29 3 2,lF 30 1 29,bS 31 .lss 28 30,mS 4 31] [4] .ret)))
theorem C7g(a b:GAddress):Ctr Tryz.prog N1u [aS a.enc,aS b.enc] [rB (K3p a b)]:=by
 refine cA M3a 2 32 [(.tmp 4,[false])] Tryz.func130 rfl rfl ?_;unfold M3a
 intro hb
 clear hb
 simp only[go_sem]
 repeat' first
  |(refine And.intro ?_ ?_<;>intro h)
 all_goals (unfold K3p;first|(symm;rw[decide_eq_false_iff_not];omega)|(rw[Bool.eq_iff_iff];simp only[decide_eq_true_eq];omega))
def M3c:MC:=
(Zs [.box 2 0 (.s 0),.box 3 1 (.s 1),.mv 4 cF] [2,3] (.seq (Zs [fS 5 2 0,lF 6 1 5,fS 7 3 0,lF 8 1 7,bS 9 .neq 6 8] [2,3,9] (.cond (.s 9) (Zs [fS 10 2 0,lF 11 1 10,fS 12 3 0,lF 13 1 12,bS 14 .lss 11 13,mS 4 14] [4] .ret) .skip))
(.seq (Zs [fS 15 2 1,lF 16 1 15,fS 17 3 1,lF 18 1 17,bS 19 .neq 16 18] [2,3,19] (.cond (.s 19) (Zs [fS 20 2 1,lF 21 1 20,fS 22 3 1,lF 23 1 22,bS 24 .lss 21 23,mS 4 24] [4] .ret) .skip))
(Zs [fS 25 2 2,lF 26 1 25,fS 27 3 2,lF 28 1 27,bS 29 .lss 26 28,mS 4 29] [4] .ret))))
theorem C7j(a b:GAddress):Ctr Tryz.prog N3i [aS a.enc,aS b.enc] [rB (K3p a b)]:=by
 refine cA M3c 2 30 [(.tmp 4,[false])] Tryz.func318 rfl rfl ?_;unfold M3c
 intro hb
 clear hb
 simp only[go_sem]
 repeat' first
  |(refine And.intro ?_ ?_<;>intro h)
 all_goals (unfold K3p;first|(symm;rw[decide_eq_false_iff_not];omega)|(rw[Bool.eq_iff_iff];simp only[decide_eq_true_eq];omega))
def M68:MC:=
(Zs [.box 2 0 (.s 0),.box 3 1 (.s 1),.mv 4 cF] [2,3] (.seq (Zs [fS 5 2 0,lT 6 3 5,fS 7 3 0,lT 8 3 7,.eqA 9 true [.i .i64,.i .i64,.i .i64] (.s 6) (.s 8)] [2,3,9] (.cond (.s 9) (Zs [fS 10 2 0,lT 11 3 10,fS 12 3 0,lT 13 3 12,.call 14 [] (.f N3i) [.s 11,.s 13],mS 4 14] [4] .ret) .skip))
(Zs [fS 15 2 3,lF 16 1 15,fS 17 3 3,lF 18 1 17,bS 19 .lss 16 18,mS 4 19] [4] .ret)))
theorem C9q(a b:GFound):Ctr Tryz.prog N6b [aS a.enc,aS b.enc] [rB (K1l a b)]:=by
 refine cA M68 2 20 [(.tmp 4,[false])] Tryz.func238 rfl rfl ?_;unfold M68
 intro hb
 clear hb
 simp only[go_sem]
 repeat' first
  |(refine And.intro ?_ ?_<;>intro h)
  |(apply K0 (C7j _ _);simp only[go_sem])
 all_goals (simp only[K1l,K3p];rw[Bool.eq_iff_iff];simp only[decide_eq_true_eq];simp at h;omega)
def M6g:MC:=
(Zs [.mv 2 cF] [0] (Zs [mS 3 0,mS 4 0,bS 5 .neq 3 4,mS 2 5] [2] .ret))
theorem Cad(x:Int):Ctr Tryz.prog N3e [aI x] [rB false]:=by
 refine cA M6g 0 6 [(.tmp 2,[false])] Tryz.func240 rfl rfl ?_;unfold M6g
 intro hb
 clear hb
 simp only[go_sem]
def M51:MC:=
(Zs [.mv 4 (ci 0)] [0,1] (Zs [mS 7 0,.call 8 [] (.f N3e) [.s 7],mS 5 8] [0,1,5] (Zs [mS 9 1,.call 10 [] (.f N3e) [.s 9],mS 6 10] [0,1,5,6] (.seq (Zs [mS 11 5] [0,1,6,11] (.cond (.s 11) (.seq (Zs [mS 12 6] [12] (.cond (.s 12) (Zs [.mv 4 (ci 0)] [4] .ret) .skip))
(Zs [.mv 4 (.c (.int .i64 (-1)))] [4] .ret)) .skip))
(.seq (Zs [mS 13 6] [0,1,13] (.cond (.s 13) (Zs [.mv 4 (ci 1)] [4] .ret) .skip))
(.seq (Zs [mS 14 0,mS 15 1,bS 16 .lss 14 15] [0,1,16] (.cond (.s 16) (Zs [.mv 4 (.c (.int .i64 (-1)))] [4] .ret) .skip))
(.seq (Zs [mS 17 0,mS 18 1,bS 19 .gtr 17 18] [19] (.cond (.s 19) (Zs [.mv 4 (ci 1)] [4] .ret) .skip))
(Zs [.mv 4 (ci 0)] [4] .ret))))))))
theorem Ca5(x y:Int):Ctr Tryz.prog N5i [aI x,aI y] [rI (cmpI x y)]:=by
 refine cA M51 0 20 [(.tmp 4,[false])] Tryz.func131 rfl rfl ?_;unfold M51
 intro hb
 clear hb
 simp only[go_sem]
 repeat' first
  |(refine And.intro ?_ ?_<;>intro h)
  |(apply K0 (Cad _);simp only[go_sem])
 all_goals (unfold cmpI;first|rfl|(repeat' split)<;>first|rfl|omega)
def M3q:MC:=
(Zs [.box 2 0 (.s 0),.box 3 1 (.s 1),.mv 4 (ci 0)] [2,3] (.seq (.block 0 (Zs [fS 6 2 0,lT 7 3 6,fS 8 3 0,lT 9 3 8,.call 10 [] (.f N1u) [.s 7,.s 9],mS 5 10] [2,3,5] (.cond (.s 5) (Zs [.mv 4 (.c (.int .i64 (-1)))] [4] .ret) (Zs [fS 12 3 0,lT 13 3 12,fS 14 2 0,lT 15 3 14,.call 16 [] (.f N1u) [.s 13,.s 15],mS 11 16] [2,3,11] (.cond (.s 11) (Zs [.mv 4 (ci 1)] [4] .ret) .skip)))))
(Zs [fS 17 2 3,lF 18 1 17,fS 19 3 3,lF 20 1 19,.call 21 [] (.f N5i) [.s 18,.s 20],mS 4 21] [4] .ret)))
theorem C8i(a b:GFound):Ctr Tryz.prog N3z [aS a.enc,aS b.enc] [rI (K5h a b)]:=by
 refine cA M3q 2 22 [(.tmp 4,[false])] Tryz.func129 rfl rfl ?_;unfold M3q
 intro hb
 clear hb
 simp only[go_sem]
 repeat' first
  |(refine And.intro ?_ ?_<;>intro h)
  |(apply K0 (C7g _ _);simp only[go_sem])
  |(apply K0 (Ca5 _ _);simp only[go_sem])
 all_goals (unfold K5h;simp_all)
def M53:MC:=
(Zs [.nilo 2 0 6] [0] (Zs [.nilo 3 0 6] [0,3] (.seq (Zs [mS 8 0,nS 9 8,.mv 10 (ci 0)] [3,8,9,10] (.block 0 (.loop ([3,8,9,10],[1,2,3]) (Zs [bS 11 .lss 10 9] [3,8,9,10,11] (.seq (cX 11 0)
(.seq (.block 1 (Zs [mS 12 10,xS 13 4 8 10,lT 14 4 13,.alloc 5 1 [.emp 4,.emp 5,.emp 9,pz],mS 4 12,sS 4 5 14] [3,4,5,8,9,10] (Zs [fS 15 5 2,lF 16 1 15,nS 17 16,.mv 18 (ci 0)] [3,4,8,9,10,16,17,18] (.block 2 (.loop ([3,4,8,9,10,16,17,18],[1,2,3]) (Zs [bS 19 .lss 18 17] [3,4,8,9,10,16,17,18,19] (.seq (cX 19 2)
(.seq (.block 3 (Zs [mS 20 18,xS 21 9 16 18,lT 22 9 21,.alloc 7 2 [pz,pz,pz,pz,pz,.emp 1,pz,pz,pz],mS 6 20,sS 9 7 22] [3,4,6,7,8,9,10,16,17,18] (pr [mS 23 3,fS 24 7 0,lT 25 3 24,fS 26 7 3,lF 27 1 26,mS 28 4,mS 29 6,.build 30 [pz,pz,pz,pz,pz,pz] [(0,3,.s 25),(3,1,.s 27),(4,1,.s 28),(5,1,.s 29)],.lit 31 3 6 48 [.s 30],.app 32 0 6 48 (.s 23) (.s 31),mS 3 32] [3,4,8,9,10,16,17,18])))
(pr [bC 33 .add 18 1,mS 18 33] [3,4,8,9,10,16,17,18])))))))))
(pr [bC 34 .add 10 1,mS 10 34] [3,8,9,10])))))))
(Zs [mS 35 3,.callI 36 [] (.f Nl) [.s 35,.f N3z] [0] []] [3] (Zs [mS 37 3,mS 2 37] [2] .ret)))))
theorem C14(l:List GContainer)(hs:l.length+(l.map GContainer.size).sum≤1073741824):Ctr Tryz.prog Nu [aL 4 (l.map GContainer.enc)] [rL 6 ((index l).map GFound.enc)]:=by
 refine cA M53 4 38 [(.tmp 2,[true])] Tryz.func43 rfl rfl ?_;unfold M53
 intro hb
 clear hb
 simp only[go_sem]
 refine K7 l (fun i=>[(3,.val false [.ref 0 0 6 0 (fnds 0 (l.take i)).length]),(10,vI i)]) (fun i=>[(0,⟨0,.row true 6 ((fnds 0 (l.take i)).map GFound.enc)⟩)]) (fun _=>True) (by simp only[roomB];omega) ?_
 simp only[go_sem]
 refine⟨?_,trivial,?_,?_⟩
 ·simp only[go_sem,List.take_zero]
  exact⟨rfl,rfl⟩
 ·intro i x hx _ h0 h1 hw
  have hx1:=K1y (f:=GContainer.size) (K10 hx)
  have hi:=Kl hx
  have hxl:x.Captures.length≤x.size:=by simp only[GContainer.size];omega
  simp only[go_sem,K4 hx,h0,h1]
  refine K7 x.Captures (fun k=>[(3,.val false [.ref 0 0 6 0 (fnds 0 (l.take i)++fnd1 i 0 (x.Captures.take k)).length]),(18,vI k)]) (fun k=>[(0,⟨0,.row true 6 ((fnds 0 (l.take i)++fnd1 i 0 (x.Captures.take k)).map GFound.enc)⟩)]) (fun _=>True) (by simp only[roomB];omega) ?_
  simp only[go_sem]
  refine⟨?_,trivial,?_,?_⟩
  ·simp only[go_sem,List.take_zero]
   exact⟨by simp[fnd1],by simp[fnd1]⟩
  ·intro k c hc _ h2 h3 hw2
   have hn:=K7g (k:=k) hx
   simp only[go_sem,K4 hc,h2,h3,hw2,K9l hc]
   exact⟨by simp only[roomB];omega,by simp only[roomB];omega,by simp only[List.length_append,List.length_cons,List.length_nil],by simp[GFound.enc]⟩
  ·intro _
   simp only[go_sem,List.take_length,hw]
   exact⟨by rw[K35 hx,Nat.zero_add],by rw[K35 hx,Nat.zero_add]⟩
 ·intro _
  simp only[go_sem,List.take_length]
  apply Kg (C6d (fnds 0 l) _ K5h C8i fndSwo)
  simp only[go_sem]
  exact⟨Srt.len_isort.symm,by rw[index,K7s]⟩
def M59:MC:=
(Zs [.nilo 2 0 6] [0] (Zs [.lit 8 0 6 48 [],mS 3 8] [0,3] (.seq (Zs [.mv 4 (ci 0)] [0,3,4] (.block 0 (.loop ([0,3,4],[1,2,3]) (.seq (Zs [mS 9 4,mS 10 0,nS 11 10,bS 12 .lss 9 11] [0,3,4,12] (cX 12 0))
(.seq (.block 1 (Zs [.mv 5 (ci 0)] [0,3,4,5] (.block 2 (.loop ([0,3,4,5],[1,2,3]) (.seq (Zs [mS 15 5,mS 16 0,mS 17 4,xS 18 4 16 17,fS 19 18 2,lF 20 1 19,nS 21 20,bS 22 .lss 15 21] [0,3,4,5,22] (cX 22 2))
(.seq (.block 3 (.seq (.dreg [Zf [6,26,30,34,35,36,37,38,39,40,41,42,43,44] [1] (mS 25 0),Zf [6,25,30,34,35,36,37,38,39,40,41,42,43,44] [1] (mS 26 4),Zg [6,30,34,35,36,37,38,39,40,41,42,43,44] [1] [0,1] (xS 27 4 25 26),Zg [6,30,34,35,36,37,38,39,40,41,42,43,44] [1] [0,1,2] (fS 28 27 2),Zg [6,30,34,35,36,37,38,39,40,41,42,43,44] [1] (.range 4) (lF 29 1 28),Zf [6,25,26,27,28,29,34,35,36,37,38,39,40,41,42,43,44] [1] (mS 30 5),Zg [6,34,35,36,37,38,39,40,41,42,43,44] [1] (.range 6) (xS 31 9 29 30),Zg [6,34,35,36,37,38,39,40,41,42,43,44] [1] (.range 7) (fS 32 31 0),Zg [6,34,35,36,37,38,39,40,41,42,43,44] [1] (.range 8) (lT 33 3 32),Zf [6,25,26,27,28,29,30,31,32,33,35,39,43,44] [1] (mS 34 0),Zf [6,25,26,27,28,29,30,31,32,33,34,39,43,44] [1] (mS 35 4),Zg [6,25,26,27,28,29,30,31,32,33,39,43,44] [1] [9,10] (xS 36 4 34 35),Zg [6,25,26,27,28,29,30,31,32,33,39,43,44] [1] [9,10,11] (fS 37 36 2),Zg [6,25,26,27,28,29,30,31,32,33,39,43,44] [1] [9,10,11,12] (lF 38 1 37),Zf [6,25,26,27,28,29,30,31,32,33,34,35,36,37,38,43,44] [1] (mS 39 5),Zg [6,25,26,27,28,29,30,31,32,33,43,44] [1] [9,10,11,12,13,14] (xS 40 9 38 39),Zg [6,25,26,27,28,29,30,31,32,33,43,44] [1] [9,10,11,12,13,14,15] (fS 41 40 3),Zg [6,25,26,27,28,29,30,31,32,33,43,44] [1] [9,10,11,12,13,14,15,16] (lF 42 1 41),Zf [6,25,26,27,28,29,30,31,32,33,34,35,36,37,38,39,40,41,42,44] [1] (mS 43 4),Zf [6,25,26,27,28,29,30,31,32,33,34,35,36,37,38,39,40,41,42,43] [1] (mS 44 5),Zg [6] [1] (.range 20) (.build 45 [pz,pz,pz,pz,pz,pz] [(0,3,.s 33),(3,1,.s 42),(4,1,.s 43),(5,1,.s 44)]),{o:= .alloc 6 1 [pz,pz,pz,pz,pz,pz],hs:=[25,26,27,28,29,30,31,32,33,34,35,36,37,38,39,40,41,42,43,44,45],ws:=[1]},{o:=sS 6 6 45,ws:=[1],bf:=(.range 22)}] [0,3,4,5,6])
(Zs [mS 46 3,nS 47 46,mS 7 47] [0,3,4,5,6,7] (.seq (.block 4 (.loop ([0,3,4,5,6,7],[2,3]) (.seq (.seq (.dreg [Za (mS 48 7),Ze [0] (bC 49 .gtr 48 0),Ze [0,1] (mS 50 49),{o:=lT 51 6 6,g:=some (50,true),hs:=[52,53,54,55,56],bf:=[0,1,2]},{o:=mS 52 3,g:=some (50,true),hs:=[51,53,54],bf:=[0,1,2]},{o:=mS 53 7,g:=some (50,true),hs:=[51,52],bf:=[0,1,2]},{o:=bC 54 .sub 53 1,g:=some (50,true),hs:=[51,52],bf:=[0,1,2,5]},{o:=xS 55 6 52 54,g:=some (50,true),hs:=[51],bf:=[0,1,2,4,5,6]},{o:=lT 56 6 55,g:=some (50,true),hs:=[51],bf:=[0,1,2,4,5,6,7]},{o:= .call 57 [] (.f N6b) [.s 51,.s 56],g:=some (50,true),bf:=(.range 9)},Ze (.range 10) (.pick 58 (.s 50) (.s 57) cF)] [0,3,4,5,6,7,58])
(cX 58 4))
(.block 5 (pr [mS 59 7,bC 60 .sub 59 1,mS 7 60] [0,3,4,5,6,7])))))
(.dreg [{o:= .lit 61 2 6 48 [],hs:=[62,63,64,66,67,69,70,71],ho:=[3],ws:=[2]},Zf [61,63,66,67,69,70,71] [2,3] (mS 62 3),Zf [61,62,66,67,69,70,71] [2,3] (mS 63 7),Zg [61,66,67,69,70,71] [2,3] [1,2] (.slc 64 6 (.s 62) none (some (.s 63)) none),{o:= .app 65 2 6 48 (.s 61) (.s 64),hs:=[66,67,69,70,71],ho:=[3],ws:=[2],bf:=(.range 4)},Zf [61,62,63,64,65,69,70,71] [2] (lT 66 6 6),{o:= .lit 67 3 6 48 [.s 66],hs:=[61,62,63,64,65,69,70,71],ho:=[2],ws:=[3],bf:=[5]},{o:= .app 68 2 6 48 (.s 65) (.s 67),hs:=[69,70,71],ws:=[2],bf:=(.range 7)},Zf [61,62,63,64,65,66,67,68,70] [2,3] (mS 69 3),Zf [61,62,63,64,65,66,67,68,69] [2,3] (mS 70 7),Zg [61,62,63,64,65,66,67,68] [2,3] [8,9] (.slc 71 6 (.s 69) (some (.s 70)) none none),{o:= .app 72 0 6 48 (.s 68) (.s 71),ws:=[0,2],bf:=(.range 11)},Ze (.range 12) (mS 3 72)] [0,3,4,5])))))
(pr [mS 23 5,bC 24 .add 23 1,mS 5 24] [0,3,4,5])))))))
(pr [mS 13 4,bC 14 .add 13 1,mS 4 14] [0,3,4]))))))
(Zs [mS 73 3,mS 2 73] [2] .ret))))
theorem C1n(l:List GContainer)(hs:l.length+(l.map GContainer.size).sum≤1073741824):Ctr Tryz.prog N17 [aL 4 (l.map GContainer.enc)] [rL 6 ((index l).map GFound.enc)]:=by
 refine cA M59 4 74 [(.tmp 2,[true])] Tryz.func127 rfl rfl ?_;unfold M59
 intro hb
 clear hb
 simp only[go_sem]
 refine K7 l (fun i=>[(3,.val false [.ref 0 0 6 0 (Srt.isort K1l (fnds 0 (l.take i))).length]),(4,vI i)]) (fun i=>[(0,⟨0,.row true 6 ((Srt.isort K1l (fnds 0 (l.take i))).map GFound.enc)⟩)]) (fun _=>True) (by simp only[roomB];omega) ?_
 simp only[go_sem]
 refine⟨?_,trivial,?_,?_⟩
 ·simp only[go_sem,List.take_zero]
  exact⟨rfl,rfl⟩
 ·intro i x hx _ h0 h1 hw
  have hx1:=K1y (f:=GContainer.size) (K10 hx)
  have hi:=Kl hx
  have hxl:x.Captures.length≤x.size:=by simp only[GContainer.size];omega
  simp only[go_sem,h1]
  refine K7 x.Captures (fun k=>[(3,.val false [.ref 0 0 6 0 (Srt.isort K1l (fnds 0 (l.take i)++fnd1 i 0 (x.Captures.take k))).length]),(5,vI k)]) (fun k=>[(0,⟨0,.row true 6 ((Srt.isort K1l (fnds 0 (l.take i)++fnd1 i 0 (x.Captures.take k))).map GFound.enc)⟩)]) (fun _=>True) (by simp only[roomB];omega) ?_
  simp only[go_sem]
  refine⟨?_,trivial,?_,?_⟩
  ·simp only[go_sem,List.take_zero]
   exact⟨by simp[fnd1],by simp[fnd1]⟩
  ·intro k c hc _ h2 h3 hw2
   have hn:=K7g (k:=k) hx
   obtain⟨y,hy⟩:∃y:GFound,y=⟨c.Address,c.Tick,i,k⟩:=⟨_,rfl⟩
   obtain⟨out,hout⟩:∃out,out=Srt.isort K1l (fnds 0 (l.take i)++fnd1 i 0 (x.Captures.take k)):=⟨_,rfl⟩
   have hsr:Srt.srt K1l out:=hout▸Srt.srt_isort fndSwo' _
   have hol:out.length≤(l.map GContainer.size).sum:=by rw[hout,Srt.len_isort];exact hn
   have hst:Srt.isort K1l (fnds 0 (l.take i)++fnd1 i 0 (x.Captures.take (k+1)))=Srt.ins K1l y out:=by
    rw[K9l hc,Srt.isort_snoc,←hout,←hy]
   have hye:([tI c.Address.Host,tI c.Address.Path,tI c.Address.Query,tI c.Tick,tI (i:Int),tI (k:Int)]:List T)=y.enc:=by rw[hy];rfl
   rw[hst,←hout]
   simp only[go_sem,K4 hx,K4 hc,h0,h1,h2,h3,hw]
   refine Ko (fun n:Nat=>[(7,vI n)]) (fun n=>[]) (fun n=>n≤out.length∧∀z∈out.drop n,K1l y z=true) (fun n=>n) out.length ?_
   simp only[go_sem]
   refine⟨?_,⟨Nat.le_refl _,by simp⟩,?_⟩
   ·simp only[go_sem]
   ·rintro n ⟨hn1,hn2⟩
    simp only[go_sem]
    refine⟨fun hpos=>?_,fun hzero=>?_⟩
    ·obtain⟨m,hm⟩:∃m,m=n-1:=⟨_,rfl⟩
     obtain⟨z,hz⟩:=Ke (show m<out.length by omega)
     have e1:IntKind.i64.wrap ((n:Int)-1)=(m:Int):=by rw[wI (by omega) (by omega)];omega
     rw[e1]
     simp only[go_sem,K4 hz]
     refine⟨⟨by omega,by omega⟩,?_⟩
     apply K0 (C9q ⟨c.Address,c.Tick,(i:Int),(k:Int)⟩ z)
     simp only[go_sem]
     rw[e1]
     refine⟨fun ht=>⟨m,rfl,⟨by omega,?_⟩,by omega⟩,fun hf=>?_⟩
     ·rw[hm]
      exact Srt.drop_step (by omega) (hm▸hz) hn2 (hy▸ht)
     ·have hstop:n=0∨∃y',out[n-1]? =some y'∧K1l y y'=false:= .inr ⟨z,hm▸hz,hy▸hf⟩
      rw[cutA hn1]
      refine⟨by omega,by omega,?_⟩
      have hA:(out.take n).length=n:=by rw[List.length_take];omega
      have hB:out.length=n+(out.drop n).length:=by rw[List.length_drop];omega
      have eC:=cutB (f:=GFound.enc) hn1
      have e5:List.map GFound.enc (out.take n)++[[T.sc (Value.int IntKind.i64 c.Address.Host),T.sc (Value.int IntKind.i64 c.Address.Path),T.sc (Value.int IntKind.i64 c.Address.Query),T.sc (Value.int IntKind.i64 c.Tick),T.sc (Value.int IntKind.i64 (i:Int)),T.sc (Value.int IntKind.i64 (k:Int))]]=(out.take n++[y]).map GFound.enc:=by rw[hy];simp[GFound.enc]
      have e6:((out.take n++[y]).map GFound.enc).length=(out.take n).length+1:=by simp
      simp only[go_sem,↓K17 (f:=GFound.enc) (fun _=>rfl) (out.take n),↓eC,↓e5,↓e6,↓K17 (f:=GFound.enc) (fun _=>rfl) (out.drop n)]
      rw[Srt.ins_at fndSwo' hsr hn2 hstop]
      simp only[roomB]
      exact⟨by omega,by omega,by omega,⟨by omega,by omega,by omega⟩,by omega,by omega,⟨by simp only[List.length_append,List.length_cons,List.length_nil],hw2⟩,by rw[←List.map_append]⟩
    ·have hstop:n=0∨∃y',out[n-1]? =some y'∧K1l y y'=false:= .inl (by omega)
     rw[cutA hn1]
     refine⟨by omega,by omega,?_⟩
     have hA:(out.take n).length=n:=by rw[List.length_take];omega
     have hB:out.length=n+(out.drop n).length:=by rw[List.length_drop];omega
     have eC:=cutB (f:=GFound.enc) hn1
     have e5:List.map GFound.enc (out.take n)++[[T.sc (Value.int IntKind.i64 c.Address.Host),T.sc (Value.int IntKind.i64 c.Address.Path),T.sc (Value.int IntKind.i64 c.Address.Query),T.sc (Value.int IntKind.i64 c.Tick),T.sc (Value.int IntKind.i64 (i:Int)),T.sc (Value.int IntKind.i64 (k:Int))]]=(out.take n++[y]).map GFound.enc:=by rw[hy];simp[GFound.enc]
     have e6:((out.take n++[y]).map GFound.enc).length=(out.take n).length+1:=by simp
     simp only[go_sem,↓K17 (f:=GFound.enc) (fun _=>rfl) (out.take n),↓eC,↓e5,↓e6,↓K17 (f:=GFound.enc) (fun _=>rfl) (out.drop n)]
     rw[Srt.ins_at fndSwo' hsr hn2 hstop]
     simp only[roomB]
     exact⟨by omega,by omega,by omega,⟨by omega,by omega,by omega⟩,by omega,by omega,⟨by simp only[List.length_append,List.length_cons,List.length_nil],hw2⟩,by rw[←List.map_append]⟩
  ·intro _
   simp only[go_sem,List.take_length,K4 hx,h0,h1,hw,Int.lt_irrefl]
   exact⟨by rw[K35 hx,Nat.zero_add],by rw[K35 hx,Nat.zero_add]⟩
 ·intro _
  simp only[go_sem,List.take_length]
  rfl
end Go.Proofs.YtjneccbpkckdfaaGreatR
namespace Go.Proofs.YtjneccbpkckdfaaGreatR
open Go Go.RowKit Go.Proofs
open Nat (reduceEqDiff reduceLT reduceLeDiff reduceAdd reduceMul)
open List (reduceReplicate)
def M56:MC:=
(Zs [.nilo 2 0 1] [0] (Zs [.nilo 3 0 1] [0,3] (.seq (Zs [mS 6 0,nS 7 6,.mv 8 (ci 0)] [3,6,7,8] (.block 0 (.loop ([3,6,7,8],[1,2]) (Zs [bS 9 .lss 8 7] [3,6,7,8,9] (.seq (cX 9 0)
(.seq (.block 1 (Zs [xS 10 4 6 8,lT 11 4 10,.alloc 5 1 [pz,pz,pz,pz],sS 4 5 11] [3,5,6,7,8] (pr [mS 12 3,fS 13 5 0,lF 14 1 13,fS 15 5 1,lF 16 1 15,fS 17 5 2,lF 18 1 17,fS 19 5 3,lF 20 1 19,.lit 21 2 1 8 [.s 14,.s 16,.s 18,.s 20],.app 22 0 1 8 (.s 12) (.s 21),mS 3 22] [3,6,7,8])))
(pr [bC 23 .add 8 1,mS 8 23] [3,6,7,8])))))))
(Zs [mS 24 3,mS 2 24] [2] .ret))))
theorem C99(xs:List GOp)(hN:xs.length≤1099511627776):Ctr Tryz.prog N5m [aL 4 (xs.map GOp.enc)] [rL 1 ((Ku xs).map encI)]:=by
 refine cA M56 3 25 [(.tmp 2,[true])] Tryz.func316 rfl rfl ?_;unfold M56
 intro hb
 simp only[bdA,bdL,bdT,Ky,roomB,and_true,List.length_map]at hb
 obtain⟨hl,-⟩:=hb
 simp only[go_sem]
 refine K7 xs (fun k=>[(3,.val false [.ref 0 0 1 0 (Ku (xs.take k)).length]),(8,vI k)]) (fun k=>[(0,⟨0,.row true 1 ((Ku (xs.take k)).map encI)⟩)]) (fun _=>True) hl ?_
 simp only[go_sem]
 refine⟨?_,trivial,?_,?_⟩
 ·simp only[go_sem,List.take_zero]
  exact⟨rfl,rfl⟩
 ·intro k x hx _ h0 h1 hw
  have hlt:=List.length_take_le k xs
  simp only[go_sem,K4 hx,h0,h1,hw,K4y hx,List.length_append,K5o]
  refine⟨⟨by simp,by decide⟩,by simp only[roomB];omega,by simp[encI]⟩
 ·intro _
  simp only[go_sem,List.take_length]
def M3b:MC:=
(Zs [.alloc 6 0 [.emp 4,.emp 5,.emp 9,pz]] [0,1,2,6] (Zs [.nilo 7 1 1,.nilo 8 2 1] [0,1,2,6,7,8] (.seq (Zs [mS 13 1,nS 14 13,.mv 15 (ci 0)] [0,1,2,6,7,8,13,14,15] (.block 0 (.loop ([0,1,2,6,7,8,13,14,15],[3,4,5,6,7,11,12]) (Zs [bS 16 .lss 15 14] [0,1,2,6,7,8,13,14,15,16] (.seq (cX 16 0)
(.seq (.block 1 (Zs [xS 17 5 13 15,lT 18 5 17,.alloc 10 3 [pz,pz,pz,pz,pz],sS 5 10 18] [0,1,2,6,7,8,10,13,14,15] (pr [mS 19 7,fS 20 10 0,lF 21 1 20,fS 22 10 1,fS 23 22 0,lF 24 1 23,fS 25 10 1,fS 26 25 1,lF 27 1 26,fS 28 10 1,fS 29 28 2,lF 30 1 29,fS 31 10 4,lF 32 1 31,.lit 33 4 1 8 [.s 21,.s 24,.s 27,.s 30,.s 32],.app 34 1 1 8 (.s 19) (.s 33),mS 7 34] [0,1,2,6,7,8,13,14,15])))
(pr [bC 35 .add 15 1,mS 15 35] [0,1,2,6,7,8,13,14,15])))))))
(.seq (Zs [mS 36 2,nS 37 36,.mv 38 (ci 0)] [0,1,2,6,7,8,36,37,38] (.block 2 (.loop ([0,1,2,6,7,8,36,37,38],[3,4,5,6,7,11,12]) (Zs [bS 39 .lss 38 37] [0,1,2,6,7,8,36,37,38,39] (.seq (cX 39 2)
(.seq (.block 3 (Zs [xS 40 9 36 38,lT 41 9 40,.alloc 12 5 [pz,pz,pz,pz,pz,.emp 1,pz,pz,pz],sS 9 12 41] [0,1,2,6,7,8,12,36,37,38] (pr [mS 42 8,lT 43 9 12,.call 44 [6] (.f N4q) [.s 43],.call 45 [] (.f N2l) [.s 44],.lit 46 7 1 8 [.s 45],.app 47 2 1 8 (.s 42) (.s 46),mS 8 47] [0,1,2,6,7,8,36,37,38])))
(pr [bC 48 .add 38 1,mS 38 48] [0,1,2,6,7,8,36,37,38])))))))
(Zs [mS 49 0,.call 50 [8] (.f Ns) [.s 49],mS 51 1,.call 52 [9] (.f Nc) [.s 51],mS 53 2,.call 54 [10] (.f N22) [.s 53],mS 55 0,.call 56 [11] (.f N5m) [.s 55],.call 57 [] (.f N2l) [.s 56],mS 58 7,.call 59 [] (.f N2l) [.s 58],mS 60 8,.call 61 [] (.f N2s) [.s 60],.lit 62 12 1 8 [.s 57,.s 59,.s 61],.call 63 [] (.f N2s) [.s 62],.build 64 [.emp 4,.emp 5,.emp 9,pz] [(0,1,.s 50),(1,1,.s 52),(2,1,.s 54),(3,1,.s 63)],sS 4 6 64] [6] .ret)))))
theorem C7h(l:List GOp)(es:List GEntry)(cs:List GCapture)(h1:l.length≤1073741824)(h2:es.length≤1073741824)(hs:cs.length+(cs.map GCapture.size).sum≤1073741824):
  Ctr Tryz.prog N3g [aL 4 (l.map GOp.enc),aL 5 (es.map GEntry.enc),aL 9 (cs.map GCapture.enc)] [rS (GContainer.enc ⟨l,es,cs,K68 l es cs⟩)]:=by
 refine cA M3b 13 65 [(.cell 6 true 4,[true,true,true,false])] Tryz.func230 rfl rfl ?_;unfold M3b
 intro hb
 clear hb
 simp only[go_sem]
 refine K7 es (fun k=>[(7,.val false [.ref 1 0 1 0 (K1m (es.take k)).length]),(15,vI k)]) (fun k=>[(1,⟨0,.row true 1 ((K1m (es.take k)).map encI)⟩)]) (fun _=>True) (by simp only[roomB];omega) ?_
 simp only[go_sem]
 refine⟨?_,trivial,?_,?_⟩
 ·simp only[go_sem,List.take_zero]
  exact⟨rfl,rfl⟩
 ·intro k x hx _ h0 h1 hw
  have hlt:=List.length_take_le k es
  simp only[go_sem,K4 hx,h0,h1,hw,K6k hx,List.length_append,K7f]
  refine⟨⟨by simp,by decide⟩,by simp only[roomB];omega,by simp[encI]⟩
 ·intro _
  simp only[go_sem,List.take_length]
  refine K7 cs (fun k=>[(8,.val false [.ref 2 0 1 0 (K12 (cs.take k)).length]),(38,vI k)]) (fun k=>[(2,⟨0,.row true 1 ((K12 (cs.take k)).map encI)⟩)]) (fun _=>True) (by simp only[roomB];omega) ?_
  simp only[go_sem]
  refine⟨?_,trivial,?_,?_⟩
  ·simp only[go_sem,List.take_zero]
   exact⟨rfl,rfl⟩
  ·intro k x hx _ h0 h1 hw
   have hlt:=List.length_take_le k cs
   simp only[go_sem,K4 hx,h0,h1,K5d hx,List.length_append]
   apply K0 (C8o x (body_le hx hs))
   simp only[go_sem]
   try intro _
   apply K0 (C4b (K33 x))
   simp only[go_sem,hw]
   simp only[roomB,K6d]
   exact⟨by omega,by omega,fun _=>by simp[encI]⟩
  ·intro _
   simp only[go_sem,List.take_length]
   apply K0 (C50 l (by omega))
   simp only[go_sem]
   intros
   apply K0 (C35 es (by omega))
   simp only[go_sem]
   intros
   apply K0 (C3o cs hs)
   simp only[go_sem]
   intros
   apply K0 (C99 l (by omega))
   simp only[go_sem]
   try intros
   apply K0 (C4b (Ku l))
   simp only[go_sem]
   try intros
   apply K0 (C4b (K1m es))
   simp only[go_sem]
   try intros
   apply K0 (C7l _ (K12 cs) (Nat.le_refl _))
   simp only[go_sem]
   try intros
   refine⟨by decide,?_⟩
   apply K0 (C7l _ [hashL (Ku l),hashL (K1m es),rootL (K12 cs)] (Nat.le_refl _))
   simp only[go_sem]
   intros
   rfl
def Kn(x:GContainer):Bool:=Kz x.Script&&(K6l x.Entries&&(K6i x.Captures&&(K68 x.Script x.Entries x.Captures==x.Root)))
def Y8(v0:Nat)(v1:Nat)(v2:Nat)(v3:Nat):MC:=
(Zs [.box 1 0 (.s 0),.mv 2 cF] [1] (.seq (.dreg [Za (fS 3 1 0),Ze [0] (lF 4 1 3),Ze [0,1] (.call 5 [] (.f v0) [.s 4]),Ze [0,1,2] (mS 6 5),{o:=fS 7 1 1,g:=some (6,true),bf:=(.range 4)},{o:=lF 8 1 7,g:=some (6,true),bf:=(.range 5)},{o:= .call 9 [] (.f v1) [.s 8],g:=some (6,true),bf:=(.range 6)},Ze (.range 7) (.pick 10 (.s 6) (.s 9) cF),Ze (.range 8) (mS 11 10),{o:=fS 12 1 2,g:=some (11,true),bf:=(.range 9)},{o:=lF 13 1 12,g:=some (11,true),bf:=(.range 10)},{o:= .call 14 [] (.f v2) [.s 13],g:=some (11,true),bf:=(.range 11)},Ze (.range 12) (.pick 15 (.s 11) (.s 14) cF),Ze (.range 13) (mS 16 15),{o:=fS 17 1 0,g:=some (16,true),hs:=[19,20,21,22,25,26],bf:=(.range 14)},{o:=lF 18 1 17,g:=some (16,true),hs:=[19,20,21,22,25,26],bf:=(.range 15)},{o:=fS 19 1 1,g:=some (16,true),hs:=[17,18,21,22,25,26],bf:=(.range 14)},{o:=lF 20 1 19,g:=some (16,true),hs:=[17,18,21,22,25,26],bf:=[0,1,2,3,4,5,6,7,8,9,10,11,12,13,16]},{o:=fS 21 1 2,g:=some (16,true),hs:=[17,18,19,20,25,26],bf:=(.range 14)},{o:=lF 22 1 21,g:=some (16,true),hs:=[17,18,19,20,25,26],bf:=[0,1,2,3,4,5,6,7,8,9,10,11,12,13,18]},{o:= .call 23 [1,2,3] (.f v3) [.s 18,.s 20,.s 22],g:=some (16,true),hs:=[25,26],ws:=[1,2,3],bf:=(.range 20)},{o:= .fldv 24 (.s 23) 3 1 false,g:=some (16,true),hs:=[25,26],bf:=(.range 21)},{o:=fS 25 1 3,g:=some (16,true),hs:=[17,18,19,20,21,22,23,24],ho:=[1,2,3],bf:=(.range 14)},{o:=lF 26 1 25,g:=some (16,true),hs:=[17,18,19,20,21,22,23,24],ho:=[1,2,3],bf:=[0,1,2,3,4,5,6,7,8,9,10,11,12,13,22]},{o:=bS 27 .eql 24 26,g:=some (16,true),bf:=(.range 24)},Ze (.range 25) (.pick 28 (.s 16) (.s 27) cF),Ze (.range 26) (mS 2 28)] [2])
.ret))
attribute [go_sem] Y8
def M4h:MC:=Y8 N6o N5j N4p N3g
theorem C4c(x:GContainer)(hs:x.size≤1073741824):Ctr Tryz.prog N29 [aS x.enc] [rB (Kn x)]:=by
 refine cA M4h 4 29 [(.tmp 2,[false])] Tryz.func118 rfl rfl ?_;unfold M4h
 intro hb
 clear hb
 simp only[GContainer.size]at hs
 simp only[go_sem]
 repeat' first
  |(refine And.intro ?_ ?_<;>intro h)
  |(apply K0 (C9r _);simp only[go_sem])
  |(apply K0 (C96 _);simp only[go_sem])
  |(apply K0 (C8n _);simp only[go_sem])
  |(apply K0 (C7h x.Script x.Entries x.Captures (by omega) (by omega) (by omega));simp only[go_sem];intros)
 all_goals (unfold Kn;simp_all)
def M4l:MC:=Y8 N1k N5o N4r N19
theorem C28(x:GContainer)(hs:x.size≤1073741824):Ctr Tryz.prog N1j [aS x.enc] [rB (Kn x)]:=by
 refine cA M4l 4 29 [(.tmp 2,[false])] Tryz.func235 rfl rfl ?_;unfold M4l
 intro hb
 clear hb
 simp only[GContainer.size]at hs
 simp only[go_sem]
 repeat' first
  |(refine And.intro ?_ ?_<;>intro h)
  |(apply K0 (C23 _);simp only[go_sem])
  |(apply K0 (C9b _);simp only[go_sem])
  |(apply K0 (C8r _);simp only[go_sem])
  |(apply K0 (C1t x.Script x.Entries x.Captures (by omega) (by omega) (by omega));simp only[go_sem];intros)
 all_goals (unfold Kn;simp_all)
def M3t:MC:=
(Zs [.box 1 0 (.s 0),.mv 2 cF] [1] (Zs [lT 3 4 1,.call 4 [] (.f N29) [.s 3],.un 5 .not (.s 4),mS 2 5] [2] .ret))
theorem C3n(x:GContainer)(hs:x.size≤1073741824):Ctr Tryz.prog N21 [aS x.enc] [rB (!Kn x)]:=by
 refine cA M3t 1 6 [(.tmp 2,[false])] Tryz.func122 rfl rfl ?_;unfold M3t
 intro hb
 clear hb
 simp only[go_sem]
 apply K0 (C4c x hs)
 simp only[go_sem]
def whole(d:GDisk):Bool:=decide (d.Index=index d.Containers)
def Kj(d:GDisk):Bool:=Kk 6 Kn d.Containers&&(Kk 1 Kn d.Wanted&&(whole d||(decide (0<d.Containers.length)&&decide (d.Index=index d.Containers.dropLast))))
theorem diskOk_no1{d:GDisk}{k:Nat}{x:GContainer}(hx:d.Containers[k]? =some x)(h:Kn x=false):false=Kj d:=by
 unfold Kj;rw[←K34 (n:=6) hx h,Bool.false_and]
theorem diskOk_no2{d:GDisk}{k:Nat}{x:GContainer}(hx:d.Wanted[k]? =some x)(h:Kn x=false):false=Kj d:=by
 unfold Kj;rw[←K34 (n:=1) hx h,Bool.false_and,Bool.and_false]
def Y9(v0:Nat)(v1:Nat):MC:=
(Zs [.box 1 0 (.s 0),.mv 2 cF] [1] (.seq (.dreg [Zf [5,6,7] [1] (fS 3 1 1),Zg [5,6,7] [1] [0] (lF 4 1 3),Zc [3,4] (fS 5 1 0),Zd [3,4] [2] (lF 6 1 5),{o:= .call 7 [1] (.f v0) [.s 6],hs:=[3,4],ws:=[1],bf:=[2,3]},Ze (.range 5) (.call 8 [] (.f v1) [.s 4,.s 7]),Ze (.range 6) (mS 2 8)] [2])
.ret))
attribute [go_sem] Y9
def M3r:MC:=Y9 Nu Nd
theorem C44(d:GDisk)(hs:d.size≤1073741824):Ctr Tryz.prog N1f [aS d.enc] [rB (whole d)]:=by
 refine cA M3r 2 9 [(.tmp 2,[false])] Tryz.func119 rfl rfl ?_;unfold M3r
 intro hb
 clear hb
 simp only[GDisk.size]at hs
 simp only[go_sem]
 apply K0 (C14 d.Containers (by omega))
 simp only[go_sem]
 intros
 apply K0 (C36 _ _)
 simp only[go_sem]
 intros
 rfl
def M6n:MC:=Y9 N17 N4a
theorem C38(d:GDisk)(hs:d.size≤1073741824):Ctr Tryz.prog N1l [aS d.enc] [rB (whole d)]:=by
 refine cA M6n 2 9 [(.tmp 2,[false])] Tryz.func236 rfl rfl ?_;unfold M6n
 intro hb
 clear hb
 simp only[GDisk.size]at hs
 simp only[go_sem]
 apply K0 (C1n d.Containers (by omega))
 simp only[go_sem]
 intros
 apply K0 (C6u _ _)
 simp only[go_sem]
 intros
 rfl
theorem take_sz{l:List GContainer}{n N:Nat}(h:l.length+(l.map GContainer.size).sum≤N):(l.take n).length+((l.take n).map GContainer.size).sum≤N:=by
 have h1:=List.length_take_le n l
 have h2:=K7l (f:=GContainer.size) l n
 have h3:(l.take n).length≤l.length:=by rw[List.length_take];omega
 omega
def M7p:MC:=
(Zs [.box 1 0 (.s 0),.mv 2 cF] [1] (Zs [fS 4 1 0,lF 5 1 4,nS 6 5,mS 3 6] [1,3] (.seq (.dreg [Za (mS 7 3),Ze [0] (bC 8 .leq 7 6),Ze [0,1] (mS 9 8),{o:=fS 10 1 0,g:=some (9,true),bf:=[0,1,2]},{o:=lF 11 1 10,g:=some (9,true),bf:=(.range 4)},{o:= .call 12 [] (.f N3) [.s 11,.f N21],g:=some (9,true),bf:=(.range 5)},{o:= .un 13 .not (.s 12),g:=some (9,true),bf:=(.range 6)},Ze (.range 7) (.pick 14 (.s 9) (.s 13) cF),Ze (.range 8) (mS 15 14),{o:=fS 16 1 2,g:=some (15,true),bf:=(.range 9)},{o:=lF 17 1 16,g:=some (15,true),bf:=(.range 10)},{o:=nS 18 17,g:=some (15,true),bf:=(.range 11)},{o:=bC 19 .leq 18 1,g:=some (15,true),bf:=(.range 12)},Ze (.range 13) (.pick 20 (.s 15) (.s 19) cF),Ze (.range 14) (mS 21 20),{o:=fS 22 1 2,g:=some (21,true),bf:=(.range 15)},{o:=lF 23 1 22,g:=some (21,true),bf:=(.range 16)},{o:= .call 24 [] (.f N3) [.s 23,.f N21],g:=some (21,true),bf:=(.range 17)},{o:= .un 25 .not (.s 24),g:=some (21,true),bf:=(.range 18)},Ze (.range 19) (.pick 26 (.s 21) (.s 25) cF),Ze (.range 20) (mS 27 26),{o:=lT 28 3 1,g:=some (27,true),bf:=(.range 21)},{o:= .call 29 [] (.f N1f) [.s 28],g:=some (27,true),bf:=(.range 22)},{o:=mS 30 29,g:=some (27,true),bf:=(.range 23)},{o:=mS 31 3,g:=some (30,false),bf:=(.range 24)},{o:=bC 32 .gtr 31 0,g:=some (30,false),bf:=(.range 25)},{o:=mS 33 32,g:=some (30,false),bf:=(.range 26)},{o:=fS 34 1 1,g:=some (33,true),hs:=[36,37,38,39,40,41],ho:=[1],bf:=(.range 27)},{o:=lF 35 1 34,g:=some (33,true),hs:=[36,37,38,39,40,41],ho:=[1],bf:=(.range 28)},{o:=fS 36 1 0,g:=some (33,true),hs:=[34,35,38,39],bf:=(.range 27)},{o:=lF 37 1 36,g:=some (33,true),hs:=[34,35,38,39],bf:=[0,1,2,3,4,5,6,7,8,9,10,11,12,13,14,15,16,17,18,19,20,21,22,23,24,25,26,29]},{o:=mS 38 3,g:=some (33,true),hs:=[34,35,36,37],bf:=(.range 27)},{o:=bC 39 .sub 38 1,g:=some (33,true),hs:=[34,35,36,37],bf:=[0,1,2,3,4,5,6,7,8,9,10,11,12,13,14,15,16,17,18,19,20,21,22,23,24,25,26,31]},{o:= .slc 40 4 (.s 37) none (some (.s 39)) none,g:=some (33,true),hs:=[34,35],bf:=[0,1,2,3,4,5,6,7,8,9,10,11,12,13,14,15,16,17,18,19,20,21,22,23,24,25,26,29,30,31,32]},{o:= .call 41 [1] (.f Nu) [.s 40],g:=some (33,true),hs:=[34,35],ws:=[1],bf:=[0,1,2,3,4,5,6,7,8,9,10,11,12,13,14,15,16,17,18,19,20,21,22,23,24,25,26,29,30,31,32,33]},{o:= .call 42 [] (.f Nd) [.s 35,.s 41],g:=some (33,true),bf:=(.range 35)},{o:= .pick 43 (.s 33) (.s 42) cF,g:=some (30,false),bf:=(.range 36)},{o:= .pick 44 (.s 30) cT (.s 43),g:=some (27,true),bf:=(.range 37)},Ze (.range 38) (.pick 45 (.s 27) (.s 44) cF),Ze (.range 39) (mS 2 45)] [2])
.ret)))
set_option maxHeartbeats 1000000 in
theorem C9(d:GDisk)(hs:d.size≤1073741824):Ctr Tryz.prog Ng [aS d.enc] [rB (Kj d)]:=by
 refine cA M7p 2 46 [(.tmp 2,[false])] Tryz.func38 rfl rfl ?_;unfold M7p
 intro hb
 clear hb
 have hs':=hs
 simp only[GDisk.size]at hs
 have hx1:∀x∈d.Containers,x.size≤1073741824:=fun x hx=>by have:=K1y (f:=GContainer.size) hx;omega
 have hx2:∀x∈d.Wanted,x.size≤1073741824:=fun x hx=>by have:=K1y (f:=GContainer.size) hx;omega
 have hsz:d.Containers.length+(d.Containers.map GContainer.size).sum≤1073741824:=by omega
 have hw1:(d.Containers.length:Int)>0→IntKind.i64.wrap ((d.Containers.length:Int)-1)=((d.Containers.length-1:Nat):Int):=fun h=>by rw[wI (by omega) (by omega)];omega
 obtain⟨A,hA⟩:∃A,A=d.Containers.all Kn:=⟨_,rfl⟩
 obtain⟨B,hB⟩:∃B,B=d.Wanted.all Kn:=⟨_,rfl⟩
 have hC:(d.Containers.any fun x=> !Kn x)= !A:=by rw[K4a,hA]
 have hW:(d.Wanted.any fun x=> !Kn x)= !B:=by rw[K4a,hB]
 simp only[go_sem]
 repeat' first
  |(refine And.intro ?_ ?_<;>intro h)
  |(apply K0 (C1g d.Containers _ [] (fun x=> !Kn x) fun x hx=>C3n x (hx1 x hx));simp only[go_sem,hC])
  |(apply K0 (C1g d.Wanted _ [] (fun x=> !Kn x) fun x hx=>C3n x (hx2 x hx));simp only[go_sem,hW])
  |(apply K0 (C44 d hs');simp only[go_sem])
  |(rw[hw1 (by assumption),cutA (by omega)];refine⟨⟨by omega,by omega,by omega⟩,?_⟩;apply K0 (C14 _ (take_sz hsz));simp only[go_sem];intros;apply K0 (C36 _ _);simp only[go_sem];intros)
 all_goals (rw[Kj,Kk,Kk,←hA,←hB,List.dropLast_eq_take];clear hC hW hA hB hx1 hx2 hw1 hsz hs hs';by_cases c1:d.Containers.length≤6<;>by_cases c2:d.Wanted.length≤1<;>by_cases c3:0<d.Containers.length<;>simp_all<;>omega)
def M7r:MC:=
(Zs [.box 1 0 (.s 0),.mv 2 cF] [1] (.seq (Zs [.mv 3 (ci 0)] [1,3] (.block 0 (.loop ([1,3],[1]) (.seq (Zs [mS 6 3,fS 7 1 0,lF 8 1 7,nS 9 8,bS 10 .lss 6 9] [1,3,10] (cX 10 0))
(.seq (.block 1 (Zs [fS 13 1 0,lF 14 1 13,mS 15 3,xS 16 4 14 15,lT 17 4 16,.call 18 [] (.f N1j) [.s 17],.un 19 .not (.s 18)] [1,3,19] (.cond (.s 19) (Zs [.mv 2 cF] [2] .ret) .skip)))
(pr [mS 11 3,bC 12 .add 11 1,mS 3 12] [1,3]))))))
(.seq (Zs [.mv 4 (ci 0)] [1,4] (.block 2 (.loop ([1,4],[1]) (.seq (Zs [mS 20 4,fS 21 1 2,lF 22 1 21,nS 23 22,bS 24 .lss 20 23] [1,4,24] (cX 24 2))
(.seq (.block 3 (Zs [fS 27 1 2,lF 28 1 27,mS 29 4,xS 30 4 28 29,lT 31 4 30,.call 32 [] (.f N1j) [.s 31],.un 33 .not (.s 32)] [1,4,33] (.cond (.s 33) (Zs [.mv 2 cF] [2] .ret) .skip)))
(pr [mS 25 4,bC 26 .add 25 1,mS 4 26] [1,4]))))))
(Zs [fS 34 1 0,lF 35 1 34,nS 36 35,mS 5 36] [1,5] (.seq (.dreg [Za (mS 37 5),Ze [0] (bC 38 .leq 37 6),Ze [0,1] (mS 39 38),{o:=fS 40 1 2,g:=some (39,true),bf:=[0,1,2]},{o:=lF 41 1 40,g:=some (39,true),bf:=(.range 4)},{o:=nS 42 41,g:=some (39,true),bf:=(.range 5)},{o:=bC 43 .leq 42 1,g:=some (39,true),bf:=(.range 6)},Ze (.range 7) (.pick 44 (.s 39) (.s 43) cF),Ze (.range 8) (mS 45 44),{o:=lT 46 3 1,g:=some (45,true),bf:=(.range 9)},{o:= .call 47 [] (.f N1l) [.s 46],g:=some (45,true),bf:=(.range 10)},{o:=mS 48 47,g:=some (45,true),bf:=(.range 11)},{o:=mS 49 5,g:=some (48,false),bf:=(.range 12)},{o:=bC 50 .gtr 49 0,g:=some (48,false),bf:=(.range 13)},{o:=mS 51 50,g:=some (48,false),bf:=(.range 14)},{o:=fS 52 1 1,g:=some (51,true),hs:=[54,55,56,57,58,59],ho:=[1],bf:=(.range 15)},{o:=lF 53 1 52,g:=some (51,true),hs:=[54,55,56,57,58,59],ho:=[1],bf:=(.range 16)},{o:=fS 54 1 0,g:=some (51,true),hs:=[52,53,56,57],bf:=(.range 15)},{o:=lF 55 1 54,g:=some (51,true),hs:=[52,53,56,57],bf:=[0,1,2,3,4,5,6,7,8,9,10,11,12,13,14,17]},{o:=mS 56 5,g:=some (51,true),hs:=[52,53,54,55],bf:=(.range 15)},{o:=bC 57 .sub 56 1,g:=some (51,true),hs:=[52,53,54,55],bf:=[0,1,2,3,4,5,6,7,8,9,10,11,12,13,14,19]},{o:= .slc 58 4 (.s 55) none (some (.s 57)) none,g:=some (51,true),hs:=[52,53],bf:=[0,1,2,3,4,5,6,7,8,9,10,11,12,13,14,17,18,19,20]},{o:= .call 59 [1] (.f N17) [.s 58],g:=some (51,true),hs:=[52,53],ws:=[1],bf:=[0,1,2,3,4,5,6,7,8,9,10,11,12,13,14,17,18,19,20,21]},{o:= .call 60 [] (.f N4a) [.s 53,.s 59],g:=some (51,true),bf:=(.range 23)},{o:= .pick 61 (.s 51) (.s 60) cF,g:=some (48,false),bf:=(.range 24)},{o:= .pick 62 (.s 48) cT (.s 61),g:=some (45,true),bf:=(.range 25)},Ze (.range 26) (.pick 63 (.s 45) (.s 62) cF),Ze (.range 27) (mS 2 63)] [2])
.ret)))))
set_option maxHeartbeats 1000000 in
theorem C4w(d:GDisk)(hs:d.size≤1073741824):Ctr Tryz.prog N2t [aS d.enc] [rB (Kj d)]:=by
 refine cA M7r 2 64 [(.tmp 2,[false])] Tryz.func126 rfl rfl ?_;unfold M7r
 intro hb
 clear hb
 have hs':=hs
 simp only[GDisk.size]at hs
 have hx1:∀x∈d.Containers,x.size≤1073741824:=fun x hx=>by have:=K1y (f:=GContainer.size) hx;omega
 have hx2:∀x∈d.Wanted,x.size≤1073741824:=fun x hx=>by have:=K1y (f:=GContainer.size) hx;omega
 have hsz:d.Containers.length+(d.Containers.map GContainer.size).sum≤1073741824:=by omega
 have hw1:(d.Containers.length:Int)>0→IntKind.i64.wrap ((d.Containers.length:Int)-1)=((d.Containers.length-1:Nat):Int):=fun h=>by rw[wI (by omega) (by omega)];omega
 obtain⟨A,hA⟩:∃A,A=d.Containers.all Kn:=⟨_,rfl⟩
 obtain⟨B,hB⟩:∃B,B=d.Wanted.all Kn:=⟨_,rfl⟩
 have hC:(d.Containers.any fun x=> !Kn x)= !A:=by rw[K4a,hA]
 have hW:(d.Wanted.any fun x=> !Kn x)= !B:=by rw[K4a,hB]
 simp only[go_sem]
 refine K7 d.Containers (fun k=>[(3,vI k)]) (fun k=>[]) (fun k=>(d.Containers.take k).all Kn=true) (by simp only[roomB];omega) ?_
 simp only[go_sem]
 refine⟨?_,by simp,?_,?_⟩
 ·simp only[go_sem]
 ·intro k x hx h h0 h1 hw
  simp only[go_sem,K4 hx,h0,h1]
  apply K0 (C28 x (hx1 x (K10 hx)))
  simp only[go_sem,hw]
  exact⟨fun hn=>diskOk_no1 hx hn,fun hn=>K2e hx h hn⟩
 ·intro hA'
  rw[List.take_length,←hA]at hA'
  simp only[go_sem]
  refine K7 d.Wanted (fun k=>[(4,vI k)]) (fun k=>[]) (fun k=>(d.Wanted.take k).all Kn=true) (by simp only[roomB];omega) ?_
  simp only[go_sem]
  refine⟨?_,by simp,?_,?_⟩
  ·simp only[go_sem]
  ·intro k x hx h h0 h1 hw
   simp only[go_sem,K4 hx,h0,h1]
   apply K0 (C28 x (hx2 x (K10 hx)))
   simp only[go_sem,hw]
   exact⟨fun hn=>diskOk_no2 hx hn,fun hn=>K2e hx h hn⟩
  ·intro hB'
   rw[List.take_length,←hB]at hB'
   simp only[go_sem]
   repeat' first
    |(refine And.intro ?_ ?_<;>intro h)
    |(apply K0 (C38 d hs');simp only[go_sem])
    |(rw[hw1 (by assumption),cutA (by omega)];refine⟨⟨by omega,by omega,by omega⟩,?_⟩;apply K0 (C1n _ (take_sz hsz));simp only[go_sem];intros;apply K0 (C6u _ _);simp only[go_sem];intros)
   all_goals (rw[Kj,Kk,Kk,←hA,←hB,List.dropLast_eq_take];clear hC hW hA hB hx1 hx2 hw1 hsz hs hs';by_cases c1:d.Containers.length≤6<;>by_cases c2:d.Wanted.length≤1<;>by_cases c3:0<d.Containers.length<;>simp_all<;>omega)
end Go.Proofs.YtjneccbpkckdfaaGreatR
namespace Go.Proofs.YtjneccbpkckdfaaGreatR
open Go Go.RowKit Go.Proofs
open Nat (reduceEqDiff reduceLT reduceLeDiff reduceAdd reduceMul)
open List (reduceReplicate)
end Go.Proofs.YtjneccbpkckdfaaGreatR
namespace Go.Proofs.YtjneccbpkckdfaaGreatR
open Go Go.RowKit Go.Proofs
open Nat (reduceEqDiff reduceLT reduceLeDiff reduceAdd reduceMul)
open List (reduceReplicate)
theorem addrB{x y:GAddress}:(x.Host==y.Host&&(x.Path==y.Path&&x.Query==y.Query))=decide (x=y):=by
 rw[Bool.eq_iff_iff];simp[GAddress.eqv]
def M9u:MC:=
(Zs [.mv 4 (ci 0)] [0,1] (.seq (Zs [mS 5 1,mS 6 0,bS 7 .gtr 5 6] [0,1,7] (.cond (.s 7) (Zs [mS 8 1,mS 4 8] [4] .ret) .skip))
(Zs [mS 9 0,mS 4 9] [4] .ret)))
theorem Cai(x y:Int):Ctr Tryz.prog N9y [aI x,aI y] [rI (if y>x then y else x)]:=by
 refine cA M9u 0 10 [(.tmp 4,[false])] Tryz.func210 rfl rfl ?_;unfold M9u
 intro hb
 clear hb
 simp only[go_sem]
 refine⟨fun h=>?_,fun h=>?_⟩
 ·rw[if_pos (by omega)]
 ·rw[if_neg (by omega)]
def M9v:MC:=
(Zs [.mv 4 (ci 0)] [0,1] (.seq (Zs [mS 5 1,mS 6 0,bS 7 .lss 5 6] [0,1,7] (.cond (.s 7) (Zs [mS 8 1,mS 4 8] [4] .ret) .skip))
(Zs [mS 9 0,mS 4 9] [4] .ret)))
theorem C7k(x y:Int):Ctr Tryz.prog N5w [aI x,aI y] [rI (if y<x then y else x)]:=by
 refine cA M9v 0 10 [(.tmp 4,[false])] Tryz.func203 rfl rfl ?_;unfold M9v
 intro hb
 clear hb
 simp only[go_sem]
 refine⟨fun h=>?_,fun h=>?_⟩
 ·rw[if_pos (by omega)]
 ·rw[if_neg (by omega)]
end Go.Proofs.YtjneccbpkckdfaaGreatR
namespace Go.Proofs.YtjneccbpkckdfaaGreatR
open Go Go.RowKit Go.Proofs
open Nat (reduceEqDiff reduceLT reduceLeDiff reduceAdd reduceMul)
open List (reduceReplicate)
def told(d:GDisk):List GContainer:=if whole d then d.Containers else d.Containers.dropLast
end Go.Proofs.YtjneccbpkckdfaaGreatR
namespace Go.Proofs.YtjneccbpkckdfaaGreatR
open Go Go.RowKit Go.Proofs
open Nat (reduceEqDiff reduceLT reduceLeDiff reduceAdd reduceMul)
open List (reduceReplicate)
def ansP(a:GAddress)(tick:Int)(v:GVersion):Bool:=decide (v.Address=a)&&decide (v.From≤tick)
def noRes:GResource:=⟨4,[],⟨0,0,0⟩⟩
def answer(l:List GVersion)(a:GAddress)(tick:Int):GResource:=l.foldl (fun r v=>if ansP a tick v then v.Resource else r) noRes
theorem Kb9{l:List GVersion}{a:GAddress}{tick:Int}{k:Nat}{x:GVersion}(h:l[k]? =some x):answer (l.take (k+1)) a tick=if ansP a tick x then x.Resource else answer (l.take k) a tick:=by
 rw[Kt h,answer,List.foldl_append];rfl
theorem K7e{a:GAddress}{tick:Int}:∀ {l:List GVersion},(answer l a tick).Body.length≤(l.map GVersion.size).sum:=by
 intro l
 suffices H:∀(l:List GVersion) (r:GResource),(l.foldl (fun r v=>if ansP a tick v then v.Resource else r) r).Body.length≤r.Body.length+(l.map GVersion.size).sum by
  have:=H l noRes
  have e:noRes.Body.length=0:=rfl
  rw[e,Nat.zero_add]at this
  exact this
 intro l
 induction l with
 |nil=>intro r;simp
 |cons x l ih=>
  intro r
  rw[List.foldl_cons,List.map_cons,List.sum_cons]
  have:=ih (if ansP a tick x then x.Resource else r)
  have h2:(if ansP a tick x then x.Resource else r).Body.length≤r.Body.length+x.size:=by
   split<;>simp only[GVersion.size,GResource.size]<;>omega
  omega
theorem ansP_cases(a:GAddress)(tick:Int)(x:GVersion):(ansP a tick x=true∧(x.Address.Host==a.Host&&(x.Address.Path==a.Path&&x.Address.Query==a.Query))=true∧x.From≤tick)∨
  (ansP a tick x=false∧(x.Address.Host==a.Host&&(x.Address.Path==a.Path&&x.Address.Query==a.Query))=true∧¬x.From≤tick)∨
  (ansP a tick x=false∧(x.Address.Host==a.Host&&(x.Address.Path==a.Path&&x.Address.Query==a.Query))=false):=by
 rw[addrB]
 by_cases h1:x.Address=a<;>by_cases h2:x.From≤tick<;>simp[ansP,h1,h2]
def M6j:MC:=
(Zs [.box 4 0 (.s 1),.alloc 6 1 [pz,.emp 1,pz,pz,pz]] [0,2,4,6] (Zs [.buildO 9 [pz,.emp 1,pz,pz,pz] [(0,1,.c (.int .i64 4))] [none,some 2,none,none,none],.alloc 7 3 [pz,.emp 1,pz,pz,pz],sS 5 7 9] [0,2,4,6,7] (.seq (Zs [.mv 8 (ci 0)] [0,2,4,6,7,8] (.block 0 (.loop ([0,2,4,6,7,8],[]) (.seq (Zs [mS 10 8,mS 11 0,nS 12 11,bS 13 .lss 10 12] [0,2,4,6,7,8,13] (cX 13 0))
(.seq (.block 1 (.seq (.dreg [Zc [17,21] (mS 16 0),Zc [16,21] (mS 17 8),Zd [21] [0,1] (xS 18 9 16 17),Zd [21] [0,1,2] (fS 19 18 0),Zd [21] (.range 4) (lT 20 3 19),Zc [16,17,18,19,20] (lT 21 3 4),Ze (.range 6) (.eqA 22 false [.i .i64,.i .i64,.i .i64] (.s 20) (.s 21)),Ze (.range 7) (mS 23 22),{o:=mS 24 0,g:=some (23,true),hs:=[25,29],bf:=(.range 8)},{o:=mS 25 8,g:=some (23,true),hs:=[24,29],bf:=(.range 8)},{o:=xS 26 9 24 25,g:=some (23,true),hs:=[29],bf:=(.range 10)},{o:=fS 27 26 3,g:=some (23,true),hs:=[29],bf:=(.range 11)},{o:=lF 28 1 27,g:=some (23,true),hs:=[29],bf:=(.range 12)},{o:=mS 29 2,g:=some (23,true),hs:=[24,25,26,27,28],bf:=(.range 8)},{o:=bS 30 .leq 28 29,g:=some (23,true),bf:=(.range 14)},Ze (.range 15) (.pick 31 (.s 23) (.s 30) cF)] [0,2,4,6,7,8,31])
(.cond (.s 31) (pr [mS 32 0,mS 33 8,xS 34 9 32 33,fS 35 34 4,lT 36 5 35,.call 37 [2] (.f N4z) [.s 36],sS 5 7 37] [0,2,4,6,7,8]) .skip)))
(pr [mS 14 8,bC 15 .add 14 1,mS 8 15] [0,2,4,6,7,8]))))))
(Zs [lT 38 5 7,sS 5 6 38] [6] .ret))))
theorem C6e(l:List GVersion)(a:GAddress)(tick:Int)(hs:l.length+(l.map GVersion.size).sum≤1073741824):Ctr Tryz.prog N3h [aL 9 (l.map GVersion.enc),aS a.enc,aI tick] [rS (answer l a tick).enc]:=by
 refine cA M6j 4 39 [(.cell 6 true 5,[false,true,false,false,false])] Tryz.func370 rfl rfl ?_;unfold M6j
 intro hb
 clear hb
 simp only[go_sem]
 refine K7 l (fun k=>[(8,vI k)]) (fun k=>[(2,⟨0,.row true 1 ((answer (l.take k) a tick).Body.map encI)⟩),(3,⟨0,.box [.pl (tI (answer (l.take k) a tick).Kind),.ref 2 0 1 0 (answer (l.take k) a tick).Body.length,.pl (tI (answer (l.take k) a tick).To.Host),.pl (tI (answer (l.take k) a tick).To.Path),.pl (tI (answer (l.take k) a tick).To.Query)]⟩)]) (fun _=>True) (by simp only[roomB];omega) ?_
 simp only[go_sem]
 refine⟨?_,trivial,?_,?_⟩
 ·simp only[go_sem,List.take_zero]
  exact⟨rfl,rfl,rfl,rfl,rfl,rfl⟩
 ·intro k x hx _ h0 h1 hw
  have hx1:=K1y (f:=GVersion.size) (K10 hx)
  have hsn:=Kb9 (a:=a) (tick:=tick) hx
  rcases ansP_cases a tick x with ⟨hp,hA,hF⟩|⟨hp,hA,hF⟩|⟨hp,hA⟩
  ·rw[if_pos hp]at hsn
   simp only[go_sem,K4 hx,h0,h1,hw,hA,hF,hsn]
   apply K0 (C7o x.Resource (by simp only[GVersion.size,GResource.size]at hx1;omega))
   simp only[go_sem,hw]
   try intros
   try trivial
  ·rw[if_neg (by simp[hp])]at hsn
   simp only[go_sem,K4 hx,h0,h1,hw,hF,hsn]
   try trivial
  ·rw[if_neg (by simp[hp])]at hsn
   simp only[go_sem,K4 hx,h0,h1,hw,hA,hsn]
   try trivial
 ·intro _
  simp only[go_sem,List.take_length]
def followF(l:List GVersion)(tick:Int):Nat→GResource→List GAddress→GResource×List GAddress
 |0,r,q=>(r,q)
 |n+1,r,q=>if r.Kind=3∧q.length≤4∧¬r.To∈q then followF l tick n (answer l r.To tick) (q++[r.To])else(r,q)
def follow(l:List GVersion)(a:GAddress)(tick:Int):GResource×List GAddress:=followF l tick 5 (answer l a tick) [a]
theorem followF_go{l:List GVersion}{tick:Int}{r:GResource}{q:List GAddress}(h:r.Kind=3∧q.length≤4∧¬r.To∈q):followF l tick (6-q.length) r q=followF l tick (6-(q++[r.To]).length) (answer l r.To tick) (q++[r.To]):=by
 have e:6-q.length=(6-(q++[r.To]).length)+1:=by rw[List.length_append];simp only[List.length_cons,List.length_nil];omega
 rw[e,followF,if_pos h]
theorem K4d{l:List GVersion}{tick:Int}{r:GResource}{q:List GAddress}(hq:q.length≤5)(h:¬(r.Kind=3∧q.length≤4∧¬r.To∈q)):followF l tick (6-q.length) r q=(r,q):=by
 have e:6-q.length=(5-q.length)+1:=by omega
 rw[e,followF,if_neg h]
def M91:MC:=
(Zs [.box 3 0 (.s 1),.mv 4 cF] [0,3] (.seq (Zs [.mv 5 (ci 0)] [0,3,5] (.block 0 (.loop ([0,3,5],[]) (.seq (Zs [mS 6 5,mS 7 0,nS 8 7,bS 9 .lss 6 8] [0,3,5,9] (cX 9 0))
(.seq (.block 1 (.seq (.dreg [Zc [13,16] (mS 12 0),Zc [12,16] (mS 13 5),Zd [16] [0,1] (xS 14 3 12 13),Zd [16] [0,1,2] (lT 15 3 14),Zc [12,13,14,15] (lT 16 3 3),Ze (.range 5) (.eqA 17 false [.i .i64,.i .i64,.i .i64] (.s 15) (.s 16))] [0,3,5,17])
(.cond (.s 17) (Zs [.mv 4 cT] [4] .ret) .skip)))
(pr [mS 10 5,bC 11 .add 10 1,mS 5 11] [0,3,5]))))))
(Zs [.mv 4 cF] [4] .ret)))
theorem Cac(xs:List GAddress)(a:GAddress):Ctr Tryz.prog N95 [aL 3 (xs.map GAddress.enc),aS a.enc] [rB (decide (a∈xs))]:=by
 refine cA M91 1 18 [(.tmp 4,[false])] Tryz.func371 rfl rfl ?_;unfold M91
 intro hb
 simp only[bdA,bdL,bdT,Ky,roomB,and_true,List.length_map]at hb
 have hl:=hb.1
 clear hb
 simp only[go_sem]
 refine K7 xs (fun k=>[(5,vI k)]) (fun k=>[]) (fun k=>¬a∈xs.take k) hl.1 ?_
 simp only[go_sem]
 refine⟨?_,by simp,?_,?_⟩
 ·simp only[go_sem]
 ·intro k x hx h h0 h1 hw
  simp only[go_sem,K4 hx,h0,h1,hw,addrB]
  refine⟨fun hy=>?_,fun hn=>?_⟩
  ·have e:x=a:=by simpa using hy
   exact(decide_eq_true (e▸K10 hx)).symm
  ·have e:¬x=a:=by simpa using hn
   rw[Kt hx,List.mem_append,List.mem_singleton]
   rintro (hm|hm)
   ·exact h hm
   ·exact e hm.symm
 ·intro h
  rw[List.take_length]at h
  simp only[go_sem]
  exact(decide_eq_false h).symm
def M6k:MC:=
(Zs [.box 4 0 (.s 1),.alloc 6 1 [pz,.emp 1,pz,pz,pz],.nilo 7 2 3] [0,2,4,6] (Zs [lT 10 3 4,.lit 11 2 3 24 [.s 10],mS 8 11] [0,2,4,6,8] (Zs [mS 12 0,lT 13 3 4,mS 14 2,.call 15 [3] (.f N3h) [.s 12,.s 13,.s 14],.alloc 9 4 [pz,.emp 1,pz,pz,pz],sS 5 9 15] [0,2,6,8,9] (.seq (.block 0 (.loop ([0,2,6,8,9],[0,5]) (.seq (.seq (.reg [Za (fS 16 9 0),Za (lF 17 1 16),Za (bC 18 .eql 17 3),Za (mS 19 18),Zb 19 true (mS 20 8),Zb 19 true (nS 21 20),Zb 19 true (bC 22 .leq 21 4),Za (.pick 23 (.s 19) (.s 22) cF),Za (mS 24 23),Zb 24 true (mS 25 8),Zb 24 true (fS 26 9 2),Zb 24 true (lT 27 3 26),Zb 24 true (.call 28 [] (.f N95) [.s 25,.s 27]),Zb 24 true (.un 29 .not (.s 28)),Za (.pick 30 (.s 24) (.s 29) cF)] [0,2,6,8,9,30])
(cX 30 0))
(.block 1 (Zs [mS 31 8,fS 32 9 2,lT 33 3 32,.lit 34 5 3 24 [.s 33],.app 35 2 3 24 (.s 31) (.s 34),mS 8 35] [0,2,6,8,9] (pr [mS 36 0,fS 37 9 2,lT 38 3 37,mS 39 2,.call 40 [3] (.f N3h) [.s 36,.s 38,.s 39],sS 5 9 40] [0,2,6,8,9]))))))
(Zs [lT 41 5 9,mS 42 8,sS 5 6 41,mS 7 42] [6,7] .ret)))))
theorem C6f(l:List GVersion)(a:GAddress)(tick:Int)(hs:l.length+(l.map GVersion.size).sum≤1073741824):Ctr Tryz.prog N3j [aL 9 (l.map GVersion.enc),aS a.enc,aI tick] [rS (follow l a tick).1.enc,rL 3 ((follow l a tick).2.map GAddress.enc)]:=by
 refine cA M6k 6 43 [(.cell 6 true 5,[false,true,false,false,false]),(.tmp 7,[true])] Tryz.func330 rfl rfl ?_;unfold M6k
 intro hb
 clear hb
 simp only[go_sem]
 refine⟨by decide,?_⟩
 apply K0 (C6e l a tick hs)
 simp only[go_sem]
 intros
 refine Ko (ι:=GResource×List GAddress) (fun s=>[(8,.val false [.ref 2 0 3 0 s.2.length])]) (fun s=>[(2,⟨0,.row true 3 (s.2.map GAddress.enc)⟩),(3,⟨0,.row true 1 (s.1.Body.map encI)⟩),(4,⟨0,.box [.pl (tI s.1.Kind),.ref 3 0 1 0 s.1.Body.length,.pl (tI s.1.To.Host),.pl (tI s.1.To.Path),.pl (tI s.1.To.Query)]⟩)]) (fun s=>s.2.length≤5∧followF l tick (6-s.2.length) s.1 s.2=follow l a tick) (fun s=>6-s.2.length) (answer l a tick,[a]) ?_
 simp only[go_sem]
 refine⟨?_,⟨by simp,rfl⟩,?_⟩
 ·simp only[go_sem]
  try trivial
 ·rintro ⟨r,q⟩ ⟨hq,hf⟩
  simp only at hq hf
  by_cases c1:r.Kind=3
  ·by_cases c2:q.length≤4
   ·have c2':(q.length:Int)≤4:=by omega
    simp only[go_sem,c1,c2']
    apply K0 (Cac q r.To)
    simp only[go_sem]
    refine⟨fun c3=>?_,fun c3=>?_⟩
    ·rw[followF_go ⟨c1,c2,c3⟩]at hf
     refine⟨by decide,by simp only[roomB];omega,?_⟩
     apply K0 (C6e l r.To tick hs)
     simp only[go_sem]
     intros
     refine⟨(answer l r.To tick,q++[r.To]),?_⟩
     exact⟨⟨by simp,by simp[GAddress.enc],rfl,rfl,rfl,rfl,rfl,rfl⟩,⟨by simp;omega,hf⟩,by simp;omega⟩
    ·rw[K4d hq (fun hh=>hh.2.2 c3)]at hf
     rw[←hf]
     exact⟨⟨c1.symm,rfl,rfl,rfl,rfl⟩,rfl⟩
   ·have c2':¬(q.length:Int)≤4:=by omega
    simp only[go_sem,c1,c2']
    rw[K4d hq (fun hh=>c2 hh.2.1)]at hf
    rw[←hf]
    exact⟨⟨c1.symm,rfl,rfl,rfl,rfl⟩,rfl⟩
  ·simp only[go_sem,c1]
   rw[K4d hq (fun hh=>c1 hh.1)]at hf
   rw[←hf]
   exact⟨⟨rfl,rfl,rfl,rfl,rfl⟩,rfl⟩
end Go.Proofs.YtjneccbpkckdfaaGreatR
namespace Go.Proofs.YtjneccbpkckdfaaGreatR
open Go Go.RowKit Go.Proofs
open Nat (reduceEqDiff reduceLT reduceLeDiff reduceAdd reduceMul)
open List (reduceReplicate)
def zeros(n:Nat):List Int:=List.replicate n 0
theorem zeros_snoc{k:Nat}:zeros (k+1)=zeros k++[0]:=by
 unfold zeros;rw[List.replicate_succ']
def st0:GState:=⟨0,zeros 4,zeros 3,zeros 4⟩
def M6m:MC:=
(Zs [.nilo 2 0 1] [0] (Zs [.lit 5 0 1 8 [],mS 3 5] [0,3] (.seq (Zs [.mv 4 (ci 0)] [0,3,4] (.block 0 (.loop ([0,3,4],[1]) (.seq (Zs [mS 6 4,mS 7 0,bS 8 .lss 6 7] [0,3,4,8] (cX 8 0))
(.seq (.block 1 (pr [mS 11 3,.lit 12 1 1 8 [.c (.int .i64 0)],.app 13 0 1 8 (.s 11) (.s 12),mS 3 13] [0,3,4]))
(pr [mS 9 4,bC 10 .add 9 1,mS 4 10] [0,3,4]))))))
(Zs [mS 14 3,mS 2 14] [2] .ret))))
theorem C37(n:Nat)(hn:n≤4):Ctr Tryz.prog N25 [aI n] [rL 1 ((zeros n).map encI)]:=by
 refine cA M6m 2 15 [(.tmp 2,[true])] Tryz.func196 rfl rfl ?_;unfold M6m
 intro hb
 clear hb
 simp only[go_sem]
 refine Ko (fun k:Nat=>[(3,.val false [.ref 0 0 1 0 (zeros k).length]),(4,vI k)]) (fun k=>[(0,⟨0,.row true 1 ((zeros k).map encI)⟩)]) (fun k=>k≤n) (fun k=>n-k) 0 ?_
 simp only[go_sem]
 refine⟨?_,Nat.zero_le _,?_⟩
 ·simp only[go_sem]
  exact⟨rfl,rfl⟩
 ·intro k hk
  have hzl:(zeros k).length=k:=by simp[zeros]
  have hw1:IntKind.i64.wrap ((k:Int)+1)=((k+1:Nat):Int):=by rw[wI (by omega) (by omega)];omega
  simp only[go_sem,hw1]
  refine⟨fun hlt=>⟨by decide,?_⟩,fun hge=>?_⟩
  ·exact⟨by simp only[roomB];omega,k+1,⟨⟨by simp[zeros],rfl⟩,by rw[zeros_snoc];simp[encI]⟩,by omega,by omega⟩
  ·rw[show k=n by omega]
def M5f:MC:=
(Zs [.alloc 0 0 [pz,.emp 1,.emp 1,.emp 1]] [0] (Zs [.call 1 [1] (.f N25) [.c (.int .i64 4)],.call 2 [2] (.f N25) [.c (.int .i64 3)],.call 3 [3] (.f N25) [.c (.int .i64 4)],.build 4 [pz,.emp 1,.emp 1,.emp 1] [(1,1,.s 1),(2,1,.s 2),(3,1,.s 3)],sS 4 0 4] [0] .ret))
theorem C9e:Ctr Tryz.prog N5t [] [rS st0.enc]:=by
 refine cA M5f 4 5 [(.cell 0 true 4,[false,true,true,true])] Tryz.func193 rfl rfl ?_;unfold M5f
 intro hb
 clear hb
 simp only[go_sem]
 apply K0 (C37 4 (by omega))
 simp only[go_sem]
 try intros
 apply K0 (C37 3 (by omega))
 simp only[go_sem]
 try intros
 apply K0 (C37 4 (by omega))
 simp only[go_sem]
 try intros
 exact⟨rfl,rfl,rfl,rfl⟩
def M70:MC:=
(Zs [.box 1 0 (.s 0),.alloc 2 1 [pz,.emp 1,.emp 1,.emp 1]] [1,2] (.seq (.dreg [Zf [5,6,7,8,9,10,11,12,13,14,15,16] [2,3,4] (fS 3 1 0),Zg [5,6,7,8,9,10,11,12,13,14,15,16] [2,3,4] [0] (lF 4 1 3),{o:= .lit 5 2 1 8 [],hs:=[3,4,6,7,9,10,11,13,14,15],ho:=[3,4],ws:=[2]},Zf [3,4,5,9,10,11,13,14,15] [2,3,4] (fS 6 1 1),Zg [3,4,5,9,10,11,13,14,15] [2,3,4] [3] (lF 7 1 6),{o:= .app 8 2 1 8 (.s 5) (.s 7),hs:=[3,4,9,10,11,13,14,15],ho:=[3,4],ws:=[2],bf:=[2,3,4]},{o:= .lit 9 3 1 8 [],hs:=[3,4,5,6,7,8,10,11,13,14,15],ho:=[2,4],ws:=[3]},Zf [3,4,5,6,7,8,9,13,14,15] [2,3,4] (fS 10 1 2),Zg [3,4,5,6,7,8,9,13,14,15] [2,3,4] [7] (lF 11 1 10),{o:= .app 12 3 1 8 (.s 9) (.s 11),hs:=[3,4,13,14,15],ho:=[4],ws:=[3],bf:=[2,3,4,5,6,7,8]},{o:= .lit 13 4 1 8 [],hs:=[3,4,5,6,7,8,9,10,11,12,14,15],ho:=[2,3],ws:=[4]},Zf [3,4,5,6,7,8,9,10,11,12,13] [2,3,4] (fS 14 1 3),Zg [3,4,5,6,7,8,9,10,11,12,13] [2,3,4] [11] (lF 15 1 14),{o:= .app 16 4 1 8 (.s 13) (.s 15),hs:=[3,4],ws:=[4],bf:=[2,3,4,5,6,7,8,9,10,11,12]},Ze (.range 14) (.build 17 [pz,.emp 1,.emp 1,.emp 1] [(0,1,.s 4),(1,1,.s 8),(2,1,.s 12),(3,1,.s 16)]),{o:=sS 4 2 17,ws:=[1,2,3,4],bf:=(.range 15)}] [2])
.ret))
theorem C6t(s:GState)(hs:s.size≤1073741824):Ctr Tryz.prog N49 [aS s.enc] [rS s.enc]:=by
 refine cA M70 5 18 [(.cell 2 true 4,[false,true,true,true])] Tryz.func290 rfl rfl ?_;unfold M70
 intro hb
 clear hb
 simp only[GState.size]at hs
 simp only[go_sem,↓K17 (f:=encI) (fun _=>rfl) s.Regs,↓K17 (f:=encI) (fun _=>rfl) s.Slots,↓K17 (f:=encI) (fun _=>rfl) s.Nodes]
 simp only[roomB]
 omega
def stOk(s:GState):Bool:=decide (0≤s.Pc∧s.Pc≤19)&&(decide (s.Regs.length=4∧s.Slots.length=3∧s.Nodes.length=4)&&(K1d s.Regs 0 999&&(K1d s.Slots 0 999&&K1d s.Nodes 0 999)))
def M7w:MC:=
(Zs [.mv 4 cF] [0,1] (.seq (Zs [.mv 5 (ci 0)] [0,1,5] (.block 0 (.loop ([0,1,5],[]) (.seq (Zs [mS 6 5,mS 7 0,nS 8 7,bS 9 .lss 6 8] [0,1,5,9] (cX 9 0))
(.seq (.block 1 (Zs [mS 12 0,mS 13 5,xS 14 1 12 13,lF 15 1 14,.call 16 [] (.f N1) [.s 15,.c (.int .i64 0),.c (.int .i64 999)],.un 17 .not (.s 16)] [0,1,5,17] (.cond (.s 17) (Zs [.mv 4 cF] [4] .ret) .skip)))
(pr [mS 10 5,bC 11 .add 10 1,mS 5 11] [0,1,5]))))))
(Zs [mS 18 0,nS 19 18,mS 20 1,bS 21 .eql 19 20,mS 4 21] [4] .ret)))
theorem C2p(l:List Int)(n:Nat):Ctr Tryz.prog N1x [aL 1 (l.map encI),aI n] [rB (decide (l.length=n)&&K1d l 0 999)]:=by
 refine cA M7w 0 22 [(.tmp 4,[false])] Tryz.func323 rfl rfl ?_;unfold M7w
 intro hb
 simp only[bdA,bdL,bdT,Ky,K9c,roomB,and_true,List.length_map]at hb
 obtain⟨⟨hl,-⟩,-⟩:=hb
 simp only[go_sem]
 refine K7 l (fun k=>[(5,vI k)]) (fun k=>[]) (fun k=>((l.take k).all fun x=>decide (0≤x∧x≤999))=true) hl ?_
 simp only[go_sem]
 refine⟨?_,by simp,?_,?_⟩
 ·simp only[go_sem]
 ·intro k x hx h h0 h1 hw
  simp only[go_sem,K4 hx,h0,h1]
  refine K0 (C5 _ _ _) ?_
  simp only[go_sem,hw]
  refine⟨fun hn=>?_,fun hn=>K2e hx h (by simpa using hn)⟩
  rw[show K1d l 0 999=false from(K73 hx (by simpa using hn)).symm,Bool.and_false]
 ·intro h
  simp only[go_sem]
  rw[List.take_length]at h
  rw[show K1d l 0 999=true from h,Bool.and_true,Bool.eq_iff_iff]
  simp only[decide_eq_true_eq,beq_iff_eq]
  omega
def M6x:MC:=
(Zs [.box 1 0 (.s 0),.mv 2 cF] [1] (.seq (.reg [Za (fS 3 1 0),Za (lF 4 1 3),Za (.call 5 [] (.f N1) [.s 4,.c (.int .i64 0),.c (.int .i64 19)]),Za (mS 6 5),Zb 6 true (fS 7 1 1),Zb 6 true (lF 8 1 7),Zb 6 true (.call 9 [] (.f N1x) [.s 8,.c (.int .i64 4)]),Za (.pick 10 (.s 6) (.s 9) cF),Za (mS 11 10),Zb 11 true (fS 12 1 2),Zb 11 true (lF 13 1 12),Zb 11 true (.call 14 [] (.f N1x) [.s 13,.c (.int .i64 3)]),Za (.pick 15 (.s 11) (.s 14) cF),Za (mS 16 15),Zb 16 true (fS 17 1 3),Zb 16 true (lF 18 1 17),Zb 16 true (.call 19 [] (.f N1x) [.s 18,.c (.int .i64 4)]),Za (.pick 20 (.s 16) (.s 19) cF),Za (mS 2 20)] [2])
.ret))
theorem C9z(s:GState):Ctr Tryz.prog N7a [aS s.enc] [rB (stOk s)]:=by
 refine cA M6x 1 21 [(.tmp 2,[false])] Tryz.func348 rfl rfl ?_;unfold M6x
 intro hb
 clear hb
 simp only[go_sem]
 repeat' first
  |(refine And.intro ?_ ?_<;>intro h)
  |(apply K0 (C5 _ _ _);simp only[go_sem])
  |(apply K0 (C2p s.Regs 4);simp only[go_sem])
  |(apply K0 (C2p s.Slots 3);simp only[go_sem])
  |(apply K0 (C2p s.Nodes 4);simp only[go_sem])
 all_goals (unfold stOk;by_cases c1:s.Regs.length=4<;>by_cases c2:s.Slots.length=3<;>by_cases c3:s.Nodes.length=4<;>simp_all<;>omega)
end Go.Proofs.YtjneccbpkckdfaaGreatR
namespace Go.Proofs.YtjneccbpkckdfaaGreatR
open Go Go.RowKit Go.Proofs
open Nat (reduceEqDiff reduceLT reduceLeDiff reduceAdd reduceMul)
open List (reduceReplicate)
def K39(l:List GOp)(s:GState):Bool:=Kz l&&(stOk s&&decide (s.Pc<l.length))
def zAt(l:List Int)(i:Int):Int:=(l[i.toNat]?).getD 0
def opAt(l:List GOp)(i:Int):GOp:=(l[i.toNat]?).getD ⟨0,0,0,0⟩
theorem K2x{l:List Int}{i:Nat}{x:Int}(h:l[i]? =some x):zAt l i=x:=by simp[zAt,h]
structure Doing (l:List GOp) (s:GState) (k:Nat) (o:GOp):Prop where
 pc:s.Pc=k
 op:l[k]? =some o
 at_:opAt l s.Pc=o
 ok:opOk o=true
 lt:k<l.length
 few:l.length≤16
 regs:s.Regs.length=4
 slots:s.Slots.length=3
 nodes:s.Nodes.length=4
 rin:∀(i:Nat) (x:Int),s.Regs[i]? =some x→0≤x∧x≤999
 sin:∀(i:Nat) (x:Int),s.Slots[i]? =some x→0≤x∧x≤999
 nin:∀(i:Nat) (x:Int),s.Nodes[i]? =some x→0≤x∧x≤999
theorem K49{l:List Int}{a b:Int}(h:K1d l a b=true)(i:Nat)(x:Int)(hx:l[i]? =some x):a≤x∧x≤b:=by
 have:=List.all_eq_true.1 h x (K10 hx)
 simpa using this
theorem K4q{l:List GOp}{s:GState}(h:K39 l s=true):∃k o,Doing l s k o:=by
 simp only[K39,Kz,Kk,stOk,Bool.and_eq_true,decide_eq_true_eq]at h
 obtain⟨⟨h1,h2⟩,⟨⟨h3,h4⟩,⟨h5,h6,h7⟩,h8,h9,h10⟩,h11⟩:=h
 obtain⟨k,hk⟩:=Int.eq_ofNat_of_zero_le h3
 obtain⟨o,ho⟩:=Ke (show k<l.length by omega)
 exact⟨k,o,hk,ho,by simp[opAt,hk,ho],List.all_eq_true.1 h2 o (K10 ho),by omega,h1,h5,h6,h7,K49 h8,K49 h9,K49 h10⟩
theorem K65{o:GOp}(h:opOk o=true):∃i:Nat,i<4∧o.A=i∧(
  (o.Kind=5∧∃j m:Nat,j<4∧m<4∧o.B=j∧o.C=m)∨(o.Kind=6∧∃j:Nat,j<4∧o.B=j)∨(o.Kind=7∧1≤o.B∧o.B≤3)∨
  (o.Kind=8∧∃j:Nat,j<3∧o.B=j)∨(o.Kind=9∧∃j:Nat,j<3∧o.B=j)∨(1≤o.Kind∧o.Kind≤4)):=by
 simp only[opOk,decide_eq_true_eq]at h
 obtain⟨⟨h1,h2⟩,h⟩:=h
 refine⟨o.A.toNat,by omega,by omega,?_⟩
 rcases h with h|h|⟨h,h3,h4⟩|⟨h,h3,h4⟩|h|⟨h,h3,h4⟩
 ·omega
 ·omega
 ·exact .inl ⟨h,o.B.toNat,o.C.toNat,by omega,by omega,by omega,by omega⟩
 ·exact .inr (.inl ⟨h,o.B.toNat,by omega,by omega⟩)
 ·omega
 ·rcases h with h|h
  ·exact .inr (.inr (.inr (.inl ⟨h,o.B.toNat,by omega,by omega⟩)))
  ·exact .inr (.inr (.inr (.inr (.inl ⟨h,o.B.toNat,by omega,by omega⟩))))
def M7x:MC:=
(Zs [.box 3 0 (.s 1),.mv 4 cF] [0,3] (.seq (.reg [Za (mS 5 0),Za (.call 6 [] (.f N1k) [.s 5]),Za (mS 7 6),Zb 7 true (lT 8 4 3),Zb 7 true (.call 9 [] (.f N7a) [.s 8]),Za (.pick 10 (.s 7) (.s 9) cF),Za (mS 11 10),Zb 11 true (fS 12 3 0),Zb 11 true (lF 13 1 12),Zb 11 true (mS 14 0),Zb 11 true (nS 15 14),Zb 11 true (bS 16 .lss 13 15),Za (.pick 17 (.s 11) (.s 16) cF),Za (mS 4 17)] [4])
.ret))
theorem C7n(l:List GOp)(s:GState):Ctr Tryz.prog N4x [aL 4 (l.map GOp.enc),aS s.enc] [rB (K39 l s)]:=by
 refine cA M7x 1 18 [(.tmp 4,[false])] Tryz.func286 rfl rfl ?_;unfold M7x
 intro hb
 clear hb
 simp only[go_sem]
 repeat' first
  |(refine And.intro ?_ ?_<;>intro h)
  |(apply K0 (C23 _);simp only[go_sem])
  |(apply K0 (C9z s);simp only[go_sem])
 all_goals (unfold K39;simp_all)
def Km(l:List GOp)(s:GState):GWant:=if K39 l s=true∧asks (opAt l s.Pc).Kind=true then⟨(opAt l s.Pc).Kind,if (opAt l s.Pc).Kind=1 then⟨(opAt l s.Pc).B,(opAt l s.Pc).C,(zAt s.Regs (opAt l s.Pc).A).tmod 100⟩else⟨0,0,0⟩⟩else⟨0,⟨0,0,0⟩⟩
theorem c100:¬(100:Int)=0:=by decide
theorem c1000:¬(1000:Int)=0:=by decide
def M7u:MC:=
(Zs [.box 3 0 (.s 1),.alloc 4 1 [pz,pz,pz,pz]] [0,3,4] (.seq (.seq (.reg [Za (mS 7 0),Za (lT 8 4 3),Za (.call 9 [] (.f N4x) [.s 7,.s 8]),Za (.un 10 .not (.s 9)),Za (mS 11 10),Zb 11 false (mS 12 0),Zb 11 false (fS 13 3 0),Zb 11 false (lF 14 1 13),Zb 11 false (xS 15 4 12 14),Zb 11 false (fS 16 15 0),Zb 11 false (lF 17 1 16),Zb 11 false (.call 18 [] (.f N6r) [.s 17]),Zb 11 false (.un 19 .not (.s 18)),Za (.pick 20 (.s 11) cT (.s 19))] [0,3,4,20])
(.cond (.s 20) (Zs [.build 21 [pz,pz,pz,pz] [],sS 4 4 21] [4] .ret) .skip))
(Zs [mS 22 0,fS 23 3 0,lF 24 1 23,xS 25 4 22 24,lT 26 4 25,.alloc 5 2 [pz,pz,pz,pz],sS 4 5 26] [3,4,5] (Zs [fS 27 5 0,lF 28 1 27,.build 29 [pz,pz,pz,pz] [(0,1,.s 28)],.alloc 6 3 [pz,pz,pz,pz],sS 4 6 29] [3,4,5,6] (.seq (Zs [fS 30 5 0,lF 31 1 30,bC 32 .eql 31 1] [3,4,5,6,32] (.cond (.s 32) (.dreg [Zc [35,36,37,38,39,40,41,42,43] (fS 33 5 2),Zd [35,36,37,38,39,40,41,42,43] [0] (lF 34 1 33),Zc [33,34,37,38,39,40,41,42,43] (fS 35 5 3),Zd [33,34,37,38,39,40,41,42,43] [2] (lF 36 1 35),Zc [33,34,35,36,39,40] (fS 37 3 1),Zd [33,34,35,36,39,40] [4] (lF 38 1 37),Zc [33,34,35,36,37,38] (fS 39 5 1),Zd [33,34,35,36,37,38] [6] (lF 40 1 39),Zd [33,34,35,36] [4,5,6,7] (xS 41 1 38 40),Zd [33,34,35,36] [4,5,6,7,8] (lF 42 1 41),Zd [33,34,35,36] [4,5,6,7,8,9] (bC 43 .rem 42 100),Ze (.range 11) (.build 44 [pz,pz,pz] [(0,1,.s 34),(1,1,.s 36),(2,1,.s 43)]),Ze (.range 12) (fS 45 6 1),{o:=sS 3 45 44,ws:=[3],bf:=(.range 13)}] [4,6]) .skip))
(Zs [lT 46 4 6,sS 4 4 46] [4] .ret))))))
theorem Ca9(l:List GOp)(s:GState):Ctr Tryz.prog N8b [aL 4 (l.map GOp.enc),aS s.enc] [rS (Km l s).enc]:=by
 refine cA M7u 4 47 [(.cell 4 true 4,[false,false,false,false])] Tryz.func198 rfl rfl ?_;unfold M7u
 intro hb
 clear hb
 simp only[go_sem]
 apply K0 (C7n l s)
 simp only[go_sem]
 refine And.intro ?_ ?_<;>intro h
 ·rw[Km,if_neg (by simp[h])]
  try exact⟨rfl,rfl,rfl,rfl⟩
 ·obtain⟨k,o,D⟩:=K4q h
  obtain⟨i,hi,hA,-⟩:=K65 D.ok
  have hrl:=D.regs
  obtain⟨r,hr⟩:=Ke (show i<s.Regs.length by omega)
  have hp0:(0:Int)≤(k:Int):=by omega
  have hp1:(k:Int)<l.length:=by have:=D.lt;omega
  have hi0:(0:Int)≤(i:Int):=by omega
  have hi1:(i:Int)<s.Regs.length:=by omega
  have hz:zAt s.Regs o.A=r:=by rw[hA];exact K2x hr
  have hW:Km l s=if asks o.Kind=true then⟨o.Kind,if o.Kind=1 then⟨o.B,o.C,r.tmod 100⟩else⟨0,0,0⟩⟩else⟨0,⟨0,0,0⟩⟩:=by
   simp only[Km,h,D.at_,hz,true_and]
  rw[hW]
  simp only[go_sem,D.pc,K4 D.op,hp0,hp1]
  apply K0 (C9g o.Kind)
  simp only[go_sem,K4 D.op,hp0,hp1]
  refine And.intro ?_ ?_<;>intro h2
  ·rw[if_neg (by simp[h2])]
   try exact⟨rfl,rfl,rfl,rfl⟩
  ·rw[if_pos h2]
   refine And.intro ?_ ?_<;>intro h3
   ·simp only[go_sem,hA,K4 hr,hi0,hi1,h3,c100]
   ·rw[if_neg h3]
    try exact⟨rfl,rfl,rfl,rfl⟩
end Go.Proofs.YtjneccbpkckdfaaGreatR
namespace Go.Proofs.YtjneccbpkckdfaaGreatR
open Go Go.RowKit Go.Proofs
open Nat (reduceEqDiff reduceLT reduceLeDiff reduceAdd reduceMul)
open List (reduceReplicate)
def clamp(v:Int):Int:=if 999<(if 0>v then 0 else v)then 999 else(if 0>v then 0 else v)
theorem clamp_eq{v:Int}:(if (if v<999 then v else 999)>0 then(if v<999 then v else 999)else 0)=clamp v:=by
 unfold clamp;repeat' split
 all_goals omega
def pcTo(n:Int):Int:=IntKind.i64.wrap (n+1)
def doOp(o:GOp)(s:GState)(v:Int):GState:=
 if o.Kind=5 then {s with Pc:=pcTo s.Pc,Regs:=s.Regs.set o.A.toNat ((IntKind.i64.wrap (zAt s.Regs o.B+zAt s.Regs o.C)).tmod 1000)}
 else if o.Kind=6 then {s with Pc:=pcTo s.Pc,Nodes:=s.Nodes.set o.B.toNat (zAt s.Regs o.A)}
 else if o.Kind=7 then {s with Pc:=if (zAt s.Regs o.A).tmod 2=0 then IntKind.i64.wrap (pcTo s.Pc+o.B)else pcTo s.Pc}
 else if o.Kind=8 then {s with Pc:=pcTo s.Pc,Regs:=s.Regs.set o.A.toNat (zAt s.Slots o.B)}
 else if o.Kind=9 then {s with Pc:=pcTo s.Pc,Slots:=s.Slots.set o.B.toNat (zAt s.Regs o.A)}
 else {s with Pc:=pcTo s.Pc,Regs:=s.Regs.set o.A.toNat (clamp v)}
def Kx(l:List GOp)(s:GState)(v:Int):GState:=if K39 l s then doOp (opAt l s.Pc) s v else s
theorem step_no{l:List GOp}{s:GState}{v:Int}(h:K39 l s=false):Kx l s v=s:=by unfold Kx;rw[h];rfl
theorem K83{l:List GOp}{s:GState}{v:Int}{k:Nat}{o:GOp}(h:K39 l s=true)(D:Doing l s k o):Kx l s v=doOp o s v:=by unfold Kx;rw[h,D.at_];rfl
theorem c2:¬(2:Int)=0:=by decide
def M66:MC:=
(Zs [.box 4 0 (.s 1),.alloc 6 1 [pz,.emp 1,.emp 1,.emp 1]] [0,2,4,6] (Zs [lT 9 4 4,.call 10 [2,3,4] (.f N49) [.s 9],.alloc 7 5 [pz,.emp 1,.emp 1,.emp 1],sS 4 7 10] [0,2,4,6,7] (.seq (Zs [mS 11 0,lT 12 4 4,.call 13 [] (.f N4x) [.s 11,.s 12],.un 14 .not (.s 13)] [0,2,4,6,7,14] (.cond (.s 14) (Zs [lT 15 4 7,sS 4 6 15] [6] .ret) .skip))
(Zs [mS 16 0,fS 17 4 0,lF 18 1 17,xS 19 4 16 18,lT 20 4 19,.alloc 8 6 [pz,pz,pz,pz],sS 4 8 20] [2,4,6,7,8] (Zs [fS 21 4 0,lF 22 1 21,bC 23 .add 22 1,fS 24 7 0,sS 1 24 23] [2,4,6,7,8] (.seq (Zs [fS 25 8 0,lF 26 1 25] [2,4,6,7,8,26] (.block 0 (Zs [bC 36 .eql 26 5,mS 35 36] [2,4,6,7,8,26,35] (.cond (.s 35) (.dreg [Zc [39,40,41,42,43,44,45,46,47,48,49,50,51,52,53,54] (fS 37 7 1),Zd [39,40,41,42,43,44,45,46,47,48,49,50,51,52,53,54] [0] (lF 38 1 37),Zc [37,38,41,42,43,44,45,46,47,48,49,50,51,52,53,54] (fS 39 8 1),Zd [37,38,41,42,43,44,45,46,47,48,49,50,51,52,53,54] [2] (lF 40 1 39),Zc [37,38,39,40,43,44,47,48,49,50,51,52] (fS 41 4 1),Zd [37,38,39,40,43,44,47,48,49,50,51,52] [4] (lF 42 1 41),Zc [37,38,39,40,41,42,47,48,49,50,51,52] (fS 43 8 2),Zd [37,38,39,40,41,42,47,48,49,50,51,52] [6] (lF 44 1 43),Zd [37,38,39,40,47,48,49,50,51,52] [4,5,6,7] (xS 45 1 42 44),Zd [37,38,39,40,47,48,49,50,51,52] [4,5,6,7,8] (lF 46 1 45),Zc [37,38,39,40,41,42,43,44,45,46,49,50] (fS 47 4 1),Zd [37,38,39,40,41,42,43,44,45,46,49,50] [10] (lF 48 1 47),Zc [37,38,39,40,41,42,43,44,45,46,47,48] (fS 49 8 3),Zd [37,38,39,40,41,42,43,44,45,46,47,48] [12] (lF 50 1 49),Zd [37,38,39,40,41,42,43,44,45,46] [10,11,12,13] (xS 51 1 48 50),Zd [37,38,39,40,41,42,43,44,45,46] [10,11,12,13,14] (lF 52 1 51),Zd [37,38,39,40] [4,5,6,7,8,9,10,11,12,13,14,15] (bS 53 .add 46 52),Zd [37,38,39,40] [4,5,6,7,8,9,10,11,12,13,14,15,16] (bC 54 .rem 53 1000),Ze (.range 18) (xS 55 1 38 40),{o:=sS 1 55 54,ws:=[2],bf:=(.range 19)}] [6,7]) (Zs [bC 57 .eql 26 6,mS 56 57] [2,4,6,7,8,26,56] (.cond (.s 56) (.dreg [Zc [60,61,62,63,64,65,66,67] (fS 58 7 3),Zd [60,61,62,63,64,65,66,67] [0] (lF 59 1 58),Zc [58,59,62,63,64,65,66,67] (fS 60 8 2),Zd [58,59,62,63,64,65,66,67] [2] (lF 61 1 60),Zc [58,59,60,61,64,65] (fS 62 4 1),Zd [58,59,60,61,64,65] [4] (lF 63 1 62),Zc [58,59,60,61,62,63] (fS 64 8 1),Zd [58,59,60,61,62,63] [6] (lF 65 1 64),Zd [58,59,60,61] [4,5,6,7] (xS 66 1 63 65),Zd [58,59,60,61] [4,5,6,7,8] (lF 67 1 66),Ze (.range 10) (xS 68 1 59 61),{o:=sS 1 68 67,ws:=[4],bf:=(.range 11)}] [6,7]) (Zs [bC 70 .eql 26 7,mS 69 70] [2,4,6,7,8,26,69] (.cond (.s 69) (Zs [fS 71 4 1,lF 72 1 71,fS 73 8 1,lF 74 1 73,xS 75 1 72 74,lF 76 1 75,bC 77 .rem 76 2,bC 78 .eql 77 0] [4,6,7,8,78] (.cond (.s 78) (pr [fS 79 4 0,lF 80 1 79,bC 81 .add 80 1,fS 82 8 2,lF 83 1 82,bS 84 .add 81 83,fS 85 7 0,sS 1 85 84] [6,7]) .skip)) (Zs [bC 87 .eql 26 8,mS 86 87] [2,4,6,7,8,26,86] (.cond (.s 86) (.dreg [Zc [90,91,92,93,94,95,96,97] (fS 88 7 1),Zd [90,91,92,93,94,95,96,97] [0] (lF 89 1 88),Zc [88,89,92,93,94,95,96,97] (fS 90 8 1),Zd [88,89,92,93,94,95,96,97] [2] (lF 91 1 90),Zc [88,89,90,91,94,95] (fS 92 4 2),Zd [88,89,90,91,94,95] [4] (lF 93 1 92),Zc [88,89,90,91,92,93] (fS 94 8 2),Zd [88,89,90,91,92,93] [6] (lF 95 1 94),Zd [88,89,90,91] [4,5,6,7] (xS 96 1 93 95),Zd [88,89,90,91] [4,5,6,7,8] (lF 97 1 96),Ze (.range 10) (xS 98 1 89 91),{o:=sS 1 98 97,ws:=[2],bf:=(.range 11)}] [6,7]) (Zs [bC 100 .eql 26 9,mS 99 100] [2,4,6,7,8,99] (.cond (.s 99) (.dreg [Zc [103,104,105,106,107,108,109,110] (fS 101 7 2),Zd [103,104,105,106,107,108,109,110] [0] (lF 102 1 101),Zc [101,102,105,106,107,108,109,110] (fS 103 8 2),Zd [101,102,105,106,107,108,109,110] [2] (lF 104 1 103),Zc [101,102,103,104,107,108] (fS 105 4 1),Zd [101,102,103,104,107,108] [4] (lF 106 1 105),Zc [101,102,103,104,105,106] (fS 107 8 1),Zd [101,102,103,104,105,106] [6] (lF 108 1 107),Zd [101,102,103,104] [4,5,6,7] (xS 109 1 106 108),Zd [101,102,103,104] [4,5,6,7,8] (lF 110 1 109),Ze (.range 10) (xS 111 1 102 104),{o:=sS 1 111 110,ws:=[3],bf:=(.range 11)}] [6,7]) (.dreg [Zc [29,30,31,32,33] (fS 27 7 1),Zd [29,30,31,32,33] [0] (lF 28 1 27),Zc [27,28,31,32,33] (fS 29 8 1),Zd [27,28,31,32,33] [2] (lF 30 1 29),Zc [27,28,29,30] (mS 31 2),Zd [27,28,29,30] [4] (.call 32 [] (.f N5w) [.c (.int .i64 999),.s 31]),Zd [27,28,29,30] [4,5] (.call 33 [] (.f N9y) [.c (.int .i64 0),.s 32]),Ze (.range 7) (xS 34 1 28 30),{o:=sS 1 34 33,ws:=[2],bf:=(.range 8)}] [6,7])))))))))))))
(Zs [lT 112 4 7,sS 4 6 112] [6] .ret)))))))
set_option maxHeartbeats 1000000 in
theorem C61(l:List GOp)(s:GState)(v:Int)(hs:s.size≤1073741824):Ctr Tryz.prog N6a [aL 4 (l.map GOp.enc),aS s.enc,aI v] [rS (Kx l s v).enc]:=by
 refine cA M66 7 113 [(.cell 6 true 4,[false,true,true,true])] Tryz.func206 rfl rfl ?_;unfold M66
 intro hb
 clear hb
 simp only[go_sem]
 apply K0 (C6t s hs)
 simp only[go_sem]
 intros
 apply K0 (C7n l s)
 simp only[go_sem]
 refine And.intro ?_ ?_<;>intro h
 ·rw[step_no h]
  try exact⟨rfl,rfl,rfl,rfl⟩
 ·obtain⟨k,o,D⟩:=K4q h
  rw[K83 h D]
  obtain⟨i,hi,hA,hk⟩:=K65 D.ok
  have hrl:=D.regs
  have hsl:=D.slots
  have hnl:=D.nodes
  obtain⟨r,hr⟩:=Ke (show i<s.Regs.length by omega)
  have hp0:(0:Int)≤(k:Int):=by omega
  have hp1:(k:Int)<l.length:=by have:=D.lt;omega
  have hi0:(0:Int)≤(i:Int):=by omega
  have hi1:(i:Int)<s.Regs.length:=by omega
  have hz:zAt s.Regs (i:Int)=r:=K2x hr
  simp only[go_sem,D.pc,K4 D.op,hp0,hp1]
  rcases hk with ⟨hK,j,m,hj,hm,hB,hC⟩|⟨hK,j,hj,hB⟩|⟨hK,hB⟩|⟨hK,j,hj,hB⟩|⟨hK,j,hj,hB⟩|hK
  ·obtain⟨rj,hrj⟩:=Ke (show j<s.Regs.length by omega)
   obtain⟨rm,hrm⟩:=Ke (show m<s.Regs.length by omega)
   have hj0:(0:Int)≤(j:Int):=by omega
   have hj1:(j:Int)<s.Regs.length:=by omega
   have hm0:(0:Int)≤(m:Int):=by omega
   have hm1:(m:Int)<s.Regs.length:=by omega
   simp only[go_sem,hK,hA,hB,hC,hi0,hi1,hj0,hj1,hm0,hm1,K4 hrj,K4 hrm,K4 hr,Int.reduceEq,c1000]
   simp[doOp,hK,hA,hB,hC,pcTo,D.pc,K2x hrj,K2x hrm,encI,List.map_set]
  ·obtain⟨nj,hnj⟩:=Ke (show j<s.Nodes.length by omega)
   have hj0:(0:Int)≤(j:Int):=by omega
   have hj1:(j:Int)<s.Nodes.length:=by omega
   simp only[go_sem,hK,hA,hB,hi0,hi1,hj0,hj1,K4 hnj,K4 hr,Int.reduceEq]
   simp[doOp,hK,hA,hB,pcTo,D.pc,hz,encI,List.map_set]
  ·simp only[go_sem,hK,hA,hi0,hi1,K4 hr,Int.reduceEq,c2]
   exact⟨fun h7=>by simp[doOp,hK,hA,pcTo,D.pc,hz,h7],fun h7=>by simp[doOp,hK,hA,pcTo,D.pc,hz,h7]⟩
  ·obtain⟨sj,hsj⟩:=Ke (show j<s.Slots.length by omega)
   have hj0:(0:Int)≤(j:Int):=by omega
   have hj1:(j:Int)<s.Slots.length:=by omega
   simp only[go_sem,hK,hA,hB,hi0,hi1,hj0,hj1,K4 hsj,K4 hr,Int.reduceEq]
   simp[doOp,hK,hA,hB,pcTo,D.pc,K2x hsj,encI,List.map_set]
  ·obtain⟨sj,hsj⟩:=Ke (show j<s.Slots.length by omega)
   have hj0:(0:Int)≤(j:Int):=by omega
   have hj1:(j:Int)<s.Slots.length:=by omega
   simp only[go_sem,hK,hA,hB,hi0,hi1,hj0,hj1,K4 hsj,K4 hr,Int.reduceEq]
   simp[doOp,hK,hA,hB,pcTo,D.pc,hz,encI,List.map_set]
  ·have k5:¬o.Kind=5:=by omega
   have k6:¬o.Kind=6:=by omega
   have k7:¬o.Kind=7:=by omega
   have k8:¬o.Kind=8:=by omega
   have k9:¬o.Kind=9:=by omega
   simp only[go_sem,k5,k6,k7,k8,k9,hA,hi0,hi1,K4 hr]
   apply K0 (C7k 999 v)
   simp only[go_sem]
   try intros
   apply K0 (Cai 0 _)
   simp only[go_sem,hi0,hi1,K4 hr]
   try intros
   rw[clamp_eq]
   simp[doOp,k5,k6,k7,k8,k9,hA,pcTo,D.pc,encI,List.map_set]
end Go.Proofs.YtjneccbpkckdfaaGreatR
namespace Go.Proofs.YtjneccbpkckdfaaGreatR
open Go Go.RowKit Go.Proofs
open Nat (reduceEqDiff reduceLT reduceLeDiff reduceAdd reduceMul)
open List (reduceReplicate)
theorem K3q{l:List Int}{a b:Int}{i:Nat}{x:Int}(h:K1d l a b=true)(hx:a≤x∧x≤b):K1d (l.set i x) a b=true:=by
 refine List.all_eq_true.2 fun y hy=>?_
 rcases List.mem_or_eq_of_mem_set hy with hy|rfl
 ·exact List.all_eq_true.1 h y hy
 ·simpa using hx
theorem clamp_in(v:Int):0≤clamp v∧clamp v≤999:=by
 unfold clamp;repeat' split
 all_goals omega
theorem K47{s:GState}(h0:0≤s.Pc∧s.Pc≤19)(h1:s.Regs.length=4)(h2:s.Slots.length=3)(h3:s.Nodes.length=4)(h4:K1d s.Regs 0 999=true)(h5:K1d s.Slots 0 999=true)(h6:K1d s.Nodes 0 999=true):stOk s=true:=by
 unfold stOk;simp[h0,h1,h2,h3,h4,h5,h6]
theorem K6a{s:GState}(h:stOk s=true):(0≤s.Pc∧s.Pc≤19)∧s.Regs.length=4∧s.Slots.length=3∧s.Nodes.length=4∧K1d s.Regs 0 999=true∧K1d s.Slots 0 999=true∧K1d s.Nodes 0 999=true:=by
 simp only[stOk,Bool.and_eq_true,decide_eq_true_eq]at h
 exact⟨h.1,h.2.1.1,h.2.1.2.1,h.2.1.2.2,h.2.2.1,h.2.2.2.1,h.2.2.2.2⟩
theorem doOp_ok{l:List GOp}{s:GState}{k:Nat}{o:GOp}{v:Int}(hs:stOk s=true)(D:Doing l s k o):stOk (doOp o s v)=true∧s.Pc<(doOp o s v).Pc:=by
 obtain⟨h0,h1,h2,h3,h4,h5,h6⟩:=K6a hs
 obtain⟨i,hi,hA,hk⟩:=K65 D.ok
 have hpc:=D.pc
 have hlt:=D.lt
 have hfw:=D.few
 have hp:pcTo s.Pc=s.Pc+1:=wI (by omega) (by omega)
 obtain⟨r,hr⟩:=Ke (show i<s.Regs.length by omega)
 have hz:zAt s.Regs o.A=r:=by rw[hA];exact K2x hr
 have hri:=D.rin i r hr
 rcases hk with ⟨hK,j,m,hj,hm,hB,hC⟩|⟨hK,j,hj,hB⟩|⟨hK,hB⟩|⟨hK,j,hj,hB⟩|⟨hK,j,hj,hB⟩|hK
 ·obtain⟨rj,hrj⟩:=Ke (show j<s.Regs.length by omega)
  obtain⟨rm,hrm⟩:=Ke (show m<s.Regs.length by omega)
  have e1:zAt s.Regs o.B=rj:=by rw[hB];exact K2x hrj
  have e2:zAt s.Regs o.C=rm:=by rw[hC];exact K2x hrm
  have b1:=D.rin j rj hrj
  have b2:=D.rin m rm hrm
  have e3:IntKind.i64.wrap (rj+rm)=rj+rm:=wI (by omega) (by omega)
  simp only[doOp,hK,if_true,hp,e1,e2,e3]
  refine⟨K47 (by simp only;omega) (by simp[h1]) h2 h3 (K3q h4 ?_) h5 h6,by omega⟩
  rw[Int.tmod_eq_emod_of_nonneg (by omega)]
  omega
 ·simp only[doOp,hK,Int.reduceEq,if_false,if_true,hp,hz]
  exact⟨K47 (by simp only;omega) h1 h2 (by simp[h3]) h4 h5 (K3q h6 hri),by omega⟩
 ·have e4:IntKind.i64.wrap (s.Pc+1+o.B)=s.Pc+1+o.B:=wI (by omega) (by omega)
  simp only[doOp,hK,Int.reduceEq,if_false,if_true,hp,hz,e4]
  refine⟨K47 (by simp only;split<;>omega) h1 h2 h3 h4 h5 h6,by split<;>omega⟩
 ·obtain⟨sj,hsj⟩:=Ke (show j<s.Slots.length by omega)
  have e1:zAt s.Slots o.B=sj:=by rw[hB];exact K2x hsj
  simp only[doOp,hK,Int.reduceEq,if_false,if_true,hp,e1]
  exact⟨K47 (by simp only;omega) (by simp[h1]) h2 h3 (K3q h4 (D.sin j sj hsj)) h5 h6,by omega⟩
 ·simp only[doOp,hK,Int.reduceEq,if_false,if_true,hp,hz]
  exact⟨K47 (by simp only;omega) h1 (by simp[h2]) h3 h4 (K3q h5 hri) h6,by omega⟩
 ·have k5:¬o.Kind=5:=by omega
  have k6:¬o.Kind=6:=by omega
  have k7:¬o.Kind=7:=by omega
  have k8:¬o.Kind=8:=by omega
  have k9:¬o.Kind=9:=by omega
  simp only[doOp,k5,k6,k7,k8,k9,if_false,hp]
  exact⟨K47 (by simp only;omega) (by simp[h1]) h2 h3 (K3q h4 (clamp_in v)) h5 h6,by omega⟩
theorem K3t{l:List GOp}{s:GState}{v:Int}(hs:stOk s=true):stOk (Kx l s v)=true:=by
 cases h:K39 l s
 ·rw[step_no h];exact hs
 ·obtain⟨k,o,D⟩:=K4q h
  rw[K83 h D];exact(doOp_ok hs D).1
theorem stepTo_lt{l:List GOp}{s:GState}{v:Int}(hl:Kz l=true)(hs:stOk s=true)(hp:s.Pc<l.length):s.Pc<(Kx l s v).Pc:=by
 have h:K39 l s=true:=by unfold K39;rw[hl,hs,decide_eq_true hp];rfl
 obtain⟨k,o,D⟩:=K4q h
 rw[K83 h D];exact(doOp_ok hs D).2
theorem K9v{s:GState}(h:stOk s=true):s.size=11:=by
 obtain⟨h0,h1,h2,h3,-⟩:=K6a h
 simp only[GState.size];omega
theorem K8p:stOk st0=true:=by decide
theorem Kbm(l:List GOp)(s:GState):0≤(Km l s).Kind:=by
 unfold Km
 split
 ·rename_i h
  have:=h.2
  simp only[asks,decide_eq_true_eq]at this
  simp only
  omega
 ·simp
def rP(p:GPlayed):RV:=⟨true,[(false,tI p.Code),(false,tI p.At),(false,tI p.State.Pc),(false,.sl 1 (p.State.Regs.map encI)),(false,.sl 1 (p.State.Slots.map encI)),(false,.sl 1 (p.State.Nodes.map encI))]⟩
def rT(tr:List GState):RV:=⟨false,[(false,.sl 4 (tr.map GState.enc))]⟩
attribute [go_sem] rP rT
def M7s:MC:=
(Zs [.box 3 0 (.s 1),.mv 4 cF] [0,3] (Zs [fS 5 3 0,lF 6 1 5,mS 7 0,nS 8 7,bS 9 .geq 6 8,mS 4 9] [4] .ret))
theorem Ca7(l:List GOp)(s:GState):Ctr Tryz.prog N89 [aL 4 (l.map GOp.enc),aS s.enc] [rB (decide (s.Pc≥l.length))]:=by
 refine cA M7s 1 10 [(.tmp 4,[false])] Tryz.func197 rfl rfl ?_;unfold M7s
 intro hb
 clear hb
 simp only[go_sem]
end Go.Proofs.YtjneccbpkckdfaaGreatR
namespace Go.Proofs.YtjneccbpkckdfaaGreatR
open Go Go.RowKit Go.Proofs
open Nat (reduceEqDiff reduceLT reduceLeDiff reduceAdd reduceMul)
open List (reduceReplicate)
def K1r(v:GVisit):Bool:=K4j v.Site&&(decide (0≤v.Tick∧v.Tick≤1000)&&(decide (0≤v.Seed∧v.Seed≤9999)&&(decide (v.Inputs.length≤8)&&K1d v.Inputs 0 999)))
def M6y:MC:=
(Zs [.box 1 0 (.s 0),.mv 2 cF] [1] (.seq (.reg [Za (fS 3 1 0),Za (lF 4 1 3),Za (.call 5 [] (.f N8a) [.s 4]),Za (mS 6 5),Zb 6 true (fS 7 1 1),Zb 6 true (lF 8 1 7),Zb 6 true (.call 9 [] (.f N1) [.s 8,.c (.int .i64 0),.c (.int .i64 1000)]),Za (.pick 10 (.s 6) (.s 9) cF),Za (mS 11 10),Zb 11 true (fS 12 1 2),Zb 11 true (lF 13 1 12),Zb 11 true (.call 14 [] (.f N1) [.s 13,.c (.int .i64 0),.c (.int .i64 9999)]),Za (.pick 15 (.s 11) (.s 14) cF),Za (mS 16 15),Zb 16 true (fS 17 1 3),Zb 16 true (lF 18 1 17),Zb 16 true (nS 19 18),Zb 16 true (bC 20 .leq 19 8),Za (.pick 21 (.s 16) (.s 20) cF),Za (mS 22 21),Zb 22 true (fS 23 1 3),Zb 22 true (lF 24 1 23),Zb 22 true (fS 25 1 3),Zb 22 true (lF 26 1 25),Zb 22 true (nS 27 26),Zb 22 true (.call 28 [] (.f N1x) [.s 24,.s 27]),Za (.pick 29 (.s 22) (.s 28) cF),Za (mS 2 29)] [2])
.ret))
theorem C2b(v:GVisit):Ctr Tryz.prog N2c [aS v.enc] [rB (K1r v)]:=by
 refine cA M6y 1 30 [(.tmp 2,[false])] Tryz.func242 rfl rfl ?_;unfold M6y
 intro hb
 clear hb
 simp only[go_sem]
 repeat' first
  |(refine And.intro ?_ ?_<;>intro h)
  |(apply K0 (Ca8 _);simp only[go_sem])
  |(apply K0 (C5 _ _ _);simp only[go_sem])
  |(apply K0 (C2p v.Inputs v.Inputs.length);simp only[go_sem])
 all_goals (unfold K1r;by_cases c1:v.Inputs.length≤8<;>simp_all<;>omega)
def sumI(l:List Int):Int:=l.foldl (· + ·) 0
theorem K9y{l:List Int}{k:Nat}{x:Int}(h:l[k]? =some x):sumI (l.take (k+1))=sumI (l.take k)+x:=by
 rw[Kt h,sumI,List.foldl_append];rfl
theorem K97{l:List Int}(h:K1d l 0 255=true):∀k:Nat,0≤sumI (l.take k)∧sumI (l.take k)≤255*(k:Int)
 |0=>by simp[sumI]
 |k+1=>by
  have ih:=K97 h k
  by_cases hk:k<l.length
  ·obtain⟨x,hx⟩:=Ke hk
   rw[K9y hx]
   have:=K49 h k x hx
   omega
  ·rw[List.take_of_length_le (by omega)]at ih ⊢
   omega
def K5k(r:GResource):Bool:=Kv r&&decide (r.Kind=1∨r.Kind=2)
def valOf(r:GResource):Int:=if K5k r then(if (sumI r.Body).tmod 1000<999 then(sumI r.Body).tmod 1000+1 else(sumI r.Body).tmod 1000)else 0
theorem hasVal_out{r:GResource}(h:K5k r=true):r.Body.length≤6∧K1d r.Body 0 255=true∧(r.Kind=1∨r.Kind=2):=by
 simp only[K5k,Bool.and_eq_true,decide_eq_true_eq]at h
 obtain⟨h1,h2⟩:=h
 unfold Kv at h1
 rw[if_pos h2]at h1
 simp only[Bool.and_eq_true,decide_eq_true_eq]at h1
 exact⟨h1.1,h1.2.1,h2⟩
theorem tmod_step{s x:Int}(hs:0≤s)(hx:0≤x):(s.tmod 1000+x).tmod 1000=(s+x).tmod 1000:=by
 rw[Int.tmod_eq_emod_of_nonneg hs,Int.tmod_eq_emod_of_nonneg (by omega),Int.tmod_eq_emod_of_nonneg (by omega)]
 omega
theorem tmod_in{s:Int}(hs:0≤s):0≤s.tmod 1000∧s.tmod 1000≤999:=by
 rw[Int.tmod_eq_emod_of_nonneg hs];omega
def M2k:MC:=
(Zs [.box 1 0 (.s 0),.mv 2 (ci 0)] [1] (.seq (.seq (.reg [Za (lT 5 5 1),Za (.call 6 [] (.f N1o) [.s 5]),Za (.un 7 .not (.s 6)),Za (mS 8 7),Zb 8 false (fS 9 1 0),Zb 8 false (lF 10 1 9),Zb 8 false (bC 11 .gtr 10 2),Za (.pick 12 (.s 8) cT (.s 11))] [1,12])
(.cond (.s 12) (Zs [.mv 2 (ci 0)] [2] .ret) .skip))
(Zs [.mv 3 (ci 0)] [1,3] (.seq (Zs [.mv 4 (ci 0)] [1,3,4] (.block 0 (.loop ([1,3,4],[]) (.seq (Zs [mS 13 4,fS 14 1 1,lF 15 1 14,nS 16 15,bS 17 .lss 13 16] [1,3,4,17] (cX 17 0))
(.seq (.block 1 (pr [mS 20 3,fS 21 1 1,lF 22 1 21,mS 23 4,xS 24 1 22 23,lF 25 1 24,bS 26 .add 20 25,bC 27 .rem 26 1000,mS 3 27] [1,3,4]))
(pr [mS 18 4,bC 19 .add 18 1,mS 4 19] [1,3,4]))))))
(Zs [mS 28 3,bC 29 .add 28 1,.call 30 [] (.f N5w) [.c (.int .i64 999),.s 29],mS 2 30] [2] .ret)))))
theorem C6q(r:GResource):Ctr Tryz.prog N2o [aS r.enc] [rI (valOf r)]:=by
 refine cA M2k 1 31 [(.tmp 2,[false])] Tryz.func200 rfl rfl ?_;unfold M2k
 intro hb
 clear hb
 simp only[go_sem]
 apply K0 (C2f r)
 simp only[go_sem]
 cases hv:K5k r
 ·have e0:valOf r=0:=by unfold valOf;rw[hv];rfl
  rw[e0]
  refine⟨fun h=>rfl,fun h=>⟨fun _=>rfl,fun hk=>?_⟩⟩
  have hk2:¬(r.Kind=1∨r.Kind=2):=by simpa[K5k,h]using hv
  simp only[Kv,if_neg hk2]at h
  split at h<;>first|omega|(split at h<;>first|omega|cases h)
 ·obtain⟨h1,h2,h3⟩:=hasVal_out hv
  have hres:Kv r=true:=by simp only[K5k,Bool.and_eq_true]at hv;exact hv.1
  have hkd:¬r.Kind>2:=by omega
  simp only[go_sem,hres,hkd]
  refine K7 r.Body (fun k=>[(3,vI ((sumI (r.Body.take k)).tmod 1000)),(4,vI k)]) (fun k=>[]) (fun _=>True) (by simp only[roomB];omega) ?_
  simp only[go_sem]
  refine⟨?_,trivial,?_,?_⟩
  ·simp only[go_sem,List.take_zero]
   try rfl
  ·intro k x hx _ h0 h1 hw
   have hk:=K97 h2 k
   have hxi:=K49 h2 k x hx
   have hk2:=tmod_in hk.1
   have hws:IntKind.i64.wrap ((sumI (r.Body.take k)).tmod 1000+x)=(sumI (r.Body.take k)).tmod 1000+x:=wI (by omega) (by omega)
   simp only[go_sem,K4 hx,h0,h1,hw,hws,K9y hx,c1000,tmod_step hk.1 hxi.1]
   try trivial
  ·intro _
   have hk:=K97 h2 r.Body.length
   rw[List.take_length]at hk
   have hk2:=tmod_in hk.1
   have hws:IntKind.i64.wrap ((sumI r.Body).tmod 1000+1)=(sumI r.Body).tmod 1000+1:=wI (by omega) (by omega)
   simp only[go_sem,List.take_length,hws]
   apply K0 (C7k 999 _)
   simp only[go_sem]
   have e1:valOf r=if (sumI r.Body).tmod 1000<999 then(sumI r.Body).tmod 1000+1 else(sumI r.Body).tmod 1000:=by unfold valOf;rw[hv];rfl
   rw[e1]
   repeat' split
   all_goals omega
def mod1000(v:Int):Int:=(IntKind.i64.wrap (v.tmod 1000+1000)).tmod 1000
theorem Ca0(v:Int):Ctr Tryz.prog N5x [aI v,aI 1000] [rI (mod1000 v)]:=by
 refine cA M5v 0 15 [(.tmp 4,[false])] Tryz.func368 rfl rfl ?_;unfold M5v
 intro hb
 clear hb
 simp only[go_sem]
 apply K0 (C5 _ _ _)
 simp only[go_sem,c1000]
 refine And.intro ?_ ?_<;>intro h
 ·exact absurd (by decide) h
 ·rfl
end Go.Proofs.YtjneccbpkckdfaaGreatR
namespace Go.Proofs.YtjneccbpkckdfaaGreatR
open Go Go.RowKit Go.Proofs
open Nat (reduceEqDiff reduceLT reduceLeDiff reduceAdd reduceMul)
open List (reduceReplicate)
def Kw(d:GDisk):GDisk:=if Kj d then⟨d.Containers,index d.Containers,[]⟩else d
theorem K8k(d:GDisk):(Kw d).size≤2*d.size:=by
 have h:(index d.Containers).length≤(d.Containers.map GContainer.size).sum:=by
  rw[index,Srt.len_isort];exact K3j
 unfold Kw
 split
 ·simp only[GDisk.size,List.length_nil,List.map_nil,List.sum_nil];omega
 ·omega
def M4i:MC:=
(Zs [.box 1 0 (.s 0),.alloc 2 1 [.emp 4,.emp 6,.emp 4],.mv 3 cF] [1,2] (Zs [lT 5 3 1,.call 6 [2,3,4] (.f N24) [.s 5],.alloc 4 5 [.emp 4,.emp 6,.emp 4],sS 3 4 6] [1,2,4] (.seq (Zs [lT 7 3 1,.call 8 [] (.f Ng) [.s 7],.un 9 .not (.s 8)] [1,2,4,9] (.cond (.s 9) (Zs [lT 10 3 4,sS 3 2 10,.mv 3 cF] [2,3] .ret) .skip))
(Zs [fS 11 4 2,.store 1 (.s 11) (.nil 4)] [1,2,4] (Zs [fS 12 1 0,lF 13 1 12,.call 14 [6] (.f Nu) [.s 13],fS 15 4 1,sS 1 15 14] [2,4] (Zs [lT 16 3 4,sS 3 2 16,.mv 3 cT] [2,3] .ret))))))
theorem C26(d:GDisk)(hs:d.size≤1073741824):Ctr Tryz.prog N1i [aS d.enc] [rS (Kw d).enc,rB (Kj d)]:=by
 refine cA M4i 7 17 [(.cell 2 true 3,[true,true,true]),(.tmp 3,[false])] Tryz.func39 rfl rfl ?_;unfold M4i
 intro hb
 clear hb
 have hs':=hs
 simp only[GDisk.size]at hs
 simp only[go_sem]
 apply K0 (C34 d hs')
 simp only[go_sem]
 intros
 apply K0 (C9 d hs')
 simp only[go_sem]
 refine And.intro ?_ ?_<;>intro h
 ·simp[Kw,h]
 ·apply K0 (C14 d.Containers (by omega))
  simp only[go_sem]
  intros
  simp[Kw,h]
def M4n:MC:=
(Zs [.box 1 0 (.s 0),.alloc 2 1 [.emp 4,.emp 6,.emp 4],.mv 3 cF] [1,2] (Zs [lT 5 3 1,.call 6 [2,3,4] (.f N2e) [.s 5],.alloc 4 5 [.emp 4,.emp 6,.emp 4],sS 3 4 6] [1,2,4] (.seq (Zs [lT 7 3 1,.call 8 [] (.f N2t) [.s 7],.un 9 .not (.s 8)] [1,2,4,9] (.cond (.s 9) (Zs [lT 10 3 4,sS 3 2 10,.mv 3 cF] [2,3] .ret) .skip))
(Zs [.lit 11 6 4 80 [],fS 12 4 2,sS 1 12 11] [1,2,4] (Zs [fS 13 1 0,lF 14 1 13,.call 15 [7] (.f N17) [.s 14],fS 16 4 1,sS 1 16 15] [2,4] (Zs [lT 17 3 4,sS 3 2 17,.mv 3 cT] [2,3] .ret))))))
theorem C8t(d:GDisk)(hs:d.size≤1073741824):Ctr Tryz.prog N4t [aS d.enc] [rS (Kw d).enc,rB (Kj d)]:=by
 refine cA M4n 8 18 [(.cell 2 true 3,[true,true,true]),(.tmp 3,[false])] Tryz.func42 rfl rfl ?_;unfold M4n
 intro hb
 clear hb
 have hs':=hs
 simp only[GDisk.size]at hs
 simp only[go_sem]
 apply K0 (C47 d hs')
 simp only[go_sem]
 intros
 apply K0 (C4w d hs')
 simp only[go_sem]
 refine And.intro ?_ ?_<;>intro h
 ·simp[Kw,h]
 ·apply K0 (C1n d.Containers (by omega))
  simp only[go_sem]
  intros
  simp[Kw,h]
def K1j(d:GDisk)(x:GContainer):Bool:=Kj d&&(Kn x&&(whole d&&(decide (d.Wanted.length=0)&&decide (d.Containers.length<6))))
def K5(d:GDisk)(x:GContainer):GDisk:=if K1j d x then⟨d.Containers,d.Index,[x]⟩else d
theorem Kaf(d:GDisk)(x:GContainer):(K5 d x).size≤d.size+(x.size+1):=by
 unfold K5
 split
 ·simp only[GDisk.size,List.length_cons,List.length_nil,List.map_cons,List.map_nil,List.sum_cons,List.sum_nil];omega
 ·omega
def M57:MC:=
(Zs [.box 2 0 (.s 0),.box 3 1 (.s 1),.alloc 4 2 [.emp 4,.emp 6,.emp 4],.mv 5 cF] [2,3,4] (Zs [lT 7 3 2,.call 8 [3,4,5] (.f N24) [.s 7],.alloc 6 6 [.emp 4,.emp 6,.emp 4],sS 3 6 8] [2,3,4,6] (.seq (.seq (.reg [Za (lT 9 3 2),Za (.call 10 [] (.f Ng) [.s 9]),Za (.un 11 .not (.s 10)),Za (mS 12 11),Zb 12 false (lT 13 4 3),Zb 12 false (.call 14 [] (.f N29) [.s 13]),Zb 12 false (.un 15 .not (.s 14)),Za (.pick 16 (.s 12) cT (.s 15)),Za (mS 17 16),Zb 17 false (lT 18 3 2),Zb 17 false (.call 19 [] (.f N1f) [.s 18]),Zb 17 false (.un 20 .not (.s 19)),Za (.pick 21 (.s 17) cT (.s 20)),Za (mS 22 21),Zb 22 false (fS 23 2 2),Zb 22 false (lF 24 1 23),Zb 22 false (nS 25 24),Zb 22 false (bC 26 .gtr 25 0),Za (.pick 27 (.s 22) cT (.s 26)),Za (mS 28 27),Zb 28 false (fS 29 2 0),Zb 28 false (lF 30 1 29),Zb 28 false (nS 31 30),Zb 28 false (bC 32 .geq 31 6),Za (.pick 33 (.s 28) cT (.s 32))] [3,4,6,33])
(.cond (.s 33) (Zs [lT 34 3 6,sS 3 4 34,.mv 5 cF] [4,5] .ret) .skip))
(Zs [lT 35 4 3,.lit 36 7 4 80 [.s 35],.call 37 [8] (.f N13) [.s 36],fS 38 6 2,sS 1 38 37] [4,6] (Zs [lT 39 3 6,sS 3 4 39,.mv 5 cT] [4,5] .ret)))))
theorem C9a(d:GDisk)(x:GContainer)(hs:d.size≤1073741824)(hx:x.size≤1073741823):Ctr Tryz.prog N5n [aS d.enc,aS x.enc] [rS (K5 d x).enc,rB (K1j d x)]:=by
  refine cA M57 9 40 [(.cell 4 true 3,[true,true,true]),(.tmp 5,[false])] Tryz.func37 rfl rfl ?_;unfold M57
  intro hb
  clear hb
  simp only[go_sem]
  apply K0 (C34 d hs)
  simp only[go_sem]
  intros
  repeat' first
    |(refine And.intro ?_ ?_<;>intro h)
    |(apply K0 (C9 d hs);simp only[go_sem])
    |(apply K0 (C4c x (by omega));simp only[go_sem])
    |(apply K0 (C44 d hs);simp only[go_sem])
    |(refine⟨by decide,?_⟩;apply K0 (C1q [x] (by simp;omega));simp only[go_sem];intros)
  all_goals
    first
      |(have hF:K1j d x=false:=by
         clear hs hx
         unfold K1j
         by_cases c1:d.Wanted.length=0<;>by_cases c2:d.Containers.length<6<;>simp_all<;>omega
        simp[K5,hF]
        done)
      |(have hT:K1j d x=true:=by
         clear hs hx
         unfold K1j
         by_cases c1:d.Wanted.length=0<;>by_cases c2:d.Containers.length<6<;>simp_all<;>omega
        simp[K5,hT,GContainer.enc])
def M5g:MC:=
(Zs [.box 2 0 (.s 0),.box 3 1 (.s 1),.alloc 4 2 [.emp 4,.emp 6,.emp 4],.mv 5 cF] [2,3,4] (Zs [lT 7 3 2,.call 8 [3,4,5] (.f N2e) [.s 7],.alloc 6 6 [.emp 4,.emp 6,.emp 4],sS 3 6 8] [2,3,4,6] (.seq (.seq (.reg [Za (lT 9 3 2),Za (.call 10 [] (.f N2t) [.s 9]),Za (.un 11 .not (.s 10)),Za (mS 12 11),Zb 12 false (lT 13 4 3),Zb 12 false (.call 14 [] (.f N1j) [.s 13]),Zb 12 false (.un 15 .not (.s 14)),Za (.pick 16 (.s 12) cT (.s 15)),Za (mS 17 16),Zb 17 false (lT 18 3 2),Zb 17 false (.call 19 [] (.f N1l) [.s 18]),Zb 17 false (.un 20 .not (.s 19)),Za (.pick 21 (.s 17) cT (.s 20)),Za (mS 22 21),Zb 22 false (fS 23 2 2),Zb 22 false (lF 24 1 23),Zb 22 false (nS 25 24),Zb 22 false (bC 26 .gtr 25 0),Za (.pick 27 (.s 22) cT (.s 26)),Za (mS 28 27),Zb 28 false (fS 29 2 0),Zb 28 false (lF 30 1 29),Zb 28 false (nS 31 30),Zb 28 false (bC 32 .geq 31 6),Za (.pick 33 (.s 28) cT (.s 32))] [3,4,6,33])
(.cond (.s 33) (Zs [lT 34 3 6,sS 3 4 34,.mv 5 cF] [4,5] .ret) .skip))
(Zs [lT 35 4 3,.call 36 [7,8,9] (.f N2d) [.s 35],.lit 37 10 4 80 [.s 36],fS 38 6 2,sS 1 38 37] [4,6] (Zs [lT 39 3 6,sS 3 4 39,.mv 5 cT] [4,5] .ret)))))
theorem C2g(d:GDisk)(x:GContainer)(hs:d.size≤1073741824)(hx:x.size≤1073741823):Ctr Tryz.prog N1p [aS d.enc,aS x.enc] [rS (K5 d x).enc,rB (K1j d x)]:=by
  refine cA M5g 11 40 [(.cell 4 true 3,[true,true,true]),(.tmp 5,[false])] Tryz.func139 rfl rfl ?_;unfold M5g
  intro hb
  clear hb
  simp only[go_sem]
  apply K0 (C47 d hs)
  simp only[go_sem]
  intros
  repeat' first
    |(refine And.intro ?_ ?_<;>intro h)
    |(apply K0 (C4w d hs);simp only[go_sem])
    |(apply K0 (C28 x (by omega));simp only[go_sem])
    |(apply K0 (C38 d hs);simp only[go_sem])
    |(apply K0 (C46 x (by omega));simp only[go_sem];refine⟨by decide,?_⟩;intros)
  all_goals
    first
      |(have hF:K1j d x=false:=by
         clear hs hx
         unfold K1j
         by_cases c1:d.Wanted.length=0<;>by_cases c2:d.Containers.length<6<;>simp_all<;>omega
        simp[K5,hF]
        done)
      |(have hT:K1j d x=true:=by
         clear hs hx
         unfold K1j
         by_cases c1:d.Wanted.length=0<;>by_cases c2:d.Containers.length<6<;>simp_all<;>omega
        simp[K5,hT,GContainer.enc])
end Go.Proofs.YtjneccbpkckdfaaGreatR
namespace Go.Proofs.YtjneccbpkckdfaaGreatR
open Go Go.RowKit Go.Proofs
open Nat (reduceEqDiff reduceLT reduceLeDiff reduceAdd reduceMul)
open List (reduceReplicate)
def K1a(v:GVisit)(w:GWant)(n:Int):Int:=if K1r v=true∧0≤n∧n≤100 then(
  if w.Kind=1 then valOf (follow v.Site w.Address (IntKind.i64.wrap (v.Tick+n))).1
  else if w.Kind=2 then(if IntKind.i64.wrap (v.Tick+n)<999 then IntKind.i64.wrap (v.Tick+n)else 999)
  else if w.Kind=3 then mod1000 (hashL [v.Seed,n])
  else if w.Kind=4 then(if 0<v.Inputs.length then zAt v.Inputs (n.tmod v.Inputs.length)else 0)
  else 0)else 0
def M65:MC:=
(Zs [.box 3 0 (.s 0),.box 4 1 (.s 1),.mv 6 (ci 0)] [2,3,4] (.seq (.seq (.reg [Za (lT 9 4 3),Za (.call 10 [] (.f N2c) [.s 9]),Za (.un 11 .not (.s 10)),Za (mS 12 11),Zb 12 false (mS 13 2),Zb 12 false (.call 14 [] (.f N1) [.s 13,.c (.int .i64 0),.c (.int .i64 100)]),Zb 12 false (.un 15 .not (.s 14)),Za (.pick 16 (.s 12) cT (.s 15))] [2,3,4,16])
(.cond (.s 16) (Zs [.mv 6 (ci 0)] [6] .ret) .skip))
(.seq (Zs [fS 17 4 0,lF 18 1 17] [2,3,4,18] (.block 0 (Zs [bC 20 .eql 18 1,mS 19 20] [2,3,4,18,19] (.cond (.s 19) (Zs [fS 22 3 0,lF 23 1 22,fS 24 4 1,lT 25 3 24,fS 26 3 1,lF 27 1 26,mS 28 2,bS 29 .add 27 28,.call 30 [2,3] (.f N3j) [.s 23,.s 25,.s 29],mS 21 30,.ext 31 (.s 21) 0,.ext 32 (.s 21) 1,.alloc 7 4 [pz,.emp 1,pz,pz,pz],sS 5 7 31,mS 8 32] [7] (Zs [lT 33 5 7,.call 34 [] (.f N2o) [.s 33],mS 6 34] [6] .ret)) (Zs [bC 36 .eql 18 2,mS 35 36] [2,3,18,35] (.cond (.s 35) (Zs [fS 37 3 1,lF 38 1 37,mS 39 2,bS 40 .add 38 39,.call 41 [] (.f N5w) [.c (.int .i64 999),.s 40],mS 6 41] [6] .ret) (Zs [bC 43 .eql 18 3,mS 42 43] [2,3,18,42] (.cond (.s 42) (Zs [fS 44 3 2,lF 45 1 44,mS 46 2,.lit 47 5 1 8 [.s 45,.s 46],.call 48 [] (.f N20) [.s 47],.call 49 [] (.f N5x) [.s 48,.c (.int .i64 1000)],mS 6 49] [6] .ret) (Zs [bC 51 .eql 18 4,mS 50 51] [2,3,50] (.cond (.s 50) (Zs [fS 52 3 3,lF 53 1 52,nS 54 53,bC 55 .gtr 54 0] [2,3,55] (.cond (.s 55) (.seq (.dreg [Zc [58,59,60,61,62] (fS 56 3 3),Zd [58,59,60,61,62] [0] (lF 57 1 56),Zc [56,57,59,60,61] (mS 58 2),Zc [56,57,58] (fS 59 3 3),Zd [56,57,58] [3] (lF 60 1 59),Zd [56,57,58] [3,4] (nS 61 60),Zd [56,57] [2,3,4,5] (bS 62 .rem 58 61),Ze (.range 7) (xS 63 1 57 62),Ze (.range 8) (lF 64 1 63),Ze (.range 9) (mS 6 64)] [6])
.ret) .skip)) .skip))))))))))
(Zs [.mv 6 (ci 0)] [6] .ret))))
theorem C9p(v:GVisit)(w:GWant)(n:Nat)(hv:v.Site.length+(v.Site.map GVersion.size).sum≤1073741824):Ctr Tryz.prog N69 [aS v.enc,aS w.enc,aI n] [rI (K1a v w n)]:=by
 refine cA M65 6 65 [(.tmp 6,[false])] Tryz.func367 rfl rfl ?_;unfold M65
 intro hb
 clear hb
 simp only[go_sem]
 apply K0 (C2b v)
 simp only[go_sem]
 by_cases hc:K1r v=true∧0≤(n:Int)∧(n:Int)≤100
 ·obtain⟨c1,c2,c3⟩:=hc
  rw[K1a,if_pos ⟨c1,c2,c3⟩]
  have hdec:decide ((0:Int)≤(n:Int)∧(n:Int)≤100)=true:=decide_eq_true ⟨c2,c3⟩
  simp only[go_sem,c1]
  apply K0 (C5 (n:Int) 0 100)
  simp only[go_sem,hdec]
  refine⟨fun k1=>?_,fun k1=>?_⟩
  ·rw[if_pos k1]
   apply K0 (C6f v.Site w.Address _ hv)
   simp only[go_sem]
   intros
   apply K0 (C6q _)
   simp only[go_sem]
  rw[if_neg k1]
  refine⟨fun k2=>?_,fun k2=>?_⟩
  ·rw[if_pos k2]
   apply K0 (C7k 999 _)
   simp only[go_sem]
   try intros
   repeat' split
   all_goals omega
  rw[if_neg k2]
  refine⟨fun k3=>?_,fun k3=>?_⟩
  ·rw[if_pos k3]
   refine⟨⟨by decide,by decide⟩,?_⟩
   apply K0 (C2h [v.Seed,(n:Int)])
   simp only[go_sem]
   try intros
   apply K0 (Ca0 _)
   simp only[go_sem]
  rw[if_neg k3]
  refine⟨fun k4=>?_,fun k4=>?_⟩
  ·rw[if_pos k4]
   refine⟨fun k5=>?_,fun k5=>?_⟩
   ·rw[if_pos (show 0<v.Inputs.length by omega)]
    obtain⟨x,hx⟩:=Ke (l:=v.Inputs) (k:=n%v.Inputs.length) (Nat.mod_lt _ (by omega))
    have hm:(n:Int).tmod (v.Inputs.length:Int)=((n%v.Inputs.length:Nat):Int):=(Int.ofNat_tmod n _).symm
    have hz:=K2x hx
    have hz0:¬(v.Inputs.length:Int)=0:=by omega
    have hz1:(v.Inputs.length:Int)≠0:=by omega
    have hlt:=Nat.mod_lt n (show 0<v.Inputs.length by omega)
    rw[if_neg hz0,hm]
    simp only[go_sem]
    refine⟨⟨by omega,by omega⟩,?_⟩
    rw[hx,hz]
    simp only[go_sem]
   ·rw[if_neg (show ¬0<v.Inputs.length by omega)]
  ·rw[if_neg k4]
 ·have e0:K1a v w n=0:=by rw[K1a,if_neg hc]
  rw[e0]
  refine⟨fun _=>rfl,fun h=>?_⟩
  have hk:decide ((0:Int)≤(n:Int)∧(n:Int)≤100)=false:=decide_eq_false (fun hh=>hc ⟨h,hh⟩)
  apply K0 (C5 (n:Int) 0 100)
  simp only[go_sem,hk]
def visF(l:List GOp)(v:GVisit):Nat→GState→List GEntry→List GState→List GEntry×List GState
 |0,s,es,tr=>(es,tr)
 |f+1,s,es,tr=>
  if s.Pc≥l.length then(es,tr)
  else if (Km l s).Kind=0 then visF l v f (Kx l s 0) es (tr++[Kx l s 0])
  else visF l v f (Kx l s (K1a v (Km l s) es.length)) (es++[⟨(Km l s).Kind,(Km l s).Address,K1a v (Km l s) es.length⟩]) (tr++[Kx l s (K1a v (Km l s) es.length)])
def visit(l:List GOp)(v:GVisit):List GEntry×List GState:=if Kz l=true∧K1r v=true then visF l v 20 st0 [] [st0]else([],[st0])
theorem K84{l:List GOp}{v:GVisit}:∀ {f:Nat} {s:GState} {es:List GEntry} {tr:List GState},(visF l v f s es tr).1.length≤es.length+f∧tr.length≤(visF l v f s es tr).2.length
 |0,s,es,tr=>⟨Nat.le_refl _,Nat.le_refl _⟩
 |f+1,s,es,tr=>by
  rw[visF]
  split
  ·exact⟨by simp,Nat.le_refl _⟩
  ·split
   ·have:=K84 (l:=l) (v:=v) (f:=f) (s:=Kx l s 0) (es:=es) (tr:=tr++[Kx l s 0])
    simp only[List.length_append,List.length_cons,List.length_nil]at this
    omega
   ·have:=K84 (l:=l) (v:=v) (f:=f) (s:=Kx l s (K1a v (Km l s) es.length)) (es:=es++[⟨(Km l s).Kind,(Km l s).Address,K1a v (Km l s) es.length⟩]) (tr:=tr++[Kx l s (K1a v (Km l s) es.length)])
    simp only[List.length_append,List.length_cons,List.length_nil]at this
    omega
theorem K9b{l:List GOp}{v:GVisit}:∀ {f:Nat} {s:GState} {es:List GEntry} {tr:List GState},stOk s=true→(∀x∈tr,stOk x=true)→∀x∈(visF l v f s es tr).2,stOk x=true
 |0,s,es,tr,_,h=>h
 |f+1,s,es,tr,hs,h=>by
  rw[visF]
  have hn:∀u,∀x∈tr++[Kx l s u],stOk x=true:=fun u x hx=>by
   rcases List.mem_append.1 hx with hx|hx
   ·exact h x hx
   ·rw[List.mem_singleton.1 hx];exact K3t hs
  split
  ·exact h
  ·split
   ·exact K9b (K3t hs) (hn _)
   ·exact K9b (K3t hs) (hn _)
theorem K51(l:List GOp)(v:GVisit):(visit l v).1.length≤20∧1≤(visit l v).2.length:=by
 unfold visit
 split
 ·have:=K84 (l:=l) (v:=v) (f:=20) (s:=st0) (es:=[]) (tr:=[st0])
  simp only[List.length_nil,List.length_cons]at this
  omega
 ·simp
theorem visit_ok(l:List GOp)(v:GVisit):∀x∈(visit l v).2,stOk x=true:=by
 unfold visit
 split
 ·exact K9b K8p (by simp[K8p])
 ·simp[K8p]
structure VisI (l:List GOp) (v:GVisit) (s:GState) (es:List GEntry) (tr:List GState):Prop where
 ok:stOk s=true
 len:tr.length≤20∧es.length≤20
 run:Kz l=true→K1r v=true→∃f,l.length-s.Pc.toNat<f∧tr.length+(l.length-s.Pc.toNat)≤18∧es.length+(l.length-s.Pc.toNat)≤18∧visF l v f s es tr=visit l v
 bad:¬(Kz l=true∧K1r v=true)→(es,tr)=visit l v
theorem K4i{l:List GOp}(h:Kz l=true):l.length≤16:=by
 simp only[Kz,Kk,Bool.and_eq_true,decide_eq_true_eq]at h
 exact h.1
theorem VisI.start(l:List GOp)(v:GVisit):VisI l v st0 [] [st0]:=
 ⟨K8p,by simp,fun h1 h2=>⟨20,by have:=K4i h1;simp only[st0];omega,by have:=K4i h1;simp only[st0,List.length_cons,List.length_nil];omega,by have:=K4i h1;simp only[st0,List.length_nil];omega,by rw[visit,if_pos ⟨h1,h2⟩]⟩,fun h=>by rw[visit,if_neg h]⟩
section
variable {l:List GOp} {v:GVisit} {s:GState} {es:List GEntry} {tr:List GState}
theorem VisI.fin(h:VisI l v s es tr)(h1:Kz l=true)(h2:K1r v=true)(hd:s.Pc≥l.length):(es,tr)=visit l v:=by
 obtain⟨f,hf,_,_,hp⟩:=h.run h1 h2
 obtain⟨f,rfl⟩:∃f',f=f'+1:=⟨f-1,by omega⟩
 rw[visF,if_pos hd]at hp
 exact hp
theorem VisI.less(h:VisI l v s es tr)(h1:Kz l=true)(h2:K1r v=true)(hd:¬s.Pc≥l.length)(u:Int):l.length-(Kx l s u).Pc.toNat<l.length-s.Pc.toNat:=by
 have h0:=(K6a h.ok).1.1
 have:=stepTo_lt (v:=u) h1 h.ok (by omega)
 omega
theorem VisI.step0(h:VisI l v s es tr)(h1:Kz l=true)(h2:K1r v=true)(hd:¬s.Pc≥l.length)(hw:(Km l s).Kind=0):VisI l v (Kx l s 0) es (tr++[Kx l s 0]):=by
 obtain⟨f,hf,ht,he,hp⟩:=h.run h1 h2
 obtain⟨f,rfl⟩:∃f',f=f'+1:=⟨f-1,by omega⟩
 have hl:=h.less h1 h2 hd 0
 rw[visF,if_neg hd,if_pos hw]at hp
 refine⟨K3t h.ok,by simp only[List.length_append,List.length_cons,List.length_nil];omega,fun _ _=>⟨f,by omega,by simp only[List.length_append,List.length_cons,List.length_nil];omega,by omega,hp⟩,fun hb=>(hb ⟨h1,h2⟩).elim⟩
theorem VisI.step1(h:VisI l v s es tr)(h1:Kz l=true)(h2:K1r v=true)(hd:¬s.Pc≥l.length)(hw:¬(Km l s).Kind=0):
  VisI l v (Kx l s (K1a v (Km l s) es.length)) (es++[⟨(Km l s).Kind,(Km l s).Address,K1a v (Km l s) es.length⟩]) (tr++[Kx l s (K1a v (Km l s) es.length)]):=by
 obtain⟨f,hf,ht,he,hp⟩:=h.run h1 h2
 obtain⟨f,rfl⟩:∃f',f=f'+1:=⟨f-1,by omega⟩
 have hl:=h.less h1 h2 hd (K1a v (Km l s) es.length)
 rw[visF,if_neg hd,if_neg hw]at hp
 refine⟨K3t h.ok,by simp only[List.length_append,List.length_cons,List.length_nil];omega,fun _ _=>⟨f,by omega,by simp only[List.length_append,List.length_cons,List.length_nil];omega,by simp only[List.length_append,List.length_cons,List.length_nil];omega,hp⟩,fun hb=>(hb ⟨h1,h2⟩).elim⟩
end
def M7y:MC:=
(Zs [.box 3 0 (.s 1),.nilo 4 1 5,.nilo 5 2 4] [0,3] (Zs [.lit 11 1 5 40 [],mS 6 11] [0,3,6] (Zs [.call 12 [3,4,5] (.f N5t) [],.alloc 7 6 [pz,.emp 1,.emp 1,.emp 1],sS 4 7 12] [0,3,6,7] (Zs [lT 13 4 7,.lit 14 2 4 80 [.s 13],mS 8 14] [0,3,6,7,8] (.seq (.block 0 (.loop ([0,3,6,7,8],[7,8,9]) (.seq (.seq (.reg [Za (mS 15 0),Za (.call 16 [] (.f N1k) [.s 15]),Za (mS 17 16),Zb 17 true (lT 18 4 3),Zb 17 true (.call 19 [] (.f N2c) [.s 18]),Za (.pick 20 (.s 17) (.s 19) cF),Za (mS 21 20),Zb 21 true (mS 22 0),Zb 21 true (lT 23 4 7),Zb 21 true (.call 24 [] (.f N89) [.s 22,.s 23]),Zb 21 true (.un 25 .not (.s 24)),Za (.pick 26 (.s 21) (.s 25) cF)] [0,3,6,7,8,26])
(cX 26 0))
(.block 1 (Zs [mS 27 0,lT 28 4 7,.call 29 [] (.f N8b) [.s 27,.s 28],.alloc 9 7 [pz,pz,pz,pz],sS 4 9 29] [0,3,6,7,8,9] (Zs [.mv 10 (ci 0)] [0,3,6,7,8,9,10] (.seq (Zs [fS 30 9 0,lF 31 1 30,bC 32 .gtr 31 0] [0,3,6,7,8,9,10,32] (.cond (.s 32) (Zs [lT 33 4 3,lT 34 4 9,mS 35 6,nS 36 35,.call 37 [] (.f N69) [.s 33,.s 34,.s 36],mS 10 37] [0,3,6,7,8,9,10] (pr [mS 38 6,fS 39 9 0,lF 40 1 39,fS 41 9 1,lT 42 3 41,mS 43 10,.build 44 [pz,pz,pz,pz,pz] [(0,1,.s 40),(1,3,.s 42),(4,1,.s 43)],.lit 45 8 5 40 [.s 44],.app 46 1 5 40 (.s 38) (.s 45),mS 6 46] [0,3,6,7,8,10])) .skip))
(Zs [mS 47 0,lT 48 4 7,mS 49 10,.call 50 [3,4,5] (.f N6a) [.s 47,.s 48,.s 49],sS 4 7 50] [0,3,6,7,8] (pr [mS 51 8,lT 52 4 7,.lit 53 9 4 80 [.s 52],.app 54 2 4 80 (.s 51) (.s 53),mS 8 54] [0,3,6,7,8])))))))))
(Zs [mS 55 6,mS 56 8,mS 4 55,mS 5 56] [4,5] .ret))))))
set_option maxHeartbeats 2000000 in
theorem Caa(l:List GOp)(v:GVisit)(hv:v.Site.length+(v.Site.map GVersion.size).sum≤1073741824):Ctr Tryz.prog N8d [aL 4 (l.map GOp.enc),aS v.enc] [rL 5 ((visit l v).1.map GEntry.enc),rL 4 ((visit l v).2.map GState.enc)]:=by
 refine cA M7y 10 57 [(.tmp 4,[true]),(.tmp 5,[true])] Tryz.func324 rfl rfl ?_;unfold M7y
 intro hb
 clear hb
 simp only[go_sem]
 apply K0 C9e
 simp only[go_sem]
 intros
 refine⟨by decide,?_⟩
 refine Ko (ι:=GState×List GEntry×List GState) (fun t=>[(6,.val false [.ref 1 0 5 0 t.2.1.length]),(8,.val false [.ref 2 0 4 0 t.2.2.length])]) (fun t=>[(1,⟨0,.row true 5 (t.2.1.map GEntry.enc)⟩),(2,⟨0,.row true 4 (t.2.2.map GState.enc)⟩),(3,⟨0,.lent 1 (t.1.Regs.map encI)⟩),(4,⟨0,.lent 1 (t.1.Slots.map encI)⟩),(5,⟨0,.lent 1 (t.1.Nodes.map encI)⟩),(6,⟨0,.box [.pl (tI t.1.Pc),.ref 3 0 1 0 t.1.Regs.length,.ref 4 0 1 0 t.1.Slots.length,.ref 5 0 1 0 t.1.Nodes.length]⟩)])
  (fun t=>VisI l v t.1 t.2.1 t.2.2) (fun t=>l.length-t.1.Pc.toNat) (st0,[],[st0]) ?_
 simp only[go_sem]
 refine⟨?_,VisI.start l v,?_⟩
 ·simp only[go_sem]
  try exact⟨rfl,rfl⟩
  try trivial
 ·rintro ⟨s,es,tr⟩ hI
  simp only at hI
  have hs:=hI.ok
  have hsz:=K9v hs
  have h0:=(K6a hs).1.1
  have hlt:=hI.len
  simp only[go_sem]
  apply K0 (C23 l)
  by_cases hval:Kz l=true∧K1r v=true
  ·obtain⟨hl,hv2⟩:=hval
   simp only[go_sem,hl]
   apply K0 (C2b v)
   simp only[go_sem,hv2]
   apply K0 (Ca7 l s)
   by_cases hd:s.Pc≥l.length
   ·have hf:=hI.fin hl hv2 hd
    simp only[go_sem,hd]
    rw[←hf]
    try exact⟨rfl,rfl⟩
    try trivial
   ·simp only[go_sem,hd]
    apply K0 (Ca9 l s)
    simp only[go_sem]
    intros
    by_cases hw:(Km l s).Kind=0
    ·simp only[go_sem,hw]
     apply K0 (C61 l s 0 (by omega))
     simp only[go_sem]
     intros
     refine⟨by decide,by simp only[roomB];omega,(Kx l s 0,es,tr++[Kx l s 0]),⟨⟨rfl,by simp⟩,rfl,by simp[GState.enc],rfl,rfl,rfl,rfl,rfl,rfl,rfl⟩,hI.step0 hl hv2 hd hw,hI.less hl hv2 hd _⟩
    ·have hw':(Km l s).Kind>0:=by have:=Kbm l s;omega
     simp only[go_sem,hw']
     apply K0 (C9p v (Km l s) es.length hv)
     simp only[go_sem]
     try intros
     refine⟨by decide,by simp only[roomB];omega,?_⟩
     apply K0 (C61 l s (K1a v (Km l s) es.length) (by omega))
     simp only[go_sem]
     intros
     refine⟨by decide,by simp only[roomB];omega,(Kx l s (K1a v (Km l s) es.length),es++[⟨(Km l s).Kind,(Km l s).Address,K1a v (Km l s) es.length⟩],tr++[Kx l s (K1a v (Km l s) es.length)]),⟨⟨by simp,by simp⟩,by simp[GEntry.enc],by simp[GState.enc],rfl,rfl,rfl,rfl,rfl,rfl,rfl⟩,hI.step1 hl hv2 hd hw,hI.less hl hv2 hd _⟩
  ·have hf:=hI.bad hval
   rw[←hf]
   simp only[go_sem]
   intro h
   have hvb:K1r v=false:=by
    cases hh:K1r v
    ·rfl
    ·exact(hval ⟨h,hh⟩).elim
   apply K0 (C2b v)
   simp only[go_sem,hvb,h]
end Go.Proofs.YtjneccbpkckdfaaGreatR
namespace Go.Proofs.YtjneccbpkckdfaaGreatR
open Go Go.RowKit Go.Proofs
open Nat (reduceEqDiff reduceLT reduceLeDiff reduceAdd reduceMul)
open List (reduceReplicate)
def lastSt(l:List GState):GState:=(l[l.length-1]?).getD st0
theorem lastSt_at{l:List GState}{x:GState}(h:l[l.length-1]? =some x):lastSt l=x:=by rw[lastSt,h];rfl
def M4m:MC:=
(Zs [.box 3 0 (.s 1),.nilo 4 1 5,.alloc 5 2 [pz,.emp 1,.emp 1,.emp 1]] [0,3,5] (Zs [mS 9 0,lT 10 4 3,.call 11 [1,3] (.f N8d) [.s 9,.s 10],mS 8 11,.ext 12 (.s 8) 0,.ext 13 (.s 8) 1,mS 6 12,mS 7 13] [5,6,7] (Zs [mS 14 6,mS 15 7,mS 16 7,nS 17 16,bC 18 .sub 17 1,xS 19 4 15 18,lT 20 4 19,.call 21 [4,5,6] (.f N49) [.s 20],mS 4 14,sS 4 5 21] [4,5] .ret)))
theorem C4e(l:List GOp)(v:GVisit)(hv:v.Site.length+(v.Site.map GVersion.size).sum≤1073741824):Ctr Tryz.prog N2a [aL 4 (l.map GOp.enc),aS v.enc] [rL 5 ((visit l v).1.map GEntry.enc),rS (lastSt (visit l v).2).enc]:=by
 refine cA M4m 7 22 [(.tmp 4,[true]),(.cell 5 true 4,[false,true,true,true])] Tryz.func243 rfl rfl ?_;unfold M4m
 intro hb
 clear hb
 simp only[go_sem]
 apply K0 (Caa l v hv)
 simp only[go_sem]
 intros
 have h1:=(K51 l v).2
 have hrb:roomB=140737488355328:=rfl
 obtain⟨x,hx⟩:=Ke (l:=(visit l v).2) (k:=(visit l v).2.length-1) (by omega)
 have hsz:=K9v (visit_ok l v x (K10 hx))
 have hlt:(((visit l v).2.length-1:Nat):Int)<((visit l v).2.length:Int):=by omega
 rw[lastSt_at hx]
 have hw1:IntKind.i64.wrap (((visit l v).2.length:Int)-1)=(((visit l v).2.length-1:Nat):Int):=by rw[wI (by omega) (by omega)];omega
 simp only[go_sem,hw1,K4 hx,hlt]
 refine⟨by omega,?_⟩
 apply K0 (C6t x (by omega))
 simp only[go_sem]
def K5s(v:GVisit)(k:Nat)(e:GEntry):List GCapture:=if e.Kind=1 then [⟨e.Address,IntKind.i64.wrap (v.Tick+k),(follow v.Site e.Address (IntKind.i64.wrap (v.Tick+k))).1⟩]else []
def K1t(v:GVisit)(es:List GEntry):Nat→List GCapture
 |0=>[]
 |k+1=>K1t v es k++(match es[k]? with|some e=>K5s v k e|none=>[])
def capsV(v:GVisit)(es:List GEntry):List GCapture:=K1t v es es.length
theorem capsUp_yes{v:GVisit}{es:List GEntry}{k:Nat}{e:GEntry}(h:es[k]? =some e)(h1:e.Kind=1):K1t v es (k+1)=K1t v es k++[⟨e.Address,IntKind.i64.wrap (v.Tick+k),(follow v.Site e.Address (IntKind.i64.wrap (v.Tick+k))).1⟩]:=by
 rw[K1t,h];simp only[K5s,if_pos h1]
theorem capsUp_no{v:GVisit}{es:List GEntry}{k:Nat}{e:GEntry}(h:es[k]? =some e)(h1:¬e.Kind=1):K1t v es (k+1)=K1t v es k:=by
 rw[K1t,h];simp only[K5s,if_neg h1,List.append_nil]
theorem K3v{v:GVisit}{es:List GEntry}:∀k,(K1t v es k).length≤k
 |0=>Nat.le_refl _
 |k+1=>by
  have ih:=K3v (v:=v) (es:=es) k
  rw[K1t,List.length_append]
  have:(match es[k]? with|some e=>K5s v k e|none=>[]).length≤1:=by
   split
   ·unfold K5s;split<;>simp
   ·simp
  omega
def M5a:MC:=
(Zs [.box 3 0 (.s 1),.nilo 4 1 9] [0,3] (Zs [.lit 11 1 9 88 [],mS 5 11] [0,3,5] (Zs [mS 13 0,lT 14 4 3,.call 15 [2,3,4,5] (.f N2a) [.s 13,.s 14],mS 12 15,.ext 16 (.s 12) 0,.ext 17 (.s 12) 1,.alloc 7 6 [pz,.emp 1,.emp 1,.emp 1],mS 6 16,sS 4 7 17] [3,5,6] (.seq (Zs [.mv 8 (ci 0)] [3,5,6,8] (.block 0 (.loop ([3,5,6,8],[3,4,5,6,7,8,9,10]) (.seq (Zs [mS 18 8,mS 19 6,nS 20 19,bS 21 .lss 18 20] [3,5,6,8,21] (cX 21 0))
(.seq (.block 1 (Zs [mS 24 6,mS 25 8,xS 26 5 24 25,fS 27 26 0,lF 28 1 27,bC 29 .eql 28 1] [3,5,6,8,29] (.cond (.s 29) (.seq (.dreg [Zf [9,33,34,35,36,37,38,39,40,41] [9] (fS 31 3 0),Zg [9,33,34,35,36,37,38,39,40,41] [9] [0] (lF 32 1 31),Zf [9,31,32,34,38,39,40,41] [9] (mS 33 6),Zf [9,31,32,33,38,39,40,41] [9] (mS 34 8),Zg [9,31,32,38,39,40,41] [9] [2,3] (xS 35 5 33 34),Zg [9,31,32,38,39,40,41] [9] [2,3,4] (fS 36 35 1),Zg [9,31,32,38,39,40,41] [9] [2,3,4,5] (lT 37 3 36),Zf [9,31,32,33,34,35,36,37,40] [9] (fS 38 3 1),Zg [9,31,32,33,34,35,36,37,40] [9] [7] (lF 39 1 38),Zf [9,31,32,33,34,35,36,37,38,39] [9] (mS 40 8),Zg [9,31,32,33,34,35,36,37] [9] [7,8,9] (bS 41 .add 39 40),{o:= .call 42 [7,8] (.f N3j) [.s 32,.s 37,.s 41],hs:=[9],ho:=[9],ws:=[7,8],bf:=(.range 11)},Zg [9] [9] (.range 12) (mS 30 42),Zg [9,44] [9] (.range 13) (.ext 43 (.s 30) 0),Zg [9,43] [7,9] (.range 13) (.ext 44 (.s 30) 1),{o:= .alloc 9 9 [pz,.emp 1,pz,pz,pz],hs:=[30,31,32,33,34,35,36,37,38,39,40,41,42,43,44],ho:=[7,8],ws:=[9]},{o:=sS 5 9 43,hs:=[44],ws:=[7,9],bf:=[0,1,2,3,4,5,6,7,8,9,10,11,12,13,15]},Ze (.range 17) (mS 10 44)] [3,5,6,8,9])
(.dreg [Zf [46,47,48,49,50,51,52,53,54,55,56,57] [7,10] (mS 45 5),Zc [45,47,51,52,53,54,55] (mS 46 6),Zc [45,46,51,52,53,54,55] (mS 47 8),Zd [45,51,52,53,54,55] [1,2] (xS 48 5 46 47),Zd [45,51,52,53,54,55] [1,2,3] (fS 49 48 1),Zd [45,51,52,53,54,55] [1,2,3,4] (lT 50 3 49),Zc [45,46,47,48,49,50,53,55] (fS 51 3 1),Zd [45,46,47,48,49,50,53,55] [6] (lF 52 1 51),Zc [45,46,47,48,49,50,51,52,55] (mS 53 8),Zd [45,46,47,48,49,50,55] [6,7,8] (bS 54 .add 52 53),Zc [45,46,47,48,49,50,51,52,53,54] (lT 55 5 9),Zd [45] [1,2,3,4,5,6,7,8,9,10] (.build 56 [pz,pz,pz,pz,pz,.emp 1,pz,pz,pz] [(0,3,.s 50),(3,1,.s 54),(4,5,.s 55)]),{o:= .lit 57 10 9 88 [.s 56],hs:=[45],ws:=[7,10],bf:=[1,2,3,4,5,6,7,8,9,10,11]},{o:= .app 58 1 9 88 (.s 45) (.s 57),ws:=[1,10],bf:=(.range 13)},Ze (.range 14) (mS 5 58)] [3,5,6,8])) .skip)))
(pr [mS 22 8,bC 23 .add 22 1,mS 8 23] [3,5,6,8]))))))
(Zs [mS 59 5,mS 4 59] [4] .ret)))))
theorem C9c(l:List GOp)(v:GVisit)(hv:v.Site.length+(v.Site.map GVersion.size).sum≤1073741824):Ctr Tryz.prog N5p [aL 4 (l.map GOp.enc),aS v.enc] [rL 9 ((capsV v (visit l v).1).map GCapture.enc)]:=by
 refine cA M5a 11 60 [(.tmp 4,[true])] Tryz.func245 rfl rfl ?_;unfold M5a
 intro hb
 clear hb
 simp only[go_sem]
 apply K0 (C4e l v hv)
 simp only[go_sem]
 intros
 have hn:=(K51 l v).1
 generalize (visit l v).1=es at*
 refine K7 es (fun k=>[(5,.val false [.ref 1 0 9 0 (K1t v es k).length]),(8,vI k)]) (fun k=>[(1,⟨0,.row true 9 ((K1t v es k).map GCapture.enc)⟩)]) (fun _=>True) (by simp only[roomB];omega) ?_
 simp only[go_sem]
 refine⟨?_,trivial,?_,?_⟩
 ·simp only[go_sem,K1t]
  try exact⟨rfl,rfl⟩
 ·intro k e hx _ h0 h1 hw
  have hl:=K3v (v:=v) (es:=es) k
  have hk:=Kl hx
  simp only[go_sem,K4 hx,h0,h1,hw]
  refine⟨fun hA=>?_,fun hA=>?_⟩
  ·apply K0 (C6f v.Site e.Address _ hv)
   simp only[go_sem,K4 hx,h0,h1,capsUp_yes hx hA,hw,List.length_append]
   intros
   exact⟨by decide,by simp only[roomB];omega,by rw[List.map_append];rfl⟩
  ·simp only[go_sem,capsUp_no hx hA]
 ·intro _
  simp only[go_sem]
  rfl
theorem K6p{l:List GVersion}{tick:Int}:∀ {n:Nat} {r:GResource} {q:List GAddress},r.Body.length≤(l.map GVersion.size).sum→(followF l tick n r q).1.Body.length≤(l.map GVersion.size).sum
 |0,r,q,h=>h
 |n+1,r,q,h=>by
  rw[followF]
  split
  ·exact K6p K7e
  ·exact h
theorem Kbe{l:List GVersion}{tick:Int}{a:GAddress}:(follow l a tick).1.Body.length≤(l.map GVersion.size).sum:=K6p K7e
theorem K55{v:GVisit}{es:List GEntry}:∀k,((K1t v es k).map GCapture.size).sum≤k*(v.Site.map GVersion.size).sum
 |0=>by simp[K1t]
 |k+1=>by
  have ih:=K55 (v:=v) (es:=es) k
  rw[K1t,List.map_append,List.sum_append,Nat.succ_mul]
  have:((match es[k]? with|some e=>K5s v k e|none=>[]).map GCapture.size).sum≤(v.Site.map GVersion.size).sum:=by
   split
   ·unfold K5s
    split
    ·simp only[List.map_cons,List.map_nil,List.sum_cons,List.sum_nil,GCapture.size,GResource.size]
     have:=Kbe (l:=v.Site) (tick:=IntKind.i64.wrap (v.Tick+k)) (a:=(by assumption:GEntry).Address)
     omega
    ·simp
   ·simp
  omega
def madeC(l:List GOp)(v:GVisit):GContainer:=⟨l,(visit l v).1,capsV v (visit l v).1,K68 l (visit l v).1 (capsV v (visit l v).1)⟩
def emptyC:GContainer:=⟨[],[],[],0⟩
def K2j(l:List GOp)(v:GVisit):Bool:=Kz l&&K1r v
def K2k(l:List GOp)(v:GVisit):GContainer:=if K2j l v then madeC l v else emptyC
theorem capsV_sz{v:GVisit}{es:List GEntry}(hn:es.length≤20)(hv:(v.Site.map GVersion.size).sum≤16777216):(capsV v es).length+((capsV v es).map GCapture.size).sum≤335544340:=by
 have h1:=K3v (v:=v) (es:=es) es.length
 have h2:=K55 (v:=v) (es:=es) es.length
 have h3:es.length*(v.Site.map GVersion.size).sum≤20*16777216:=Nat.mul_le_mul hn hv
 unfold capsV
 omega
def M3w:MC:=
(Zs [.box 3 0 (.s 1),.alloc 4 1 [.emp 4,.emp 5,.emp 9,pz],.mv 5 cF] [0,3,4] (.seq (.seq (.reg [Za (mS 8 0),Za (.call 9 [] (.f N1k) [.s 8]),Za (.un 10 .not (.s 9)),Za (mS 11 10),Zb 11 false (lT 12 4 3),Zb 11 false (.call 13 [] (.f N2c) [.s 12]),Zb 11 false (.un 14 .not (.s 13)),Za (.pick 15 (.s 11) cT (.s 14))] [0,3,4,15])
(.cond (.s 15) (Zs [.build 16 [.emp 4,.emp 5,.emp 9,pz] [],sS 4 4 16,.mv 5 cF] [4,5] .ret) .skip))
(Zs [mS 18 0,lT 19 4 3,.call 20 [2,3,4,5] (.f N2a) [.s 18,.s 19],mS 17 20,.ext 21 (.s 17) 0,.ext 22 (.s 17) 1,.alloc 7 6 [pz,.emp 1,.emp 1,.emp 1],mS 6 21,sS 4 7 22] [0,3,4,6] (Zs [mS 23 0,mS 24 6,mS 25 0,lT 26 4 3,.call 27 [7] (.f N5p) [.s 25,.s 26],.call 28 [8,9,10] (.f N19) [.s 23,.s 24,.s 27],sS 4 4 28,.mv 5 cT] [4,5] .ret))))
theorem C8l(l:List GOp)(v:GVisit)(hl:l.length≤1073741824)(hv:v.Site.length+(v.Site.map GVersion.size).sum≤16777216):Ctr Tryz.prog N42 [aL 4 (l.map GOp.enc),aS v.enc] [rS (K2k l v).enc,rB (K2j l v)]:=by
 refine cA M3w 11 29 [(.cell 4 true 4,[true,true,true,false]),(.tmp 5,[false])] Tryz.func138 rfl rfl ?_;unfold M3w
 intro hb
 clear hb
 simp only[go_sem]
 apply K0 (C23 l)
 simp only[go_sem]
 repeat' first
  |(refine And.intro ?_ ?_<;>intro h)
  |(apply K0 (C2b v);simp only[go_sem])
 ·have hc:K2j l v=false:=by unfold K2j;simp_all
  rw[K2k,hc]
  exact⟨⟨rfl,rfl,rfl,rfl⟩,rfl⟩
 ·have hc:K2j l v=false:=by unfold K2j;simp_all
  rw[K2k,hc]
  exact⟨⟨rfl,rfl,rfl,rfl⟩,rfl⟩
 ·have hc:K2j l v=true:=by unfold K2j;simp_all
  have hn:=(K51 l v).1
  have hz:=capsV_sz hn (v:=v) (by omega)
  apply K0 (C4e l v (by omega))
  simp only[go_sem]
  intros
  apply K0 (C9c l v (by omega))
  simp only[go_sem]
  intros
  apply K0 (C1t l (visit l v).1 (capsV v (visit l v).1) hl (by omega) (by omega))
  simp only[go_sem]
  intros
  rw[K2k,hc,if_pos rfl]
  exact⟨⟨rfl,rfl,rfl,rfl⟩,rfl⟩
end Go.Proofs.YtjneccbpkckdfaaGreatR
namespace Go.Proofs.YtjneccbpkckdfaaGreatR
open Go Go.RowKit Go.Proofs
open Nat (reduceEqDiff reduceLT reduceLeDiff reduceAdd reduceMul)
open List (reduceReplicate)
section
variable (b:List Int) (i:Nat) (h:Int) (hi:i≤b.length) (hb:byts b)
def M7v:MC:=
(Zs [.nilo 2 1 4] [0] (Zs [mS 5 0,.callB 6 [1] (.f N48) (.s 5) [],mS 3 6] [0,3] (.seq (Zs [mS 7 3,nS 8 7,bC 9 .eql 8 0] [0,3,9] (.cond (.s 9) (Zs [mS 10 3,mS 2 10] [2] .ret) .skip))
(Zs [mS 11 0,mS 12 3,nS 13 12,.callB 14 [] (.f N0) (.s 11) [.s 13],mS 4 14] [0,3,4] (.seq (Zs [mS 15 0,.callB 16 [] (.f N0) (.s 15) [.c (.int .i64 12)]] [0,3,4,16] (.block 0 (Zs [bC 18 .eql 16 0,mS 17 18] [0,3,4,16,17] (.cond (.s 17) (pr [mS 19 3,mS 20 4,mS 21 0,.litP 22 1 8 [.c (.int .i64 0),.c (.int .i64 10),.c (.int .i64 5)],.callB 23 [] (.f N3k) (.s 21) [.s 22],xS 24 4 19 20,fS 25 24 0,sS 1 25 23] [3]) (Zs [bC 27 .eql 16 1,mS 26 27] [0,3,4,16,26] (.cond (.s 26) (pr [mS 28 3,mS 29 4,mS 30 0,.litP 31 1 8 [.c (.int .i64 (-1)),.c (.int .i64 3),.c (.int .i64 4)],.callB 32 [] (.f N3k) (.s 30) [.s 31],xS 33 4 28 29,fS 34 33 1,sS 1 34 32] [3]) (Zs [bC 36 .eql 16 2,mS 35 36] [0,3,4,16,35] (.cond (.s 35) (pr [mS 37 3,mS 38 4,mS 39 0,.callB 40 [] (.f N6c) (.s 39) [],xS 41 4 37 38,fS 42 41 2,sS 1 42 40] [3]) (Zs [bC 44 .eql 16 3,mS 43 44] [0,3,4,16,43] (.cond (.s 43) (pr [mS 45 3,mS 46 4,mS 47 0,.callB 48 [] (.f N6c) (.s 47) [],xS 49 4 45 46,fS 50 49 3,sS 1 50 48] [3]) (Zs [bC 52 .eql 16 4,mS 51 52] [3,51] (.cond (.s 51) (.block 1 (.loop ([3],[2]) (.seq (Zs [mS 53 3,nS 54 53,bC 55 .lss 54 17] [3,55] (cX 55 1))
(.block 2 (pr [mS 56 3,.build 57 [pz,pz,pz,pz] [(0,1,.c (.int .i64 2))],.lit 58 2 4 32 [.s 57],.app 59 1 4 32 (.s 56) (.s 58),mS 3 59] [3]))))) .skip))))))))))))
(Zs [mS 60 3,mS 2 60] [2] .ret))))))
include hi hb in
theorem x_l10Any:∃y:(Nat×Int)×List GOp,(y.1.1≤b.length∧y.2.length≤17)∧CtrB Tryz.prog N8c (cur b i h) [] (cur b y.1.1 y.1.2) [rL 4 (y.2.map GOp.enc)]:=by
 refine K13 (M:=M7v) (m:=2) (n:=61) (res:=[(.tmp 2,[true])]) rfl hmix Tryz.func227 rfl (by kernel_rfl) rfl (by kernel_rfl) (by kernel_rfl) (Nat.le_of_ble_eq_true rfl) ((i,h),[]) ⟨hi,by simp⟩ ?_;unfold M7v
 intro hb1 hb2
 clear hb1 hb2
 simp only[cur]
 simp only[go_sem]
 obtain⟨⟨⟨i1,h1⟩,x1⟩,⟨q1,p1⟩,c1⟩:=Ka0 b i h hi hb
 try dsimp only at q1 p1 c1
 simp only[cur]at c1
 apply K2 c1
 simp only[go_sem]
 intros
 refine⟨fun k=>?_,fun k=>?_⟩
 ·refine K8 ((i1,h1),x1) ⟨q1,by simp only;omega⟩ ?_
  simp only[go_sem]
 ·obtain⟨⟨⟨i2,h2⟩,x2⟩,⟨q2,p2⟩,c2⟩:=K9 b i1 h1 x1.length q1 hb (by omega)
  try dsimp only at q2 p2 c2
  simp only[cur]at c2
  apply K2 c2
  simp only[go_sem]
  have hk:x2<x1.length:=by omega
  obtain⟨o,ho⟩:=Ke hk
  have c0:(0:Int)≤(x2:Int):=by omega
  have c1:(x2:Int)<(x1.length:Int):=by omega
  have hset:∀o':GOp,(x1.map GOp.enc).set x2 o'.enc=(x1.set x2 o').map GOp.enc:=fun o'=>by rw[List.map_set]
  have hsl:∀o':GOp,(x1.set x2 o').length≤17:=fun o'=>by rw[List.length_set];omega
  obtain⟨⟨⟨i3,h3⟩,x3⟩,⟨q3,p3⟩,c3⟩:=K9 b i2 h2 12 q2 hb (by omega)
  try dsimp only at q3 p3 c3
  simp only[cur]at c3
  apply K2 c3
  simp only[go_sem]
  refine⟨fun k=>?_,fun k=>⟨fun k=>?_,fun k=>⟨fun k=>?_,fun k=>⟨fun k=>?_,fun k=>⟨fun k=>?_,fun k=>?_⟩⟩⟩⟩⟩
  ·refine⟨⟨by decide,by decide⟩,?_⟩
   obtain⟨⟨⟨i4,h4⟩,x4⟩,⟨q4,p4⟩,c4⟩:=K9e b i3 h3 [0,10,5] q3 hb (by decide) (by decide)
   try dsimp only at q4 p4 c4
   simp only[cur]at c4
   apply K2 c4
   simp only[go_sem,c0,c1,K4 ho]
   refine K8 ((i4,h4),x1.set x2 ⟨x4,o.A,o.B,o.C⟩) ⟨q4,hsl _⟩ ?_
   simp only[go_sem]
   simp[GOp.enc]
  ·refine⟨⟨by decide,by decide⟩,?_⟩
   obtain⟨⟨⟨i4,h4⟩,x4⟩,⟨q4,p4⟩,c4⟩:=K9e b i3 h3 [-1,3,4] q3 hb (by decide) (by decide)
   try dsimp only at q4 p4 c4
   simp only[cur]at c4
   apply K2 c4
   simp only[go_sem,c0,c1,K4 ho]
   refine K8 ((i4,h4),x1.set x2 ⟨o.Kind,x4,o.B,o.C⟩) ⟨q4,hsl _⟩ ?_
   simp only[go_sem]
   simp[GOp.enc]
  ·obtain⟨⟨⟨i4,h4⟩,x4⟩,⟨q4,p4⟩,c4⟩:=x_l4Raw b i3 h3 q3 hb
   try dsimp only at q4 p4 c4
   simp only[cur]at c4
   apply K2 c4
   simp only[go_sem,c0,c1,K4 ho]
   refine K8 ((i4,h4),x1.set x2 ⟨o.Kind,o.A,x4,o.C⟩) ⟨q4,hsl _⟩ ?_
   simp only[go_sem]
   simp[GOp.enc]
  ·obtain⟨⟨⟨i4,h4⟩,x4⟩,⟨q4,p4⟩,c4⟩:=x_l4Raw b i3 h3 q3 hb
   try dsimp only at q4 p4 c4
   simp only[cur]at c4
   apply K2 c4
   simp only[go_sem,c0,c1,K4 ho]
   refine K8 ((i4,h4),x1.set x2 ⟨o.Kind,o.A,o.B,x4⟩) ⟨q4,hsl _⟩ ?_
   simp only[go_sem]
   simp[GOp.enc]
  ·refine Ko (ι:=List GOp) (fun t=>[(3,.val false [.ref 1 0 4 0 t.length])]) (fun t=>[(1,⟨0,.row true 4 (t.map GOp.enc)⟩)]) (fun t=>t.length≤17) (fun t=>17-t.length) x1 ?_
   simp only[go_sem]
   refine⟨?_,by omega,?_⟩
   ·simp only[go_sem]
   ·intro l hl
    simp only[go_sem]
    refine⟨fun k=>?_,fun k=>?_⟩
    ·refine⟨by decide,by simp only[roomB];omega,l++[⟨2,0,0,0⟩],by simp[GOp.enc],by simp;omega,by simp;omega⟩
    ·refine K8 ((i3,h3),l) ⟨q3,hl⟩ ?_
     simp only[go_sem]
  ·refine K8 ((i3,h3),x1) ⟨q3,by simp only;omega⟩ ?_
   simp only[go_sem]
def M71:MC:=
(Zs [.alloc 2 1 [.emp 9,pz,pz,.emp 1]] [0,2] (Zs [mS 5 0,.callB 6 [2] (.f N8g) (.s 5) [],mS 7 0,.callB 8 [] (.f N0) (.s 7) [.c (.int .i64 12)],mS 9 0,.callB 10 [] (.f N0) (.s 9) [.c (.int .i64 50)],.buildO 11 [.emp 9,pz,pz,.emp 1] [(0,1,.s 6),(1,1,.s 8),(2,1,.s 10)] [none,none,none,some 3],.alloc 3 4 [.emp 9,pz,pz,.emp 1],sS 4 3 11] [0,2,3] (.seq (Zs [mS 12 0,.callB 13 [] (.f N0) (.s 12) [.c (.int .i64 4)],mS 4 13] [0,2,3,4] (.block 0 (.loop ([0,2,3,4],[5]) (.seq (Zs [mS 14 4,bC 15 .gtr 14 0] [0,2,3,4,15] (cX 15 0))
(.seq (.block 1 (.dreg [Zf [20,21,22] [0,5] (fS 18 3 3),Zg [20,21,22] [0,5] [0] (lF 19 1 18),Zc [18,19] (mS 20 0),{o:= .callB 21 [] (.f N0) (.s 20) [.c (.int .i64 9)],hs:=[18,19],ws:=[0],bf:=[2]},{o:= .lit 22 5 1 8 [.s 21],hs:=[18,19],ws:=[5],bf:=[2,3]},{o:= .app 23 3 1 8 (.s 19) (.s 22),ws:=[3],bf:=(.range 5)},Ze (.range 6) (fS 24 3 3),{o:=sS 1 24 23,ws:=[3,4],bf:=(.range 7)}] [0,2,3,4]))
(pr [mS 16 4,bC 17 .sub 16 1,mS 4 17] [0,2,3,4]))))))
(Zs [lT 25 4 3,sS 4 2 25] [2] .ret))))
include hi hb in
theorem x_l12Draw:∃y:(Nat×Int)×GVisit,(y.1.1≤b.length∧(K1r y.2=true∧y.2.Site.length≤8))∧CtrB Tryz.prog N7b (cur b i h) [] (cur b y.1.1 y.1.2) [rS y.2.enc]:=by
 refine K13 (M:=M71) (m:=5) (n:=26) (res:=[(.cell 2 true 4,[true,false,false,true])]) rfl hmix Tryz.func308 rfl (by kernel_rfl) rfl (by kernel_rfl) (by kernel_rfl) (Nat.le_of_ble_eq_true rfl) ((i,h),⟨[],0,0,[]⟩) ⟨hi,rfl,by simp⟩ ?_;unfold M71
 intro hb1 hb2
 clear hb1 hb2
 simp only[cur]
 simp only[go_sem]
 obtain⟨⟨⟨i1,h1⟩,x1⟩,⟨q1,p1⟩,c1⟩:=x_l9Draw b i h hi hb
 try dsimp only at q1 p1 c1
 simp only[cur]at c1
 apply K2 c1
 simp only[go_sem]
 obtain⟨⟨⟨i2,h2⟩,x2⟩,⟨q2,p2⟩,c2⟩:=K9 b i1 h1 12 q1 hb (by omega)
 try dsimp only at q2 p2 c2
 simp only[cur]at c2
 apply K2 c2
 simp only[go_sem]
 obtain⟨⟨⟨i3,h3⟩,x3⟩,⟨q3,p3⟩,c3⟩:=K9 b i2 h2 50 q2 hb (by omega)
 try dsimp only at q3 p3 c3
 simp only[cur]at c3
 apply K2 c3
 simp only[go_sem]
 intros
 obtain⟨⟨⟨i4,h4⟩,x4⟩,⟨q4,p4⟩,c4⟩:=K9 b i3 h3 4 q3 hb (by omega)
 try dsimp only at q4 p4 c4
 simp only[cur]at c4
 apply K2 c4
 simp only[go_sem]
 refine Ko (ι:=((Nat×Int)×List Int)×Nat) (fun t=>[(4,vI t.2)]) (fun t=>[(0,⟨1,.box [.pl (.sl 1 (b.map encU)),.pl (tI t.1.1.1),.pl (tI t.1.1.2)]⟩),(3,⟨0,.row true 1 (t.1.2.map encI)⟩),(4,⟨0,.box [.ref 2 0 9 0 x1.length,.pl (tI x2),.pl (tI x3),.ref 3 0 1 0 t.1.2.length]⟩)])
  (fun t=>t.1.1.1≤b.length∧t.1.2.length+t.2≤3∧∀v∈t.1.2,0≤v∧v≤8) (fun t=>t.2) (((i4,h4),[]),x4) ?_
 simp only[go_sem]
 refine⟨?_,⟨q4,by show 0+x4≤3;omega,by simp⟩,?_⟩
 ·simp only[go_sem]
 ·rintro ⟨⟨⟨i5,h5⟩,l⟩,n⟩ ⟨a1,a2,a3⟩
  simp only at a1 a2 a3
  simp only[go_sem]
  refine⟨fun k=>?_,fun k=>?_⟩
  ·have hw:IntKind.i64.wrap ((n:Int)-1)=((n-1:Nat):Int):=by rw[wI (by omega) (by omega)];omega
   obtain⟨⟨⟨i6,h6⟩,x6⟩,⟨q6,p6⟩,c6⟩:=K9 b i5 h5 9 a1 hb (by omega)
   try dsimp only at q6 p6 c6
   simp only[cur]at c6
   apply K2 c6
   simp only[go_sem,hw]
   refine⟨by decide,by simp only[roomB];omega,(((i6,h6),l++[(x6:Int)]),n-1),by simp[encI],⟨q6,by simp;omega,?_⟩,by simp only;omega⟩
   intro v hv
   rcases List.mem_append.1 hv with hv|hv
   ·exact a3 v hv
   ·rw[List.mem_singleton.1 hv];omega
  ·refine K8 ((i5,h5),⟨x1,x2,x3,l⟩) ⟨a1,?_,p1.1⟩ ?_
   ·have c1:0≤(x2:Int)∧(x2:Int)≤1000:=by omega
    have c2:0≤(x3:Int)∧(x3:Int)≤9999:=by omega
    have c3:l.length≤8:=by omega
    have c4:K1d l 0 999=true:=List.all_eq_true.2 fun v hv=>by have:=a3 v hv;simp;omega
    have c5:K4j x1=true:=by
     simp only[K4j,Kk,Bool.and_eq_true,decide_eq_true_eq]
     exact⟨by omega,List.all_eq_true.2 p1.2⟩
    simp only[K1r,c5,decide_eq_true c1,decide_eq_true c2,decide_eq_true c3,c4,Bool.and_self]
   ·simp only[go_sem]
end
end Go.Proofs.YtjneccbpkckdfaaGreatR
namespace Go.Proofs.YtjneccbpkckdfaaGreatR
open Go Go.RowKit Go.Proofs
open Nat (reduceEqDiff reduceLT reduceLeDiff reduceAdd reduceMul)
open List (reduceReplicate)
@[go_sem] theorem ownT_sl {z:Nat} {es:List (List T)}:ownT (.sl z es)=true:=rfl
@[go_sem] theorem ownT_sc {v:Value}:ownT (.sc v)=false:=rfl
def Kq(d:GDisk):Bool:= !Kj d||(decide (0<d.Wanted.length)&&decide (6≤d.Containers.length))
def K14(d:GDisk):Bool:= !Kq d&&(!whole d||decide (0<d.Wanted.length))
def Ka(d:GDisk):GDisk:=
 if Kq d then d else if whole d=false then {d with Index:=index d.Containers}
 else match d.Wanted with
  |x::_=>{d with Containers:=d.Containers++[x],Wanted:=[]}
  | []=>d
theorem K9t(d:GDisk):(Ka d).size≤2*d.size:=by
 have hr:=K8k d
 unfold Ka
 split
 ·omega
 ·split
  ·have hi:(index d.Containers).length≤(d.Containers.map GContainer.size).sum:=by
    rw[index,Srt.len_isort];exact K3j
   simp only[GDisk.size]at*
   omega
  ·split
   ·rename_i x l hx
    simp only[GDisk.size,hx,List.length_append,List.length_cons,List.length_nil,List.map_append,List.map_cons,List.map_nil,List.sum_append,List.sum_cons,List.sum_nil]
    omega
   ·omega
def M63:MC:=
(Zs [.box 1 0 (.s 0),.alloc 2 1 [.emp 4,.emp 6,.emp 4],.mv 3 cF] [1,2] (Zs [lT 5 3 1,.call 6 [2,3,4] (.f N24) [.s 5],.alloc 4 5 [.emp 4,.emp 6,.emp 4],sS 3 4 6] [1,2,4] (.seq (.seq (.reg [Za (lT 7 3 1),Za (.call 8 [] (.f Ng) [.s 7]),Za (.un 9 .not (.s 8)),Za (mS 10 9),Zb 10 false (fS 11 1 2),Zb 10 false (lF 12 1 11),Zb 10 false (nS 13 12),Zb 10 false (bC 14 .gtr 13 0),Zb 10 false (mS 15 14),Zb 15 true (fS 16 1 0),Zb 15 true (lF 17 1 16),Zb 15 true (nS 18 17),Zb 15 true (bC 19 .geq 18 6),Zb 10 false (.pick 20 (.s 15) (.s 19) cF),Za (.pick 21 (.s 10) cT (.s 20))] [1,2,4,21])
(.cond (.s 21) (Zs [lT 22 3 4,sS 3 2 22,.mv 3 cF] [2,3] .ret) .skip))
(.seq (.block 0 (Zs [lT 25 3 1,.call 26 [] (.f N1f) [.s 25],.un 27 .not (.s 26),mS 24 27] [1,2,4,24] (.cond (.s 24) (pr [fS 28 1 0,lF 29 1 28,.call 30 [6] (.f Nu) [.s 29],fS 31 4 1,sS 1 31 30] [2,4]) (Zs [fS 33 1 2,lF 34 1 33,nS 35 34,bC 36 .gtr 35 0,mS 32 36] [2,4,32] (.cond (.s 32) (.seq (.dregI [Zf [1000000,39,40,41,42,43] [4,7,8,9,10] (fS 37 4 0),Zg [1000000,39,40,41,42,43] [4,7,8,9,10] [0] (lF 38 1 37),Zc [1000000,37,38] (fS 39 4 2),Zd [1000000,37,38] [2] (lF 40 1 39),Zd [1000000,37,38] [2,3] (.idx 41 4 (.s 40) (ci 0)),{o:= .loadM 42 4 [7,8,9] 4 (.s 41),hs:=[1000000,37,38],ws:=[4,7,8,9],bf:=[2,3,4]},{o:= .lit 43 10 4 80 [.s 42],hs:=[37,38],ws:=[7,8,9,10],bf:=[2,3,4,5]},{o:= .app 44 2 4 80 (.s 38) (.s 43),ws:=[2,10],bf:=(.range 7)},Ze (.range 8) (fS 45 4 0),{o:=sS 1 45 44,ws:=[2,5],bf:=(.range 9)}] [2,4])
(pr [fS 46 4 2,.store 1 (.s 46) (.nil 4)] [2,4])) (Zs [lT 23 3 4,sS 3 2 23,.mv 3 cF] [2,3] .ret))))))
(Zs [lT 47 3 4,sS 3 2 47,.mv 3 cT] [2,3] .ret)))))
set_option maxHeartbeats 2000000 in
theorem C5y(d:GDisk)(hs:d.size≤1073741824):Ctr Tryz.prog N2z [aS d.enc] [rS (Ka d).enc,rB (K14 d)]:=by
  refine cA M63 11 48 [(.cell 2 true 3,[true,true,true]),(.tmp 3,[false])] Tryz.func40 rfl rfl ?_;unfold M63
  intro hb
  clear hb
  have hsc:d.Containers.length+(d.Containers.map GContainer.size).sum≤1073741824:=by simp only[GDisk.size]at hs;omega
  simp only[go_sem]
  apply K0 (C34 d hs)
  simp only[go_sem]
  intros
  repeat' first
    |(refine And.intro ?_ ?_<;>intro h)
    |(apply K0 (C9 d hs);simp only[go_sem])
    |(apply K0 (C44 d hs);simp only[go_sem])
    |(apply K0 (C14 d.Containers hsc);simp only[go_sem];intros)
  all_goals
    first
      |(have hF:Kq d=true:=by
         clear hs hsc
         unfold Kq
         by_cases c1:0<d.Wanted.length<;>by_cases c2:6≤d.Containers.length<;>simp_all<;>omega
        simp[Ka,K14,hF]
        done)
      |(have hF:Kq d=false:=by
         clear hs hsc
         unfold Kq
         by_cases c1:0<d.Wanted.length<;>by_cases c2:6≤d.Containers.length<;>simp_all<;>omega
        have hW:whole d=false:=by assumption
        simp[Ka,K14,hF,hW]
        done)
      |(have hF:Kq d=false:=by
         clear hs hsc
         unfold Kq
         by_cases c1:0<d.Wanted.length<;>by_cases c2:6≤d.Containers.length<;>simp_all<;>omega
        have hW:whole d=true:=by assumption
        have hN:d.Wanted=[]:=List.length_eq_zero_iff.1 (by omega)
        simp[Ka,K14,hF,hW,hN]
        done)
      |(have hF:Kq d=false:=by
         clear hs hsc
         unfold Kq
         by_cases c1:0<d.Wanted.length<;>by_cases c2:6≤d.Containers.length<;>simp_all<;>omega
        have hW:whole d=true:=by assumption
        obtain⟨x,hx⟩:=Ke (l:=d.Wanted) (k:=0) (by omega)
        have hlc:d.Containers.length≤1073741824:=by omega
        refine⟨⟨by omega,by omega⟩,?_⟩
        rw[hx]
        simp only[go_sem]
        have eT:Ka d={d with Containers:=d.Containers++[x],Wanted:=[]}:=by
         rcases hN:d.Wanted with _|⟨y,l⟩
         · rw[hN]at hx;simp at hx
         · rw[hN]at hx
           simp only[List.getElem?_cons_zero,Option.some.injEq]at hx
           subst hx
           simp[Ka,hF,hW,hN]
        have eO:K14 d=true:=by simp[K14,hF,hW];omega
        rw[eT,eO]
        first
         |exact⟨by decide,by simp only[roomB];omega,by simp,⟨by simp[GContainer.enc],rfl,rfl⟩,rfl⟩
         |(simp only[roomB];simp[GContainer.enc];omega)
         |(refine⟨by decide,by simp only[roomB];omega,by simp,by decide,⟨by simp[GContainer.enc],rfl,rfl⟩,rfl⟩))
def M67:MC:=
(Zs [.box 1 0 (.s 0),.alloc 2 1 [.emp 4,.emp 6,.emp 4],.mv 3 cF] [1,2] (Zs [lT 5 3 1,.call 6 [2,3,4] (.f N2e) [.s 5],.alloc 4 5 [.emp 4,.emp 6,.emp 4],sS 3 4 6] [1,2,4] (.seq (.block 0 (.seq (.reg [Za (lT 8 3 1),Za (.call 9 [] (.f N2t) [.s 8]),Za (.un 10 .not (.s 9)),Za (mS 11 10),Zb 11 false (fS 12 1 2),Zb 11 false (lF 13 1 12),Zb 11 false (nS 14 13),Zb 11 false (bC 15 .gtr 14 0),Zb 11 false (mS 16 15),Zb 16 true (fS 17 1 0),Zb 16 true (lF 18 1 17),Zb 16 true (nS 19 18),Zb 16 true (bC 20 .geq 19 6),Zb 11 false (.pick 21 (.s 16) (.s 20) cF),Za (.pick 22 (.s 11) cT (.s 21)),Za (mS 7 22)] [1,2,4,7])
(.cond (.s 7) (Zs [lT 23 3 4,sS 3 2 23,.mv 3 cF] [2,3] .ret) (.seq (.reg [Za (fS 25 1 2),Za (lF 26 1 25),Za (nS 27 26),Za (bC 28 .gtr 27 0),Za (mS 29 28),Zb 29 true (lT 30 3 1),Zb 29 true (.call 31 [] (.f N1l) [.s 30]),Za (.pick 32 (.s 29) (.s 31) cF),Za (mS 24 32)] [1,2,4,24])
(.cond (.s 24) (.seq (.dregI [Zf [1000000,35,36,37,38,39] [4,6,7,8,9,10] (fS 33 4 0),Zg [1000000,35,36,37,38,39] [4,6,7,8,9,10] [0] (lF 34 1 33),Zc [1000000,33,34] (fS 35 4 2),Zd [1000000,33,34] [2] (lF 36 1 35),Zd [1000000,33,34] [2,3] (.idx 37 4 (.s 36) (ci 0)),{o:= .loadM 38 4 [6,7,8] 4 (.s 37),hs:=[1000000,33,34],ws:=[4,6,7,8,10],bf:=[2,3,4]},{o:= .lit 39 9 4 80 [.s 38],hs:=[33,34],ws:=[6,7,8,9],bf:=[2,3,4,5]},{o:= .app 40 2 4 80 (.s 34) (.s 39),ws:=[2,9],bf:=(.range 7)},Ze (.range 8) (fS 41 4 0),{o:=sS 1 41 40,ws:=[2,5],bf:=(.range 9)}] [2,4])
(Zs [.lit 42 10 4 80 [],fS 43 4 2,sS 1 43 42] [2,4] (Zs [lT 44 3 4,sS 3 2 44,.mv 3 cT] [2,3] .ret))) (Zs [lT 46 3 1,.call 47 [] (.f N1l) [.s 46],.un 48 .not (.s 47),mS 45 48] [1,2,4,45] (.cond (.s 45) (Zs [fS 49 1 0,lF 50 1 49,.call 51 [11] (.f N17) [.s 50],fS 52 4 1,sS 1 52 51] [2,4] (Zs [lT 53 3 4,sS 3 2 53,.mv 3 cT] [2,3] .ret)) .skip)))))))
(Zs [lT 54 3 4,sS 3 2 54,.mv 3 cF] [2,3] .ret))))
set_option maxHeartbeats 2000000 in
theorem C2y(d:GDisk)(hs:d.size≤1073741824):Ctr Tryz.prog N1w [aS d.enc] [rS (Ka d).enc,rB (K14 d)]:=by
  refine cA M67 12 55 [(.cell 2 true 3,[true,true,true]),(.tmp 3,[false])] Tryz.func141 rfl rfl ?_;unfold M67
  intro hb
  clear hb
  have hsc:d.Containers.length+(d.Containers.map GContainer.size).sum≤1073741824:=by simp only[GDisk.size]at hs;omega
  simp only[go_sem]
  apply K0 (C47 d hs)
  simp only[go_sem]
  intros
  repeat' first
    |(refine And.intro ?_ ?_<;>intro h)
    |(apply K0 (C4w d hs);simp only[go_sem])
    |(apply K0 (C38 d hs);simp only[go_sem])
    |(apply K0 (C1n d.Containers hsc);simp only[go_sem];intros)
  all_goals
    first
      |(have hF:Kq d=true:=by
         clear hs hsc
         unfold Kq
         by_cases c1:0<d.Wanted.length<;>by_cases c2:6≤d.Containers.length<;>simp_all<;>omega
        simp[Ka,K14,hF]
        done)
      |(have hF:Kq d=false:=by
         clear hs hsc
         unfold Kq
         by_cases c1:0<d.Wanted.length<;>by_cases c2:6≤d.Containers.length<;>simp_all<;>omega
        have hW:whole d=false:=by assumption
        simp[Ka,K14,hF,hW]
        done)
      |(have hF:Kq d=false:=by
         clear hs hsc
         unfold Kq
         by_cases c1:0<d.Wanted.length<;>by_cases c2:6≤d.Containers.length<;>simp_all<;>omega
        have hW:whole d=true:=by assumption
        have hN:d.Wanted=[]:=List.length_eq_zero_iff.1 (by omega)
        simp[Ka,K14,hF,hW,hN]
        done)
      |(have hF:Kq d=false:=by
         clear hs hsc
         unfold Kq
         by_cases c1:0<d.Wanted.length<;>by_cases c2:6≤d.Containers.length<;>simp_all<;>omega
        have hW:whole d=true:=by assumption
        obtain⟨x,hx⟩:=Ke (l:=d.Wanted) (k:=0) (by omega)
        have hlc:d.Containers.length≤1073741824:=by omega
        refine⟨⟨by omega,by omega⟩,?_⟩
        rw[hx]
        simp only[go_sem]
        have eT:Ka d={d with Containers:=d.Containers++[x],Wanted:=[]}:=by
         rcases hN:d.Wanted with _|⟨y,l⟩
         · rw[hN]at hx;simp at hx
         · rw[hN]at hx
           simp only[List.getElem?_cons_zero,Option.some.injEq]at hx
           subst hx
           simp[Ka,hF,hW,hN]
        have eO:K14 d=true:=by simp[K14,hF,hW];omega
        rw[eT,eO]
        first
         |exact⟨by decide,by simp only[roomB];omega,by simp,⟨by simp[GContainer.enc],rfl,rfl⟩,rfl⟩
         |(simp only[roomB];simp[GContainer.enc];omega)
         |(refine⟨by decide,by simp only[roomB];omega,by simp,by decide,⟨by simp[GContainer.enc],rfl,rfl⟩,rfl⟩))
end Go.Proofs.YtjneccbpkckdfaaGreatR
namespace Go.Proofs.YtjneccbpkckdfaaGreatR
open Go Go.RowKit Go.Proofs
open Nat (reduceEqDiff reduceLT reduceLeDiff reduceAdd reduceMul)
open List (reduceReplicate)
theorem K79{α:Type}{f:α→Nat}{n:Nat}:∀ {l:List α},(∀x∈l,f x≤n)→(l.map f).sum≤l.length*n
 | [],_=>by simp
 |x::l,h=>by
  have ih:=K79 (f:=f) (n:=n) (l:=l) fun y hy=>h y (by simp[hy])
  have hx:=h x (by simp)
  rw[List.map_cons,List.sum_cons,List.length_cons,Nat.succ_mul]
  omega
theorem Kav{r:GResource}(h:Kv r=true):r.Body.length≤6:=by
 unfold Kv at h
 split at h
 ·simp only[Bool.and_eq_true,decide_eq_true_eq]at h;exact h.1
 ·split at h
  ·simp only[Bool.and_eq_true,decide_eq_true_eq]at h;omega
  ·split at h
   ·simp only[Bool.and_eq_true,decide_eq_true_eq]at h;omega
   ·cases h
theorem K89{x:GContainer}(h:Kn x=true):x.size≤172:=by
 simp only[Kn,Kz,K6l,K6i,Kk,Bool.and_eq_true,decide_eq_true_eq]at h
 obtain⟨⟨h1,_⟩,⟨h2,_⟩,⟨h3,h4⟩,_⟩:=h
 have h5:=K79 (f:=GCapture.size) (n:=6) (l:=x.Captures) fun c hc=>by
  have:=List.all_eq_true.1 h4 c hc
  simp only[K2y,Bool.and_eq_true]at this
  have:=Kav this.2.2
  simp only[GCapture.size,GResource.size]
  omega
 simp only[GContainer.size]
 omega
theorem K56{n:Nat}{l:List GContainer}(h:Kk n Kn l=true):l.length≤n∧(l.map GContainer.size).sum≤l.length*172:=by
 simp only[Kk,Bool.and_eq_true,decide_eq_true_eq]at h
 exact⟨h.1,K79 fun x hx=>K89 (List.all_eq_true.1 h.2 x hx)⟩
theorem K6r{l:List GContainer}:(index l).length≤(l.map GContainer.size).sum:=by
 rw[index,Srt.len_isort];exact K3j
theorem K8a{d:GDisk}(h:Kj d=true):d.Containers.length≤6∧(d.Containers.map GContainer.size).sum≤d.Containers.length*172∧d.Wanted.length≤1∧(d.Wanted.map GContainer.size).sum≤d.Wanted.length*172∧d.Index.length≤1032:=by
 simp only[Kj,Bool.and_eq_true,Bool.or_eq_true,whole,decide_eq_true_eq]at h
 obtain⟨h1,h2,h3⟩:=h
 obtain⟨a1,a2⟩:=K56 h1
 obtain⟨b1,b2⟩:=K56 h2
 refine⟨a1,a2,b1,b2,?_⟩
 rcases h3 with h3|⟨_,h3⟩
 ·rw[h3]
  have:=K6r (l:=d.Containers)
  omega
 ·rw[h3]
  have h4:=K6r (l:=d.Containers.dropLast)
  have h5:Kk 6 Kn d.Containers.dropLast=true:=by
   simp only[Kk,Bool.and_eq_true,decide_eq_true_eq,List.length_dropLast]at h1 ⊢
   exact⟨by omega,List.all_eq_true.2 fun x hx=>List.all_eq_true.1 h1.2 x ((List.dropLast_sublist _).subset hx)⟩
  have h6:=(K56 h5).2
  rw[List.length_dropLast]at h6
  omega
theorem K60(d:GDisk)(x:GContainer):max (K5 d x).size 2243≤max d.size 2243∧(K5 d x).Containers=d.Containers:=by
 unfold K5
 split
 ·rename_i h
  simp only[K1j,Bool.and_eq_true]at h
  obtain⟨h1,h2,h3,h4,h5⟩:=K8a h.1
  have hx:=K89 h.2.1
  refine⟨?_,rfl⟩
  simp only[GDisk.size,List.length_cons,List.length_nil,List.map_cons,List.map_nil,List.sum_cons,List.sum_nil]
  omega
 ·exact⟨Nat.le_refl _,rfl⟩
theorem K6w(d:GDisk):max (Ka d).size 2243≤max d.size 2243∧((Ka d).Containers=d.Containers∨∃x,(Ka d).Containers=d.Containers++[x]∧d.Containers.length<6):=by
 unfold Ka
 split
 ·exact⟨Nat.le_refl _,.inl rfl⟩
 ·rename_i hs
  simp only[Kq,Bool.or_eq_true,Bool.not_eq_true',Bool.and_eq_true,decide_eq_true_eq,not_or]at hs
  have hok:Kj d=true:=by simpa using hs.1
  obtain⟨h1,h2,h3,h4,h5⟩:=K8a hok
  split
  ·have:=K6r (l:=d.Containers)
   refine⟨?_,.inl rfl⟩
   simp only[GDisk.size]
   omega
  ·split
   ·rename_i x l hw
    have hx:(d.Wanted.map GContainer.size).sum=x.size+(l.map GContainer.size).sum:=by rw[hw];simp
    have hl:d.Wanted.length=l.length+1:=by rw[hw];simp
    refine⟨?_,.inr ⟨x,rfl,by omega⟩⟩
    simp only[GDisk.size,List.length_append,List.map_append,List.sum_append,List.length_cons,List.length_nil,List.map_cons,List.map_nil,List.sum_cons,List.sum_nil]
    omega
   ·exact⟨Nat.le_refl _,.inl rfl⟩
end Go.Proofs.YtjneccbpkckdfaaGreatR
namespace Go.Proofs.YtjneccbpkckdfaaGreatR
open Go Go.RowKit Go.Proofs
open Nat (reduceEqDiff reduceLT reduceLeDiff reduceAdd reduceMul)
open List (reduceReplicate)
theorem Kaz{l:List GVersion}(h:K4j l=true):(l.map GVersion.size).sum≤72∧l.length≤12:=by
 simp only[K4j,Kk,Bool.and_eq_true,decide_eq_true_eq]at h
 have h2:=K79 (f:=GVersion.size) (n:=6) (l:=l) fun v hv=>by
  have:=List.all_eq_true.1 h.2 v hv
  simp only[K30,Bool.and_eq_true]at this
  have:=Kav this.2.2
  simp only[GVersion.size,GResource.size]
  omega
 have h3:l.length*6≤12*6:=Nat.mul_le_mul_right _ h.1
 omega
theorem Ka2{l:List GOp}{v:GVisit}(hl:l.length≤12)(hv:K1r v=true):(K2k l v).size≤1500:=by
 unfold K2k
 split
 ·simp only[K1r,Bool.and_eq_true]at hv
  have h0:=(Kaz hv.1).1
  have hn:=(K51 l v).1
  have h1:=K3v (v:=v) (es:=(visit l v).1) (visit l v).1.length
  have h2:=K55 (v:=v) (es:=(visit l v).1) (visit l v).1.length
  have h3:(visit l v).1.length*(v.Site.map GVersion.size).sum≤20*72:=Nat.mul_le_mul hn h0
  simp only[GContainer.size,madeC,capsV]
  omega
 ·decide
section
variable (b:List Int) (i:Nat) (h:Int) (hi:i≤b.length) (hb:byts b)
def M75:MC:=
(Zs [.alloc 2 1 [.emp 4,.emp 5,.emp 9,pz]] [0,2] (Zs [mS 6 0,.callB 7 [2] (.f N48) (.s 6) [],mS 8 0,.callB 9 [3,4] (.f N7b) (.s 8) [],.call 10 [5,6,7] (.f N42) [.s 7,.s 9],mS 5 10,.ext 11 (.s 5) 0,.ext 12 (.s 5) 1,.alloc 3 8 [.emp 4,.emp 5,.emp 9,pz],sS 4 3 11,mS 4 12] [2,3] (Zs [lT 13 4 3,sS 4 2 13] [2] .ret)))
include hi hb in
theorem K53:∃y:(Nat×Int)×GContainer,(y.1.1≤b.length∧y.2.size≤1500)∧CtrB Tryz.prog N1r (cur b i h) [] (cur b y.1.1 y.1.2) [rS y.2.enc]:=by
 refine K13 (M:=M75) (m:=8) (n:=14) (res:=[(.cell 2 true 4,[true,true,true,false])]) rfl hmix Tryz.func226 rfl (by kernel_rfl) rfl (by kernel_rfl) (by kernel_rfl) (Nat.le_of_ble_eq_true rfl) ((i,h),⟨[],[],[],0⟩) ⟨hi,by simp[GContainer.size]⟩ ?_;unfold M75
 intro hb1 hb2
 clear hb1 hb2
 simp only[cur]
 simp only[go_sem]
 obtain⟨⟨⟨i1,h1⟩,x1⟩,⟨q1,p1⟩,c1⟩:=Ka0 b i h hi hb
 try dsimp only at q1 p1 c1
 simp only[cur]at c1
 apply K2 c1
 simp only[go_sem]
 obtain⟨⟨⟨i2,h2⟩,x2⟩,⟨q2,p2⟩,c2⟩:=x_l12Draw b i1 h1 q1 hb
 try dsimp only at q2 p2 c2
 simp only[cur]at c2
 apply K2 c2
 simp only[go_sem]
 have hv:=Kaz (l:=x2.Site) (by have:=p2.1;simp only[K1r,Bool.and_eq_true]at this;exact this.1)
 apply K0 (C8l x1 x2 (by omega) (by omega))
 simp only[go_sem]
 intros
 refine K8 ((i2,h2),K2k x1 x2) ⟨q2,Ka2 p1.1 p2.1⟩ ?_
 simp only[go_sem]
def M81:MC:=
(Zs [.alloc 2 1 [.emp 4,.emp 5,.emp 9,pz]] [0,2] (Zs [mS 4 0,.callB 5 [2,3,4] (.f N1r) (.s 4) [],.alloc 3 5 [.emp 4,.emp 5,.emp 9,pz],sS 4 3 5] [0,2,3] (.seq (Zs [mS 6 0,.callB 7 [] (.f N0) (.s 6) [.c (.int .i64 8)]] [0,2,3,7] (.block 0 (Zs [bC 9 .eql 7 0,mS 8 9] [0,2,3,7,8] (.cond (.s 8) (pr [fS 10 3 3,lF 11 1 10,bC 12 .add 11 1,fS 13 3 3,sS 1 13 12] [2,3]) (Zs [bC 15 .eql 7 1,mS 14 15] [0,2,3,7,14] (.cond (.s 14) (Zs [fS 16 3 1,lF 17 1 16,nS 18 17,bC 19 .gtr 18 0] [0,2,3,19] (.cond (.s 19) (.dreg [Zf [22,23] [0] (fS 20 3 1),Zg [22,23] [0] [0] (lF 21 1 20),Zc [20,21] (mS 22 0),{o:= .callB 23 [] (.f N0) (.s 22) [.c (.int .i64 9)],hs:=[20,21],ws:=[0],bf:=[2]},Ze (.range 4) (.idx 24 5 (.s 21) (ci 0)),Ze (.range 5) (fS 25 24 4),{o:=sS 1 25 23,ws:=[3],bf:=(.range 6)}] [2,3]) .skip)) (Zs [bC 27 .eql 7 2,mS 26 27] [0,2,3,7,26] (.cond (.s 26) (Zs [fS 28 3 2,lF 29 1 28,nS 30 29,bC 31 .gtr 30 0] [2,3,31] (.cond (.s 31) (.dreg [Zc [34,35,36,37,38,39] (fS 32 3 2),Zd [34,35,36,37,38,39] [0] (lF 33 1 32),Zc [32,33] (fS 34 3 2),Zd [32,33] [2] (lF 35 1 34),Zd [32,33] [2,3] (.idx 36 9 (.s 35) (ci 0)),Zd [32,33] [2,3,4] (fS 37 36 3),Zd [32,33] [2,3,4,5] (lF 38 1 37),Zd [32,33] [2,3,4,5,6] (bC 39 .add 38 1),Ze (.range 8) (.idx 40 9 (.s 33) (ci 0)),Ze (.range 9) (fS 41 40 3),{o:=sS 1 41 39,ws:=[4],bf:=(.range 10)}] [2,3]) .skip)) (Zs [bC 43 .eql 7 3,mS 42 43] [0,2,3,42] (.cond (.s 42) (pr [mS 44 0,.callB 45 [6] (.f N8c) (.s 44) [],fS 46 3 0,sS 1 46 45] [2,3]) .skip))))))))))
(Zs [lT 47 4 3,sS 4 2 47] [2] .ret))))
set_option maxHeartbeats 1000000 in
include hi hb in
theorem K86:∃y:(Nat×Int)×GContainer,(y.1.1≤b.length∧y.2.size≤1600)∧CtrB Tryz.prog N2v (cur b i h) [] (cur b y.1.1 y.1.2) [rS y.2.enc]:=by
 refine K13 (M:=M81) (m:=6) (n:=48) (res:=[(.cell 2 true 4,[true,true,true,false])]) rfl hmix Tryz.func116 rfl (by kernel_rfl) rfl (by kernel_rfl) (by kernel_rfl) (Nat.le_of_ble_eq_true rfl) ((i,h),⟨[],[],[],0⟩) ⟨hi,by simp[GContainer.size]⟩ ?_;unfold M81
 intro hb1 hb2
 clear hb1 hb2
 simp only[cur]
 simp only[go_sem]
 obtain⟨⟨⟨i1,h1⟩,x1⟩,⟨q1,p1⟩,c1⟩:=K53 b i h hi hb
 try dsimp only at q1 p1 c1
 simp only[cur]at c1
 apply K2 c1
 simp only[go_sem]
 have hsz:x1.size≤1500:=p1
 intros
 obtain⟨⟨⟨i2,h2⟩,x2⟩,⟨q2,p2⟩,c2⟩:=K9 b i1 h1 8 q1 hb (by omega)
 try dsimp only at q2 p2 c2
 simp only[cur]at c2
 apply K2 c2
 simp only[go_sem]
 refine⟨fun k=>?_,fun k=>⟨fun k=>?_,fun k=>⟨fun k=>?_,fun k=>⟨fun k=>?_,fun k=>?_⟩⟩⟩⟩
 ·refine K8 ((i2,h2),{x1 with Root:=IntKind.i64.wrap (x1.Root+1)}) ⟨q2,by simp only[GContainer.size]at *;omega⟩ ?_
  simp only[go_sem]
 ·refine⟨fun k2=>?_,fun k2=>?_⟩
  ·have hlt:0<x1.Entries.length:=by omega
   obtain⟨e,he⟩:=Ke hlt
   obtain⟨⟨⟨i3,h3⟩,x3⟩,⟨q3,p3⟩,c3⟩:=K9 b i2 h2 9 q2 hb (by omega)
   try dsimp only at q3 p3 c3
   simp only[cur]at c3
   apply K2 c3
   simp only[go_sem,K4 he,k2]
   refine⟨by omega,K8 ((i3,h3),{x1 with Entries:=x1.Entries.set 0 ⟨e.Kind,e.Address,x3⟩}) ⟨q3,by simp only[GContainer.size,List.length_set]at *;omega⟩ ?_⟩
   simp only[go_sem]
   simp[GEntry.enc]
  ·refine K8 ((i2,h2),x1) ⟨q2,Nat.le_trans hsz (by decide)⟩ ?_
   simp only[go_sem]
 ·refine⟨fun k2=>?_,fun k2=>?_⟩
  ·have hlt:0<x1.Captures.length:=by omega
   obtain⟨e,he⟩:=Ke hlt
   simp only[go_sem,K4 he,k2]
   have hset:(x1.Captures.set 0 ⟨e.Address,IntKind.i64.wrap (e.Tick+1),e.Resource⟩).map GCapture.size=x1.Captures.map GCapture.size:=by
    cases hc:x1.Captures with
    |nil=>rw[hc]at he;simp at he
    |cons c l=>
     rw[hc]at he
     simp at he
     subst he
     rfl
   refine⟨by omega,by omega,K8 ((i2,h2),{x1 with Captures:=x1.Captures.set 0 ⟨e.Address,IntKind.i64.wrap (e.Tick+1),e.Resource⟩}) ⟨q2,by simp only[GContainer.size,List.length_set,hset]at *;omega⟩ ?_⟩
   simp only[go_sem]
   simp[GCapture.enc]
  ·refine K8 ((i2,h2),x1) ⟨q2,Nat.le_trans hsz (by decide)⟩ ?_
   simp only[go_sem]
 ·obtain⟨⟨⟨i3,h3⟩,x3⟩,⟨q3,p3⟩,c3⟩:=x_l10Any b i2 h2 q2 hb
  try dsimp only at q3 p3 c3
  simp only[cur]at c3
  apply K2 c3
  simp only[go_sem]
  intros
  refine K8 ((i3,h3),{x1 with Script:=x3}) ⟨q3,by simp only[GContainer.size]at *;omega⟩ ?_
  simp only[go_sem]
 ·refine K8 ((i2,h2),x1) ⟨q2,Nat.le_trans hsz (by decide)⟩ ?_
  simp only[go_sem]
def M77:MC:=
(Zs [.alloc 2 1 [.emp 4,.emp 6,.emp 4]] [0,2] (Zs [.buildO 5 [.emp 4,.emp 6,.emp 4] [] [some 2,some 3,some 4],.alloc 3 5 [.emp 4,.emp 6,.emp 4],sS 3 3 5] [0,2,3] (.seq (Zs [mS 6 0,.callB 7 [] (.f N0) (.s 6) [.c (.int .i64 4)],mS 4 7] [0,2,3,4] (.block 0 (.loop ([0,2,3,4],[6,7,8,9,10,11,12,13,14]) (.seq (Zs [mS 8 4,bC 9 .gtr 8 0] [0,2,3,4,9] (cX 9 0))
(.seq (.block 1 (.seq (.dreg [Zf [14,15] [0,6,7,8] (lT 13 3 3),Zc [13] (mS 14 0),{o:= .callB 15 [6,7,8] (.f N1r) (.s 14) [],hs:=[13],ws:=[0,6,7,8],bf:=[1]},{o:= .call 16 [2,3,4] (.f N1p) [.s 13,.s 15],ws:=[2,3,4],bf:=[0,1,2]},Ze (.range 4) (mS 12 16),Zd [18] (.range 5) (.ext 17 (.s 12) 0),Zg [17] [2,3,4,5] (.range 5) (.ext 18 (.s 12) 1),{o:=sS 3 3 17,hs:=[18],ws:=[2,3,4,5],bf:=(.range 6)}] [0,2,3,4])
(Zs [lT 20 3 3,.call 21 [2,3,4] (.f N1w) [.s 20],mS 19 21,.ext 22 (.s 19) 0,.ext 23 (.s 19) 1,sS 3 3 22] [0,2,3,4] (pr [lT 25 3 3,.call 26 [2,3,4] (.f N1w) [.s 25],mS 24 26,.ext 27 (.s 24) 0,.ext 28 (.s 24) 1,sS 3 3 27] [0,2,3,4]))))
(pr [mS 10 4,bC 11 .sub 10 1,mS 4 11] [0,2,3,4]))))))
(.seq (Zs [mS 29 0,.callB 30 [] (.f N0) (.s 29) [.c (.int .i64 3)]] [0,2,3,30] (.block 2 (Zs [bC 32 .eql 30 0,mS 31 32] [0,2,3,30,31] (.cond (.s 31) (.dreg [Zf [35,36] [0,9,10,11] (lT 34 3 3),Zc [34] (mS 35 0),{o:= .callB 36 [9,10,11] (.f N1r) (.s 35) [],hs:=[34],ws:=[0,9,10,11],bf:=[1]},{o:= .call 37 [2,3,4] (.f N1p) [.s 34,.s 36],ws:=[2,3,4],bf:=[0,1,2]},Ze (.range 4) (mS 33 37),Zd [39] (.range 5) (.ext 38 (.s 33) 0),Zg [38] [2,3,4,5] (.range 5) (.ext 39 (.s 33) 1),{o:=sS 3 3 38,hs:=[39],ws:=[2,3,4,5],bf:=(.range 6)}] [2,3]) (Zs [bC 41 .eql 30 1,mS 40 41] [0,2,3,40] (.cond (.s 40) (.seq (.dreg [Zf [44,45] [0,12,13,14] (lT 43 3 3),Zc [43] (mS 44 0),{o:= .callB 45 [12,13,14] (.f N1r) (.s 44) [],hs:=[43],ws:=[0,12,13,14],bf:=[1]},{o:= .call 46 [2,3,4] (.f N1p) [.s 43,.s 45],ws:=[2,3,4],bf:=[0,1,2]},Ze (.range 4) (mS 42 46),Zd [48] (.range 5) (.ext 47 (.s 42) 0),Zg [47] [2,3,4,5] (.range 5) (.ext 48 (.s 42) 1),{o:=sS 3 3 47,hs:=[48],ws:=[2,3,4,5],bf:=(.range 6)}] [2,3])
(pr [lT 50 3 3,.call 51 [2,3,4] (.f N1w) [.s 50],mS 49 51,.ext 52 (.s 49) 0,.ext 53 (.s 49) 1,sS 3 3 52] [2,3])) .skip))))))
(Zs [lT 54 3 3,sS 3 2 54] [2] .ret)))))
set_option maxHeartbeats 2000000 in
include hi hb in
theorem x_l31Draw:∃y:(Nat×Int)×GDisk,(y.1.1≤b.length∧y.2.size≤2243)∧CtrB Tryz.prog N7d (cur b i h) [] (cur b y.1.1 y.1.2) [rS y.2.enc]:=by
 refine K13 (M:=M77) (m:=14) (n:=55) (res:=[(.cell 2 true 3,[true,true,true])]) rfl hmix Tryz.func224 rfl (by kernel_rfl) rfl (by kernel_rfl) (by kernel_rfl) (Nat.le_of_ble_eq_true rfl) ((i,h),⟨[],[],[]⟩) ⟨hi,by simp[GDisk.size]⟩ ?_;unfold M77
 intro hb1 hb2
 clear hb1 hb2
 simp only[cur]
 simp only[go_sem]
 obtain⟨⟨⟨i1,h1⟩,x1⟩,⟨q1,p1⟩,c1⟩:=K9 b i h 4 hi hb (by omega)
 try dsimp only at q1 p1 c1
 simp only[cur]at c1
 apply K2 c1
 simp only[go_sem]
 refine Ko (ι:=((Nat×Int)×GDisk)×Nat) (fun t=>[(4,vI t.2)]) (fun t=>[(0,⟨1,.box [.pl (.sl 1 (b.map encU)),.pl (tI t.1.1.1),.pl (tI t.1.1.2)]⟩),(2,⟨0,.row true 4 (t.1.2.Containers.map GContainer.enc)⟩),(3,⟨0,.row true 6 (t.1.2.Index.map GFound.enc)⟩),(4,⟨0,.row true 4 (t.1.2.Wanted.map GContainer.enc)⟩),
   (5,⟨0,.box [.ref 2 0 4 0 t.1.2.Containers.length,.ref 3 0 6 0 t.1.2.Index.length,.ref 4 0 4 0 t.1.2.Wanted.length]⟩)])
  (fun t=>t.1.1.1≤b.length∧t.1.2.size≤2243∧t.2≤3) (fun t=>t.2) (((i1,h1),⟨[],[],[]⟩),x1) ?_
 simp only[go_sem]
 refine⟨?_,⟨q1,by simp[GDisk.size],by show x1≤3;omega⟩,?_⟩
 ·simp only[go_sem]
 ·rintro ⟨⟨⟨i2,h2⟩,d⟩,n⟩ ⟨a1,a2,a3⟩
  simp only at a1 a2 a3
  simp only[go_sem]
  refine⟨fun k=>?_,fun k=>?_⟩
  ·have hw:IntKind.i64.wrap ((n:Int)-1)=((n-1:Nat):Int):=by rw[wI (by omega) (by omega)];omega
   obtain⟨⟨⟨i3,h3⟩,x3⟩,⟨q3,p3⟩,c3⟩:=K53 b i2 h2 a1 hb
   try dsimp only at q3 p3 c3
   simp only[cur]at c3
   apply K2 c3
   simp only[go_sem]
   intros
   have e1:=(K60 d x3).1
   have e2:=(K6w (K5 d x3)).1
   have e3:=(K6w (Ka (K5 d x3))).1
   apply K0 (C2g d x3 (by omega) (by omega))
   simp only[go_sem]
   intros
   apply K0 (C2y (K5 d x3) (by omega))
   simp only[go_sem]
   intros
   apply K0 (C2y (Ka (K5 d x3)) (by omega))
   simp only[go_sem,hw]
   intros
   exact⟨(((i3,h3),Ka (Ka (K5 d x3))),n-1),by simp,⟨q3,by simp only;omega,by simp only;omega⟩,by simp only;omega⟩
  ·obtain⟨⟨⟨i3,h3⟩,x3⟩,⟨q3,p3⟩,c3⟩:=K9 b i2 h2 3 a1 hb (by omega)
   try dsimp only at q3 p3 c3
   simp only[cur]at c3
   apply K2 c3
   simp only[go_sem]
   refine⟨fun k=>?_,fun k=>⟨fun k=>?_,fun k=>?_⟩⟩
   ·obtain⟨⟨⟨i4,h4⟩,x4⟩,⟨q4,p4⟩,c4⟩:=K53 b i3 h3 q3 hb
    try dsimp only at q4 p4 c4
    simp only[cur]at c4
    apply K2 c4
    simp only[go_sem]
    intros
    have e1:=(K60 d x4).1
    apply K0 (C2g d x4 (by omega) (by omega))
    simp only[go_sem]
    intros
    refine K8 ((i4,h4),K5 d x4) ⟨q4,by simp only;omega⟩ ?_
    simp only[go_sem]
   ·obtain⟨⟨⟨i4,h4⟩,x4⟩,⟨q4,p4⟩,c4⟩:=K53 b i3 h3 q3 hb
    try dsimp only at q4 p4 c4
    simp only[cur]at c4
    apply K2 c4
    simp only[go_sem]
    intros
    have e1:=(K60 d x4).1
    have e2:=(K6w (K5 d x4)).1
    apply K0 (C2g d x4 (by omega) (by omega))
    simp only[go_sem]
    intros
    apply K0 (C2y (K5 d x4) (by omega))
    simp only[go_sem]
    intros
    refine K8 ((i4,h4),Ka (K5 d x4)) ⟨q4,by simp only;omega⟩ ?_
    simp only[go_sem]
   ·refine K8 ((i3,h3),d) ⟨q3,a2⟩ ?_
    simp only[go_sem]
def M82:MC:=
(Zs [.alloc 2 1 [.emp 4,.emp 6,.emp 4]] [0,2] (Zs [mS 4 0,.callB 5 [2,3,4] (.f N7d) (.s 4) [],.alloc 3 5 [.emp 4,.emp 6,.emp 4],sS 3 3 5] [0,2,3] (.seq (Zs [mS 6 0,.callB 7 [] (.f N0) (.s 6) [.c (.int .i64 9)]] [0,2,3,7] (.block 0 (Zs [bC 9 .eql 7 0,mS 8 9] [0,2,3,7,8] (.cond (.s 8) (.dreg [Zf [12,13,14,15] [0,6] (fS 10 3 1),Zg [12,13,14,15] [0,6] [0] (lF 11 1 10),Zc [10,11] (mS 12 0),{o:= .callB 13 [] (.f N1z) (.s 12) [],hs:=[10,11],ws:=[0],bf:=[2]},Zd [10,11] [2,3] (.build 14 [pz,pz,pz,pz,pz,pz] [(0,3,.s 13)]),{o:= .lit 15 6 6 48 [.s 14],hs:=[10,11],ws:=[6],bf:=[2,3,4]},{o:= .app 16 3 6 48 (.s 11) (.s 15),ws:=[3],bf:=(.range 6)},Ze (.range 7) (fS 17 3 1),{o:=sS 1 17 16,ws:=[3,5],bf:=(.range 8)}] [2,3]) (Zs [bC 19 .eql 7 1,mS 18 19] [0,2,3,7,18] (.cond (.s 18) (pr [.lit 20 3 6 48 [],fS 21 3 1,sS 1 21 20] [2,3]) (Zs [bC 23 .eql 7 2,mS 22 23] [0,2,3,7,22] (.cond (.s 22) (.dreg [Zf [26,27,28] [0,7,8,9,10] (fS 24 3 0),Zg [26,27,28] [0,7,8,9,10] [0] (lF 25 1 24),Zc [24,25] (mS 26 0),{o:= .callB 27 [7,8,9] (.f N2v) (.s 26) [],hs:=[24,25],ws:=[0,7,8,9],bf:=[2]},{o:= .lit 28 10 4 80 [.s 27],hs:=[24,25],ws:=[7,8,9,10],bf:=[2,3]},{o:= .app 29 2 4 80 (.s 25) (.s 28),ws:=[2,10],bf:=(.range 5)},Ze (.range 6) (fS 30 3 0),{o:=sS 1 30 29,ws:=[2,5],bf:=(.range 7)}] [2,3]) (Zs [bC 32 .eql 7 3,mS 31 32] [0,2,3,31] (.cond (.s 31) (.dreg [Zf [35,36,37] [0,11,12,13,14] (fS 33 3 2),Zg [35,36,37] [0,11,12,13,14] [0] (lF 34 1 33),Zc [33,34] (mS 35 0),{o:= .callB 36 [11,12,13] (.f N2v) (.s 35) [],hs:=[33,34],ws:=[0,11,12,13],bf:=[2]},{o:= .lit 37 14 4 80 [.s 36],hs:=[33,34],ws:=[11,12,13,14],bf:=[2,3]},{o:= .app 38 4 4 80 (.s 34) (.s 37),ws:=[4,14],bf:=(.range 5)},Ze (.range 6) (fS 39 3 2),{o:=sS 1 39 38,ws:=[4,5],bf:=(.range 7)}] [2,3]) .skip))))))))))
(Zs [lT 40 3 3,sS 3 2 40] [2] .ret))))
set_option maxHeartbeats 2000000 in
include hi hb in
theorem K87:∃y:(Nat×Int)×GDisk,(y.1.1≤b.length∧y.2.size≤5000)∧CtrB Tryz.prog N2w (cur b i h) [] (cur b y.1.1 y.1.2) [rS y.2.enc]:=by
 refine K13 (M:=M82) (m:=14) (n:=41) (res:=[(.cell 2 true 3,[true,true,true])]) rfl hmix Tryz.func115 rfl (by kernel_rfl) rfl (by kernel_rfl) (by kernel_rfl) (Nat.le_of_ble_eq_true rfl) ((i,h),⟨[],[],[]⟩) ⟨hi,by simp[GDisk.size]⟩ ?_;unfold M82
 intro hb1 hb2
 clear hb1 hb2
 simp only[cur]
 simp only[go_sem]
 obtain⟨⟨⟨i1,h1⟩,x1⟩,⟨q1,p1⟩,c1⟩:=x_l31Draw b i h hi hb
 try dsimp only at q1 p1 c1
 simp only[cur]at c1
 apply K2 c1
 simp only[go_sem]
 intros
 have hsz:x1.size≤2243:=p1
 obtain⟨⟨⟨i2,h2⟩,x2⟩,⟨q2,p2⟩,c2⟩:=K9 b i1 h1 9 q1 hb (by omega)
 try dsimp only at q2 p2 c2
 simp only[cur]at c2
 apply K2 c2
 simp only[go_sem]
 refine⟨fun k=>?_,fun k=>⟨fun k=>?_,fun k=>⟨fun k=>?_,fun k=>⟨fun k=>?_,fun k=>?_⟩⟩⟩⟩
 ·obtain⟨⟨⟨i3,h3⟩,x3⟩,⟨q3,p3⟩,c3⟩:=K4o b i2 h2 q2 hb
  try dsimp only at q3 p3 c3
  simp only[cur]at c3
  apply K2 c3
  simp only[go_sem]
  refine⟨by decide,by simp only[GDisk.size]at hsz;simp only[roomB];omega,K8 ((i3,h3),{x1 with Index:=x1.Index++[⟨x3,0,0,0⟩]}) ⟨q3,by simp only[GDisk.size,List.length_append,List.length_cons,List.length_nil]at *;omega⟩ ?_⟩
  simp only[go_sem]
  simp[GFound.enc]
 ·refine K8 ((i2,h2),{x1 with Index:=[]}) ⟨q2,by simp only[GDisk.size,List.length_nil]at *;omega⟩ ?_
  simp only[go_sem]
 ·obtain⟨⟨⟨i3,h3⟩,x3⟩,⟨q3,p3⟩,c3⟩:=K86 b i2 h2 q2 hb
  try dsimp only at q3 p3 c3
  simp only[cur]at c3
  apply K2 c3
  simp only[go_sem]
  intros
  have hx3:x3.size≤1600:=p3
  refine⟨by decide,by simp only[GDisk.size]at hsz;simp only[roomB];omega,K8 ((i3,h3),{x1 with Containers:=x1.Containers++[x3]}) ⟨q3,by simp only[GDisk.size,List.length_append,List.length_cons,List.length_nil,List.map_append,List.map_cons,List.map_nil,List.sum_append,List.sum_cons,List.sum_nil]at *;omega⟩ ?_⟩
  simp only[go_sem]
  simp[GContainer.enc]
 ·obtain⟨⟨⟨i3,h3⟩,x3⟩,⟨q3,p3⟩,c3⟩:=K86 b i2 h2 q2 hb
  try dsimp only at q3 p3 c3
  simp only[cur]at c3
  apply K2 c3
  simp only[go_sem]
  intros
  have hx3:x3.size≤1600:=p3
  refine⟨by decide,by simp only[GDisk.size]at hsz;simp only[roomB];omega,K8 ((i3,h3),{x1 with Wanted:=x1.Wanted++[x3]}) ⟨q3,by simp only[GDisk.size,List.length_append,List.length_cons,List.length_nil,List.map_append,List.map_cons,List.map_nil,List.sum_append,List.sum_cons,List.sum_nil]at *;omega⟩ ?_⟩
  simp only[go_sem]
  simp[GContainer.enc]
 ·refine K8 ((i2,h2),x1) ⟨q2,Nat.le_trans hsz (by decide)⟩ ?_
  simp only[go_sem]
end
end Go.Proofs.YtjneccbpkckdfaaGreatR
namespace Go.Proofs.YtjneccbpkckdfaaGreatR
open Go Go.RowKit Go.Proofs
open Nat (reduceEqDiff reduceLT reduceLeDiff reduceAdd reduceMul)
open List (reduceReplicate)
theorem K9r{l:List GContainer}:(index l).length=(l.map fun x=>x.Captures.length).sum:=by rw[index,Srt.len_isort,K7w]
theorem Kbc{α:Type}{n:Nat}{p:α→Bool}{l:List α}{x:α}(h:Kk n p l=true)(hl:l.length<n)(hx:p x=true):Kk n p (l++[x])=true:=by
 simp only[Kk,Bool.and_eq_true,decide_eq_true_eq,List.length_append,List.length_cons,List.length_nil,List.all_append,List.all_cons,List.all_nil,Bool.and_true]at*
 exact⟨by omega,h.2,hx⟩
theorem Kbn{d:GDisk}(h:whole d=true):d.Index=index d.Containers:=by simpa[whole]using h
theorem index_more{l:List GContainer}{x:GContainer}:(index (l++[x])).length=(index l).length+x.Captures.length:=by
 rw[K9r,K9r];simp
theorem index_none{l:List GContainer}{x:GContainer}(h:x.Captures.length=0):index (l++[x])=index l:=by
 have hc:x.Captures=[]:=List.length_eq_zero_iff.1 h
 have key:∀(l:List GContainer) (m:Nat),fnds m (l++[x])=fnds m l:=by
  intro l
  induction l with
  |nil=>intro m;simp[fnds,fnd1,hc]
  |cons y l ih=>intro m;rw[List.cons_append,fnds,fnds,ih]
 rw[index,index,key]
structure WroteAll (d:GDisk) (x:GContainer):Prop where
 ok1:Kj (K5 d x)=true
 w1:(K5 d x).Wanted.length=1
 c1:(K5 d x).Containers.length=d.Containers.length
 r1:(Kw (K5 d x)).Containers.length=d.Containers.length
 n1:K14 (K5 d x)=true
 ok2:Kj (Ka (K5 d x))=true
 c2:(Ka (K5 d x)).Containers.length=d.Containers.length+1
 r2:(Kw (Ka (K5 d x))).Containers.length=d.Containers.length+1
 n2:K14 (Ka (K5 d x))=decide (0<x.Captures.length)
 ok3:K14 (Ka (K5 d x))=true→Kj (Ka (Ka (K5 d x)))=true
 i3:K14 (Ka (K5 d x))=true→(Ka (Ka (K5 d x))).Index.length=d.Index.length+x.Captures.length
 i2:(Kw (Ka (K5 d x))).Index.length=d.Index.length+x.Captures.length
theorem wrote_all{d:GDisk}{x:GContainer}(h:K1j d x=true):WroteAll d x:=by
 have hf:K5 d x=⟨d.Containers,d.Index,[x]⟩:=by unfold K5;rw[if_pos h]
 simp only[K1j,Bool.and_eq_true,decide_eq_true_eq]at h
 obtain⟨hd,hx,hw,hW,hC⟩:=h
 have hI:=Kbn hw
 have hd':=hd
 simp only[Kj,Bool.and_eq_true]at hd'
 have f1:Kk 6 Kn d.Containers=true:=hd'.1
 have e1:Kk 1 Kn [x]=true:=by simp[Kk,hx]
 have e0:Kk 1 Kn []=true:=by simp[Kk]
 have f2:Kk 6 Kn (d.Containers++[x])=true:=Kbc f1 hC hx
 have w1:whole ⟨d.Containers,d.Index,[x]⟩=true:=by simp[whole,hI]
 have ok1:Kj ⟨d.Containers,d.Index,[x]⟩=true:=by simp[Kj,f1,e1,w1]
 have hst1:Kq ⟨d.Containers,d.Index,[x]⟩=false:=by simp[Kq,ok1];omega
 have n1:K14 ⟨d.Containers,d.Index,[x]⟩=true:=by simp[K14,hst1]
 have t1:Ka ⟨d.Containers,d.Index,[x]⟩=⟨d.Containers++[x],d.Index,[]⟩:=by
  unfold Ka
  rw[hst1,w1]
  rfl
 have ok2:Kj ⟨d.Containers++[x],d.Index,[]⟩=true:=by
  simp only[Kj,f2,e0,Bool.true_and,Bool.or_eq_true,Bool.and_eq_true,decide_eq_true_eq]
  exact .inr ⟨by simp,by rw[List.dropLast_concat];exact hI⟩
 have hst2:Kq ⟨d.Containers++[x],d.Index,[]⟩=false:=by simp[Kq,ok2]
 have hm:=index_more (l:=d.Containers) (x:=x)
 have w2:whole ⟨d.Containers++[x],d.Index,[]⟩= !decide (0<x.Captures.length):=by
  by_cases hc:x.Captures.length=0
  ·have e:=index_none (l:=d.Containers) hc
   simp[whole,e,hI,hc]
  ·have hne:¬d.Index=index (d.Containers++[x]):=fun e=>by
    have:d.Index.length=(index (d.Containers++[x])).length:=by rw[←e]
    rw[hI]at this;omega
   have hp:0<x.Captures.length:=by omega
   simp only[whole,decide_eq_false hne,decide_eq_true hp,Bool.not_true]
 have n2:K14 ⟨d.Containers++[x],d.Index,[]⟩=decide (0<x.Captures.length):=by
  simp[K14,hst2,w2]
 have t2:K14 ⟨d.Containers++[x],d.Index,[]⟩=true→Ka ⟨d.Containers++[x],d.Index,[]⟩=⟨d.Containers++[x],index (d.Containers++[x]),[]⟩:=by
  intro h
  rw[n2]at h
  unfold Ka
  rw[hst2,w2,h]
  rfl
 have hlI:d.Index.length=(index d.Containers).length:=by rw[←hI]
 have rec1:Kw ⟨d.Containers,d.Index,[x]⟩=⟨d.Containers,index d.Containers,[]⟩:=by unfold Kw;rw[if_pos ok1]
 have rec2:Kw ⟨d.Containers++[x],d.Index,[]⟩=⟨d.Containers++[x],index (d.Containers++[x]),[]⟩:=by unfold Kw;rw[if_pos ok2]
 constructor
 all_goals rw[hf]
 ·exact ok1
 ·rfl
 ·rw[rec1]
 ·exact n1
 all_goals rw[t1]
 ·exact ok2
 ·simp
 ·rw[rec2];simp
 ·exact n2
 ·intro h
  rw[t2 h]
  simp[Kj,f2,e0,whole]
 ·intro h
  rw[t2 h]
  simp only
  omega
 ·rw[rec2]
  simp only
  omega
theorem rec_ok{e:GDisk}(h:Kj e=true):Kj (Kw e)=true∧(Kw e).Wanted.length=0∧(Kw e).Index.length=(index (Kw e).Containers).length:=by
 have hr:Kw e=⟨e.Containers,index e.Containers,[]⟩:=by unfold Kw;rw[if_pos h]
 rw[hr]
 simp only[Kj,Bool.and_eq_true]at h
 refine⟨?_,rfl,rfl⟩
 have e0:Kk 1 Kn []=true:=by simp[Kk]
 simp[Kj,h.1,e0,whole]
theorem Kah{i:Nat}:∀ {cs:List GCapture} {k:Nat} {f:GFound},f∈fnd1 i k cs→∃(j:Nat) (c:GCapture),cs[j]? =some c∧f=⟨c.Address,c.Tick,i,((k+j:Nat):Int)⟩
 | [],_,_,h=>by simp[fnd1]at h
 |c::cs,k,f,h=>by
  rw[fnd1]at h
  rcases List.mem_cons.1 h with rfl|h
  ·exact⟨0,c,rfl,rfl⟩
  ·obtain⟨j,c',h1,h2⟩:=Kah h
   exact⟨j+1,c',by simpa using h1,by rw[h2,show k+1+j=k+(j+1)by omega]⟩
theorem Kai:∀ {l:List GContainer} {m:Nat} {f:GFound},f∈fnds m l→∃(i j:Nat) (x:GContainer) (c:GCapture),l[i]? =some x∧x.Captures[j]? =some c∧f=⟨c.Address,c.Tick,((m+i:Nat):Int),(j:Int)⟩
 | [],_,_,h=>by simp[fnds]at h
 |x::l,m,f,h=>by
  rw[fnds]at h
  rcases List.mem_append.1 h with h|h
  ·obtain⟨j,c,h1,h2⟩:=Kah h
   exact⟨0,j,x,c,rfl,h1,by rw[h2];simp⟩
  ·obtain⟨i,j,y,c,h1,h2,h3⟩:=Kai h
   exact⟨i+1,j,y,c,by simpa using h1,h2,by rw[h3,show m+1+i=m+(i+1)by omega]⟩
theorem K9o{l:List GContainer}{f:GFound}(h:f∈index l):∃(i j:Nat) (x:GContainer) (c:GCapture),l[i]? =some x∧x.Captures[j]? =some c∧f=⟨c.Address,c.Tick,(i:Int),(j:Int)⟩:=by
 have h2:f∈fnds 0 l:=by
  rw[index,Srt.isort,Srt.mem_mrg]at h
  rcases h with h|h
  ·simp at h
  ·exact h
 obtain⟨i,j,x,c,h3,h4,h5⟩:=Kai h2
 exact⟨i,j,x,c,h3,h4,by rw[h5];simp⟩
theorem disk_mem{d:GDisk}(h:Kj d=true){f:GFound}(hf:f∈d.Index):∃(i j:Nat) (x:GContainer) (c:GCapture),d.Containers[i]? =some x∧x.Captures[j]? =some c∧f=⟨c.Address,c.Tick,(i:Int),(j:Int)⟩:=by
 simp only[Kj,Bool.and_eq_true,Bool.or_eq_true,decide_eq_true_eq,whole]at h
 rcases h.2.2 with e|⟨_,e⟩
 ·rw[e]at hf;exact K9o hf
 ·rw[e]at hf
  obtain⟨i,j,x,c,h1,h2,h3⟩:=K9o hf
  refine⟨i,j,x,c,?_,h2,h3⟩
  have hl:=Kl h1
  rw[List.length_dropLast]at hl
  rw[List.getElem?_dropLast,if_pos hl]at h1
  exact h1
theorem disk_srt{d:GDisk}(h:Kj d=true):d.Index.Pairwise fun x y=>K1l y x=false:=by
 simp only[Kj,Bool.and_eq_true,Bool.or_eq_true,decide_eq_true_eq,whole]at h
 rcases h.2.2 with e|⟨_,e⟩
 ·rw[e];exact Srt.srt_isort fndSwo' _
 ·rw[e];exact Srt.srt_isort fndSwo' _
def looks(d:GDisk)(y:GAddress):List GFound:=d.Index.filter fun f=>decide (f.Address=y)
theorem K62{d:GDisk}{y:GAddress}{i:Nat}{f:GFound}(h:(looks d y)[i]? =some f):f.Address=y:=by
 have:=(List.mem_filter.1 (K10 h)).2
 simpa using this
theorem looks_mem{d:GDisk}{y:GAddress}{i:Nat}{f:GFound}(h:(looks d y)[i]? =some f):f∈d.Index:=(List.mem_filter.1 (K10 h)).1
theorem looks_up{d:GDisk}(hd:Kj d=true){y:GAddress}{i:Nat}{f g:GFound}(hf:(looks d y)[i]? =some f)(hg:(looks d y)[i+1]? =some g):f.Tick≤g.Tick:=by
 have hp:(looks d y).Pairwise fun x y=>K1l y x=false:=(disk_srt hd).filter _
 obtain⟨h1,rfl⟩:=List.getElem?_eq_some_iff.1 hf
 obtain⟨h2,rfl⟩:=List.getElem?_eq_some_iff.1 hg
 have h3:=List.pairwise_iff_getElem.1 hp i (i+1) h1 h2 (by omega)
 have a1:=K62 hf
 have a2:=K62 hg
 simp only[K1l,decide_eq_false_iff_not,a1,a2,Int.lt_irrefl,false_or,true_and]at h3
 exact Int.not_lt.1 h3
end Go.Proofs.YtjneccbpkckdfaaGreatR
namespace Go.Proofs.YtjneccbpkckdfaaGreatR
open Go Go.RowKit Go.Proofs
open Nat (reduceEqDiff reduceLT reduceLeDiff reduceAdd reduceMul)
open List (reduceReplicate)
def M8z:MC:=
(Zs [.mv 2 (.c (.pointer none))] [0] (Zs [mS 5 0,nS 6 5,.bin 7 false .add (ci 193017) (.s 6),mS 3 7] [0,3] (.seq (Zs [.mv 4 (ci 0)] [0,3,4] (.block 0 (.loop ([0,3,4],[0]) (.seq (.seq (.reg [Za (mS 8 4),Za (mS 9 0),Za (nS 10 9),Za (bS 11 .lss 8 10),Za (mS 12 11),Zb 12 true (mS 13 4),Zb 12 true (bC 14 .lss 13 4000),Za (.pick 15 (.s 12) (.s 14) cF)] [0,3,4,15])
(cX 15 0))
(.seq (.block 1 (pr [mS 18 3,bC 19 .mul 18 137,mS 20 0,mS 21 4,xS 22 1 20 21,lF 23 1 22,.convI 24 .i64 (.s 23),bS 25 .add 19 24,bC 26 .add 25 11,bC 27 .and 26 1073741823,mS 3 27] [0,3,4]))
(pr [mS 16 4,bC 17 .add 16 1,mS 4 17] [0,3,4]))))))
(Zs [mS 28 0,mS 29 3,.build 30 [.emp 1,pz,pz] [(0,1,.s 28),(2,1,.s 29)],.box 31 0 (.s 30),mS 2 31] [2] .ret))))
set_option maxHeartbeats 1000000 in
theorem K9f(b:List Int)(hb:byts b):∃y:Int,True∧CtrN Tryz.prog N3l [(false,[.sl 1 (b.map encU)])] (cur b 0 y):=by
 refine ctrNX_at (M:=M8z) (m:=1) (n:=32) (k:=2) rfl hmix Tryz.func114 rfl (by kernel_rfl) rfl (by kernel_rfl) rfl (Nat.le_of_ble_eq_true rfl) (0:Int) trivial ?_;unfold M8z
 intro hb1
 clear hb1
 have hl:=hb
 unfold byts at hl
 have hw0:IntKind.i64.wrap (193017+(b.length:Int))=((193017+b.length:Nat):Int):=by rw[wI (by omega) (by omega)];omega
 simp only[cur]
 simp only[go_sem]
 refine Ko (ι:=Nat×Int) (fun t=>[(3,vI t.2),(4,vI t.1)]) (fun t=>[]) (fun t=>t.1≤b.length) (fun t=>b.length-t.1) (0,((193017+b.length:Nat):Int)) ?_
 simp only[go_sem,hw0]
 refine⟨?_,Nat.zero_le _,?_⟩
 ·simp only[go_sem]
 ·rintro ⟨n,H⟩ hn
  simp only at hn
  simp only[go_sem]
  refine⟨fun k1=>⟨fun k2=>?_,fun k2=>?_⟩,fun k1=>?_⟩
  ·have hlt:n<b.length:=by omega
   obtain⟨x,hx⟩:=Ke hlt
   have c0:(0:Int)≤(n:Int):=by omega
   have hw:IntKind.i64.wrap ((n:Int)+1)=((n+1:Nat):Int):=by rw[wI (by omega) (by omega)];omega
   simp only[go_sem,encU,K4 hx,c0,k1,hw]
   exact⟨(n+1,_),⟨rfl,rfl⟩,by simp only;omega,by simp only;omega⟩
  ·refine K8 H trivial ?_
   simp only[go_sem]
  ·refine K8 H trivial ?_
   simp only[go_sem]
abbrev aU(b:List Int):Bool×List T:=(false,[.sl 1 (b.map encU)])
def M5b:MC:=
(Zs [.alloc 2 0 [.emp 4,.emp 6,.emp 4]] [0,2] (Zs [mS 4 0,.callN 5 1 (.f N3l) [.s 4],mS 3 5] [2,3] (Zs [mS 6 3,.callB 7 [2,3,4] (.f N2w) (.s 6) [],sS 3 2 7] [2] .ret)))
theorem Kb6(b:List Int)(hb:byts b):∃y:GDisk,y.size≤5000∧Ctr Tryz.prog N5q [aU b] [rS y.enc]:=by
 refine K8u (M:=M5b) (m:=5) (n:=8) (res:=[(.cell 2 true 3,[true,true,true])]) rfl hmix Tryz.func124 rfl (by kernel_rfl) rfl (by kernel_rfl) (by kernel_rfl) (Nat.le_of_ble_eq_true rfl) ⟨[],[],[]⟩ (by simp[GDisk.size]) ?_;unfold M5b
 intro hb1
 clear hb1
 obtain⟨H,-,cN⟩:=K9f b hb
 simp only[cur]at cN
 simp only[go_sem]
 apply K6h cN
 simp only[go_sem]
 obtain⟨⟨⟨i1,h1⟩,x1⟩,⟨q1,p1⟩,c1⟩:=K87 b 0 H (Nat.zero_le _) hb
 try dsimp only at q1 p1 c1
 simp only[cur]at c1
 apply K2 c1
 simp only[go_sem]
 intros
 refine K8 x1 p1 ?_
 simp only[go_sem]
def M2j:MC:=
(Zs [.alloc 2 0 [.emp 4,.emp 6,.emp 4]] [0,2] (Zs [mS 3 0,.call 4 [1,2,3] (.f N5q) [.s 3],sS 3 2 4] [2] .ret))
theorem K7d(b:List Int)(hb:byts b):∃y:GDisk,y.size≤5000∧Ctr Tryz.prog N2n [aU b] [rS y.enc]:=by
 obtain⟨y,h1,h2⟩:=Kb6 b hb
 refine⟨y,h1,?_⟩
 refine cA M2j 4 5 [(.cell 2 true 3,[true,true,true])] Tryz.func41 rfl rfl ?_;unfold M2j
 intro hb1
 clear hb1
 simp only[go_sem]
 apply K0 h2
 simp only[go_sem]
def M31:MC:=
(Zs [.alloc 2 0 [.emp 4,.emp 6,.emp 4],.alloc 3 1 [.emp 4,.emp 5,.emp 9,pz]] [0,2,3] (Zs [mS 6 0,.callN 7 2 (.f N3l) [.s 6],mS 4 7] [2,3,4] (Zs [mS 8 4,.callB 9 [3,4,5] (.f N2w) (.s 8) [],.alloc 5 6 [.emp 4,.emp 6,.emp 4],sS 3 5 9] [2,3,4,5] (.seq (.dreg [Zf [11,12] [2,7,8,9] (lT 10 3 5),Zc [10] (mS 11 4),{o:= .callB 12 [7,8,9] (.f N2v) (.s 11) [],hs:=[10],ws:=[2,7,8,9],bf:=[1]},{o:=sS 3 2 10,ws:=[0,3,4,5],bf:=[0,1,2]},{o:=sS 4 3 12,ws:=[1,7,8,9],bf:=(.range 4)}] [2,3])
.ret))))
theorem K85(b:List Int)(hb:byts b):∃y:GDisk×GContainer,(y.1.size≤5000∧y.2.size≤1600)∧Ctr Tryz.prog N33 [aU b] [rS y.1.enc,rS y.2.enc]:=by
 refine K8u (M:=M31) (m:=10) (n:=13) (res:=[(.cell 2 true 3,[true,true,true]),(.cell 3 true 4,[true,true,true,false])]) rfl hmix Tryz.func36 rfl (by kernel_rfl) rfl (by kernel_rfl) (by kernel_rfl) (Nat.le_of_ble_eq_true rfl) (⟨[],[],[]⟩,⟨[],[],[],0⟩) (by simp[GDisk.size,GContainer.size]) ?_;unfold M31
 intro hb1
 clear hb1
 obtain⟨H,-,cN⟩:=K9f b hb
 simp only[cur]at cN
 simp only[go_sem]
 apply K6h cN
 simp only[go_sem]
 obtain⟨⟨⟨i1,h1⟩,x1⟩,⟨q1,p1⟩,c1⟩:=K87 b 0 H (Nat.zero_le _) hb
 try dsimp only at q1 p1 c1
 simp only[cur]at c1
 apply K2 c1
 simp only[go_sem]
 intros
 obtain⟨⟨⟨i2,h2⟩,x2⟩,⟨q2,p2⟩,c2⟩:=K86 b i1 h1 q1 hb
 try dsimp only at q2 p2 c2
 simp only[cur]at c2
 apply K2 c2
 simp only[go_sem]
 intros
 refine K8 (x1,x2) ⟨p1,p2⟩ ?_
 simp only[go_sem]
def M5c:MC:=
(Zs [.alloc 2 0 [.emp 4,.emp 6,.emp 4],.alloc 3 1 [pz,pz,pz]] [0,2,3] (Zs [mS 6 0,.callN 7 2 (.f N3l) [.s 6],mS 4 7] [2,3,4] (Zs [mS 8 4,.callB 9 [3,4,5] (.f N2w) (.s 8) [],.alloc 5 6 [.emp 4,.emp 6,.emp 4],sS 3 5 9] [2,3,4,5] (.seq (.seq (.reg [Za (fS 10 5 1),Za (lF 11 1 10),Za (nS 12 11),Za (bC 13 .gtr 12 0),Za (mS 14 13),Zb 14 true (mS 15 4),Zb 14 true (.callB 16 [] (.f N4y) (.s 15) [.c (.int .i64 2)]),Za (.pick 17 (.s 14) (.s 16) cF)] [2,3,4,5,17])
(.cond (.s 17) (.seq (.dreg [Zc [19,20,21,22,23] (lT 18 3 5),Zf [18] [0] (fS 19 5 1),Zg [18] [0] [1] (lF 20 1 19),Zg [18] [0] [1,2] (.idx 21 6 (.s 20) (ci 0)),Zg [18] [0] [1,2,3] (fS 22 21 0),Zg [18] [0] [1,2,3,4] (lT 23 3 22),{o:=sS 3 2 18,hs:=[19,20,21,22,23],ws:=[0],bf:=[0]},{o:=sS 3 3 23,ws:=[1],bf:=(.range 7)}] [2,3])
.ret) .skip))
(.seq (.dreg [Zf [25,26] [2] (lT 24 3 5),Zc [24] (mS 25 4),{o:= .callB 26 [] (.f N1z) (.s 25) [],hs:=[24],ws:=[2],bf:=[1]},{o:=sS 3 2 24,ws:=[0],bf:=[0,1,2]},{o:=sS 3 3 26,ws:=[1],bf:=(.range 4)}] [2,3])
.ret)))))
set_option maxHeartbeats 1000000 in
theorem Kb7(b:List Int)(hb:byts b):∃y:GDisk×GAddress,(y.1.size≤5000∧True)∧Ctr Tryz.prog N5r [aU b] [rS y.1.enc,⟨true,[(false,tI y.2.Host),(false,tI y.2.Path),(false,tI y.2.Query)]⟩]:=by
 refine K8u (M:=M5c) (m:=7) (n:=27) (res:=[(.cell 2 true 3,[true,true,true]),(.cell 3 true 3,[false,false,false])]) rfl hmix Tryz.func44 rfl (by kernel_rfl) rfl (by kernel_rfl) (by kernel_rfl) (Nat.le_of_ble_eq_true rfl) (⟨[],[],[]⟩,⟨0,0,0⟩) (by simp[GDisk.size]) ?_;unfold M5c
 intro hb1
 clear hb1
 obtain⟨H,-,cN⟩:=K9f b hb
 simp only[cur]at cN
 simp only[go_sem]
 apply K6h cN
 simp only[go_sem]
 obtain⟨⟨⟨i1,h1⟩,x1⟩,⟨q1,p1⟩,c1⟩:=K87 b 0 H (Nat.zero_le _) hb
 try dsimp only at q1 p1 c1
 simp only[cur]at c1
 apply K2 c1
 simp only[go_sem]
 intros
 by_cases hI:0<x1.Index.length
 ·obtain⟨f,hf⟩:=Ke hI
  have c1:(x1.Index.length:Int)>0:=by omega
  simp only[go_sem,c1]
  obtain⟨⟨⟨i2,h2⟩,x2⟩,⟨q2,p2⟩,c2⟩:=Kb8 b i1 h1 2 q1 hb (by omega)
  try dsimp only at q2 p2 c2
  simp only[cur]at c2
  apply K2 c2
  simp only[go_sem,c1,K4 hf]
  refine⟨fun k=>?_,fun k=>?_⟩
  ·refine⟨by omega,K8 (x1,f.Address) p1 ?_⟩
   simp only[go_sem]
  ·obtain⟨⟨⟨i3,h3⟩,x3⟩,⟨q3,p3⟩,c3⟩:=K4o b i2 h2 q2 hb
   try dsimp only at q3 p3 c3
   simp only[cur]at c3
   apply K2 c3
   simp only[go_sem]
   refine K8 (x1,x3) p1 ?_
   simp only[go_sem]
 ·have c1:¬(x1.Index.length:Int)>0:=by omega
  simp only[go_sem,c1]
  obtain⟨⟨⟨i3,h3⟩,x3⟩,⟨q3,p3⟩,c3⟩:=K4o b i1 h1 q1 hb
  try dsimp only at q3 p3 c3
  simp only[cur]at c3
  apply K2 c3
  simp only[go_sem]
  refine K8 (x1,x3) p1 ?_
  simp only[go_sem]
def M9t:MC:=
(Zs [.mv 2 cF] [0] (Zs [mS 3 0,nS 4 3,bC 5 .gtr 4 1048576,mS 2 5] [2] .ret))
theorem Cah(b:List Int):Ctr Tryz.prog N9x [aU b] [rB (decide (b.length>1048576))]:=by
 refine cA M9t 0 6 [(.tmp 2,[false])] Tryz.func35 rfl rfl ?_;unfold M9t
 intro hb
 clear hb
 simp only[go_sem]
 try (rw[decide_eq_decide];omega)
def M7q:MC:=
(Zs [.box 2 0 (.s 0),.box 3 1 (.s 1),.nilo 4 2 6] [2,3] (Zs [.nilo 5 2 6] [2,3,5] (.seq (Zs [fS 8 2 1,lF 9 1 8,nS 10 9,.mv 11 (ci 0)] [3,5,9,10,11] (.block 0 (.loop ([3,5,9,10,11],[0,3,4]) (Zs [bS 12 .lss 11 10] [3,5,9,10,11,12] (.seq (cX 12 0)
(.seq (.block 1 (Zs [xS 13 6 9 11,lT 14 6 13,.alloc 7 3 [pz,pz,pz,pz,pz,pz],sS 6 7 14] [3,5,7,9,10,11] (Zs [fS 15 7 0,lT 16 3 15,lT 17 3 3,.eqA 18 false [.i .i64,.i .i64,.i .i64] (.s 16) (.s 17)] [3,5,7,9,10,11,18] (.cond (.s 18) (pr [mS 19 5,lT 20 6 7,.lit 21 4 6 48 [.s 20],.app 22 2 6 48 (.s 19) (.s 21),mS 5 22] [3,5,9,10,11]) .skip))))
(pr [bC 23 .add 11 1,mS 11 23] [3,5,9,10,11])))))))
(Zs [mS 24 5,mS 4 24] [4] .ret))))
theorem Ca6(d:GDisk)(y:GAddress)(hs:d.size≤1073741824):Ctr Tryz.prog N88 [aS d.enc,aS y.enc] [rL 6 ((looks d y).map GFound.enc)]:=by
 refine cA M7q 5 25 [(.tmp 4,[true])] Tryz.func45 rfl rfl ?_;unfold M7q
 intro hb
 clear hb
 simp only[GDisk.size]at hs
 have hlk:∀k,((d.Index.take k).filter fun f=>decide (f.Address=y)).length≤d.Index.length:=fun k=>by
  refine Nat.le_trans (List.length_filter_le _ _) ?_
  rw[List.length_take];omega
 simp only[go_sem]
 refine K7 d.Index (fun k=>[(5,.val false [.ref 2 0 6 0 ((d.Index.take k).filter fun f=>decide (f.Address=y)).length]),(11,vI k)]) (fun k=>[(2,⟨0,.row true 6 (((d.Index.take k).filter fun f=>decide (f.Address=y)).map GFound.enc)⟩)]) (fun _=>True) (by simp only[roomB];omega) ?_
 simp only[go_sem]
 refine⟨?_,trivial,?_,?_⟩
 ·simp only[go_sem,List.take_zero,List.filter_nil]
 ·intro k f hf _ h0 h1 hw
  have hl:=hlk k
  have e:(f.Address.Host==y.Host&&(f.Address.Path==y.Path&&f.Address.Query==y.Query))=decide (f.Address=y):=by
   rw[Bool.eq_iff_iff]
   simp[GAddress.eqv]
  simp only[go_sem,K4 hf,h0,h1,hw,e]
  rw[Kt hf,List.filter_append]
  by_cases hy:f.Address=y
  ·simp[hy,GFound.enc,roomB]
   omega
  ·simp[hy]
 ·intro _
  simp only[go_sem,List.take_length]
  rfl
end Go.Proofs.YtjneccbpkckdfaaGreatR
namespace Go.Proofs.YtjneccbpkckdfaaGreatR
open Go Go.RowKit Go.Proofs
open Nat (reduceEqDiff reduceLT reduceLeDiff reduceAdd reduceMul)
open List (reduceReplicate)
def M6w:MC:=
(Zs [.mv 2 cF] [0] (.seq (Zs [mS 24 0,.call 25 [] (.f N9x) [.s 24]] [0,25] (.cond (.s 25) (Zs [.mv 2 cT] [2] .ret) .skip))
(Zs [mS 27 0,.call 28 [0,1,2,3,4,5] (.f N33) [.s 27],mS 26 28,.ext 29 (.s 26) 0,.ext 30 (.s 26) 1,.alloc 3 6 [.emp 4,.emp 6,.emp 4],.alloc 4 7 [.emp 4,.emp 5,.emp 9,pz],sS 3 3 29,sS 4 4 30] [0,3,4] (Zs [lT 32 3 3,lT 33 4 4,.call 34 [8,9,10] (.f N5n) [.s 32,.s 33],mS 31 34,.ext 35 (.s 31) 0,.ext 36 (.s 31) 1,.alloc 5 11 [.emp 4,.emp 6,.emp 4],sS 3 5 35,mS 6 36] [0,3,4,5,6] (.seq (.seq (.reg [Za (mS 37 6),Za (mS 38 37),Zb 38 true (lT 39 3 5),Zb 38 true (.call 40 [] (.f Ng) [.s 39]),Zb 38 true (.un 41 .not (.s 40)),Zb 38 true (mS 42 41),Zb 42 false (fS 43 5 2),Zb 42 false (lF 44 1 43),Zb 42 false (nS 45 44),Zb 42 false (bC 46 .neq 45 1),Zb 38 true (.pick 47 (.s 42) cT (.s 46)),Zb 38 true (mS 48 47),Zb 48 false (fS 49 5 0),Zb 48 false (lF 50 1 49),Zb 48 false (nS 51 50),Zb 48 false (fS 52 3 0),Zb 48 false (lF 53 1 52),Zb 48 false (nS 54 53),Zb 48 false (bS 55 .neq 51 54),Zb 38 true (.pick 56 (.s 48) cT (.s 55)),Za (.pick 57 (.s 38) (.s 56) cF)] [0,3,4,5,6,57])
(.cond (.s 57) (Zs [.mv 2 cF] [2] .ret) .skip))
(.seq (Zs [mS 58 6] [0,3,4,5,58] (.cond (.s 58) (Zs [lT 60 3 5,.call 61 [12,13,14] (.f N1i) [.s 60],mS 59 61,.ext 62 (.s 59) 0,.ext 63 (.s 59) 1,.alloc 7 15 [.emp 4,.emp 6,.emp 4],sS 3 7 62,mS 8 63] [0,3,4,5,7] (Zs [lT 65 3 5,.call 66 [16,17,18] (.f N2z) [.s 65],mS 64 66,.ext 67 (.s 64) 0,.ext 68 (.s 64) 1,.alloc 9 19 [.emp 4,.emp 6,.emp 4],sS 3 9 67,mS 10 68] [0,3,4,7,9,10] (Zs [lT 70 3 9,.call 71 [20,21,22] (.f N1i) [.s 70],mS 69 71,.ext 72 (.s 69) 0,.ext 73 (.s 69) 1,.alloc 11 23 [.emp 4,.emp 6,.emp 4],sS 3 11 72,mS 12 73] [0,3,4,7,9,10,11] (Zs [lT 75 3 9,.call 76 [24,25,26] (.f N2z) [.s 75],mS 74 76,.ext 77 (.s 74) 0,.ext 78 (.s 74) 1,.alloc 13 27 [.emp 4,.emp 6,.emp 4],sS 3 13 77,mS 14 78] [0,3,4,7,9,10,11,13,14] (.seq (.seq (.reg [Za (fS 79 7 0),Za (lF 80 1 79),Za (nS 81 80),Za (fS 82 3 0),Za (lF 83 1 82),Za (nS 84 83),Za (bS 85 .neq 81 84),Za (mS 86 85),Zb 86 false (mS 87 10),Zb 86 false (.un 88 .not (.s 87)),Za (.pick 89 (.s 86) cT (.s 88)),Za (mS 90 89),Zb 90 false (lT 91 3 9),Zb 90 false (.call 92 [] (.f Ng) [.s 91]),Zb 90 false (.un 93 .not (.s 92)),Za (.pick 94 (.s 90) cT (.s 93)),Za (mS 95 94),Zb 95 false (fS 96 9 0),Zb 95 false (lF 97 1 96),Zb 95 false (nS 98 97),Zb 95 false (fS 99 3 0),Zb 95 false (lF 100 1 99),Zb 95 false (nS 101 100),Zb 95 false (bC 102 .add 101 1),Zb 95 false (bS 103 .neq 98 102),Za (.pick 104 (.s 95) cT (.s 103)),Za (mS 105 104),Zb 105 false (fS 106 11 0),Zb 105 false (lF 107 1 106),Zb 105 false (nS 108 107),Zb 105 false (fS 109 9 0),Zb 105 false (lF 110 1 109),Zb 105 false (nS 111 110),Zb 105 false (bS 112 .neq 108 111),Za (.pick 113 (.s 105) cT (.s 112))] [0,3,4,11,13,14,113])
(.cond (.s 113) (Zs [.mv 2 cF] [2] .ret) .skip))
(.seq (.reg [Za (mS 114 14),Za (fS 115 4 2),Za (lF 116 1 115),Za (nS 117 116),Za (bC 118 .gtr 117 0),Za (.bin 119 true .neq (.s 114) (.s 118)),Za (mS 120 119),Zb 120 false (mS 121 14),Zb 120 false (mS 122 121),Zb 122 true (lT 123 3 13),Zb 122 true (.call 124 [] (.f Ng) [.s 123]),Zb 122 true (.un 125 .not (.s 124)),Zb 122 true (mS 126 125),Zb 126 false (fS 127 13 1),Zb 126 false (lF 128 1 127),Zb 126 false (nS 129 128),Zb 126 false (fS 130 3 1),Zb 126 false (lF 131 1 130),Zb 126 false (nS 132 131),Zb 126 false (fS 133 4 2),Zb 126 false (lF 134 1 133),Zb 126 false (nS 135 134),Zb 126 false (bS 136 .add 132 135),Zb 126 false (bS 137 .neq 129 136),Zb 122 true (.pick 138 (.s 126) cT (.s 137)),Zb 120 false (.pick 139 (.s 122) (.s 138) cF),Za (.pick 140 (.s 120) cT (.s 139)),Za (mS 141 140),Zb 141 false (fS 142 11 1),Zb 141 false (lF 143 1 142),Zb 141 false (nS 144 143),Zb 141 false (fS 145 3 1),Zb 141 false (lF 146 1 145),Zb 141 false (nS 147 146),Zb 141 false (fS 148 4 2),Zb 141 false (lF 149 1 148),Zb 141 false (nS 150 149),Zb 141 false (bS 151 .add 147 150),Zb 141 false (bS 152 .neq 144 151),Za (.pick 153 (.s 141) cT (.s 152))] [0,153])
(.cond (.s 153) (Zs [.mv 2 cF] [2] .ret) .skip))))))) .skip))
(Zs [mS 154 0,.call 155 [28,29,30] (.f N2n) [.s 154],.alloc 15 31 [.emp 4,.emp 6,.emp 4],sS 3 15 155] [0,15] (Zs [lT 157 3 15,.call 158 [32,33,34] (.f N1i) [.s 157],mS 156 158,.ext 159 (.s 156) 0,.ext 160 (.s 156) 1,.alloc 16 35 [.emp 4,.emp 6,.emp 4],sS 3 16 159,mS 17 160] [0,15,16,17] (.seq (Zs [lT 162 3 15,.call 163 [36,37,38] (.f N4t) [.s 162],mS 161 163,.ext 164 (.s 161) 0,.ext 165 (.s 161) 1,.alloc 18 39 [.emp 4,.emp 6,.emp 4],sS 3 18 164,mS 19 165] [0,15,16,17,19] (Zs [mS 166 17,mS 167 19,.bin 168 true .neq (.s 166) (.s 167)] [0,15,16,17,168] (.cond (.s 168) (Zs [.mv 2 cF] [2] .ret) .skip)))
(.seq (.seq (.dreg [Zc [170,171] (mS 169 17),Zc [169] (lT 170 3 15),Zd [169] [1] (.call 171 [] (.f Ng) [.s 170]),Ze [0,1,2] (.bin 172 true .neq (.s 169) (.s 171)),Ze (.range 4) (mS 173 172),{o:=mS 174 17,g:=some (173,false),bf:=(.range 5)},{o:=mS 175 174,g:=some (173,false),bf:=(.range 6)},{o:=lT 176 3 16,g:=some (175,true),bf:=(.range 7)},{o:= .call 177 [] (.f Ng) [.s 176],g:=some (175,true),bf:=(.range 8)},{o:= .un 178 .not (.s 177),g:=some (175,true),bf:=(.range 9)},{o:=mS 179 178,g:=some (175,true),bf:=(.range 10)},{o:=fS 180 16 2,g:=some (179,false),bf:=(.range 11)},{o:=lF 181 1 180,g:=some (179,false),bf:=(.range 12)},{o:=nS 182 181,g:=some (179,false),bf:=(.range 13)},{o:=bC 183 .gtr 182 0,g:=some (179,false),bf:=(.range 14)},{o:= .pick 184 (.s 179) cT (.s 183),g:=some (175,true),bf:=(.range 15)},{o:=mS 185 184,g:=some (175,true),bf:=(.range 16)},{o:=fS 186 16 1,g:=some (185,false),hs:=[189,190,191,192],ho:=[40],bf:=(.range 17)},{o:=lF 187 1 186,g:=some (185,false),hs:=[189,190,191,192],ho:=[40],bf:=(.range 18)},{o:=nS 188 187,g:=some (185,false),hs:=[189,190,191,192],ho:=[40],bf:=(.range 19)},{o:=fS 189 16 0,g:=some (185,false),hs:=[186,187,188],bf:=(.range 17)},{o:=lF 190 1 189,g:=some (185,false),hs:=[186,187,188],bf:=[0,1,2,3,4,5,6,7,8,9,10,11,12,13,14,15,16,20]},{o:= .call 191 [40] (.f Nu) [.s 190],g:=some (185,false),hs:=[186,187,188],ws:=[40],bf:=[0,1,2,3,4,5,6,7,8,9,10,11,12,13,14,15,16,20,21]},{o:=nS 192 191,g:=some (185,false),hs:=[186,187,188],bf:=[0,1,2,3,4,5,6,7,8,9,10,11,12,13,14,15,16,20,21,22]},{o:=bS 193 .neq 188 192,g:=some (185,false),bf:=(.range 24)},{o:= .pick 194 (.s 185) cT (.s 193),g:=some (175,true),bf:=(.range 25)},{o:= .pick 195 (.s 175) (.s 194) cF,g:=some (173,false),bf:=(.range 26)},Ze (.range 27) (.pick 196 (.s 173) cT (.s 195))] [0,196])
(.cond (.s 196) (Zs [.mv 2 cF] [2] .ret) .skip))
(Zs [mS 198 0,.call 199 [41,42,43] (.f N5r) [.s 198],mS 197 199,.ext 200 (.s 197) 0,.ext 201 (.s 197) 1,.alloc 20 44 [.emp 4,.emp 6,.emp 4],.alloc 21 45 [pz,pz,pz],sS 3 20 200,sS 3 21 201] [20,21] (Zs [lT 202 3 20,lT 203 3 21,.call 204 [46] (.f N88) [.s 202,.s 203],mS 22 204] [20,21,22] (.seq (Zs [.mv 23 (ci 0)] [20,21,22,23] (.block 0 (.loop ([20,21,22,23],[0,1,2,3,4,5,6,7,8,9,10,11,12,13,14,15,16,17,18,19,20,21,22,23,24,25,26,27,28,29,30,31,32,33,34,35,36,37,38,39,40]) (.seq (Zs [mS 205 23,mS 206 22,nS 207 206,bS 208 .lss 205 207] [20,21,22,23,208] (cX 208 0))
(.seq (.block 1 (.seq (.seq (.dreg [Zc [212,216] (mS 211 22),Zc [211,216] (mS 212 23),Zd [216] [0,1] (xS 213 6 211 212),Zd [216] [0,1,2] (fS 214 213 0),Zd [216] (.range 4) (lT 215 3 214),Zc [211,212,213,214,215] (lT 216 3 21),Ze (.range 6) (.eqA 217 true [.i .i64,.i .i64,.i .i64] (.s 215) (.s 216))] [20,21,22,23,217])
(.cond (.s 217) (Zs [.mv 2 cF] [2] .ret) .skip))
(.seq (.dreg [Za (lT 218 3 20),Ze [0] (.call 219 [] (.f Ng) [.s 218]),Ze [0,1] (mS 220 219),{o:=mS 221 22,g:=some (220,true),hs:=[222,226,227,228],bf:=[0,1,2]},{o:=mS 222 23,g:=some (220,true),hs:=[221,226,227,228],bf:=[0,1,2]},{o:=xS 223 6 221 222,g:=some (220,true),hs:=[226,227,228],bf:=(.range 5)},{o:=fS 224 223 4,g:=some (220,true),hs:=[226,227,228],bf:=(.range 6)},{o:=lF 225 1 224,g:=some (220,true),hs:=[226,227,228],bf:=(.range 7)},{o:=fS 226 20 0,g:=some (220,true),hs:=[221,222,223,224,225],bf:=[0,1,2]},{o:=lF 227 1 226,g:=some (220,true),hs:=[221,222,223,224,225],bf:=[0,1,2,8]},{o:=nS 228 227,g:=some (220,true),hs:=[221,222,223,224,225],bf:=[0,1,2,8,9]},{o:=bS 229 .geq 225 228,g:=some (220,true),bf:=(.range 11)},{o:=mS 230 229,g:=some (220,true),bf:=(.range 12)},{o:=fS 231 20 0,g:=some (230,false),hs:=[233,234,235,236,237,241,242,243,244,245,249,250,251,252,253],bf:=(.range 13)},{o:=lF 232 1 231,g:=some (230,false),hs:=[233,234,235,236,237,241,242,243,244,245,249,250,251,252,253],bf:=(.range 14)},{o:=mS 233 22,g:=some (230,false),hs:=[231,232,234,241,242,243,244,245,249,250,251,252,253],bf:=(.range 13)},{o:=mS 234 23,g:=some (230,false),hs:=[231,232,233,241,242,243,244,245,249,250,251,252,253],bf:=(.range 13)},{o:=xS 235 6 233 234,g:=some (230,false),hs:=[231,232,241,242,243,244,245,249,250,251,252,253],bf:=[0,1,2,3,4,5,6,7,8,9,10,11,12,15,16]},{o:=fS 236 235 4,g:=some (230,false),hs:=[231,232,241,242,243,244,245,249,250,251,252,253],bf:=[0,1,2,3,4,5,6,7,8,9,10,11,12,15,16,17]},{o:=lF 237 1 236,g:=some (230,false),hs:=[231,232,241,242,243,244,245,249,250,251,252,253],bf:=[0,1,2,3,4,5,6,7,8,9,10,11,12,15,16,17,18]},{o:=xS 238 4 232 237,g:=some (230,false),hs:=[241,242,243,244,245,249,250,251,252,253],bf:=(.range 20)},{o:=fS 239 238 2,g:=some (230,false),hs:=[241,242,243,244,245,249,250,251,252,253],bf:=(.range 21)},{o:=lF 240 1 239,g:=some (230,false),hs:=[241,242,243,244,245,249,250,251,252,253],bf:=(.range 22)},{o:=mS 241 22,g:=some (230,false),hs:=[231,232,233,234,235,236,237,238,239,240,242,249,250,251,252,253],bf:=(.range 13)},{o:=mS 242 23,g:=some (230,false),hs:=[231,232,233,234,235,236,237,238,239,240,241,249,250,251,252,253],bf:=(.range 13)},{o:=xS 243 6 241 242,g:=some (230,false),hs:=[231,232,233,234,235,236,237,238,239,240,249,250,251,252,253],bf:=[0,1,2,3,4,5,6,7,8,9,10,11,12,23,24]},{o:=fS 244 243 5,g:=some (230,false),hs:=[231,232,233,234,235,236,237,238,239,240,249,250,251,252,253],bf:=[0,1,2,3,4,5,6,7,8,9,10,11,12,23,24,25]},{o:=lF 245 1 244,g:=some (230,false),hs:=[231,232,233,234,235,236,237,238,239,240,249,250,251,252,253],bf:=[0,1,2,3,4,5,6,7,8,9,10,11,12,23,24,25,26]},{o:=xS 246 9 240 245,g:=some (230,false),hs:=[249,250,251,252,253],bf:=(.range 28)},{o:=fS 247 246 3,g:=some (230,false),hs:=[249,250,251,252,253],bf:=(.range 29)},{o:=lF 248 1 247,g:=some (230,false),hs:=[249,250,251,252,253],bf:=(.range 30)},{o:=mS 249 22,g:=some (230,false),hs:=[231,232,233,234,235,236,237,238,239,240,241,242,243,244,245,246,247,248,250],bf:=(.range 13)},{o:=mS 250 23,g:=some (230,false),hs:=[231,232,233,234,235,236,237,238,239,240,241,242,243,244,245,246,247,248,249],bf:=(.range 13)},{o:=xS 251 6 249 250,g:=some (230,false),hs:=[231,232,233,234,235,236,237,238,239,240,241,242,243,244,245,246,247,248],bf:=[0,1,2,3,4,5,6,7,8,9,10,11,12,31,32]},{o:=fS 252 251 3,g:=some (230,false),hs:=[231,232,233,234,235,236,237,238,239,240,241,242,243,244,245,246,247,248],bf:=[0,1,2,3,4,5,6,7,8,9,10,11,12,31,32,33]},{o:=lF 253 1 252,g:=some (230,false),hs:=[231,232,233,234,235,236,237,238,239,240,241,242,243,244,245,246,247,248],bf:=[0,1,2,3,4,5,6,7,8,9,10,11,12,31,32,33,34]},{o:=bS 254 .neq 248 253,g:=some (230,false),bf:=(.range 36)},{o:= .pick 255 (.s 230) cT (.s 254),g:=some (220,true),bf:=(.range 37)},{o:=mS 256 255,g:=some (220,true),bf:=(.range 38)},{o:=mS 257 23,g:=some (256,false),bf:=(.range 39)},{o:=bC 258 .gtr 257 0,g:=some (256,false),bf:=(.range 40)},{o:=mS 259 258,g:=some (256,false),bf:=(.range 41)},{o:=mS 260 22,g:=some (259,true),hs:=[261,262,266,267,268,269,270],bf:=(.range 42)},{o:=mS 261 23,g:=some (259,true),hs:=[260,266,267,268,269,270],bf:=(.range 42)},{o:=bC 262 .sub 261 1,g:=some (259,true),hs:=[260,266,267,268,269,270],bf:=[0,1,2,3,4,5,6,7,8,9,10,11,12,13,14,15,16,17,18,19,20,21,22,23,24,25,26,27,28,29,30,31,32,33,34,35,36,37,38,39,40,41,43]},{o:=xS 263 6 260 262,g:=some (259,true),hs:=[266,267,268,269,270],bf:=(.range 45)},{o:=fS 264 263 3,g:=some (259,true),hs:=[266,267,268,269,270],bf:=(.range 46)},{o:=lF 265 1 264,g:=some (259,true),hs:=[266,267,268,269,270],bf:=(.range 47)},{o:=mS 266 22,g:=some (259,true),hs:=[260,261,262,263,264,265,267],bf:=(.range 42)},{o:=mS 267 23,g:=some (259,true),hs:=[260,261,262,263,264,265,266],bf:=(.range 42)},{o:=xS 268 6 266 267,g:=some (259,true),hs:=[260,261,262,263,264,265],bf:=[0,1,2,3,4,5,6,7,8,9,10,11,12,13,14,15,16,17,18,19,20,21,22,23,24,25,26,27,28,29,30,31,32,33,34,35,36,37,38,39,40,41,48,49]},{o:=fS 269 268 3,g:=some (259,true),hs:=[260,261,262,263,264,265],bf:=[0,1,2,3,4,5,6,7,8,9,10,11,12,13,14,15,16,17,18,19,20,21,22,23,24,25,26,27,28,29,30,31,32,33,34,35,36,37,38,39,40,41,48,49,50]},{o:=lF 270 1 269,g:=some (259,true),hs:=[260,261,262,263,264,265],bf:=[0,1,2,3,4,5,6,7,8,9,10,11,12,13,14,15,16,17,18,19,20,21,22,23,24,25,26,27,28,29,30,31,32,33,34,35,36,37,38,39,40,41,48,49,50,51]},{o:=bS 271 .gtr 265 270,g:=some (259,true),bf:=(.range 53)},{o:= .pick 272 (.s 259) (.s 271) cF,g:=some (256,false),bf:=(.range 54)},{o:= .pick 273 (.s 256) cT (.s 272),g:=some (220,true),bf:=(.range 55)},Ze (.range 56) (.pick 274 (.s 220) (.s 273) cF)] [20,21,22,23,274])
(.cond (.s 274) (Zs [.mv 2 cF] [2] .ret) .skip))))
(pr [mS 209 23,bC 210 .add 209 1,mS 23 210] [20,21,22,23]))))))
(Zs [.mv 2 cT] [2] .ret))))))))))))))
set_option maxRecDepth 10000 in
set_option maxHeartbeats 4000000 in
theorem c_laws_FnDisks(b:List Int):Ctr Tryz.prog Na3 [aU b] [rB true]:=by
 refine cA M6w 47 275 [(.tmp 2,[false])] Tryz.func7 rfl rfl ?_;unfold M6w
 intro hb
 clear hb
 simp only[go_sem]
 apply K0 (Cah b)
 by_cases hbig:b.length>1048576
 ·simp only[go_sem,hbig]
 ·have hb:byts b:=by unfold byts;omega
  simp only[go_sem,hbig]
  obtain⟨⟨d,x⟩,⟨d1,d2⟩,cW⟩:=K85 b hb
  try simp only at d1 d2 cW
  apply K0 cW
  simp only[go_sem]
  intros
  apply K0 (C9a d x (by omega) (by omega))
  simp only[go_sem]
  intros
  have z1:=Kaf d x
  have z2:=K9t (K5 d x)
  have z3:=K9t (Ka (K5 d x))
  obtain⟨e,z4,cR⟩:=K7d b hb
  obtain⟨⟨g,y⟩,⟨z5,-⟩,cL⟩:=Kb7 b hb
  try simp only at z5 cL
  by_cases h1:K1j d x=true
  rotate_left
  focus
   have h1':K1j d x=false:=by simpa using h1
   simp only[go_sem,h1']
  rotate_left
  focus
   have W:=wrote_all h1
   have e1:((K5 d x).Wanted.length:Int)=1:=by rw[W.w1];rfl
   have e2:((K5 d x).Containers.length:Int)=(d.Containers.length:Int):=by rw[W.c1]
   have e3:((Kw (K5 d x)).Containers.length:Int)=(d.Containers.length:Int):=by rw[W.r1]
   have dl:d.Containers.length≤5000∧d.Index.length≤5000∧x.Captures.length≤1600:=by simp only[GDisk.size,GContainer.size]at d1 d2;omega
   have w1:IntKind.i64.wrap ((d.Containers.length:Int)+1)=((d.Containers.length+1:Nat):Int):=by rw[wI (by omega) (by omega)];omega
   have w2:IntKind.i64.wrap ((d.Index.length:Int)+(x.Captures.length:Int))=((d.Index.length+x.Captures.length:Nat):Int):=by rw[wI (by omega) (by omega)];omega
   have e4:((Ka (K5 d x)).Containers.length:Int)=((d.Containers.length+1:Nat):Int):=by rw[W.c2]
   have e5:((Kw (Ka (K5 d x))).Containers.length:Int)=((d.Containers.length+1:Nat):Int):=by rw[W.r2]
   have e6:((Kw (Ka (K5 d x))).Index.length:Int)=((d.Index.length+x.Captures.length:Nat):Int):=by rw[W.i2]
   simp only[go_sem,h1]
   apply K0 (C9 (K5 d x) (by omega))
   simp only[go_sem,W.ok1,e1,e2,bne_self_eq_false]
   apply K0 (C26 (K5 d x) (by omega))
   simp only[go_sem]
   intros
   apply K0 (C5y (K5 d x) (by omega))
   simp only[go_sem,W.n1]
   intros
   apply K0 (C26 (Ka (K5 d x)) (by omega))
   simp only[go_sem]
   intros
   apply K0 (C5y (Ka (K5 d x)) (by omega))
   simp only[go_sem]
   intros
   by_cases hc:0<x.Captures.length
   focus
    have n2:K14 (Ka (K5 d x))=true:=by rw[W.n2];simpa using hc
    have c2:(x.Captures.length:Int)>0:=by omega
    have c3:(true:Bool)=decide True:=by simp
    have e7:((Ka (Ka (K5 d x))).Index.length:Int)=((d.Index.length+x.Captures.length:Nat):Int):=by rw[W.i3 n2]
    simp only[go_sem,n2,e3,bne_self_eq_false]
    apply K0 (C9 (Ka (K5 d x)) (by omega))
    simp only[go_sem,W.ok2,e4,e5,w1,c2,bne_self_eq_false]
    refine⟨fun h=>(h c3).elim,fun _=>?_⟩
    apply K0 (C9 (Ka (Ka (K5 d x))) (by omega))
    simp only[go_sem,W.ok3 n2,e6,e7,w2,bne_self_eq_false]
   rotate_left
   focus
    have n2:K14 (Ka (K5 d x))=false:=by rw[W.n2];simpa using hc
    have c2:¬(x.Captures.length:Int)>0:=by omega
    simp only[go_sem,n2,e3,bne_self_eq_false]
    apply K0 (C9 (Ka (K5 d x)) (by omega))
    have e8:x.Captures.length=0:=by omega
    rw[e8,Nat.add_zero]at e6
    have e9:(x.Captures.length:Int)=0:=by omega
    have w3:IntKind.i64.wrap ((d.Index.length:Int)+0)=(d.Index.length:Int):=by rw[wI (by omega) (by omega)];omega
    have c0:¬(0:Int)>0:=by omega
    simp only[go_sem,W.ok2,e4,e5,e6,e9,w1,w3,c0,bne_self_eq_false]
    refine⟨fun h=>(h (by simp)).elim,fun _=>?_⟩
  all_goals
   apply K0 cR
   simp only[go_sem]
   intros
   apply K0 (C26 e (by omega))
   simp only[go_sem]
   intros
   apply K0 (C8t e (by omega))
   simp only[go_sem]
   intros
   have z6:=K8k e
   have z7:(Kw e).Containers.length+((Kw e).Containers.map GContainer.size).sum≤1073741824:=by simp only[GDisk.size]at z6 z4;omega
   have c0:¬(0:Int)>0:=by omega
   by_cases h2:Kj e=true
   rotate_left
   focus
    have h2':Kj e=false:=by simpa using h2
    apply K0 (C9 e (by omega))
    simp only[go_sem,h2']
   rotate_left
   focus
    have R:=rec_ok h2
    have r1:((Kw e).Wanted.length:Int)=0:=by rw[R.2.1];rfl
    have r2:((Kw e).Index.length:Int)=((index (Kw e).Containers).length:Int):=by rw[R.2.2]
    apply K0 (C9 e (by omega))
    simp only[go_sem,h2]
    apply K0 (C9 (Kw e) (by omega))
    simp only[go_sem,R.1,r1,c0]
    apply K0 (C14 (Kw e).Containers z7)
    simp only[go_sem,r2,bne_self_eq_false]
    intros
   all_goals
    apply K0 cL
    simp only[go_sem]
    intros
    apply K0 (Ca6 g y (by omega))
    simp only[go_sem]
    intros
    have hll:(looks g y).length≤5000:=by
     have:=List.length_filter_le (fun f=>decide (f.Address=y)) g.Index
     simp only[GDisk.size]at z5
     simp only[looks]
     omega
    refine K7 (looks g y) (fun k=>[(23,vI k)]) (fun k=>[]) (fun _=>True) (by simp only[roomB];omega) ?_
    simp only[go_sem]
    refine⟨?_,trivial,?_,?_⟩
    ·simp only[go_sem]
    ·intro k f hf _ h0 h1 hw
     have ha:=K62 hf
     subst ha
     simp only[go_sem,K4 hf,h0,h1]
     refine⟨fun h=>(h (by simp)).elim,fun _=>?_⟩
     apply K0 (C9 g (by omega))
     by_cases hg:Kj g=true
     ·obtain⟨p,q,cx,cc,m1,m2,m3⟩:=disk_mem hg (looks_mem hf)
      have t1:f.Container=p:=by rw[m3]
      have t2:f.At=q:=by rw[m3]
      have t3:f.Tick=cc.Tick:=by rw[m3]
      have pl:=Kl m1
      have ql:=Kl m2
      have p0:(0:Int)≤(p:Int):=by omega
      have p1:(p:Int)<(g.Containers.length:Int):=by omega
      have p2:¬(p:Int)≥(g.Containers.length:Int):=by omega
      have q0:(0:Int)≤(q:Int):=by omega
      have q1:(q:Int)<(cx.Captures.length:Int):=by omega
      cases k with
      |zero=>
       have k0:¬((0:Nat):Int)>0:=by omega
       simp only[go_sem,hg,K4 hf,t1,t2,t3,K4 m1,K4 m2,p0,p1,p2,q0,q1]
       have hl0:=Kl hf
       refine⟨⟨by omega,by omega⟩,⟨by omega,by omega⟩,⟨by omega,by omega⟩,⟨by omega,by omega⟩,by rw[wI (by omega) (by omega)];rfl⟩
      |succ k=>
       have hkl:=Kl hf
       obtain⟨f',hf'⟩:=Ke (show k<(looks g f.Address).length by omega)
       have hup:=looks_up hg hf' hf
       have k0:((k+1:Nat):Int)>0:=by omega
       have k1:IntKind.i64.wrap (((k+1:Nat):Int)-1)=(k:Int):=by rw[wI (by omega) (by omega)];omega
       have k2:(0:Int)≤(k:Int):=by omega
       have k3:(k:Int)<((looks g f.Address).length:Int):=by omega
       have k4:¬f'.Tick>cc.Tick:=by omega
       simp only[go_sem,hg,K4 hf,K4 hf',h0,h1,hw,t1,t2,t3,K4 m1,K4 m2,p0,p1,p2,q0,q1,k0,k1,k2,k3,k4]
       done
     ·have hg':Kj g=false:=by simpa using hg
      simp only[go_sem,hg',hw]
      done
    ·intro _
     simp only[go_sem]
end Go.Proofs.YtjneccbpkckdfaaGreatR
