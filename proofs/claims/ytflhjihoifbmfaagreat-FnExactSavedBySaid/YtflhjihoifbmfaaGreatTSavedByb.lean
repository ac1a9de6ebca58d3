/- What the functions compute that the laws of SavedBy reach: contracts. Conditions stand in each theorem. -/
import Derived.Laws.CopyRow
import Derived.Shelf.Spec.SlicesInsertGrow
import Derived.ArgAppend
import Derived.KernelRfl
import Derived.Test.YtflhjihoifbmfaaGreatTSavedBya
set_option linter.unusedVariables false
set_option linter.unusedSimpArgs false
namespace Go.Proofs.YtflhjihoifbmfaaGreatR
open Go Go.RowKit Go.Proofs
open Nat (reduceEqDiff reduceLT reduceLeDiff reduceAdd reduceMul)
open List (reduceReplicate)
attribute [go_sem] eqB
def K3i(a b:GAddress):Bool:=decide (a.Host<b.Host∨a.Host=b.Host∧(a.Path<b.Path∨a.Path=b.Path∧a.Query<b.Query))
def cmpI(x y:Int):Int:=if x<y then -1 else if y<x then 1 else 0
def K4r(a b:GFound):Int:=if K3i a.Address b.Address=true then -1 else if K3i b.Address a.Address=true then 1 else cmpI a.Tick b.Tick
def K1j(a b:GFound):Bool:=decide (a.Address.Host<b.Address.Host∨a.Address.Host=b.Address.Host∧(a.Address.Path<b.Address.Path∨a.Address.Path=b.Address.Path∧(a.Address.Query<b.Address.Query∨a.Address.Query=b.Address.Query∧a.Tick<b.Tick)))
theorem K6o:ltc K4r=K1j:=by
 funext a b
 unfold ltc K4r K1j K3i cmpI
 rw[Bool.eq_iff_iff]
 simp only[decide_eq_true_eq]
 split
 ·simp;omega
 ·split
  ·simp;omega
  ·split
   ·simp;omega
   ·split<;>simp<;>omega
theorem fndSwo:Srt.Swo (ltc K4r):=by
 rw[K6o]
 constructor
 ·intro x y h
  simp only[K1j,decide_eq_true_eq,decide_eq_false_iff_not]at*
  omega
 ·intro x y z h
  simp only[K1j,decide_eq_true_eq]at*
  omega
def fnd1(i:Nat):Nat→List GCapture→List GFound
 |_,[]=>[]
 |k,c::cs=>⟨c.Address,c.Tick,i,k⟩::fnd1 i (k+1) cs
def fnds:Nat→List GContainer→List GFound
 |_,[]=>[]
 |i,x::xs=>fnd1 i 0 x.Captures++fnds (i+1) xs
theorem K84{i:Nat}:∀ {cs:List GCapture} {k m:Nat} {c:GCapture},cs[k]? =some c→fnd1 i m (cs.take (k+1))=fnd1 i m (cs.take k)++[⟨c.Address,c.Tick,i,(m+k:Nat)⟩]
 | [],_,_,_,h=>by simp at h
 |c::cs,0,m,d,h=>by
  simp only[List.getElem?_cons_zero,Option.some.injEq]at h
  subst h
  simp[fnd1]
 |c::cs,k+1,m,d,h=>by
  simp only[List.getElem?_cons_succ]at h
  rw[List.take_succ_cons,List.take_succ_cons,fnd1,fnd1,K84 h,List.cons_append,show m+1+k=m+(k+1)by omega]
theorem K2x:∀ {l:List GContainer} {k m:Nat} {x:GContainer},l[k]? =some x→fnds m (l.take (k+1))=fnds m (l.take k)++fnd1 (m+k) 0 x.Captures
 | [],_,_,_,h=>by simp at h
 |c::cs,0,m,d,h=>by
  simp only[List.getElem?_cons_zero,Option.some.injEq]at h
  subst h
  simp[fnds]
 |c::cs,k+1,m,d,h=>by
  simp only[List.getElem?_cons_succ]at h
  rw[List.take_succ_cons,List.take_succ_cons,fnds,fnds,K2x h,List.append_assoc,show m+1+k=m+(k+1)by omega]
theorem K57{i:Nat}:∀ {cs:List GCapture} {k:Nat},(fnd1 i k cs).length=cs.length
 | [],_=>rfl
 |c::cs,k=>by rw[fnd1,List.length_cons,K57,List.length_cons]
theorem K94:∀ {l:List GContainer} {m:Nat},(fnds m l).length=(l.map fun x=>x.Captures.length).sum
 | [],_=>rfl
 |x::l,m=>by rw[fnds,List.length_append,K57,K94,List.map_cons,List.sum_cons]
def index(l:List GContainer):List GFound:=Srt.isort K1j (fnds 0 l)
theorem fndSwo':Srt.Swo K1j:=K6o▸fndSwo
theorem K9r{m:Nat}:∀ {l:List GContainer},(fnds m l).length≤(l.map GContainer.size).sum:=by
 intro l
 rw[K94]
 induction l with
 |nil=>simp
 |cons x l ih=>simp only[List.map_cons,List.sum_cons,GContainer.size];omega
theorem K69{l:List GContainer}{i k:Nat}{x:GContainer}(hx:l[i]? =some x):(fnds 0 (l.take i)++fnd1 i 0 (x.Captures.take k)).length≤(l.map GContainer.size).sum:=by
 have h1:(fnds 0 (l.take (i+1))).length≤(l.map GContainer.size).sum:=Nat.le_trans K9r (K1b l (i+1))
 rw[K2x hx,List.length_append,K57]at h1
 rw[List.length_append,K57,List.length_take]
 omega
theorem K85{l:List GContainer}{i k:Nat}{x:GContainer}{c:GCapture}(hc:x.Captures[k]? =some c):fnds 0 (l.take i)++fnd1 i 0 (x.Captures.take (k+1))=fnds 0 (l.take i)++fnd1 i 0 (x.Captures.take k)++[⟨c.Address,c.Tick,i,k⟩]:=by
 rw[K84 hc,List.append_assoc,Nat.zero_add]
theorem cutA{α:Type}{f:α→List T}{l:List α}{m:Nat}(h:m≤l.length):(if ((m:Int)-0).toNat=l.length then l.map f else List.take ((m:Int)-0).toNat (l.map f))=(l.take m).map f:=by
 rw[show((m:Int)-0).toNat=m by omega]
 split
 ·rename_i e;rw[List.take_of_length_le (by omega)]
 ·rw[List.map_take]
theorem cutB{α:Type}{f:α→List T}{l:List α}{m:Nat}(h:m≤l.length):(if m=0∧((l.length:Int)-(m:Int)).toNat=l.length then l.map f else List.take ((l.length:Int)-(m:Int)).toNat (List.drop m (l.map f)))=(l.drop m).map f:=by
 rw[show((l.length:Int)-(m:Int)).toNat=l.length-m by omega]
 split
 ·rename_i e;rw[e.1];rfl
 ·rw[List.take_of_length_le (by simp),List.map_drop]
namespace Srt
variable {α:Type} {lt:α→α→Bool}
theorem ins_at{l:List α}(hw:Swo lt)(hs:srt lt l){x:α}{n:Nat}(h1:∀z∈l.drop n,lt x z=true)(h2:n=0∨∃y,l[n-1]? =some y∧lt x y=false):ins lt x l=l.take n++[x]++l.drop n:=by
 have e:ins lt x (l.take n++l.drop n)=l.take n++x::l.drop n:=by
  refine ins_mid ?_ (fun a ha=>h1 a (List.mem_of_mem_head? ha))
  intro a ha
  rcases h2 with rfl|⟨y,hy,h⟩
  ·simp at ha
  ·obtain⟨i,hi⟩:=List.mem_iff_getElem?.1 ha
   rw[List.getElem?_take]at hi
   split at hi
   ·rename_i hlt
    by_cases hin:i=n-1
    ·subst hin
     obtain rfl:=Option.some.inj (hi.symm.trans hy)
     exact h
    ·obtain⟨h1,rfl⟩:=List.getElem?_eq_some_iff.1 hi
     obtain⟨h2,rfl⟩:=List.getElem?_eq_some_iff.1 hy
     exact hw.ntr h ((List.pairwise_iff_getElem.1 hs) i (n-1) h1 h2 (by omega))
   ·cases hi
 rw[List.take_append_drop]at e
 rw[e];simp
theorem drop_step{l:List α}{x:α}{n:Nat}{y:α}(hn:0<n)(hy:l[n-1]? =some y)(h:∀z∈l.drop n,lt x z=true)(hx:lt x y=true):∀z∈l.drop (n-1),lt x z=true:=by
 obtain⟨h1,rfl⟩:=List.getElem?_eq_some_iff.1 hy
 rw[List.drop_eq_getElem_cons h1,show n-1+1=n by omega]
 intro z hz
 rcases List.mem_cons.1 hz with rfl|hz
 ·exact hx
 ·exact h z hz
end Srt
def M1i:MC:=
(Zs [.box 2 0 (.s 0),.box 3 1 (.s 1),.mv 4 cF] [2,3] (.seq (.block 0 (Zs [fS 6 2 0,lF 7 1 6,fS 8 3 0,lF 9 1 8,bS 10 .neq 7 9,mS 5 10] [2,3,5] (.cond (.s 5) (Zs [fS 11 2 0,lF 12 1 11,fS 13 3 0,lF 14 1 13,bS 15 .lss 12 14,mS 4 15] [4] .ret) (Zs [fS 17 2 1,lF 18 1 17,fS 19 3 1,lF 20 1 19,bS 21 .neq 18 20,mS 16 21] [2,3,16] (.cond (.s 16) (Zs [fS 22 2 1,lF 23 1 22,fS 24 3 1,lF 25 1 24,bS 26 .lss 23 25,mS 4 26] [4] .ret) .skip)))))
(Zs [fS 27 2 2,lF 28 1 27,fS 29 3 2,lF 30 1 29,bS 31 .lss 28 30,mS 4 31] [4] .ret)))
theorem C6t(a b:GAddress):Ctr Tryz.prog Ny [aS a.enc,aS b.enc] [rB (K3i a b)]:=by
 refine cA M1i 2 32 [(.tmp 4,[false])] Tryz.func204 rfl rfl ?_;unfold M1i
 intro hb
 clear hb
 simp only[go_sem]
 repeat' first
  |(refine And.intro ?_ ?_<;>intro h)
 all_goals (unfold K3i;first|(symm;rw[decide_eq_false_iff_not];omega)|(rw[Bool.eq_iff_iff];simp only[decide_eq_true_eq];omega))
def M1j:MC:=
(Zs [.box 2 0 (.s 0),.box 3 1 (.s 1),.mv 4 cF] [2,3] (.seq (Zs [fS 5 2 0,lF 6 1 5,fS 7 3 0,lF 8 1 7,bS 9 .neq 6 8] [2,3,9] (.cond (.s 9) (Zs [fS 10 2 0,lF 11 1 10,fS 12 3 0,lF 13 1 12,bS 14 .lss 11 13,mS 4 14] [4] .ret) .skip))
(.seq (Zs [fS 15 2 1,lF 16 1 15,fS 17 3 1,lF 18 1 17,bS 19 .neq 16 18] [2,3,19] (.cond (.s 19) (Zs [fS 20 2 1,lF 21 1 20,fS 22 3 1,lF 23 1 22,bS 24 .lss 21 23,mS 4 24] [4] .ret) .skip))
(Zs [fS 25 2 2,lF 26 1 25,fS 27 3 2,lF 28 1 27,bS 29 .lss 26 28,mS 4 29] [4] .ret))))
theorem C6v(a b:GAddress):Ctr Tryz.prog N1m [aS a.enc,aS b.enc] [rB (K3i a b)]:=by
 refine cA M1j 2 30 [(.tmp 4,[false])] Tryz.func226 rfl rfl ?_;unfold M1j
 intro hb
 clear hb
 simp only[go_sem]
 repeat' first
  |(refine And.intro ?_ ?_<;>intro h)
 all_goals (unfold K3i;first|(symm;rw[decide_eq_false_iff_not];omega)|(rw[Bool.eq_iff_iff];simp only[decide_eq_true_eq];omega))
def M4u:MC:=
(Zs [.box 2 0 (.s 0),.box 3 1 (.s 1),.mv 4 cF] [2,3] (.seq (Zs [fS 5 2 0,lT 6 3 5,fS 7 3 0,lT 8 3 7,.eqA 9 true [.i .i64,.i .i64,.i .i64] (.s 6) (.s 8)] [2,3,9] (.cond (.s 9) (Zs [fS 10 2 0,lT 11 3 10,fS 12 3 0,lT 13 3 12,.call 14 [] (.f N1m) [.s 11,.s 13],mS 4 14] [4] .ret) .skip))
(Zs [fS 15 2 3,lF 16 1 15,fS 17 3 3,lF 18 1 17,bS 19 .lss 16 18,mS 4 19] [4] .ret)))
theorem C99(a b:GFound):Ctr Tryz.prog N5b [aS a.enc,aS b.enc] [rB (K1j a b)]:=by
 refine cA M4u 2 20 [(.tmp 4,[false])] Tryz.func199 rfl rfl ?_;unfold M4u
 intro hb
 clear hb
 simp only[go_sem]
 repeat' first
  |(refine And.intro ?_ ?_<;>intro h)
  |(apply K0 (C6v _ _);simp only[go_sem])
 all_goals (simp only[K1j,K3i];rw[Bool.eq_iff_iff];simp only[decide_eq_true_eq];simp at h;omega)
def M5f:MC:=
(Zs [.mv 2 cF] [0] (Zs [mS 3 0,mS 4 0,bS 5 .neq 3 4,mS 2 5] [2] .ret))
theorem Caa(x:Int):Ctr Tryz.prog N1k [aI x] [rB false]:=by
 refine cA M5f 0 6 [(.tmp 2,[false])] Tryz.func228 rfl rfl ?_;unfold M5f
 intro hb
 clear hb
 simp only[go_sem]
def M3b:MC:=
(Zs [.mv 4 (ci 0)] [0,1] (Zs [mS 7 0,.call 8 [] (.f N1k) [.s 7],mS 5 8] [0,1,5] (Zs [mS 9 1,.call 10 [] (.f N1k) [.s 9],mS 6 10] [0,1,5,6] (.seq (Zs [mS 11 5] [0,1,6,11] (.cond (.s 11) (.seq (Zs [mS 12 6] [12] (.cond (.s 12) (Zs [.mv 4 (ci 0)] [4] .ret) .skip))
(Zs [.mv 4 (.c (.int .i64 (-1)))] [4] .ret)) .skip))
(.seq (Zs [mS 13 6] [0,1,13] (.cond (.s 13) (Zs [.mv 4 (ci 1)] [4] .ret) .skip))
(.seq (Zs [mS 14 0,mS 15 1,bS 16 .lss 14 15] [0,1,16] (.cond (.s 16) (Zs [.mv 4 (.c (.int .i64 (-1)))] [4] .ret) .skip))
(.seq (Zs [mS 17 0,mS 18 1,bS 19 .gtr 17 18] [19] (.cond (.s 19) (Zs [.mv 4 (ci 1)] [4] .ret) .skip))
(Zs [.mv 4 (ci 0)] [4] .ret))))))))
theorem Ca3(x y:Int):Ctr Tryz.prog N3u [aI x,aI y] [rI (cmpI x y)]:=by
 refine cA M3b 0 20 [(.tmp 4,[false])] Tryz.func205 rfl rfl ?_;unfold M3b
 intro hb
 clear hb
 simp only[go_sem]
 repeat' first
  |(refine And.intro ?_ ?_<;>intro h)
  |(apply K0 (Caa _);simp only[go_sem])
 all_goals (unfold cmpI;first|rfl|(repeat' split)<;>first|rfl|omega)
def M1r:MC:=
(Zs [.box 2 0 (.s 0),.box 3 1 (.s 1),.mv 4 (ci 0)] [2,3] (.seq (.block 0 (Zs [fS 6 2 0,lT 7 3 6,fS 8 3 0,lT 9 3 8,.call 10 [] (.f Ny) [.s 7,.s 9],mS 5 10] [2,3,5] (.cond (.s 5) (Zs [.mv 4 (.c (.int .i64 (-1)))] [4] .ret) (Zs [fS 12 3 0,lT 13 3 12,fS 14 2 0,lT 15 3 14,.call 16 [] (.f Ny) [.s 13,.s 15],mS 11 16] [2,3,11] (.cond (.s 11) (Zs [.mv 4 (ci 1)] [4] .ret) .skip)))))
(Zs [fS 17 2 3,lF 18 1 17,fS 19 3 3,lF 20 1 19,.call 21 [] (.f N3u) [.s 18,.s 20],mS 4 21] [4] .ret)))
theorem C7f(a b:GFound):Ctr Tryz.prog N26 [aS a.enc,aS b.enc] [rI (K4r a b)]:=by
 refine cA M1r 2 22 [(.tmp 4,[false])] Tryz.func203 rfl rfl ?_;unfold M1r
 intro hb
 clear hb
 simp only[go_sem]
 repeat' first
  |(refine And.intro ?_ ?_<;>intro h)
  |(apply K0 (C6t _ _);simp only[go_sem])
  |(apply K0 (Ca3 _ _);simp only[go_sem])
 all_goals (unfold K4r;simp_all)
def M3c:MC:=
(Zs [.nilo 2 0 6] [0] (Zs [.nilo 3 0 6] [0,3] (.seq (Zs [mS 8 0,nS 9 8,.mv 10 (ci 0)] [3,8,9,10] (.block 0 (.loop ([3,8,9,10],[1,2,3]) (Zs [bS 11 .lss 10 9] [3,8,9,10,11] (.seq (cX 11 0)
(.seq (.block 1 (Zs [mS 12 10,xS 13 4 8 10,lT 14 4 13,.alloc 5 1 [.emp 4,.emp 5,.emp 9,pz],mS 4 12,sS 4 5 14] [3,4,5,8,9,10] (Zs [fS 15 5 2,lF 16 1 15,nS 17 16,.mv 18 (ci 0)] [3,4,8,9,10,16,17,18] (.block 2 (.loop ([3,4,8,9,10,16,17,18],[1,2,3]) (Zs [bS 19 .lss 18 17] [3,4,8,9,10,16,17,18,19] (.seq (cX 19 2)
(.seq (.block 3 (Zs [mS 20 18,xS 21 9 16 18,lT 22 9 21,.alloc 7 2 [pz,pz,pz,pz,pz,.emp 1,pz,pz,pz],mS 6 20,sS 9 7 22] [3,4,6,7,8,9,10,16,17,18] (pr [mS 23 3,fS 24 7 0,lT 25 3 24,fS 26 7 3,lF 27 1 26,mS 28 4,mS 29 6,.build 30 [pz,pz,pz,pz,pz,pz] [(0,3,.s 25),(3,1,.s 27),(4,1,.s 28),(5,1,.s 29)],.lit 31 3 6 48 [.s 30],.app 32 0 6 48 (.s 23) (.s 31),mS 3 32] [3,4,8,9,10,16,17,18])))
(pr [bC 33 .add 18 1,mS 18 33] [3,4,8,9,10,16,17,18])))))))))
(pr [bC 34 .add 10 1,mS 10 34] [3,8,9,10])))))))
(Zs [mS 35 3,.callI 36 [] (.f N6) [.s 35,.f N26] [0] []] [3] (Zs [mS 37 3,mS 2 37] [2] .ret)))))
theorem C89(l:List GContainer)(hs:l.length+(l.map GContainer.size).sum≤1073741824):Ctr Tryz.prog N3v [aL 4 (l.map GContainer.enc)] [rL 6 ((index l).map GFound.enc)]:=by
 refine cA M3c 4 38 [(.tmp 2,[true])] Tryz.func158 rfl rfl ?_;unfold M3c
 intro hb
 clear hb
 simp only[go_sem]
 refine K3 l (fun i=>[(3,.val false [.ref 0 0 6 0 (fnds 0 (l.take i)).length]),(10,vI i)]) (fun i=>[(0,⟨0,.row true 6 ((fnds 0 (l.take i)).map GFound.enc)⟩)]) (fun _=>True) (by simp only[roomB];omega) ?_
 simp only[go_sem]
 refine⟨?_,trivial,?_,?_⟩
 ·simp only[go_sem,List.take_zero]
  exact⟨rfl,rfl⟩
 ·intro i x hx _ h0 h1 hw
  have hx1:=K15 (f:=GContainer.size) (Ku hx)
  have hi:=K6 hx
  have hxl:x.Captures.length≤x.size:=by simp only[GContainer.size];omega
  simp only[go_sem,K4 hx,h0,h1]
  refine K3 x.Captures (fun k=>[(3,.val false [.ref 0 0 6 0 (fnds 0 (l.take i)++fnd1 i 0 (x.Captures.take k)).length]),(18,vI k)]) (fun k=>[(0,⟨0,.row true 6 ((fnds 0 (l.take i)++fnd1 i 0 (x.Captures.take k)).map GFound.enc)⟩)]) (fun _=>True) (by simp only[roomB];omega) ?_
  simp only[go_sem]
  refine⟨?_,trivial,?_,?_⟩
  ·simp only[go_sem,List.take_zero]
   exact⟨by simp[fnd1],by simp[fnd1]⟩
  ·intro k c hc _ h2 h3 hw2
   have hn:=K69 (k:=k) hx
   simp only[go_sem,K4 hc,h2,h3,hw2,K85 hc]
   exact⟨by simp only[roomB];omega,by simp only[roomB];omega,by simp only[List.length_append,List.length_cons,List.length_nil],by simp[GFound.enc]⟩
  ·intro _
   simp only[go_sem,List.take_length,hw]
   exact⟨by rw[K2x hx,Nat.zero_add],by rw[K2x hx,Nat.zero_add]⟩
 ·intro _
  simp only[go_sem,List.take_length]
  apply K7 (C5d (fnds 0 l) _ K4r C7f fndSwo)
  simp only[go_sem]
  exact⟨Srt.len_isort.symm,by rw[index,K6o]⟩
def M3r:MC:=
(Zs [.nilo 2 0 6] [0] (Zs [.lit 8 0 6 48 [],mS 3 8] [0,3] (.seq (Zs [.mv 4 (ci 0)] [0,3,4] (.block 0 (.loop ([0,3,4],[1,2,3]) (.seq (Zs [mS 9 4,mS 10 0,nS 11 10,bS 12 .lss 9 11] [0,3,4,12] (cX 12 0))
(.seq (.block 1 (Zs [.mv 5 (ci 0)] [0,3,4,5] (.block 2 (.loop ([0,3,4,5],[1,2,3]) (.seq (Zs [mS 15 5,mS 16 0,mS 17 4,xS 18 4 16 17,fS 19 18 2,lF 20 1 19,nS 21 20,bS 22 .lss 15 21] [0,3,4,5,22] (cX 22 2))
(.seq (.block 3 (.seq (.dreg [Zf [6,26,30,34,35,36,37,38,39,40,41,42,43,44] [1] (mS 25 0),Zf [6,25,30,34,35,36,37,38,39,40,41,42,43,44] [1] (mS 26 4),Zg [6,30,34,35,36,37,38,39,40,41,42,43,44] [1] [0,1] (xS 27 4 25 26),Zg [6,30,34,35,36,37,38,39,40,41,42,43,44] [1] [0,1,2] (fS 28 27 2),Zg [6,30,34,35,36,37,38,39,40,41,42,43,44] [1] (.range 4) (lF 29 1 28),Zf [6,25,26,27,28,29,34,35,36,37,38,39,40,41,42,43,44] [1] (mS 30 5),Zg [6,34,35,36,37,38,39,40,41,42,43,44] [1] (.range 6) (xS 31 9 29 30),Zg [6,34,35,36,37,38,39,40,41,42,43,44] [1] (.range 7) (fS 32 31 0),Zg [6,34,35,36,37,38,39,40,41,42,43,44] [1] (.range 8) (lT 33 3 32),Zf [6,25,26,27,28,29,30,31,32,33,35,39,43,44] [1] (mS 34 0),Zf [6,25,26,27,28,29,30,31,32,33,34,39,43,44] [1] (mS 35 4),Zg [6,25,26,27,28,29,30,31,32,33,39,43,44] [1] [9,10] (xS 36 4 34 35),Zg [6,25,26,27,28,29,30,31,32,33,39,43,44] [1] [9,10,11] (fS 37 36 2),Zg [6,25,26,27,28,29,30,31,32,33,39,43,44] [1] [9,10,11,12] (lF 38 1 37),Zf [6,25,26,27,28,29,30,31,32,33,34,35,36,37,38,43,44] [1] (mS 39 5),Zg [6,25,26,27,28,29,30,31,32,33,43,44] [1] [9,10,11,12,13,14] (xS 40 9 38 39),Zg [6,25,26,27,28,29,30,31,32,33,43,44] [1] [9,10,11,12,13,14,15] (fS 41 40 3),Zg [6,25,26,27,28,29,30,31,32,33,43,44] [1] [9,10,11,12,13,14,15,16] (lF 42 1 41),Zf [6,25,26,27,28,29,30,31,32,33,34,35,36,37,38,39,40,41,42,44] [1] (mS 43 4),Zf [6,25,26,27,28,29,30,31,32,33,34,35,36,37,38,39,40,41,42,43] [1] (mS 44 5),Zg [6] [1] (.range 20) (.build 45 [pz,pz,pz,pz,pz,pz] [(0,3,.s 33),(3,1,.s 42),(4,1,.s 43),(5,1,.s 44)]),{o:= .alloc 6 1 [pz,pz,pz,pz,pz,pz],hs:=[25,26,27,28,29,30,31,32,33,34,35,36,37,38,39,40,41,42,43,44,45],ws:=[1]},{o:=sS 6 6 45,ws:=[1],bf:=(.range 22)}] [0,3,4,5,6])
(Zs [mS 46 3,nS 47 46,mS 7 47] [0,3,4,5,6,7] (.seq (.block 4 (.loop ([0,3,4,5,6,7],[2,3]) (.seq (.seq (.dreg [Za (mS 48 7),Ze [0] (bC 49 .gtr 48 0),Ze [0,1] (mS 50 49),{o:=lT 51 6 6,g:=some (50,true),hs:=[52,53,54,55,56],bf:=[0,1,2]},{o:=mS 52 3,g:=some (50,true),hs:=[51,53,54],bf:=[0,1,2]},{o:=mS 53 7,g:=some (50,true),hs:=[51,52],bf:=[0,1,2]},{o:=bC 54 .sub 53 1,g:=some (50,true),hs:=[51,52],bf:=[0,1,2,5]},{o:=xS 55 6 52 54,g:=some (50,true),hs:=[51],bf:=[0,1,2,4,5,6]},{o:=lT 56 6 55,g:=some (50,true),hs:=[51],bf:=[0,1,2,4,5,6,7]},{o:= .call 57 [] (.f N5b) [.s 51,.s 56],g:=some (50,true),bf:=(.range 9)},Ze (.range 10) (.pick 58 (.s 50) (.s 57) cF)] [0,3,4,5,6,7,58])
(cX 58 4))
(.block 5 (pr [mS 59 7,bC 60 .sub 59 1,mS 7 60] [0,3,4,5,6,7])))))
(.dreg [{o:= .lit 61 2 6 48 [],hs:=[62,63,64,66,67,69,70,71],ho:=[3],ws:=[2]},Zf [61,63,66,67,69,70,71] [2,3] (mS 62 3),Zf [61,62,66,67,69,70,71] [2,3] (mS 63 7),Zg [61,66,67,69,70,71] [2,3] [1,2] (.slc 64 6 (.s 62) none (some (.s 63)) none),{o:= .app 65 2 6 48 (.s 61) (.s 64),hs:=[66,67,69,70,71],ho:=[3],ws:=[2],bf:=(.range 4)},Zf [61,62,63,64,65,69,70,71] [2] (lT 66 6 6),{o:= .lit 67 3 6 48 [.s 66],hs:=[61,62,63,64,65,69,70,71],ho:=[2],ws:=[3],bf:=[5]},{o:= .app 68 2 6 48 (.s 65) (.s 67),hs:=[69,70,71],ws:=[2],bf:=(.range 7)},Zf [61,62,63,64,65,66,67,68,70] [2,3] (mS 69 3),Zf [61,62,63,64,65,66,67,68,69] [2,3] (mS 70 7),Zg [61,62,63,64,65,66,67,68] [2,3] [8,9] (.slc 71 6 (.s 69) (some (.s 70)) none none),{o:= .app 72 0 6 48 (.s 68) (.s 71),ws:=[0,2],bf:=(.range 11)},Ze (.range 12) (mS 3 72)] [0,3,4,5])))))
(pr [mS 23 5,bC 24 .add 23 1,mS 5 24] [0,3,4,5])))))))
(pr [mS 13 4,bC 14 .add 13 1,mS 4 14] [0,3,4]))))))
(Zs [mS 73 3,mS 2 73] [2] .ret))))
theorem C8k(l:List GContainer)(hs:l.length+(l.map GContainer.size).sum≤1073741824):Ctr Tryz.prog N4a [aL 4 (l.map GContainer.enc)] [rL 6 ((index l).map GFound.enc)]:=by
 refine cA M3r 4 74 [(.tmp 2,[true])] Tryz.func153 rfl rfl ?_;unfold M3r
 intro hb
 clear hb
 simp only[go_sem]
 refine K3 l (fun i=>[(3,.val false [.ref 0 0 6 0 (Srt.isort K1j (fnds 0 (l.take i))).length]),(4,vI i)]) (fun i=>[(0,⟨0,.row true 6 ((Srt.isort K1j (fnds 0 (l.take i))).map GFound.enc)⟩)]) (fun _=>True) (by simp only[roomB];omega) ?_
 simp only[go_sem]
 refine⟨?_,trivial,?_,?_⟩
 ·simp only[go_sem,List.take_zero]
  exact⟨rfl,rfl⟩
 ·intro i x hx _ h0 h1 hw
  have hx1:=K15 (f:=GContainer.size) (Ku hx)
  have hi:=K6 hx
  have hxl:x.Captures.length≤x.size:=by simp only[GContainer.size];omega
  simp only[go_sem,h1]
  refine K3 x.Captures (fun k=>[(3,.val false [.ref 0 0 6 0 (Srt.isort K1j (fnds 0 (l.take i)++fnd1 i 0 (x.Captures.take k))).length]),(5,vI k)]) (fun k=>[(0,⟨0,.row true 6 ((Srt.isort K1j (fnds 0 (l.take i)++fnd1 i 0 (x.Captures.take k))).map GFound.enc)⟩)]) (fun _=>True) (by simp only[roomB];omega) ?_
  simp only[go_sem]
  refine⟨?_,trivial,?_,?_⟩
  ·simp only[go_sem,List.take_zero]
   exact⟨by simp[fnd1],by simp[fnd1]⟩
  ·intro k c hc _ h2 h3 hw2
   have hn:=K69 (k:=k) hx
   obtain⟨y,hy⟩:∃y:GFound,y=⟨c.Address,c.Tick,i,k⟩:=⟨_,rfl⟩
   obtain⟨out,hout⟩:∃out,out=Srt.isort K1j (fnds 0 (l.take i)++fnd1 i 0 (x.Captures.take k)):=⟨_,rfl⟩
   have hsr:Srt.srt K1j out:=hout▸Srt.srt_isort fndSwo' _
   have hol:out.length≤(l.map GContainer.size).sum:=by rw[hout,Srt.len_isort];exact hn
   have hst:Srt.isort K1j (fnds 0 (l.take i)++fnd1 i 0 (x.Captures.take (k+1)))=Srt.ins K1j y out:=by
    rw[K85 hc,Srt.isort_snoc,←hout,←hy]
   have hye:([tI c.Address.Host,tI c.Address.Path,tI c.Address.Query,tI c.Tick,tI (i:Int),tI (k:Int)]:List T)=y.enc:=by rw[hy];rfl
   rw[hst,←hout]
   simp only[go_sem,K4 hx,K4 hc,h0,h1,h2,h3,hw]
   refine Kt (fun n:Nat=>[(7,vI n)]) (fun n=>[]) (fun n=>n≤out.length∧∀z∈out.drop n,K1j y z=true) (fun n=>n) out.length ?_
   simp only[go_sem]
   refine⟨?_,⟨Nat.le_refl _,by simp⟩,?_⟩
   ·simp only[go_sem]
   ·rintro n ⟨hn1,hn2⟩
    simp only[go_sem]
    refine⟨fun hpos=>?_,fun hzero=>?_⟩
    ·obtain⟨m,hm⟩:∃m,m=n-1:=⟨_,rfl⟩
     obtain⟨z,hz⟩:=Ke (show m<out.length by omega)
     have e1:IntKind.i64.wrap ((n:Int)-1)=(m:Int):=by rw[wI (by omega) (by omega)];omega
     rw[e1]
     simp only[go_sem,K4 hz]
     refine⟨⟨by omega,by omega⟩,?_⟩
     apply K0 (C99 ⟨c.Address,c.Tick,(i:Int),(k:Int)⟩ z)
     simp only[go_sem]
     rw[e1]
     refine⟨fun ht=>⟨m,rfl,⟨by omega,?_⟩,by omega⟩,fun hf=>?_⟩
     ·rw[hm]
      exact Srt.drop_step (by omega) (hm▸hz) hn2 (hy▸ht)
     ·have hstop:n=0∨∃y',out[n-1]? =some y'∧K1j y y'=false:= .inr ⟨z,hm▸hz,hy▸hf⟩
      rw[cutA hn1]
      refine⟨by omega,by omega,?_⟩
      have hA:(out.take n).length=n:=by rw[List.length_take];omega
      have hB:out.length=n+(out.drop n).length:=by rw[List.length_drop];omega
      have eC:=cutB (f:=GFound.enc) hn1
      have e5:List.map GFound.enc (out.take n)++[[T.sc (Value.int IntKind.i64 c.Address.Host),T.sc (Value.int IntKind.i64 c.Address.Path),T.sc (Value.int IntKind.i64 c.Address.Query),T.sc (Value.int IntKind.i64 c.Tick),T.sc (Value.int IntKind.i64 (i:Int)),T.sc (Value.int IntKind.i64 (k:Int))]]=(out.take n++[y]).map GFound.enc:=by rw[hy];simp[GFound.enc]
      have e6:((out.take n++[y]).map GFound.enc).length=(out.take n).length+1:=by simp
      simp only[go_sem,↓K2w (f:=GFound.enc) (fun _=>rfl) (out.take n),↓eC,↓e5,↓e6,↓K2w (f:=GFound.enc) (fun _=>rfl) (out.drop n)]
      rw[Srt.ins_at fndSwo' hsr hn2 hstop]
      simp only[roomB]
      exact⟨by omega,by omega,by omega,⟨by omega,by omega,by omega⟩,by omega,by omega,⟨by simp only[List.length_append,List.length_cons,List.length_nil],hw2⟩,by rw[←List.map_append]⟩
    ·have hstop:n=0∨∃y',out[n-1]? =some y'∧K1j y y'=false:= .inl (by omega)
     rw[cutA hn1]
     refine⟨by omega,by omega,?_⟩
     have hA:(out.take n).length=n:=by rw[List.length_take];omega
     have hB:out.length=n+(out.drop n).length:=by rw[List.length_drop];omega
     have eC:=cutB (f:=GFound.enc) hn1
     have e5:List.map GFound.enc (out.take n)++[[T.sc (Value.int IntKind.i64 c.Address.Host),T.sc (Value.int IntKind.i64 c.Address.Path),T.sc (Value.int IntKind.i64 c.Address.Query),T.sc (Value.int IntKind.i64 c.Tick),T.sc (Value.int IntKind.i64 (i:Int)),T.sc (Value.int IntKind.i64 (k:Int))]]=(out.take n++[y]).map GFound.enc:=by rw[hy];simp[GFound.enc]
     have e6:((out.take n++[y]).map GFound.enc).length=(out.take n).length+1:=by simp
     simp only[go_sem,↓K2w (f:=GFound.enc) (fun _=>rfl) (out.take n),↓eC,↓e5,↓e6,↓K2w (f:=GFound.enc) (fun _=>rfl) (out.drop n)]
     rw[Srt.ins_at fndSwo' hsr hn2 hstop]
     simp only[roomB]
     exact⟨by omega,by omega,by omega,⟨by omega,by omega,by omega⟩,by omega,by omega,⟨by simp only[List.length_append,List.length_cons,List.length_nil],hw2⟩,by rw[←List.map_append]⟩
  ·intro _
   simp only[go_sem,List.take_length,K4 hx,h0,h1,hw,Int.lt_irrefl]
   exact⟨by rw[K2x hx,Nat.zero_add],by rw[K2x hx,Nat.zero_add]⟩
 ·intro _
  simp only[go_sem,List.take_length]
  rfl
end Go.Proofs.YtflhjihoifbmfaaGreatR
namespace Go.Proofs.YtflhjihoifbmfaaGreatR
open Go Go.RowKit Go.Proofs
open Nat (reduceEqDiff reduceLT reduceLeDiff reduceAdd reduceMul)
open List (reduceReplicate)
end Go.Proofs.YtflhjihoifbmfaaGreatR
namespace Go.Proofs.YtflhjihoifbmfaaGreatR
open Go Go.RowKit Go.Proofs
open Nat (reduceEqDiff reduceLT reduceLeDiff reduceAdd reduceMul)
open List (reduceReplicate)
end Go.Proofs.YtflhjihoifbmfaaGreatR
namespace Go.Proofs.YtflhjihoifbmfaaGreatR
open Go Go.RowKit Go.Proofs
open Nat (reduceEqDiff reduceLT reduceLeDiff reduceAdd reduceMul)
open List (reduceReplicate)
end Go.Proofs.YtflhjihoifbmfaaGreatR
namespace Go.Proofs.YtflhjihoifbmfaaGreatR
open Go Go.RowKit Go.Proofs
open Nat (reduceEqDiff reduceLT reduceLeDiff reduceAdd reduceMul)
open List (reduceReplicate)
end Go.Proofs.YtflhjihoifbmfaaGreatR
namespace Go.Proofs.YtflhjihoifbmfaaGreatR
open Go Go.RowKit Go.Proofs
open Nat (reduceEqDiff reduceLT reduceLeDiff reduceAdd reduceMul)
open List (reduceReplicate)
attribute [go_sem] eqB
def M6d:MC:=
(Zs [.mv 4 cF] [0,1] (.seq (Zs [mS 6 0,nS 7 6,mS 8 1,nS 9 8,bS 10 .neq 7 9] [0,1,10] (.cond (.s 10) (Zs [.mv 4 cF] [4] .ret) .skip))
(.seq (Zs [.mv 5 (ci 0)] [0,1,5] (.block 0 (.loop ([0,1,5],[]) (.seq (Zs [mS 11 5,mS 12 0,nS 13 12,bS 14 .lss 11 13] [0,1,5,14] (cX 14 0))
(.seq (.block 1 (.seq (.dreg [Zc [18,21,22,23,24] (mS 17 0),Zc [17,21,22,23,24] (mS 18 5),Zd [21,22,23,24] [0,1] (xS 19 6 17 18),Zd [21,22,23,24] [0,1,2] (lT 20 6 19),Zc [17,18,19,20,22] (mS 21 1),Zc [17,18,19,20,21] (mS 22 5),Zd [17,18,19,20] [4,5] (xS 23 6 21 22),Zd [17,18,19,20] [4,5,6] (lT 24 6 23),Ze (.range 8) (.eqA 25 true [.i .i64,.i .i64,.i .i64,.i .i64,.i .i64,.i .i64] (.s 20) (.s 24))] [0,1,5,25])
(.cond (.s 25) (Zs [.mv 4 cF] [4] .ret) .skip)))
(pr [mS 15 5,bC 16 .add 15 1,mS 5 16] [0,1,5]))))))
(Zs [.mv 4 cT] [4] .ret))))
theorem Ca1(xs ys:List GFound):Ctr Tryz.prog N6r [aL 6 (xs.map GFound.enc),aL 6 (ys.map GFound.enc)] [rB (decide (xs=ys))]:=by
 refine cA M6d 0 26 [(.tmp 4,[false])] Tryz.func152 rfl rfl ?_;unfold M6d
 intro hb
 simp only[bdA,bdL,bdT,Kg,roomB,and_true,List.length_map]at hb
 obtain⟨⟨hl,-⟩,⟨hl2,-⟩⟩:=hb
 simp only[go_sem]
 refine⟨fun h=>K25 h,fun h=>?_⟩
 have hle:xs.length=ys.length:=by omega
 refine K3 xs (fun k=>[(5,vI k)]) (fun k=>[]) (fun k=>xs.take k=ys.take k) hl ?_
 simp only[go_sem]
 refine⟨?_,rfl,?_,?_⟩
 ·simp only[go_sem]
 ·intro k x hx he h0 h1 hw
  obtain⟨y,hy⟩:=Ke (show k<ys.length by omega)
  have h2:(k:Int)<ys.length:=by omega
  simp only[go_sem,K4 hx,K4 hy,h0,h1,h2,hw]
  exact⟨fun hn=>K2p hx hy (by rintro rfl;simp at hn),fun hn=>(Ko hx hy he).2 (by exact GFound.eqv.2 (by simpa using hn))⟩
 ·intro he
  simp only[go_sem]
  exact K24 he hle
end Go.Proofs.YtflhjihoifbmfaaGreatR
namespace Go.Proofs.YtflhjihoifbmfaaGreatR
open Go Go.RowKit Go.Proofs
open Nat (reduceEqDiff reduceLT reduceLeDiff reduceAdd reduceMul)
open List (reduceReplicate)
end Go.Proofs.YtflhjihoifbmfaaGreatR
namespace Go.Proofs.YtflhjihoifbmfaaGreatR
open Go Go.RowKit Go.Proofs
open Nat (reduceEqDiff reduceLT reduceLeDiff reduceAdd reduceMul)
open List (reduceReplicate)
def modP(v:Int):Int:=(IntKind.i64.wrap (v.tmod 2147483647+2147483647)).tmod 2147483647
def hstep(h v:Int):Int:=(IntKind.i64.wrap (IntKind.i64.wrap (IntKind.i64.wrap (h*1000003)+modP v)+13)).tmod 2147483647
def hashL(l:List Int):Int:=l.foldl hstep 11
theorem K75{l:List Int}{k:Nat}{x:Int}(h:l[k]? =some x):hashL (l.take (k+1))=hstep (hashL (l.take k)) x:=by
 rw[Kj h,hashL,List.foldl_append];rfl
theorem K3s:¬(2147483647:Int)=0:=by decide
def Y14(v0:Nat):MC:=
(Zs [.mv 4 (ci 0)] [0,1] (.seq (Zs [mS 5 1,.call 6 [] (.f v0) [.s 5,.c (.int .i64 1),.c (.int .i64 1000000000000)],.un 7 .not (.s 6)] [0,1,7] (.cond (.s 7) (Zs [.mv 4 (ci 0)] [4] .ret) .skip))
(Zs [mS 8 0,mS 9 1,bS 10 .rem 8 9,mS 11 1,bS 12 .add 10 11,mS 13 1,bS 14 .rem 12 13,mS 4 14] [4] .ret)))
attribute [go_sem] Y14
def M9l:MC:=Y14 N10
theorem Cai(v:Int):Ctr Tryz.prog N9p [aI v,aI 2147483647] [rI (modP v)]:=by
 refine cA M9l 0 15 [(.tmp 4,[false])] Tryz.func201 rfl rfl ?_;unfold M9l
 intro hb
 clear hb
 simp only[go_sem]
 apply K0 (Cu _ _ _)
 simp only[go_sem,K3s]
 refine And.intro ?_ ?_<;>intro h
 ·exact absurd (by decide) h
 ·rfl
def M9i:MC:=Y14 Nw
theorem Caf(v:Int):Ctr Tryz.prog N9m [aI v,aI 2147483647] [rI (modP v)]:=by
 refine cA M9i 0 15 [(.tmp 4,[false])] Tryz.func207 rfl rfl ?_;unfold M9i
 intro hb
 clear hb
 simp only[go_sem]
 apply K0 (Cb _ _ _)
 simp only[go_sem,K3s]
 refine And.intro ?_ ?_<;>intro h
 ·exact absurd (by decide) h
 ·rfl
def M8q:MC:=
(Zs [.mv 2 (ci 0)] [0] (Zs [.mv 3 (ci 11)] [0,3] (.seq (Zs [.mv 4 (ci 0)] [0,3,4] (.block 0 (.loop ([0,3,4],[]) (.seq (Zs [mS 5 4,mS 6 0,nS 7 6,bS 8 .lss 5 7] [0,3,4,8] (cX 8 0))
(.seq (.block 1 (pr [mS 11 3,bC 12 .mul 11 1000003,mS 13 0,mS 14 4,xS 15 1 13 14,lF 16 1 15,.call 17 [] (.f N9p) [.s 16,.c (.int .i64 2147483647)],bS 18 .add 12 17,bC 19 .add 18 13,bC 20 .rem 19 2147483647,mS 3 20] [0,3,4]))
(pr [mS 9 4,bC 10 .add 9 1,mS 4 10] [0,3,4]))))))
(Zs [mS 21 3,mS 2 21] [2] .ret))))
theorem Cae(l:List Int):Ctr Tryz.prog N8v [aL 1 (l.map encI)] [rI (hashL l)]:=by
 refine cA M8q 0 22 [(.tmp 2,[false])] Tryz.func155 rfl rfl ?_;unfold M8q
 intro hb
 simp only[bdA,bdL,bdT,Kg,roomB,and_true,List.length_map]at hb
 have hl:=hb.1
 clear hb
 simp only[go_sem]
 refine K3 l (fun k=>[(3,vI (hashL (l.take k))),(4,vI k)]) (fun k=>[]) (fun _=>True) hl ?_
 simp only[go_sem]
 refine⟨?_,trivial,?_,?_⟩
 ·simp only[go_sem,List.take_zero]
  rfl
 ·intro k x hx _ h0 h1 hw
  simp only[go_sem,K4 hx,h0,h1,K75 hx]
  apply K0 (Cai _)
  simp only[go_sem,hw,K3s]
  try intro _
  rfl
 ·intro _
  simp only[go_sem,List.take_length]
def M8n:MC:=
(Zs [.mv 2 (ci 0)] [0] (Zs [.mv 3 (ci 11)] [0,3] (.seq (Zs [mS 6 0,nS 7 6,.mv 8 (ci 0)] [3,6,7,8] (.block 0 (.loop ([3,6,7,8],[]) (Zs [bS 9 .lss 8 7] [3,6,7,8,9] (.seq (cX 9 0)
(.seq (.block 1 (Zs [xS 10 1 6 8,lF 11 1 10,mS 5 11] [3,5,6,7,8] (pr [mS 12 3,bC 13 .mul 12 1000003,mS 14 5,.call 15 [] (.f N9m) [.s 14,.c (.int .i64 2147483647)],bS 16 .add 13 15,bC 17 .add 16 13,bC 18 .rem 17 2147483647,mS 3 18] [3,6,7,8])))
(pr [bC 19 .add 8 1,mS 8 19] [3,6,7,8])))))))
(Zs [mS 20 3,mS 2 20] [2] .ret))))
theorem Cab(l:List Int):Ctr Tryz.prog N8s [aL 1 (l.map encI)] [rI (hashL l)]:=by
 refine cA M8n 0 21 [(.tmp 2,[false])] Tryz.func160 rfl rfl ?_;unfold M8n
 intro hb
 simp only[bdA,bdL,bdT,Kg,roomB,and_true,List.length_map]at hb
 have hl:=hb.1
 clear hb
 simp only[go_sem]
 refine K3 l (fun k=>[(3,vI (hashL (l.take k))),(8,vI k)]) (fun k=>[]) (fun _=>True) hl ?_
 simp only[go_sem]
 refine⟨?_,trivial,?_,?_⟩
 ·simp only[go_sem,List.take_zero]
  rfl
 ·intro k x hx _ h0 h1 hw
  simp only[go_sem,K4 hx,h0,h1,K75 hx]
  apply K0 (Caf _)
  simp only[go_sem,hw,K3s]
  try intro _
  rfl
 ·intro _
  simp only[go_sem,List.take_length]
end Go.Proofs.YtflhjihoifbmfaaGreatR
namespace Go.Proofs.YtflhjihoifbmfaaGreatR
open Go Go.RowKit Go.Proofs
open Nat (reduceEqDiff reduceLT reduceLeDiff reduceAdd reduceMul)
open List (reduceReplicate)
def K39(r:GResource):List Int:=[r.Kind,r.To.Host,r.To.Path,r.To.Query,r.Body.length]++r.Body
def Y15:MC:=
(Zs [.box 1 0 (.s 0),.nilo 2 1 1] [1] (Zs [fS 3 1 0,lF 4 1 3,fS 5 1 2,fS 6 5 0,lF 7 1 6,fS 8 1 2,fS 9 8 1,lF 10 1 9,fS 11 1 2,fS 12 11 2,lF 13 1 12,fS 14 1 1,lF 15 1 14,nS 16 15,.lit 17 1 1 8 [.s 4,.s 7,.s 10,.s 13,.s 16],fS 18 1 1,lF 19 1 18,.app 20 1 1 8 (.s 17) (.s 19),mS 2 20] [2] .ret))
attribute [go_sem] Y15
def M25:MC:=Y15
theorem C7o(r:GResource)(hs:r.Body.length≤1073741824):Ctr Tryz.prog N2g [aS r.enc] [rL 1 ((K39 r).map encI)]:=by
 refine cA M25 2 21 [(.tmp 2,[true])] Tryz.func156 rfl rfl ?_;unfold M25
 intro hb
 clear hb
 simp only[go_sem,↓K2w (f:=encI) (fun _=>rfl) r.Body]
 simp only[roomB]
 refine⟨by decide,by omega,?_⟩
 simp[K39,encI]
 omega
def M1t:MC:=Y15
theorem C7g(r:GResource)(hs:r.Body.length≤1073741824):Ctr Tryz.prog N28 [aS r.enc] [rL 1 ((K39 r).map encI)]:=by
 refine cA M1t 2 21 [(.tmp 2,[true])] Tryz.func161 rfl rfl ?_;unfold M1t
 intro hb
 clear hb
 simp only[go_sem,↓K2w (f:=encI) (fun _=>rfl) r.Body]
 simp only[roomB]
 refine⟨by decide,by omega,?_⟩
 simp[K39,encI]
 omega
end Go.Proofs.YtflhjihoifbmfaaGreatR
namespace Go.Proofs.YtflhjihoifbmfaaGreatR
open Go Go.RowKit Go.Proofs
open Nat (reduceEqDiff reduceLT reduceLeDiff reduceAdd reduceMul)
open List (reduceReplicate)
end Go.Proofs.YtflhjihoifbmfaaGreatR
namespace Go.Proofs.YtflhjihoifbmfaaGreatR
open Go Go.RowKit Go.Proofs
open Nat (reduceEqDiff reduceLT reduceLeDiff reduceAdd reduceMul)
open List (reduceReplicate)
def whole(d:GDisk):Bool:=decide (d.Index=index d.Containers)
def Y16(v0:Nat)(v1:Nat):MC:=
(Zs [.box 1 0 (.s 0),.mv 2 cF] [1] (.seq (.dreg [Zf [5,6,7] [1] (fS 3 1 1),Zg [5,6,7] [1] [0] (lF 4 1 3),Zc [3,4] (fS 5 1 0),Zd [3,4] [2] (lF 6 1 5),{o:= .call 7 [1] (.f v0) [.s 6],hs:=[3,4],ws:=[1],bf:=[2,3]},Ze (.range 5) (.call 8 [] (.f v1) [.s 4,.s 7]),Ze (.range 6) (mS 2 8)] [2])
.ret))
attribute [go_sem] Y16
def M1s:MC:=Y16 N3v Nf
theorem C9t(d:GDisk)(hs:d.size≤1073741824):Ctr Tryz.prog N27 [aS d.enc] [rB (whole d)]:=by
 refine cA M1s 2 9 [(.tmp 2,[false])] Tryz.func102 rfl rfl ?_;unfold M1s
 intro hb
 clear hb
 simp only[GDisk.size]at hs
 simp only[go_sem]
 apply K0 (C89 d.Containers (by omega))
 simp only[go_sem]
 intros
 apply K0 (C6u _ _)
 simp only[go_sem]
 intros
 rfl
def M5p:MC:=Y16 N4a N6r
theorem C9h(d:GDisk)(hs:d.size≤1073741824):Ctr Tryz.prog N5x [aS d.enc] [rB (whole d)]:=by
 refine cA M5p 2 9 [(.tmp 2,[false])] Tryz.func95 rfl rfl ?_;unfold M5p
 intro hb
 clear hb
 simp only[GDisk.size]at hs
 simp only[go_sem]
 apply K0 (C8k d.Containers (by omega))
 simp only[go_sem]
 intros
 apply K0 (Ca1 _ _)
 simp only[go_sem]
 intros
 rfl
theorem take_sz{l:List GContainer}{n N:Nat}(h:l.length+(l.map GContainer.size).sum≤N):(l.take n).length+((l.take n).map GContainer.size).sum≤N:=by
 have h1:=List.length_take_le n l
 have h2:=K1b (f:=GContainer.size) l n
 have h3:(l.take n).length≤l.length:=by rw[List.length_take];omega
 omega
end Go.Proofs.YtflhjihoifbmfaaGreatR
namespace Go.Proofs.YtflhjihoifbmfaaGreatR
open Go Go.RowKit Go.Proofs
open Nat (reduceEqDiff reduceLT reduceLeDiff reduceAdd reduceMul)
open List (reduceReplicate)
def isExcl(x:GExclusion):Bool:=decide ((1≤x.Host∧x.Host≤9)∧(-1≤x.Path∧x.Path≤99)∧(0≤x.From∧x.From≤x.Until)∧x.Until≤2000∧(0≤x.Asked∧x.Asked≤2000))
def hidesB(x:GExclusion)(c:GCapture):Bool:=isExcl x&&decide (c.Address.Host=x.Host∧(x.Path= -1∨c.Address.Path=x.Path)∧x.From≤c.Tick∧c.Tick≤x.Until)
def hiddenBy(x:GExclusion)(c:GCapture)(now:Int):Bool:=decide (x.Asked≤now)&&hidesB x c
def hiddenIn(c:GCapture)(l:List GExclusion)(now:Int):Bool:=l.any fun x=>hiddenBy x c now
def visible(cs:List GCapture)(l:List GExclusion)(now:Int):List GCapture:=cs.filter fun c=> !hiddenIn c l now
end Go.Proofs.YtflhjihoifbmfaaGreatR
namespace Go.Proofs.YtflhjihoifbmfaaGreatR
open Go Go.RowKit Go.Proofs
open Nat (reduceEqDiff reduceLT reduceLeDiff reduceAdd reduceMul)
open List (reduceReplicate)
def Kq(l:List GContainer):List GCapture:=l.flatMap fun x=>x.Captures
theorem K1v{l:List GContainer}{k:Nat}{x:GContainer}(h:l[k]? =some x):Kq (l.take (k+1))=Kq (l.take k)++x.Captures:=by
 rw[Kj h,Kq,List.flatMap_append];simp[Kq]
theorem K49:∀ {l:List GContainer},(Kq l).length+((Kq l).map GCapture.size).sum≤(l.map GContainer.size).sum
 | []=>by simp[Kq]
 |x::l=>by
  have:=K49 (l:=l)
  simp only[Kq,List.flatMap_cons,List.length_append,List.map_append,List.sum_append,List.map_cons,List.sum_cons,GContainer.size]at*
  omega
theorem K2t{l:List GContainer}{k:Nat}{x:GContainer}(h:l[k]? =some x):(Kq (l.take k)).length+x.Captures.length≤(l.map GContainer.size).sum:=by
 have h1:=K49 (l:=l.take (k+1))
 have h2:=K1b (f:=GContainer.size) l (k+1)
 rw[K1v h,List.length_append]at h1
 omega
theorem K2u{l:List GContainer}{k:Nat}{x:GContainer}(h:l[k]? =some x):x.Captures.length+(x.Captures.map GCapture.size).sum≤(l.map GContainer.size).sum:=by
 have h1:=K15 (f:=GContainer.size) (Ku h)
 simp only[GContainer.size]at h1 ⊢
 omega
def told(d:GDisk):List GContainer:=if whole d then d.Containers else d.Containers.dropLast
def Km(a:GArchive):List GCapture:=Kq (told a.Disk)
theorem K9l{d:GDisk}(h:whole d=true):told d=d.Containers:=by unfold told;rw[h];rfl
theorem K66{d:GDisk}(h:whole d=false):told d=d.Containers.take (d.Containers.length-1):=by unfold told;rw[h,List.dropLast_eq_take];rfl
theorem at_take{α:Type}{l:List α}{n k:Nat}{x:α}(h:(l.take n)[k]? =some x):l[k]? =some x:=by
 rw[List.getElem?_take]at h
 split at h
 ·exact h
 ·cases h
def M2k:MC:=
(Zs [.box 1 0 (.s 0),.nilo 2 1 9] [1] (Zs [fS 7 1 2,fS 8 7 0,lF 9 1 8,mS 3 9] [1,3] (.seq (.seq (.reg [Za (fS 10 1 2),Za (lT 11 3 10),Za (.call 12 [] (.f N27) [.s 11]),Za (.un 13 .not (.s 12)),Za (mS 14 13),Zb 14 true (mS 15 3),Zb 14 true (nS 16 15),Zb 14 true (bC 17 .gtr 16 0),Za (.pick 18 (.s 14) (.s 17) cF)] [3,18])
(.cond (.s 18) (pr [mS 19 3,mS 20 3,nS 21 20,bC 22 .sub 21 1,.slc 23 4 (.s 19) none (some (.s 22)) none,mS 3 23] [3]) .skip))
(Zs [.nilo 4 1 9] [3,4] (.seq (Zs [mS 24 3,nS 25 24,.mv 26 (ci 0)] [4,24,25,26] (.block 0 (.loop ([4,24,25,26],[0,2,3]) (Zs [bS 27 .lss 26 25] [4,24,25,26,27] (.seq (cX 27 0)
(.seq (.block 1 (Zs [xS 28 4 24 26,lT 29 4 28,.alloc 6 2 [.emp 4,.emp 5,.emp 9,pz],sS 4 6 29] [4,6,24,25,26] (pr [mS 30 4,fS 31 6 2,lF 32 1 31,.call 33 [3] (.f N29) [.s 32],.app 34 1 9 88 (.s 30) (.s 33),mS 4 34] [4,24,25,26])))
(pr [bC 35 .add 26 1,mS 26 35] [4,24,25,26])))))))
(Zs [mS 36 4,mS 2 36] [2] .ret))))))
theorem C7q(a:GArchive)(hs:a.size≤1073741824):Ctr Tryz.prog N2t [aS a.enc] [rL 9 ((Km a).map GCapture.enc)]:=by
 refine cA M2k 4 37 [(.tmp 2,[true])] Tryz.func51 rfl rfl ?_;unfold M2k
 intro hb
 clear hb
 have hsd:a.Disk.size≤1073741824:=by simp only[GArchive.size]at hs;omega
 have hsz:a.Disk.Containers.length+(a.Disk.Containers.map GContainer.size).sum≤1073741824:=by simp only[GDisk.size]at hsd;omega
 have hsz2:=take_sz (n:=a.Disk.Containers.length-1) hsz
 have hw1:(a.Disk.Containers.length:Int)>0→IntKind.i64.wrap ((a.Disk.Containers.length:Int)-1)=((a.Disk.Containers.length-1:Nat):Int):=fun h=>by rw[wI (by omega) (by omega)];omega
 simp only[go_sem]
 apply K0 (C9t a.Disk hsd)
 simp only[go_sem]
 repeat' first
  |(refine And.intro ?_ ?_<;>intro h)
 ·rename_i hN
  have eL:(a.Disk.Containers.take (a.Disk.Containers.length-1)).length=a.Disk.Containers.length-1:=by rw[List.length_take];omega
  rw[hw1 h,cutA (by omega)]
  refine⟨⟨by omega,by omega,by omega⟩,?_⟩
  try simp only[go_sem,eL]
  refine K3 (a.Disk.Containers.take (a.Disk.Containers.length-1)) (fun k=>[(4,.val false [.ref 1 0 9 0 (Kq ((a.Disk.Containers.take (a.Disk.Containers.length-1)).take k)).length]),(26,vI k)]) (fun k=>[(1,⟨0,.row true 9 ((Kq ((a.Disk.Containers.take (a.Disk.Containers.length-1)).take k)).map GCapture.enc)⟩)]) (fun _=>True) (by simp only[roomB];omega) ?_
  simp only[go_sem]
  refine⟨?_,trivial,?_,?_⟩
  ·simp only[go_sem,List.take_zero]
   exact⟨rfl,rfl⟩
  ·intro k x hx _ h0 h1 hw
   have hq:=K2t hx
   have hq2:=K2u hx
   have hx3:a.Disk.Containers[k]? =some x:=at_take hx
   have hx2:(k:Int)<((a.Disk.Containers.length-1:Nat):Int):=by have:=K6 hx;rw[List.length_take]at this;omega
   have hx4:(k:Int)<a.Disk.Containers.length:=by have:=K6 hx3;omega
   simp only[go_sem,K4 hx,hx2,h0,h1]
   apply K0 (C11 x.Captures (by omega))
   by_cases hf:flat (x.Captures.map GCapture.enc)=true
   all_goals
    simp only[go_sem,hw,hf,K1v hx,List.length_append]
    simp only[roomB]
    exact⟨by omega,fun _=>by rw[List.map_append]⟩
  ·intro _
   simp only[go_sem,eL,Int.lt_irrefl,List.take_take,Nat.min_self]
   rw[Km,K66 hN]
 ·rename_i hN
  have eL:True:=trivial
  have hC0:a.Disk.Containers=[]:=List.length_eq_zero_iff.1 (by omega)
  refine K3 (a.Disk.Containers) (fun k=>[(4,.val false [.ref 1 0 9 0 (Kq ((a.Disk.Containers).take k)).length]),(26,vI k)]) (fun k=>[(1,⟨0,.row true 9 ((Kq ((a.Disk.Containers).take k)).map GCapture.enc)⟩)]) (fun _=>True) (by simp only[roomB];omega) ?_
  simp only[go_sem]
  refine⟨?_,trivial,?_,?_⟩
  ·simp only[go_sem,List.take_zero]
   exact⟨rfl,rfl⟩
  ·intro k x hx _ h0 h1 hw
   have hq:=K2t hx
   have hq2:=K2u hx
   have hx3:a.Disk.Containers[k]? =some x:=hx
   have hx2:(k:Int)<(a.Disk.Containers.length:Int):=by have:=K6 hx;omega
   have hx4:(k:Int)<a.Disk.Containers.length:=by have:=K6 hx3;omega
   simp only[go_sem,K4 hx,hx2,h0]
   apply K0 (C11 x.Captures (by omega))
   by_cases hf:flat (x.Captures.map GCapture.enc)=true
   all_goals
    simp only[go_sem,hw,hf,K1v hx,List.length_append]
    simp only[roomB]
    exact⟨by omega,fun _=>by rw[List.map_append]⟩
  ·intro _
   simp only[go_sem,List.take_length,Int.lt_irrefl]
   rw[Km,K66 hN,hC0]
   rfl
 ·have eL:True:=trivial
  refine K3 (a.Disk.Containers) (fun k=>[(4,.val false [.ref 1 0 9 0 (Kq ((a.Disk.Containers).take k)).length]),(26,vI k)]) (fun k=>[(1,⟨0,.row true 9 ((Kq ((a.Disk.Containers).take k)).map GCapture.enc)⟩)]) (fun _=>True) (by simp only[roomB];omega) ?_
  simp only[go_sem]
  refine⟨?_,trivial,?_,?_⟩
  ·simp only[go_sem,List.take_zero]
   exact⟨rfl,rfl⟩
  ·intro k x hx _ h0 h1 hw
   have hq:=K2t hx
   have hq2:=K2u hx
   have hx3:a.Disk.Containers[k]? =some x:=hx
   have hx2:(k:Int)<(a.Disk.Containers.length:Int):=by have:=K6 hx;omega
   have hx4:(k:Int)<a.Disk.Containers.length:=by have:=K6 hx3;omega
   simp only[go_sem,K4 hx,hx2,h0]
   apply K0 (C11 x.Captures (by omega))
   by_cases hf:flat (x.Captures.map GCapture.enc)=true
   all_goals
    simp only[go_sem,hw,hf,K1v hx,List.length_append]
    simp only[roomB]
    exact⟨by omega,fun _=>by rw[List.map_append]⟩
  ·intro _
   simp only[go_sem,List.take_length,Int.lt_irrefl]
   rw[Km,K9l h]
def M2s:MC:=
(Zs [.box 1 0 (.s 0),.nilo 2 1 9] [1] (Zs [fS 6 1 2,fS 7 6 0,lF 8 1 7,nS 9 8,mS 3 9] [1,3] (.seq (.seq (.reg [Za (fS 10 1 2),Za (lT 11 3 10),Za (.call 12 [] (.f N5x) [.s 11]),Za (.un 13 .not (.s 12)),Za (mS 14 13),Zb 14 true (mS 15 3),Zb 14 true (bC 16 .gtr 15 0),Za (.pick 17 (.s 14) (.s 16) cF)] [1,3,17])
(.cond (.s 17) (pr [mS 18 3,bC 19 .sub 18 1,mS 3 19] [1,3]) .skip))
(Zs [.lit 20 1 9 88 [],mS 4 20] [1,3,4] (.seq (Zs [.mv 5 (ci 0)] [1,3,4,5] (.block 0 (.loop ([1,3,4,5],[2]) (.seq (Zs [mS 21 5,mS 22 3,bS 23 .lss 21 22] [1,3,4,5,23] (cX 23 0))
(.seq (.block 1 (pr [mS 26 4,fS 27 1 2,fS 28 27 0,lF 29 1 28,mS 30 5,xS 31 4 29 30,fS 32 31 2,lF 33 1 32,.call 34 [2] (.f N6q) [.s 33],.app 35 1 9 88 (.s 26) (.s 34),mS 4 35] [1,3,4,5]))
(pr [mS 24 5,bC 25 .add 24 1,mS 5 25] [1,3,4,5]))))))
(Zs [mS 36 4,mS 2 36] [2] .ret))))))
theorem C83(a:GArchive)(hs:a.size≤1073741824):Ctr Tryz.prog N31 [aS a.enc] [rL 9 ((Km a).map GCapture.enc)]:=by
 refine cA M2s 3 37 [(.tmp 2,[true])] Tryz.func49 rfl rfl ?_;unfold M2s
 intro hb
 clear hb
 have hsd:a.Disk.size≤1073741824:=by simp only[GArchive.size]at hs;omega
 have hsz:a.Disk.Containers.length+(a.Disk.Containers.map GContainer.size).sum≤1073741824:=by simp only[GDisk.size]at hsd;omega
 have hsz2:=take_sz (n:=a.Disk.Containers.length-1) hsz
 have hw1:(a.Disk.Containers.length:Int)>0→IntKind.i64.wrap ((a.Disk.Containers.length:Int)-1)=((a.Disk.Containers.length-1:Nat):Int):=fun h=>by rw[wI (by omega) (by omega)];omega
 simp only[go_sem]
 apply K0 (C9h a.Disk hsd)
 simp only[go_sem]
 repeat' first
  |(refine And.intro ?_ ?_<;>intro h)
 ·rename_i hN
  have eL:(a.Disk.Containers.take (a.Disk.Containers.length-1)).length=a.Disk.Containers.length-1:=by rw[List.length_take];omega
  rw[hw1 h]
  refine K3 (a.Disk.Containers.take (a.Disk.Containers.length-1)) (fun k=>[(4,.val false [.ref 1 0 9 0 (Kq ((a.Disk.Containers.take (a.Disk.Containers.length-1)).take k)).length]),(5,vI k)]) (fun k=>[(1,⟨0,.row true 9 ((Kq ((a.Disk.Containers.take (a.Disk.Containers.length-1)).take k)).map GCapture.enc)⟩)]) (fun _=>True) (by simp only[roomB];omega) ?_
  simp only[go_sem]
  refine⟨?_,trivial,?_,?_⟩
  ·simp only[go_sem,List.take_zero]
   exact⟨rfl,rfl⟩
  ·intro k x hx _ h0 h1 hw
   have hq:=K2t hx
   have hq2:=K2u hx
   have hx3:a.Disk.Containers[k]? =some x:=at_take hx
   have hx2:(k:Int)<((a.Disk.Containers.length-1:Nat):Int):=by have:=K6 hx;rw[List.length_take]at this;omega
   have hx4:(k:Int)<a.Disk.Containers.length:=by have:=K6 hx3;omega
   simp only[go_sem,K4 hx3,hx2,hx4,h0]
   apply K0 (C2h x.Captures (by omega))
   by_cases hf:flat (x.Captures.map GCapture.enc)=true
   all_goals
    simp only[go_sem,hw,hf,K1v hx,List.length_append]
    simp only[roomB]
    exact⟨by omega,fun _=>by rw[List.map_append]⟩
  ·intro _
   simp only[go_sem,eL,Int.lt_irrefl,List.take_take,Nat.min_self]
   rw[Km,K66 hN]
 ·rename_i hN
  have eL:True:=trivial
  have hC0:a.Disk.Containers=[]:=List.length_eq_zero_iff.1 (by omega)
  refine K3 (a.Disk.Containers) (fun k=>[(4,.val false [.ref 1 0 9 0 (Kq ((a.Disk.Containers).take k)).length]),(5,vI k)]) (fun k=>[(1,⟨0,.row true 9 ((Kq ((a.Disk.Containers).take k)).map GCapture.enc)⟩)]) (fun _=>True) (by simp only[roomB];omega) ?_
  simp only[go_sem]
  refine⟨?_,trivial,?_,?_⟩
  ·simp only[go_sem,List.take_zero]
   exact⟨rfl,rfl⟩
  ·intro k x hx _ h0 h1 hw
   have hq:=K2t hx
   have hq2:=K2u hx
   have hx3:a.Disk.Containers[k]? =some x:=hx
   have hx2:(k:Int)<(a.Disk.Containers.length:Int):=by have:=K6 hx;omega
   have hx4:(k:Int)<a.Disk.Containers.length:=by have:=K6 hx3;omega
   simp only[go_sem,K4 hx3,hx2,h0]
   apply K0 (C2h x.Captures (by omega))
   by_cases hf:flat (x.Captures.map GCapture.enc)=true
   all_goals
    simp only[go_sem,hw,hf,K1v hx,List.length_append]
    simp only[roomB]
    exact⟨by omega,fun _=>by rw[List.map_append]⟩
  ·intro _
   simp only[go_sem,List.take_length,Int.lt_irrefl]
   rw[Km,K66 hN,hC0]
   rfl
 ·have eL:True:=trivial
  refine K3 (a.Disk.Containers) (fun k=>[(4,.val false [.ref 1 0 9 0 (Kq ((a.Disk.Containers).take k)).length]),(5,vI k)]) (fun k=>[(1,⟨0,.row true 9 ((Kq ((a.Disk.Containers).take k)).map GCapture.enc)⟩)]) (fun _=>True) (by simp only[roomB];omega) ?_
  simp only[go_sem]
  refine⟨?_,trivial,?_,?_⟩
  ·simp only[go_sem,List.take_zero]
   exact⟨rfl,rfl⟩
  ·intro k x hx _ h0 h1 hw
   have hq:=K2t hx
   have hq2:=K2u hx
   have hx3:a.Disk.Containers[k]? =some x:=hx
   have hx2:(k:Int)<(a.Disk.Containers.length:Int):=by have:=K6 hx;omega
   have hx4:(k:Int)<a.Disk.Containers.length:=by have:=K6 hx3;omega
   simp only[go_sem,K4 hx3,hx2,h0]
   apply K0 (C2h x.Captures (by omega))
   by_cases hf:flat (x.Captures.map GCapture.enc)=true
   all_goals
    simp only[go_sem,hw,hf,K1v hx,List.length_append]
    simp only[roomB]
    exact⟨by omega,fun _=>by rw[List.map_append]⟩
  ·intro _
   simp only[go_sem,List.take_length,Int.lt_irrefl]
   rw[Km,K9l h]
theorem K3y(a:GArchive):(Km a).length+((Km a).map GCapture.size).sum≤a.size:=by
 have h:(Km a).length+((Km a).map GCapture.size).sum≤(a.Disk.Containers.map GContainer.size).sum:=by
  unfold Km told
  split
  ·exact K49
  ·rw[List.dropLast_eq_take]
   exact Nat.le_trans K49 (K1b _ _)
 simp only[GArchive.size,GDisk.size]
 omega
def seen(a:GArchive):List GCapture:=visible (Km a) a.Exclusions a.Now
def served(a:GArchive):List GCapture:=(seen a).drop ((seen a).length-20)
theorem K9u{α:Type}{f:α→Nat}(l:List α)(k:Nat):((l.drop k).map f).sum≤(l.map f).sum:=by
 conv=>rhs;rw[←List.take_append_drop k l]
 rw[List.map_append,List.sum_append]
 omega
end Go.Proofs.YtflhjihoifbmfaaGreatR
namespace Go.Proofs.YtflhjihoifbmfaaGreatR
open Go Go.RowKit Go.Proofs
open Nat (reduceEqDiff reduceLT reduceLeDiff reduceAdd reduceMul)
open List (reduceReplicate)
def put:List Int→Int→List Int
 | [],n=>[n]
 |x::l,n=>if x<n then x::put l n else if x=n then x::l else n::x::l
def puts(zs:List Int):List Int:=zs.foldl put []
end Go.Proofs.YtflhjihoifbmfaaGreatR
namespace Go.Proofs.YtflhjihoifbmfaaGreatR
open Go Go.RowKit Go.Proofs
open Nat (reduceEqDiff reduceLT reduceLeDiff reduceAdd reduceMul)
open List (reduceReplicate)
end Go.Proofs.YtflhjihoifbmfaaGreatR
namespace Go.Proofs.YtflhjihoifbmfaaGreatR
open Go Go.RowKit Go.Proofs
open Nat (reduceEqDiff reduceLT reduceLeDiff reduceAdd reduceMul)
open List (reduceReplicate)
end Go.Proofs.YtflhjihoifbmfaaGreatR
namespace Go.Proofs.YtflhjihoifbmfaaGreatR
open Go Go.RowKit Go.Proofs
open Nat (reduceEqDiff reduceLT reduceLeDiff reduceAdd reduceMul)
open List (reduceReplicate)
def ticks(l:List GCapture)(a:GAddress):List Int:=(l.filter fun c=>decide (c.Address=a)).map (·.Tick)
def lo(a:GArchive)(x:GAddress):List Int:=puts (ticks (served a) x)
end Go.Proofs.YtflhjihoifbmfaaGreatR
namespace Go.Proofs.YtflhjihoifbmfaaGreatR
open Go Go.RowKit Go.Proofs
open Nat (reduceEqDiff reduceLT reduceLeDiff reduceAdd reduceMul)
open List (reduceReplicate)
end Go.Proofs.YtflhjihoifbmfaaGreatR
namespace Go.Proofs.YtflhjihoifbmfaaGreatR
open Go Go.RowKit Go.Proofs
open Nat (reduceEqDiff reduceLT reduceLeDiff reduceAdd reduceMul)
open List (reduceReplicate)
def digest(r:GResource):Int:=hashL (K39 r)
def M5g:MC:=
(Zs [.box 1 0 (.s 0),.mv 2 (ci 0)] [1] (Zs [lT 3 5 1,.call 4 [1] (.f N28) [.s 3],.call 5 [] (.f N8s) [.s 4],mS 2 5] [2] .ret))
theorem C1h(r:GResource)(hs:r.Body.length≤1073741824):Ctr Tryz.prog N1l [aS r.enc] [rI (digest r)]:=by
 refine cA M5g 2 6 [(.tmp 2,[false])] Tryz.func106 rfl rfl ?_;unfold M5g
 intro hb
 clear hb
 simp only[go_sem]
 apply K0 (C7g r hs)
 simp only[go_sem]
 intros
 apply K0 (Cab (K39 r))
 simp only[go_sem]
 try intros
 try rfl
def M5o:MC:=
(Zs [.box 1 0 (.s 0),.mv 2 (ci 0)] [1] (Zs [lT 3 5 1,.call 4 [1] (.f N2g) [.s 3],.call 5 [] (.f N8v) [.s 4],mS 2 5] [2] .ret))
theorem C5e(r:GResource)(hs:r.Body.length≤1073741824):Ctr Tryz.prog N1n [aS r.enc] [rI (digest r)]:=by
 refine cA M5o 2 6 [(.tmp 2,[false])] Tryz.func99 rfl rfl ?_;unfold M5o
 intro hb
 clear hb
 simp only[go_sem]
 apply K0 (C7o r hs)
 simp only[go_sem]
 intros
 apply K0 (Cae (K39 r))
 simp only[go_sem]
 try intros
 try rfl
end Go.Proofs.YtflhjihoifbmfaaGreatR
namespace Go.Proofs.YtflhjihoifbmfaaGreatR
open Go Go.RowKit Go.Proofs
open Nat (reduceEqDiff reduceLT reduceLeDiff reduceAdd reduceMul)
open List (reduceReplicate)
def K2d(d:Int)(p:GPart):Bool:=decide (p.Digest=d)
def M5h:MC:=
(Zs [.box 2 0 (.s 0),.mv 3 cF] [1,2] (Zs [fS 4 2 0,lF 5 1 4,lF 6 1 1,bS 7 .eql 5 6,mS 3 7] [3] .ret))
theorem C9a(p:GPart)(d:Int):Ctr Tryz.prog N5q [aS p.enc,(false,[.pb [tI d]])] [rB (K2d d p)]:=by
 refine cA M5h 1 8 [(.tmp 3,[false])] Tryz.func163 rfl rfl ?_;unfold M5h
 intro hb
 clear hb
 simp only[go_sem]
 rfl
def M6y:MC:=
(Zs [.box 3 0 (.s 1),.mv 4 (ci 0)] [0,3] (Zs [mS 5 0,.clos 6 N5q [3],.call 7 [] (.f Na) [.s 5,.s 6],mS 4 7] [4] .ret))
theorem Ca5(l:List GPart)(d:Int):Ctr Tryz.prog N7a [aL 7 (l.map GPart.enc),aI d] [rI (idxF (K2d d) l)]:=by
 refine cA M6y 1 8 [(.tmp 4,[false])] Tryz.func107 rfl rfl ?_;unfold M6y
 intro hb
 clear hb
 simp only[go_sem]
 apply K0 (C5c l _ [.pb [tI d]] (K2d d) fun p _=>C9a p d)
 simp only[go_sem]
 try (intros;rfl)
def M78:MC:=
(Zs [.mv 4 (ci 0)] [0,1] (.seq (Zs [.mv 5 (ci 0)] [0,1,5] (.block 0 (.loop ([0,1,5],[]) (.seq (Zs [mS 6 5,mS 7 0,nS 8 7,bS 9 .lss 6 8] [0,1,5,9] (cX 9 0))
(.seq (.block 1 (Zs [mS 12 0,mS 13 5,xS 14 7 12 13,fS 15 14 0,lF 16 1 15,mS 17 1,bS 18 .eql 16 17] [0,1,5,18] (.cond (.s 18) (Zs [mS 19 5,mS 4 19] [4] .ret) .skip)))
(pr [mS 10 5,bC 11 .add 10 1,mS 5 11] [0,1,5]))))))
(Zs [.mv 4 (.c (.int .i64 (-1)))] [4] .ret)))
theorem Ca9(l:List GPart)(d:Int)(hl:l.length≤1073741824):Ctr Tryz.prog N7e [aL 7 (l.map GPart.enc),aI d] [rI (idxF (K2d d) l)]:=by
 refine cA M78 0 20 [(.tmp 4,[false])] Tryz.func100 rfl rfl ?_;unfold M78
 intro hb
 clear hb
 simp only[go_sem]
 refine K3 l (fun k=>[(5,vI k)]) (fun k=>[]) (fun k=>(l.take k).any (K2d d)=false) (by simp only[roomB];omega) ?_
 simp only[go_sem]
 refine⟨?_,by simp,?_,?_⟩
 ·simp only[go_sem]
  try trivial
 ·intro k p hx hI h0 h1 hw
  simp only[go_sem,K4 hx,h0,h1,hw]
  refine⟨fun h=>?_,fun h=>?_⟩
  ·exact(K88 hx hI (by unfold K2d;exact decide_eq_true h)).symm
  ·exact K80 hx hI (by unfold K2d;exact decide_eq_false h)
 ·intro hI
  simp only[go_sem]
  rw[List.take_length]at hI
  exact(K89 hI).symm
def Kx:Option Int→List GPart→Bool
 |_,[]=>true
 |b,p::l=>(match b with
  |some d=>decide (d<p.Digest)
  |none=>true)&&(K11 p.Resource&&(decide (digest p.Resource=p.Digest)&&(decide (1≤p.Uses∧p.Uses≤1000)&&Kx (some p.Digest) l)))
theorem K3a{b:Option Int}{p:GPart}{l:List GPart}:Kx b (p::l)=((match b with
  |some d=>decide (d<p.Digest)
  |none=>true)&&(K11 p.Resource&&(decide (digest p.Resource=p.Digest)&&(decide (1≤p.Uses∧p.Uses≤1000)&&Kx (some p.Digest) l)))):=rfl
def K21(l:List GPart):Bool:=decide (l.length≤30)&&Kx none l
def prevD(l:List GPart):Nat→Option Int
 |0=>none
 |k+1=>(l[k]?).map fun p=>p.Digest
def M60:MC:=
(Zs [.mv 2 cF] [0] (.seq (Zs [mS 5 0,nS 6 5,bC 7 .gtr 6 30] [0,7] (.cond (.s 7) (Zs [.mv 2 cF] [2] .ret) .skip))
(.seq (Zs [mS 8 0,nS 9 8,.mv 10 (ci 0)] [0,8,9,10] (.block 0 (.loop ([0,8,9,10],[0]) (Zs [bS 11 .lss 10 9] [0,8,9,10,11] (.seq (cX 11 0)
(.seq (.block 1 (Zs [mS 12 10,xS 13 7 8 10,lT 14 7 13,.alloc 4 0 [pz,pz,.emp 1,pz,pz,pz,pz],mS 3 12,sS 7 4 14] [0,3,4,8,9,10] (.seq (.dreg [Za (mS 15 3),Ze [0] (bC 16 .gtr 15 0),Ze [0,1] (mS 17 16),{o:=mS 18 0,g:=some (17,true),hs:=[19,20,24,25],bf:=[0,1,2]},{o:=mS 19 3,g:=some (17,true),hs:=[18,24,25],bf:=[0,1,2]},{o:=bC 20 .sub 19 1,g:=some (17,true),hs:=[18,24,25],bf:=[0,1,2,4]},{o:=xS 21 7 18 20,g:=some (17,true),hs:=[24,25],bf:=(.range 6)},{o:=fS 22 21 0,g:=some (17,true),hs:=[24,25],bf:=(.range 7)},{o:=lF 23 1 22,g:=some (17,true),hs:=[24,25],bf:=(.range 8)},{o:=fS 24 4 0,g:=some (17,true),hs:=[18,19,20,21,22,23],bf:=[0,1,2]},{o:=lF 25 1 24,g:=some (17,true),hs:=[18,19,20,21,22,23],bf:=[0,1,2,9]},{o:=bS 26 .geq 23 25,g:=some (17,true),bf:=(.range 11)},Ze (.range 12) (.pick 27 (.s 17) (.s 26) cF),Ze (.range 13) (mS 28 27),{o:=fS 29 4 1,g:=some (28,false),bf:=(.range 14)},{o:=lT 30 5 29,g:=some (28,false),bf:=(.range 15)},{o:= .call 31 [] (.f N3w) [.s 30],g:=some (28,false),bf:=(.range 16)},{o:= .un 32 .not (.s 31),g:=some (28,false),bf:=(.range 17)},Ze (.range 18) (.pick 33 (.s 28) cT (.s 32)),Ze (.range 19) (mS 34 33),{o:=fS 35 4 1,g:=some (34,false),hs:=[38,39],bf:=(.range 20)},{o:=lT 36 5 35,g:=some (34,false),hs:=[38,39],bf:=(.range 21)},{o:= .call 37 [] (.f N1l) [.s 36],g:=some (34,false),hs:=[38,39],bf:=(.range 22)},{o:=fS 38 4 0,g:=some (34,false),hs:=[35,36,37],bf:=(.range 20)},{o:=lF 39 1 38,g:=some (34,false),hs:=[35,36,37],bf:=[0,1,2,3,4,5,6,7,8,9,10,11,12,13,14,15,16,17,18,19,23]},{o:=bS 40 .neq 37 39,g:=some (34,false),bf:=(.range 25)},Ze (.range 26) (.pick 41 (.s 34) cT (.s 40)),Ze (.range 27) (mS 42 41),{o:=fS 43 4 6,g:=some (42,false),bf:=(.range 28)},{o:=lF 44 1 43,g:=some (42,false),bf:=(.range 29)},{o:= .call 45 [] (.f Nw) [.s 44,.c (.int .i64 1),.c (.int .i64 1000)],g:=some (42,false),bf:=(.range 30)},{o:= .un 46 .not (.s 45),g:=some (42,false),bf:=(.range 31)},Ze (.range 32) (.pick 47 (.s 42) cT (.s 46))] [0,8,9,10,47])
(.cond (.s 47) (Zs [.mv 2 cF] [2] .ret) .skip))))
(pr [bC 48 .add 10 1,mS 10 48] [0,8,9,10])))))))
(Zs [.mv 2 cT] [2] .ret))))
set_option maxHeartbeats 2000000 in
theorem C16(l:List GPart)(hs:l.length+(l.map GPart.size).sum≤1073741824):Ctr Tryz.prog N2i [aL 7 (l.map GPart.enc)] [rB (K21 l)]:=by
 refine cA M60 1 49 [(.tmp 2,[false])] Tryz.func105 rfl rfl ?_;unfold M60
 intro hb
 clear hb
 simp only[go_sem]
 refine⟨fun h=>?_,fun h=>?_⟩
 ·unfold K21
  rw[decide_eq_false (by omega)]
  rfl
 ·unfold K21
  rw[decide_eq_true (by omega),Bool.true_and]
  refine K3 l (fun k=>[(10,vI k)]) (fun k=>[]) (fun k=>Kx none l=Kx (prevD l k) (l.drop k)) (by simp only[roomB];omega) ?_
  simp only[go_sem]
  refine⟨?_,by simp[prevD],?_,?_⟩
  ·simp only[go_sem]
   try trivial
  ·intro k p hx hI h0 h1 hw
   have hk:=K6 hx
   have hx1:=K15 (f:=GPart.size) (Ku hx)
   have hbl:p.Resource.Body.length≤1073741824:=by simp only[GPart.size,GResource.size]at hx1;omega
   rw[K1e hx,K3a]at hI
   have hnx:prevD l (k+1)=some p.Digest:=by simp[prevD,hx]
   simp only[go_sem,K4 hx,h0,h1]
   refine⟨fun hk0=>?_,fun hk0=>?_⟩
   ·obtain⟨m,rfl⟩:∃m,k=m+1:=⟨k-1,by omega⟩
    obtain⟨y,hy⟩:=Ke (l:=l) (k:=m) (by omega)
    have e1:IntKind.i64.wrap (((m+1:Nat):Int)-1)=(m:Int):=by rw[wI (by omega) (by omega)];omega
    rw[show prevD l (m+1)=some y.Digest by simp[prevD,hy]]at hI
    rw[e1,Int.toNat_natCast,hy]
    refine⟨⟨by omega,by omega⟩,?_⟩
    simp only[go_sem]
    refine⟨fun hg=>?_,fun hg=>?_⟩
    ·rw[hI]
     simp only[decide_eq_false (show ¬y.Digest<p.Digest by omega),Bool.false_and]
    ·simp only[decide_eq_true (show y.Digest<p.Digest by omega),Bool.true_and]at hI
     apply K0 (C37 p.Resource)
     simp only[go_sem]
     refine⟨fun hr=>?_,fun hr=>?_⟩
     ·rw[hI,hr]
      rfl
     ·rw[hr,Bool.true_and]at hI
      apply K0 (C1h p.Resource hbl)
      simp only[go_sem]
      try intro _
      refine⟨fun hd=>?_,fun hd=>?_⟩
      ·intro _
       rw[hI,decide_eq_false hd]
       rfl
      ·rw[decide_eq_true hd,Bool.true_and]at hI
       apply K0 (Cb p.Uses 1 1000)
       simp only[go_sem,hw]
       intro _
       refine⟨fun hu=>?_,fun hu=>?_⟩
       ·rw[hI,decide_eq_false hu]
        rfl
       ·rw[decide_eq_true hu,Bool.true_and]at hI
        rw[hnx]
        first
         |exact hI
         |exact⟨hw,hI⟩
   ·obtain rfl:k=0:=by omega
    rw[show prevD l 0=none from rfl]at hI
    simp only[Bool.true_and]at hI
    apply K0 (C37 p.Resource)
    simp only[go_sem]
    refine⟨fun hr=>?_,fun hr=>?_⟩
    ·rw[hI,hr]
     rfl
    ·rw[hr,Bool.true_and]at hI
     apply K0 (C1h p.Resource hbl)
     simp only[go_sem]
     try intro _
     refine⟨fun hd=>?_,fun hd=>?_⟩
     ·intro _
      rw[hI,decide_eq_false hd]
      rfl
     ·rw[decide_eq_true hd,Bool.true_and]at hI
      apply K0 (Cb p.Uses 1 1000)
      simp only[go_sem]
      intro _
      refine⟨fun hu=>?_,fun hu=>?_⟩
      ·rw[hI,decide_eq_false hu]
       rfl
      ·rw[decide_eq_true hu,Bool.true_and]at hI
       rw[hnx]
       first
        |exact hI
        |exact⟨hw,hI⟩
  ·intro hI
   simp only[go_sem]
   rw[hI,List.drop_length]
   rfl
def M68:MC:=
(Zs [.mv 2 cF] [0] (.seq (Zs [.mv 3 (ci 0)] [0,3] (.block 0 (.loop ([0,3],[]) (.seq (Zs [mS 4 3,mS 5 0,nS 6 5,bS 7 .lss 4 6] [0,3,7] (cX 7 0))
(.seq (.block 1 (.seq (.dreg [Zc [11] (mS 10 0),Zc [10] (mS 11 3),Ze [0,1] (xS 12 7 10 11),Ze [0,1,2] (fS 13 12 1),Ze (.range 4) (lT 14 5 13),Ze (.range 5) (.call 15 [] (.f N4b) [.s 14]),Ze (.range 6) (.un 16 .not (.s 15)),Ze (.range 7) (mS 17 16),{o:=mS 18 0,g:=some (17,false),hs:=[19,23,24,25,26,27,28],bf:=(.range 8)},{o:=mS 19 3,g:=some (17,false),hs:=[18,23,24,25,26,27,28],bf:=(.range 8)},{o:=xS 20 7 18 19,g:=some (17,false),hs:=[23,24,25,26,27,28],bf:=(.range 10)},{o:=fS 21 20 0,g:=some (17,false),hs:=[23,24,25,26,27,28],bf:=(.range 11)},{o:=lF 22 1 21,g:=some (17,false),hs:=[23,24,25,26,27,28],bf:=(.range 12)},{o:=mS 23 0,g:=some (17,false),hs:=[18,19,20,21,22,24],bf:=(.range 8)},{o:=mS 24 3,g:=some (17,false),hs:=[18,19,20,21,22,23],bf:=(.range 8)},{o:=xS 25 7 23 24,g:=some (17,false),hs:=[18,19,20,21,22],bf:=[0,1,2,3,4,5,6,7,13,14]},{o:=fS 26 25 1,g:=some (17,false),hs:=[18,19,20,21,22],bf:=[0,1,2,3,4,5,6,7,13,14,15]},{o:=lT 27 5 26,g:=some (17,false),hs:=[18,19,20,21,22],bf:=[0,1,2,3,4,5,6,7,13,14,15,16]},{o:= .call 28 [] (.f N1n) [.s 27],g:=some (17,false),hs:=[18,19,20,21,22],bf:=[0,1,2,3,4,5,6,7,13,14,15,16,17]},{o:=bS 29 .neq 22 28,g:=some (17,false),bf:=(.range 19)},Ze (.range 20) (.pick 30 (.s 17) cT (.s 29)),Ze (.range 21) (mS 31 30),{o:=mS 32 0,g:=some (31,false),hs:=[33],bf:=(.range 22)},{o:=mS 33 3,g:=some (31,false),hs:=[32],bf:=(.range 22)},{o:=xS 34 7 32 33,g:=some (31,false),bf:=(.range 24)},{o:=fS 35 34 6,g:=some (31,false),bf:=(.range 25)},{o:=lF 36 1 35,g:=some (31,false),bf:=(.range 26)},{o:= .call 37 [] (.f N10) [.s 36,.c (.int .i64 1),.c (.int .i64 1000)],g:=some (31,false),bf:=(.range 27)},{o:= .un 38 .not (.s 37),g:=some (31,false),bf:=(.range 28)},Ze (.range 29) (.pick 39 (.s 31) cT (.s 38)),Ze (.range 30) (mS 40 39),{o:=mS 41 3,g:=some (40,false),bf:=(.range 31)},{o:=bC 42 .gtr 41 0,g:=some (40,false),bf:=(.range 32)},{o:=mS 43 42,g:=some (40,false),bf:=(.range 33)},{o:=mS 44 0,g:=some (43,true),hs:=[45,46,50,51,52,53,54],bf:=(.range 34)},{o:=mS 45 3,g:=some (43,true),hs:=[44,50,51,52,53,54],bf:=(.range 34)},{o:=bC 46 .sub 45 1,g:=some (43,true),hs:=[44,50,51,52,53,54],bf:=[0,1,2,3,4,5,6,7,8,9,10,11,12,13,14,15,16,17,18,19,20,21,22,23,24,25,26,27,28,29,30,31,32,33,35]},{o:=xS 47 7 44 46,g:=some (43,true),hs:=[50,51,52,53,54],bf:=(.range 37)},{o:=fS 48 47 0,g:=some (43,true),hs:=[50,51,52,53,54],bf:=(.range 38)},{o:=lF 49 1 48,g:=some (43,true),hs:=[50,51,52,53,54],bf:=(.range 39)},{o:=mS 50 0,g:=some (43,true),hs:=[44,45,46,47,48,49,51],bf:=(.range 34)},{o:=mS 51 3,g:=some (43,true),hs:=[44,45,46,47,48,49,50],bf:=(.range 34)},{o:=xS 52 7 50 51,g:=some (43,true),hs:=[44,45,46,47,48,49],bf:=[0,1,2,3,4,5,6,7,8,9,10,11,12,13,14,15,16,17,18,19,20,21,22,23,24,25,26,27,28,29,30,31,32,33,40,41]},{o:=fS 53 52 0,g:=some (43,true),hs:=[44,45,46,47,48,49],bf:=[0,1,2,3,4,5,6,7,8,9,10,11,12,13,14,15,16,17,18,19,20,21,22,23,24,25,26,27,28,29,30,31,32,33,40,41,42]},{o:=lF 54 1 53,g:=some (43,true),hs:=[44,45,46,47,48,49],bf:=[0,1,2,3,4,5,6,7,8,9,10,11,12,13,14,15,16,17,18,19,20,21,22,23,24,25,26,27,28,29,30,31,32,33,40,41,42,43]},{o:=bS 55 .geq 49 54,g:=some (43,true),bf:=(.range 45)},{o:= .pick 56 (.s 43) (.s 55) cF,g:=some (40,false),bf:=(.range 46)},Ze (.range 47) (.pick 57 (.s 40) cT (.s 56))] [0,3,57])
(.cond (.s 57) (Zs [.mv 2 cF] [2] .ret) .skip)))
(pr [mS 8 3,bC 9 .add 8 1,mS 3 9] [0,3]))))))
(Zs [mS 58 0,nS 59 58,bC 60 .leq 59 30,mS 2 60] [2] .ret)))
set_option maxHeartbeats 2000000 in
theorem C17(l:List GPart)(hs:l.length+(l.map GPart.size).sum≤1073741824):Ctr Tryz.prog N2j [aL 7 (l.map GPart.enc)] [rB (K21 l)]:=by
 refine cA M68 0 61 [(.tmp 2,[false])] Tryz.func97 rfl rfl ?_;unfold M68
 intro hb
 clear hb
 simp only[go_sem]
 refine K3 l (fun k=>[(3,vI k)]) (fun k=>[]) (fun k=>Kx none l=Kx (prevD l k) (l.drop k)) (by simp only[roomB];omega) ?_
 simp only[go_sem]
 refine⟨?_,by simp[prevD],?_,?_⟩
 ·simp only[go_sem]
  try trivial
 ·intro k p hx hI h0 h1 hw
  have hk:=K6 hx
  have hx1:=K15 (f:=GPart.size) (Ku hx)
  have hbl:p.Resource.Body.length≤1073741824:=by simp only[GPart.size,GResource.size]at hx1;omega
  rw[K1e hx,K3a]at hI
  have hnx:prevD l (k+1)=some p.Digest:=by simp[prevD,hx]
  have hno:Kx none l=false→false=K21 l:=fun h=>by unfold K21;rw[h,Bool.and_false]
  simp only[go_sem,K4 hx,h0,h1]
  apply K0 (C8l p.Resource)
  simp only[go_sem,K4 hx,h0,h1]
  refine⟨fun hr=>?_,fun hr=>?_⟩
  ·exact hno (by rw[hI,hr,Bool.false_and,Bool.and_false])
  ·rw[hr,Bool.true_and]at hI
   apply K0 (C5e p.Resource hbl)
   simp only[go_sem,K4 hx,h0,h1]
   refine⟨fun hd=>?_,fun hd=>?_⟩
   ·intro _
    exact hno (by rw[hI,decide_eq_false (fun e=>hd e.symm),Bool.false_and,Bool.and_false])
   ·rw[decide_eq_true hd.symm,Bool.true_and]at hI
    apply K0 (Cu p.Uses 1 1000)
    simp only[go_sem,K4 hx,h0,h1,hw]
    refine⟨fun hu=>?_,fun hu=>⟨fun hk0=>?_,fun hk0=>?_⟩⟩
    ·intro _
     exact hno (by rw[hI,decide_eq_false hu,Bool.false_and,Bool.and_false])
    ·rw[decide_eq_true hu,Bool.true_and]at hI
     obtain⟨m,rfl⟩:∃m,k=m+1:=⟨k-1,by omega⟩
     obtain⟨y,hy⟩:=Ke (l:=l) (k:=m) (by omega)
     have e1:IntKind.i64.wrap (((m+1:Nat):Int)-1)=(m:Int):=by rw[wI (by omega) (by omega)];omega
     rw[show prevD l (m+1)=some y.Digest by simp[prevD,hy]]at hI
     rw[e1,Int.toNat_natCast,hy]
     refine⟨⟨by omega,by omega⟩,?_⟩
     simp only[go_sem]
     intro _
     refine⟨fun hg=>?_,fun hg=>?_⟩
     ·exact hno (by rw[hI];simp only[decide_eq_false (show ¬y.Digest<p.Digest by omega),Bool.false_and])
     ·simp only[decide_eq_true (show y.Digest<p.Digest by omega),Bool.true_and]at hI
      rw[hnx]
      exact hI
    ·intro _
     rw[decide_eq_true hu,Bool.true_and]at hI
     obtain rfl:k=0:=by omega
     rw[show prevD l 0=none from rfl]at hI
     simp only[Bool.true_and]at hI
     rw[hnx]
     exact hI
 ·intro hI
  simp only[go_sem]
  rw[List.drop_length]at hI
  unfold K21
  rw[hI,show Kx (prevD l l.length) []=true by cases prevD l l.length<;>rfl,Bool.and_true]
  rw[decide_eq_decide]
  omega
end Go.Proofs.YtflhjihoifbmfaaGreatR
namespace Go.Proofs.YtflhjihoifbmfaaGreatR
open Go Go.RowKit Go.Proofs
open Nat (reduceEqDiff reduceLT reduceLeDiff reduceAdd reduceMul)
open List (reduceReplicate)
section
variable {P:Program}
theorem K2a(w:World)(dT sT ty elem:TypeId)(b o dLen dCap m:Nat)(a:Addr)(sLen sCap k:Nat)(cs:List Value)
  (hu:P.underlying dT=some (.slice elem)) (hs:(P.info? elem).map (·.size)=some k) (hm:m=Nat.min sLen dLen) (hn:cs.length=m*k)
  (hsrc:∀j v,cs[j]? =some v→w.cell? (a.add j)=some v) (hdst:∀j,j<cs.length→(w.cell? ⟨b,o+j,none⟩).isSome=true) (hfz:∀j,j<cs.length→w.frozen? ⟨b,o+j,none⟩=false) (h1:∀v∈cs,v.oneCell'=true):
  (Builtin.copy_ #[dT,sT] ty #[.slice (some ⟨b,o,none⟩) dLen dCap,.slice (some a) sLen sCap]).run P w= .ok (goInt m) (w.setCells b o cs):=by
 have hl:=run_loadCells_list (P:=P) w a cs hsrc
 have hst:=run_storeCells_cells (P:=P) b o cs 0 w (by simpa using hdst) (by simpa using hfz) h1
 simp only[Nat.add_zero]at hst
 cases hq:P.info? elem with
 |none=>simp[hq]at hs
 |some i=>
  have hi:i.size=k:=by simpa[hq]using hs
  simp[Builtin.copy_,run_underlying hu,Builtin.lenOf,Builtin.firstCells,sizeOf,typeInfo,hq,hi,←hm,←hn,hl,hst]
end
theorem info_size{P:Program}{e:TypeId}{k:Nat}(h:∀w,(Go.sizeOf e).run P w= .ok k w):∃i,P.info? e=some i∧i.size=k:=by
 have h:=h default
 cases hq:P.info? e with
 |none=>simp[sizeOf,typeInfo,hq]at h
 |some i=>exact⟨i,rfl,by simpa[sizeOf,typeInfo,hq]using h⟩
set_option maxHeartbeats 4000000 in
set_option maxRecDepth 100000 in
theorem K8l(b off n c vb voff vc:Nat)(vs:List Value)(w:World)(hroom:n+1≤c)(hc63:c≤9223372036854775807)(hvl:vs.length=7)
  (hsp:∀j,j<7→(w.cell? ⟨b,off+n*7+j,none⟩).isSome=true) (hfz:∀j,j<7→w.frozen? ⟨b,off+n*7+j,none⟩=false)
  (hvs:∀j v,vs[j]? =some v→w.cell? ⟨vb,voff+j,none⟩=some v) (h1v:∀v∈vs,v.oneCell'=true):
  Calls Tryz.prog 108 #[.slice (some ⟨b,off,none⟩) n c,.int .i64 n,.slice (some ⟨vb,voff,none⟩) 1 vc] w fun e w'=>
   e= .returned (.slice (some ⟨b,off,none⟩) (n+1) c)∧w'=w.setCells b (off+n*7) vs:=by
 obtain⟨i7,hi7,hsz⟩:=info_size Tryz.sizeOf101
 have hap:∀ty,(Builtin.append_ #[50,50] ty #[.slice (some ⟨b,off,none⟩) n c,.slice (some ⟨vb,voff,none⟩) 1 vc]).run Tryz.prog w= .ok (.slice (some ⟨b,off,none⟩) (n+1) c) (w.setCells b (off+n*7) vs):=fun ty=>by
  have:=run_append_room_cells (P:=Tryz.prog) w 50 ty 101 i7 Tryz.underlying50 hi7 b off n c ⟨vb,voff,none⟩ 1 vc vs (by rw[hsz];omega) (fun j u hj=>by rw[Addr.add_lit];exact hvs j u hj) h1v hroom (by rw[hsz];intro j hj;exact hsp j (by omega)) (by rw[hsz];intro j hj;exact hfz j (by omega))
  rw[hsz]at this
  exact this
 have mixed:Tryz.prog.follows .mixedOrders=true:=by kernel_rfl
 go_enter Tryz.func108,Tryz.ntmps108
 go_wp2_with (at_builtin;refine Lib.wpList_append_run _ rfl _ _ _ _ rfl _ _ rfl rfl _ _ (hap _) ?_)
 go_ret
 exact⟨rfl,rfl⟩
def zeroP:Value:= .agg #[.int .i64 0,.int .i64 0,.slice none 0 0,.int .i64 0,.int .i64 0,.int .i64 0,.int .i64 0]
theorem infoP:∃i,Tryz.prog.info? 101=some i∧i.size=7∧i.bytes=72∧i.zero=some zeroP:=by
 have h:(Tryz.prog.info? 101).map (fun i=>(i.size,i.bytes,i.zero))=some (7,72,some zeroP):=by kernel_rfl
 cases hq:Tryz.prog.info? 101 with
 |none=>rw[hq]at h;cases h
 |some i=>
  rw[hq]at h
  simp only[Option.map_some,Option.some.injEq,Prod.mk.injEq]at h
  exact⟨i,rfl,h.1,h.2.1,h.2.2⟩
set_option maxHeartbeats 4000000 in
set_option maxRecDepth 100000 in
theorem K5j(base:Option Addr)(n c vb voff vc:Nat)(cs vs:List Value)(w:World)(hnc:n≤c)(hroom:c<n+1)(hbig:(n+1)*72≤140737488355328)(hcl:cs.length=n*7)(hvl:vs.length=7)(hnil:base=none→n=0)
  (hcs:∀a,base=some a→∀j v,cs[j]? =some v→w.cell? (a.add j)=some v)
  (hvs:∀j v,vs[j]? =some v→w.cell? ⟨vb,voff+j,none⟩=some v) (h1v:∀v∈vs,v.oneCell'=true):
  Calls Tryz.prog 108 #[.slice base n c,.int .i64 n,.slice (some ⟨vb,voff,none⟩) 1 vc] w fun e w'=>
   e= .returned (.slice (some ⟨w.heap.size,0,none⟩) (n+1) (grownCap w (n+1) c 101))∧
   w'=w.drew.alloc (.cells ((cs++vs).toArray++Builtin.zeroCells zeroP.cells (grownCap w (n+1) c 101-(n+1))) 101):=by
 obtain⟨i0,hi0,hzs,hzb,hz0⟩:=infoP
 have mixed:Tryz.prog.follows .mixedOrders=true:=by kernel_rfl
 have hsrc:Src Tryz.prog i0.size 50 (.slice (some ⟨vb,voff,none⟩) 1 vc) 1 vs w:=by
  rw[hzs]
  exact Src.ofSlice w Tryz.underlying50 ⟨vb,voff,none⟩ 1 vc vs (by omega) (fun j u hj=>by rw[Addr.add_lit];exact hvs j u hj) h1v
 have hold:(Builtin.firstCells i0.size n (.slice base n c)).run Tryz.prog w.drew= .ok cs.toArray w.drew:=by
  rw[hzs]
  cases base with
  |none=>
   have h0:=hnil rfl
   subst h0
   obtain rfl:cs=[]:=List.length_eq_zero_iff.1 (by simpa using hcl)
   exact run_firstCells_none w.drew 7 0 0 c
  |some a=>exact run_firstCells_some w.drew 7 n a n c cs (by omega) (fun j v hj=>hcs a rfl j v hj)
 have hrun:∀ty,(Builtin.append_ #[50,50] ty #[.slice base n c,.slice (some ⟨vb,voff,none⟩) 1 vc]).run Tryz.prog w= .ok (.slice (some ⟨w.heap.size,0,none⟩) (n+1) (grownCap w (n+1) c 101)) (w.drew.alloc (.cells ((cs++vs).toArray++Builtin.zeroCells zeroP.cells (grownCap w (n+1) c 101-(n+1))) 101)):=fun ty=>
  run_append_grow_src w 50 50 ty 101 i0 _ Tryz.underlying50 hi0 hz0 base n c cs hold _ 1 vs hsrc hroom (by omega) (by rw[hzb];exact growslice_fits hroom hbig)
 generalize zeroP.cells=Z at hrun ⊢
 go_enter Tryz.func108,Tryz.ntmps108
 cases base with
 |none=>
  have h0:=hnil rfl
  subst h0
  have hc0:c=0:=by omega
  subst hc0
  go_wp2_with (at_builtin;refine Lib.wpList_append_run _ rfl _ _ _ _ rfl _ _ rfl rfl _ _ (hrun _) ?_)
  go_ret
  exact⟨rfl,rfl⟩
 |some a=>
  have hcn:c=n:=by omega
  subst hcn
  go_wp2_with (at_builtin;refine Lib.wpList_append_run _ rfl _ _ _ _ rfl _ _ rfl rfl _ _ (hrun _) ?_)
  go_ret
  exact⟨rfl,rfl⟩
set_option maxHeartbeats 4000000 in
set_option maxRecDepth 100000 in
theorem insP_shift(b off n c i vb voff vc:Nat)(cs vs:List Value)(w:World)(hi:i<n)(hroom:n+1≤c)(hc63:c≤9223372036854775807)(hvb:vb≠b)(hcl:cs.length=n*7)(hvl:vs.length=7)
  (hcs:∀j v,cs[j]? =some v→w.cell? ⟨b,off+j,none⟩=some v) (hsp:∀j,j<(n+1)*7→(w.cell? ⟨b,off+j,none⟩).isSome=true) (hfz:∀j,j<(n+1)*7→w.frozen? ⟨b,off+j,none⟩=false)
  (hvs:∀j v,vs[j]? =some v→w.cell? ⟨vb,voff+j,none⟩=some v) (h1c:∀v∈cs,v.oneCell'=true) (h1v:∀v∈vs,v.oneCell'=true)
  (tA tB:TypeId) (kA kB:Nat) (hsa:w.shape? vb=some (tA,kA)) (hsb:w.shape? b=some (tB,kB)) (hkB:kB≠0) (hfa:w.frozen? ⟨vb,voff,none⟩=false) (hfe:w.frozen? ⟨vb,kA,none⟩=false):
  Calls Tryz.prog 108 #[.slice (some ⟨b,off,none⟩) n c,.int .i64 i,.slice (some ⟨vb,voff,none⟩) 1 vc] w fun e w'=>
   e= .returned (.slice (some ⟨b,off,none⟩) (n+1) c)∧w'=(w.drew.setCells b (off+(i+1)*7) (cs.drop (i*7))).setCells b (off+i*7) vs:=by
 obtain⟨i0,hi0,hzs,hzb,hz0⟩:=infoP
 have hsz:(Tryz.prog.info? 101).map (·.size)=some 7:=by rw[hi0];simp[hzs]
 have mixed:Tryz.prog.follows .mixedOrders=true:=by kernel_rfl
 have hov:∀lb cb,(callFunc 164 #[.slice (some ⟨vb,voff,none⟩) 1 vc,.slice (some ⟨b,off+(i+1)*7,none⟩) lb cb]).run Tryz.prog w= .ok (.value (.bool false)) w:=fun lb cb=>by
  rw[run_callFunc_extern Tryz.func164 (by kernel_rfl) (by kernel_rfl) (by kernel_rfl) (e:=Extern.SlicesOverlaps.overlaps #[50,50] #[4]) (by kernel_rfl),
   Lib.run_overlaps_apart w 50 4 101 Tryz.underlying50 7 Tryz.sizeOf101 ⟨vb,voff,none⟩ ⟨b,off+(i+1)*7,none⟩ 1 vc lb cb hvb tA tB kA kB hsa hsb hkB hfa hfe]
  rfl
 have hdl:(cs.drop (i*7)).length=(n-i)*7:=by rw[List.length_drop,hcl];omega
 have hw1:IntKind.i64.wrap ((i:Int)+1)=(i:Int)+1:=by rw[IntKind.wrap_i64];omega
 have hw2:IntKind.i64.wrap ((n:Int)+1)=(n:Int)+1:=by rw[IntKind.wrap_i64];omega
 have hb1:(0:Int)≤(i:Int)+1:=by omega
 have hin:i≤n:=by omega
 have htn:((i:Int)+1).toNat=i+1:=by omega
 have htn2:((n:Int)+1).toNat=n+1:=by omega
 have hb2:¬(c=i+1):=by omega
 have hb3:(i:Int)≤(n:Int)+1:=by omega
 have hb4:¬(c=i):=by omega
 have hcp1:∀ty dc sc,(Builtin.copy_ #[50,50] ty #[.slice (some ⟨b,off+(i+1)*7,none⟩) (n-i) dc,.slice (some ⟨b,off+i*7,none⟩) (n+1-i) sc]).run Tryz.prog w.drew= .ok (goInt ((n-i:Nat):Int)) (w.drew.setCells b (off+(i+1)*7) (cs.drop (i*7))):=fun ty dc sc=>
  K2a w.drew _ _ ty 101 b (off+(i+1)*7) (n-i) dc (n-i) ⟨b,off+i*7,none⟩ (n+1-i) sc 7 (cs.drop (i*7)) Tryz.underlying50 hsz (by simp only[Nat.min_def];split<;>omega) hdl
   (fun j v hj=>by rw[Addr.add_lit,Nat.add_assoc];exact hcs (i*7+j) v (by rwa [List.getElem?_drop]at hj))
   (fun j hj=>by rw[Nat.add_assoc];exact hsp _ (by omega)) (fun j hj=>by rw[Nat.add_assoc];exact hfz _ (by omega)) (fun v hv=>h1c v (List.mem_of_mem_drop hv))
 obtain⟨W1,hW1⟩:∃W1,W1=w.drew.setCells b (off+(i+1)*7) (cs.drop (i*7)):=⟨_,rfl⟩
 have hsp1:∀k,k<(n+1)*7→(W1.cell? ⟨b,off+k,none⟩).isSome=true:=fun k hk=>by
  rw[hW1]
  exact isSome_setCells b _ _ _ (fun j hj=>by rw[Nat.add_assoc];exact hsp _ (by omega)) _ (hsp k hk)
 have hcp2:∀(W:World),(∀x,W.cell? x=W1.cell? x)→(∀x,W.frozen? x=W1.frozen? x)→∀ty dc,(Builtin.copy_ #[50,50] ty #[.slice (some ⟨b,off+i*7,none⟩) (n+1-i) dc,.slice (some ⟨vb,voff,none⟩) 1 vc]).run Tryz.prog W= .ok (goInt ((1:Nat):Int)) (W.setCells b (off+i*7) vs):=fun W hWc hWf ty dc=>
  K2a W _ _ ty 101 b (off+i*7) (n+1-i) dc 1 ⟨vb,voff,none⟩ 1 vc 7 vs Tryz.underlying50 hsz (by simp only[Nat.min_def];split<;>omega) (by omega)
   (fun j v hj=>by
    rw[Addr.add_lit,hWc,hW1,World.cell?_setCells_out b _ _ _ _ (fun h _=>absurd h hvb)]
    exact hvs j v hj)
   (fun j hj=>by rw[hWc,Nat.add_assoc];exact hsp1 _ (by omega)) (fun j hj=>by rw[hWf,hW1,World.frozen?_setCells,Nat.add_assoc];exact hfz _ (by omega)) h1v
 rw[←hW1]at hcp1
 go_enter Tryz.func108,Tryz.ntmps108
 go_wp2_with (simp only[hov])
 go_region_law_o (refine step_copy_runI rfl _ _ 50 50 rfl _ _ (by simp[Act.eval,Act.put]) (by simp[Act.eval,Act.put]) (hcp1 _ _ _) ?_)
 go_wp2_with (at_builtin;refine wpList_copy_runI _ rfl _ _ 50 50 rfl _ _ rfl rfl (hcp2 _ (fun _=>rfl) (fun _=>rfl) _ _) ?_)
 go_ret
 first|exact⟨rfl,rfl⟩|exact⟨rfl,by rw[hW1]⟩
theorem K3u(k:Nat):(Builtin.zeroCells zeroP.cells k).size=k*7:=by
 simp[Builtin.zeroCells,zeroP,Value.cells]
set_option maxHeartbeats 4000000 in
set_option maxRecDepth 100000 in
theorem insP_grow(b off n c i vb voff vc:Nat)(cs vs:List Value)(w:World)(hi:i<n)(hnc:n≤c)(hroom:c<n+1)(hbig:(n+1)*72≤140737488355328)(hcl:cs.length=n*7)(hvl:vs.length=7)
  (hcs:∀j v,cs[j]? =some v→w.cell? ⟨b,off+j,none⟩=some v) (hvs:∀j v,vs[j]? =some v→w.cell? ⟨vb,voff+j,none⟩=some v) (h1c:∀v∈cs,v.oneCell'=true) (h1v:∀v∈vs,v.oneCell'=true):
  Calls Tryz.prog 108 #[.slice (some ⟨b,off,none⟩) n c,.int .i64 i,.slice (some ⟨vb,voff,none⟩) 1 vc] w fun e w'=>
   e= .returned (.slice (some ⟨w.heap.size,0,none⟩) (n+1) (grownCap w (n+1) c 101))∧
   w'=(((w.alloc (.cells ((cs.take (i*7)).toArray++Builtin.zeroCells zeroP.cells (n+1-i)++Builtin.zeroCells zeroP.cells (grownCap w (n+1) c 101-(n+1))) 101)).drew.setCells w.heap.size (i*7) vs).drew).setCells w.heap.size ((i+1)*7) (cs.drop (i*7)):=by
 obtain⟨i0,hi0,hzs,hzb,hz0⟩:=infoP
 have hsz:(Tryz.prog.info? 101).map (·.size)=some 7:=by rw[hi0];simp[hzs]
 have mixed:Tryz.prog.follows .mixedOrders=true:=by kernel_rfl
 have hcn:c=n:=by omega
 subst hcn
 have hbw:b<w.heap.size:=block_lt_of_cell (hcs 0 _ (List.getElem?_eq_getElem (by omega)))
 have hvw:vb<w.heap.size:=block_lt_of_cell (hvs 0 _ (List.getElem?_eq_getElem (by omega)))
 have hkk:(c:Int)+1-(i:Int)=((c+1-i:Nat):Int):=by omega
 have hik:i+(c+1-i)=c+1:=by omega
 have hold:(Builtin.firstCells i0.size i (.slice (some ⟨b,off,none⟩) i c)).run Tryz.prog w.drew= .ok (cs.take (i*7)).toArray w.drew:=by
  rw[hzs]
  exact run_firstCells_some w.drew 7 i ⟨b,off,none⟩ i c (cs.take (i*7)) (by rw[List.length_take];omega) (fun j v hj=>by
   rw[Addr.add_lit]
   rw[List.getElem?_take]at hj
   split at hj
   ·exact hcs j v hj
   ·cases hj)
 have hrz:∀ty,(Builtin.append_ #[50,3] ty #[.slice (some ⟨b,off,none⟩) i c,.int .i64 ((c:Int)+1-(i:Int))]).run Tryz.prog w=
   .ok (.slice (some ⟨w.heap.size,0,none⟩) (c+1) (grownCap w (c+1) c 101)) (w.drew.alloc (.cells ((cs.take (i*7)).toArray++Builtin.zeroCells zeroP.cells (c+1-i)++Builtin.zeroCells zeroP.cells (grownCap w (c+1) c 101-(c+1))) 101)):=fun ty=>by
  have h:=Lib.run_append_grow_zeros w 50 3 ty 101 i0 _ .i64 .i64 Tryz.underlying50 Tryz.underlying3 hi0 hz0 (some ⟨b,off,none⟩) i c (cs.take (i*7)) hold (c+1-i) (by omega) (by omega) (by omega) (by omega) (by rw[hzb];omega) (by rw[hzb,hik];exact growslice_fits hroom hbig)
  rw[hik]at h
  rw[hkk]
  exact h
 have hz1:=K3u (c+1-i)
 have hz2:=K3u (grownCap w (c+1) c 101-(c+1))
 have hGn:c+1≤grownCap w (c+1) c 101:=grownCap_ge w _ _ _
 generalize zeroP.cells=Z at*
 obtain⟨G,hG⟩:∃G,G=grownCap w (c+1) c 101:=⟨_,rfl⟩
 rw[←hG]at hrz hz2 hGn ⊢
 obtain⟨ROW,hROW⟩:∃ROW:Array Value,ROW=(cs.take (i*7)).toArray++Builtin.zeroCells Z (c+1-i)++Builtin.zeroCells Z (G-(c+1)):=⟨_,rfl⟩
 rw[←hROW]at hrz ⊢
 have hRl:(c+1)*7≤ROW.size:=by
  rw[hROW,Array.size_append,Array.size_append,hz1,hz2,List.size_toArray,List.length_take]
  omega
 obtain⟨W1,hW1⟩:∃W1,W1=w.drew.alloc (.cells ROW 101):=⟨_,rfl⟩
 rw[←hW1]at hrz
 have hN:∀j,j<(c+1)*7→(W1.cell? ⟨w.heap.size,j,none⟩).isSome=true:=fun j hj=>by
  rw[hW1,World.cell?_alloc_at (w:=w.drew) ROW _ w.heap.size j rfl,Array.getElem?_eq_getElem (by omega)];rfl
 have hNf:∀j,W1.frozen? ⟨w.heap.size,j,none⟩=false:=fun j=>by rw[hW1];exact World.frozen?_alloc_at (w:=w.drew) ROW _ w.heap.size j rfl
 have hOb:∀j v,w.cell? ⟨b,j,none⟩=some v→W1.cell? ⟨b,j,none⟩=some v:=fun j v h=>by rw[hW1,World.cell?_alloc_past (w:=w.drew) _ b j hbw];exact h
 have hOv:∀j v,w.cell? ⟨vb,j,none⟩=some v→W1.cell? ⟨vb,j,none⟩=some v:=fun j v h=>by rw[hW1,World.cell?_alloc_past (w:=w.drew) _ vb j hvw];exact h
 have hcpA:∀(W:World),(∀x,W.cell? x=W1.cell? x)→(∀x,W.frozen? x=W1.frozen? x)→∀ty dc,(Builtin.copy_ #[50,50] ty #[.slice (some ⟨w.heap.size,i*7,none⟩) (c+1-i) dc,.slice (some ⟨vb,voff,none⟩) 1 vc]).run Tryz.prog W= .ok (goInt ((1:Nat):Int)) (W.setCells w.heap.size (i*7) vs):=fun W hWc hWf ty dc=>
  K2a W _ _ ty 101 w.heap.size (i*7) (c+1-i) dc 1 ⟨vb,voff,none⟩ 1 vc 7 vs Tryz.underlying50 hsz (by simp only[Nat.min_def];split<;>omega) (by omega)
   (fun j v hj=>by rw[Addr.add_lit,hWc];exact hOv _ v (hvs j v hj))
   (fun j hj=>by rw[hWc];exact hN _ (by omega)) (fun j hj=>by rw[hWf];exact hNf _) h1v
 have hbN:b≠w.heap.size:=by omega
 have hdl:(cs.drop (i*7)).length=(c-i)*7:=by rw[List.length_drop,hcl];omega
 have hcpB:∀(W:World),(∀x,W.cell? x=(W1.setCells w.heap.size (i*7) vs).cell? x)→(∀x,W.frozen? x=(W1.setCells w.heap.size (i*7) vs).frozen? x)→∀ty dc sc,(Builtin.copy_ #[50,50] ty #[.slice (some ⟨w.heap.size,(i+1)*7,none⟩) (c-i) dc,.slice (some ⟨b,off+i*7,none⟩) (c-i) sc]).run Tryz.prog W= .ok (goInt ((c-i:Nat):Int)) (W.setCells w.heap.size ((i+1)*7) (cs.drop (i*7))):=fun W hWc hWf ty dc sc=>
  K2a W _ _ ty 101 w.heap.size ((i+1)*7) (c-i) dc (c-i) ⟨b,off+i*7,none⟩ (c-i) sc 7 (cs.drop (i*7)) Tryz.underlying50 hsz (by simp only[Nat.min_def];split<;>omega) hdl
   (fun j v hj=>by
    rw[Addr.add_lit,hWc,World.cell?_setCells_out _ _ _ _ _ (fun h _=>absurd h hbN),Nat.add_assoc]
    exact hOb _ v (hcs (i*7+j) v (by rwa [List.getElem?_drop]at hj)))
   (fun j hj=>by rw[hWc];exact isSome_setCells _ _ _ _ (fun t ht=>hN _ (by omega)) _ (hN _ (by omega)))
   (fun j hj=>by rw[hWf,World.frozen?_setCells];exact hNf _) (fun v hv=>h1c v (List.mem_of_mem_drop hv))
 subst hW1
 have hE1:∀x,((w.alloc (.cells ROW 101)).drew).cell? x=(w.drew.alloc (.cells ROW 101)).cell? x:=fun x=>rfl
 have hE2:∀x,((w.alloc (.cells ROW 101)).drew).frozen? x=(w.drew.alloc (.cells ROW 101)).frozen? x:=fun x=>rfl
 have hF1:∀x,(((w.alloc (.cells ROW 101)).drew.setCells w.heap.size (i*7) vs).drew).cell? x=((w.drew.alloc (.cells ROW 101)).setCells w.heap.size (i*7) vs).cell? x:=fun x=>rfl
 have hF2:∀x,(((w.alloc (.cells ROW 101)).drew.setCells w.heap.size (i*7) vs).drew).frozen? x=((w.drew.alloc (.cells ROW 101)).setCells w.heap.size (i*7) vs).frozen? x:=fun x=>rfl
 have hw1:IntKind.i64.wrap ((i:Int)+1)=(i:Int)+1:=by rw[IntKind.wrap_i64];omega
 have hw2:IntKind.i64.wrap ((c:Int)+1)=(c:Int)+1:=by rw[IntKind.wrap_i64];omega
 have hb1:(0:Int)≤(i:Int)+1:=by omega
 have hin:i≤c:=by omega
 have htn:((i:Int)+1).toNat=i+1:=by omega
 have hb3:(i:Int)≤(c:Int):=by omega
 have hG1:¬G=i+1:=by omega
 have hci:¬c=i:=by omega
 clear hkk hik hold hROW hG hRl
 go_enter Tryz.func108,Tryz.ntmps108
 go_wp2_with (first
  |(at_builtin;refine Lib.wpList_append_run _ rfl _ _ _ _ rfl _ _ rfl rfl _ _ (hrz _) ?_)
  |(at_builtin;refine wpList_copy_runI _ rfl _ _ 50 50 rfl _ _ rfl rfl (hcpA _ hE1 hE2 _ _) ?_)
  |(at_builtin;refine wpList_copy_runI _ rfl _ _ 50 50 rfl _ _ rfl rfl (hcpB _ (fun _=>rfl) (fun _=>rfl) _ _ _) ?_))
 go_region_law_o (refine step_copy_runI rfl _ _ 50 50 rfl (.slice (some ⟨w.heap.size,(i+1)*7,none⟩) (c-i) (G-(i+1))) (.slice (some ⟨b,off+i*7,none⟩) (c-i) (c-i)) (by simp[Act.eval,Act.put]) (by simp[Act.eval,Act.put]) (hcpB _ hF1 hF2 3 (G-(i+1)) (c-i)) ?_)
 go_wp2
 go_ret
 exact⟨rfl,rfl⟩
end Go.Proofs.YtflhjihoifbmfaaGreatR
namespace Go.Proofs
open Go.Shelf
end Go.Proofs
namespace Go.Proofs.YtflhjihoifbmfaaGreatR
open Go Go.RowKit Go.Proofs
open Nat (reduceEqDiff reduceLT reduceLeDiff reduceAdd reduceMul)
open List (reduceReplicate)
theorem K13{b:Nat}{ty:TypeId}{fz:Nat×Nat}:∀(vs:List Value) (o:Nat) (w:World) (row:Array Value),w.heap[b]? =some (.cells row ty fz)→∃row',(w.setCells b o vs).heap[b]? =some (.cells row' ty fz)∧row'.size=row.size
 | [],_,_,row,h=>⟨row,h,rfl⟩
 |v::r,o,w,row,h=>by
  have hw:(w.setCell ⟨b,o,none⟩ v).heap[b]? =some (.cells (row.setIfInBounds o v) ty fz):=by simp[World.setCell,Array.getElem?_modify,h]
  obtain⟨row',h1,h2⟩:=K13 r (o+1) (w.setCell ⟨b,o,none⟩ v) (row.setIfInBounds o v) hw
  exact⟨row',h1,h2.trans (by simp)⟩
theorem K32{B:Nat→Prop}{b:Nat}(hb:¬B b):∀(vs:List Value) (o:Nat) (w:World),Bel B w (w.setCells b o vs)
 | [],_,w=>Bel.refl _ _
 |v::r,o,w=>by
  refine Bel.trans (b:=w.setCell ⟨b,o,none⟩ v) ⟨rfl,rfl,rfl,by simp[World.setCell],fun k hk=>?_⟩ (K32 hb r (o+1) _)
  have hne:k≠b:=fun e=>hb (e▸hk)
  simp[World.setCell,Array.getElem?_modify,Ne.symm hne]
end Go.Proofs.YtflhjihoifbmfaaGreatR
namespace Go.Proofs.YtflhjihoifbmfaaGreatR
open Go Go.RowKit Go.Proofs
open Nat (reduceEqDiff reduceLT reduceLeDiff reduceAdd reduceMul)
open List (reduceReplicate)
theorem insRow{w w':World}{sz b b2 vb off off2 voff k:Nat}{es:List (List T)}{e:List T}{G Gv:List Nat}(hk:k≤es.length)(h:OwRow w sz b off es G)(hv:OwRow w sz vb voff [e] Gv)
  (q1:∀j,j<k*sz→w'.cell? ⟨b2,off2+j,none⟩=w.cell? ⟨b,off+j,none⟩) (q2:∀j,j<sz→w'.cell? ⟨b2,off2+k*sz+j,none⟩=w.cell? ⟨vb,voff+j,none⟩)
  (q3:∀j,j<(es.length-k)*sz→w'.cell? ⟨b2,off2+(k+1)*sz+j,none⟩=w.cell? ⟨b,off+k*sz+j,none⟩) (hG:∀x∈G++Gv,w'.heap[x]? =w.heap[x]?):
  ∃G',OwRow w' sz b2 off2 (es.take k++[e]++es.drop k) G'∧G'.Perm (G++Gv):=by
 rw[←List.take_append_drop k es]at h
 obtain⟨G1,G2,h1,h2,rfl⟩:=(Kl _ _ _ _).1 h
 have hl:(es.take k).length=k:=by rw[List.length_take];omega
 rw[hl]at h2
 have m1:=OwRow.move (es.take k) off off2 G1 (b':=b2) (w':=w') (fun j hj=>q1 j (by rwa [hl]at hj)) (fun x hx=>hG x (by simp[hx])) h1
 have m2:=OwRow.move [e] voff (off2+k*sz) Gv (b':=b2) (w':=w') (fun j hj=>q2 j (by simpa using hj)) (fun x hx=>hG x (by simp[hx])) hv
 have m3:=OwRow.move (es.drop k) (off+k*sz) (off2+(k+1)*sz) G2 (b':=b2) (w':=w') (fun j hj=>q3 j (by rwa [List.length_drop]at hj)) (fun x hx=>hG x (by simp[hx])) h2
 refine⟨(G1++Gv)++G2,?_,?_⟩
 ·refine(Kl _ _ _ _).2 ⟨G1++Gv,G2,(Kl _ _ _ _).2 ⟨G1,Gv,m1,by rw[hl];exact m2,rfl⟩,?_,rfl⟩
  rw[List.length_append,hl]
  exact m3
 ·rw[List.append_assoc,List.append_assoc]
  exact List.Perm.append_left G1 List.perm_append_comm
end Go.Proofs.YtflhjihoifbmfaaGreatR
namespace Go.Proofs.YtflhjihoifbmfaaGreatR
open Go Go.RowKit Go.Proofs
open Nat (reduceEqDiff reduceLT reduceLeDiff reduceAdd reduceMul)
open List (reduceReplicate)
theorem argsI_insK{w:World}{X:Nat→Prop}{sz:Nat}{es es':List (List T)}{k:Int}{vs:List Value}{G:List Nat}(h:ResVs w X [oL sz es,iI k,oL sz es'] vs G):∃v u G1 G2,vs=[v,.int .i64 k,u]∧Ow w (.sl sz es) v G1∧Ow w (.sl sz es') u G2∧G=G1++G2:=by
 match vs,h with
 | [v,i,u],⟨Ga,Gb,h1,⟨Gc,Gd,h2,⟨Ge,Gf,h3,h4,e3⟩,e2⟩,e1⟩=>
  obtain⟨_,G1,G2,k1,k2,e4⟩:=h1
  obtain⟨_,k3,k4⟩:=h2
  obtain⟨_,G3,G4,k5,k6,e5⟩:=h3
  simp only[ResVs]at h4
  simp only[ResC]at k2 k4 k6
  simp only[Rd]at k3
  obtain⟨rfl,_⟩:=k3
  subst h4 k2 k4 k6 e4 e5 e3 e2 e1
  exact⟨v,u,G1,G3,rfl,k1,k5,by simp⟩
 | [],h=>exact h.elim
 | [_],⟨_,_,_,h,_⟩=>exact h.elim
 | [_,_],⟨_,_,_,⟨_,_,_,h,_⟩,_⟩=>exact h.elim
 |_::_::_::_::_,⟨_,_,_,⟨_,_,_,⟨_,_,_,h,_⟩,_⟩,_⟩=>exact h.elim
end Go.Proofs.YtflhjihoifbmfaaGreatR
namespace Go.Proofs.YtflhjihoifbmfaaGreatR
open Go Go.RowKit Go.Proofs
open Nat (reduceEqDiff reduceLT reduceLeDiff reduceAdd reduceMul)
open List (reduceReplicate)
theorem K76{w w':World}{X:Nat→Prop}{B:Nat→Prop}{sz:Nat}{es:List (List T)}{e:List T}{k b off b2 off2 c2 vb voff vc cap:Nat}{A:Option Addr}{G1 Gz Gv:List Nat}{row:Array Value}{ty:TypeId}(hk:k≤es.length)
  (hz:∀x∈Gz,x∈G1) (hzv:(Gz++Gv).Nodup) (hbz:b2∉Gz++Gv) (h:OwRow w sz b off es Gz) (hv:OwRow w sz vb voff [e] Gv) (hB:Bel B w w') (hb2:b2∈G1∨w.heap.size≤b2)
  (hh:w'.heap[b2]? =some (.cells row ty (0,0))) (hc:off2+c2*sz≤row.size) (hln:Ln (es.length+1) c2)
  (q1:∀j,j<k*sz→w'.cell? ⟨b2,off2+j,none⟩=w.cell? ⟨b,off+j,none⟩) (q2:∀j,j<sz→w'.cell? ⟨b2,off2+k*sz+j,none⟩=w.cell? ⟨vb,voff+j,none⟩)
  (q3:∀j,j<(es.length-k)*sz→w'.cell? ⟨b2,off2+(k+1)*sz+j,none⟩=w.cell? ⟨b,off+k*sz+j,none⟩) (hGG:∀x∈Gz++Gv,w'.heap[x]? =w.heap[x]?):
  Bel B w w'∧∃us Ga Gb,(Value.slice (some ⟨b2,off2,none⟩) (es.length+1) c2)=tupV us∧OwOut w' [none,none] (K1q [oL sz es,iI k,oL sz [e]] [.slice A es.length cap,.int .i64 k,.slice (some ⟨vb,voff,none⟩) 1 vc]) Ga∧
   ResVs w' (fun b=>(b<w.heap.size→X b∨b∈G1++(vb::Gv))∧b∉Ga++Gb) [rL sz (es.take k++[e]++es.drop k)] us Gb∧(Ga++Gb).Nodup∧∀b∈Ga++Gb,(b∈G1++(vb::Gv)∨w.heap.size≤b)∧b<w'.heap.size:=by
 obtain⟨G',hr,hp⟩:=insRow hk h hv q1 q2 q3 hGG
 have hlen:(es.take k++[e]++es.drop k).length=es.length+1:=by
  simp only[List.length_append,List.length_take,List.length_drop,List.length_cons,List.length_nil]
  omega
 have hO:Ow w' (.sl sz (es.take k++[e]++es.drop k)) (.slice (some ⟨b2,off2,none⟩) (es.length+1) c2) (b2::G'):=by
  unfold Ow
  refine⟨_,c2,by rw[hlen],by rw[hlen];exact hln,.inr ⟨b2,off2,row,ty,G',rfl,hh,hc,hr,rfl⟩⟩
 refine⟨hB,[_],[],b2::G',rfl,rfl,⟨b2::G',[],⟨⟨_,rfl⟩,b2::G',[],hO,rfl,by simp⟩,rfl,by simp⟩,?_,fun b' hb'=>?_⟩
 ·rw[List.nil_append]
  exact List.nodup_cons.2 ⟨fun hm=>hbz (hp.mem_iff.1 hm),hp.nodup_iff.2 hzv⟩
 ·rw[List.nil_append]at hb'
  rcases List.mem_cons.1 hb' with rfl|hm
  ·exact⟨hb2.imp (fun h=>by simp[h]) id,K1n hh⟩
  ·refine⟨.inl ?_,OwRow.lt _ _ _ hr b' hm⟩
   rcases List.mem_append.1 (hp.mem_iff.1 hm)with h1|h1
   ·exact List.mem_append.2 (.inl (hz _ h1))
   ·exact List.mem_append.2 (.inr (List.mem_cons_of_mem _ h1))
end Go.Proofs.YtflhjihoifbmfaaGreatR
namespace Go.Proofs.YtflhjihoifbmfaaGreatR
open Go Go.RowKit Go.Proofs
open Nat (reduceEqDiff reduceLT reduceLeDiff reduceAdd reduceMul)
open List (reduceReplicate)
theorem ow_one{w:World}{t:T}{v:Value}{G:List Nat}(h:Ow w t v G):v.oneCell'=true:=by
 cases t<;>simp only[Ow]at h
 ·obtain⟨rfl,h1,_⟩:=h
  exact K58 h1
 ·obtain⟨A,cap,rfl,_⟩:=h
  rfl
theorem K6c{w:World}{b:Nat}:∀ {e:List T} {off:Nat} {G:List Nat},OwEl w b off e G→∃vs:List Value,vs.length=e.length∧(∀j v,vs[j]? =some v→w.cell? ⟨b,off+j,none⟩=some v)∧∀v∈vs,v.oneCell'=true
 | [],off,G,h=>⟨[],rfl,by simp,by simp⟩
 |t::e,off,G,h=>by
  obtain⟨v,G1,G2,hc,ht,he,rfl⟩:=h
  obtain⟨vs,h1,h2,h3⟩:=K6c he
  refine⟨v::vs,by simp[h1],fun j u hj=>?_,fun u hu=>?_⟩
  ·cases j with
   |zero=>
    simp only[List.getElem?_cons_zero,Option.some.injEq]at hj
    rw[←hj]
    exact hc
   |succ j=>
    have:=h2 j u (by simpa using hj)
    rw[show off+(j+1)=off+1+j by omega]
    exact this
  ·rcases List.mem_cons.1 hu with rfl|hu
   ·exact ow_one ht
   ·exact h3 u hu
theorem K45{w:World}{sz b:Nat}:∀ {es:List (List T)} {off:Nat} {G:List Nat},OwRow w sz b off es G→∃cs:List Value,cs.length=es.length*sz∧(∀j v,cs[j]? =some v→w.cell? ⟨b,off+j,none⟩=some v)∧∀v∈cs,v.oneCell'=true
 | [],off,G,h=>⟨[],by simp,by simp,by simp⟩
 |e::es,off,G,h=>by
  obtain⟨hl,G1,G2,h1,h2,rfl⟩:=h
  obtain⟨vs,k1,k2,k5⟩:=K6c h1
  obtain⟨cs,k3,k4,k6⟩:=K45 h2
  refine⟨vs++cs,by rw[List.length_append,k1,k3,hl,List.length_cons,Nat.add_mul,Nat.one_mul,Nat.add_comm],fun j v hj=>?_,fun v hv=>(List.mem_append.1 hv).elim (k5 v) (k6 v)⟩
  by_cases hjl:j<vs.length
  ·rw[List.getElem?_append_left hjl]at hj
   exact k2 j v hj
  ·rw[List.getElem?_append_right (by omega)]at hj
   have:=k4 _ v hj
   rw[show off+sz+(j-vs.length)=off+j by omega]at this
   exact this
end Go.Proofs.YtflhjihoifbmfaaGreatR
namespace Go.Proofs.YtflhjihoifbmfaaGreatR
open Go Go.RowKit Go.Proofs
open Nat (reduceEqDiff reduceLT reduceLeDiff reduceAdd reduceMul)
open List (reduceReplicate)
set_option maxHeartbeats 1000000
theorem K2b{w w':World}{b b2 o o2 n:Nat}{cs:List Value}(hn:n≤cs.length)(h:∀j v,cs[j]? =some v→w.cell? ⟨b,o+j,none⟩=some v)(h':∀j v,j<n→cs[j]? =some v→w'.cell? ⟨b2,o2+j,none⟩=some v):
  ∀j,j<n→w'.cell? ⟨b2,o2+j,none⟩=w.cell? ⟨b,o+j,none⟩:=fun j hj=>by
 have he:cs[j]? =some cs[j]:=List.getElem?_eq_getElem (by omega)
 rw[h j _ he,h' j _ hj he]
theorem K43{b o:Nat}{us:List Value}{w1:World}(h:∀j,j<us.length→(w1.cell? ⟨b,o+j,none⟩).isSome=true):∀j v,us[j]? =some v→(w1.setCells b o us).cell? ⟨b,o+j,none⟩=some v:=fun j v hv=>by
 obtain⟨h1,h2⟩:=List.getElem?_eq_some_iff.1 hv
 rw[World.cell?_setCells_in b us o w1 h j h1,h2]
theorem K71{w:World}{b o m:Nat}{cs:List Value}(h:∀j v,cs[j]? =some v→w.cell? ⟨b,o+j,none⟩=some v):∀j v,(cs.drop m)[j]? =some v→w.cell? ⟨b,o+m+j,none⟩=some v:=fun j v hv=>by
 rw[List.getElem?_drop]at hv
 rw[Nat.add_assoc]
 exact h _ v hv
theorem C7n(es:List (List T))(k:Nat)(e:List T)(he:e.length=7)(hk:k≤es.length)(hl:es.length≤1073741824):CtrI Tryz.prog N4 [oL 7 es,iI k,oL 7 [e]] [none,none] [rL 7 (es.take k++[e]++es.drop k)]:=by
 refine⟨⟨Tryz.f108,Tryz.func108,by kernel_rfl,by kernel_rfl⟩,fun w X vs G ht h hG hGb=>?_⟩
 obtain⟨v,u,G1,G2,rfl,hv,hu,rfl⟩:=argsI_insK h
 unfold Ow at hv hu
 obtain⟨A,cap,rfl,hln,hv⟩:=hv
 obtain⟨A2,vc,rfl,hln2,hu⟩:=hu
 simp only[List.length_cons,List.length_nil,Nat.zero_add]at hln2 ⊢
 rcases hu with ⟨_,h0,_⟩|⟨vb,voff,rowv,tyv,Gv,rfl,hhv,hcv,hrv,rfl⟩
 ·simp at h0
 obtain⟨cv,hvl,hvs,h1v⟩:=K45 hrv
 simp only[List.length_cons,List.length_nil,Nat.zero_add,Nat.one_mul]at hvl
 have hvbs:vb<w.heap.size:=(hGb vb (by simp)).1
 have hcapB:cap≤9223372036854775807:=hln.2.2
 have growT:∀(cs:List Value) (b off g:Nat) (Gz:List Nat) (ty:TypeId),cs.length=es.length*7→(∀j v,cs[j]? =some v→w.cell? ⟨b,off+j,none⟩=some v)→OwRow w 7 b off es Gz→k=es.length→(∀x∈Gz,x∈G1)→(G1++vb::Gv).Nodup→Gz.Nodup→(∀x∈G1++vb::Gv,x<w.heap.size)→es.length+1≤g→g≤9223372036854775807→_:=
  fun cs b off g Gz ty hcl hcs hrow hke hzs hnd hznd hlt hg1 hg2=>by
   have hcell:∀j,j<(es.length+1)*7→((w.drew.alloc (.cells ((cs++cv).toArray++Builtin.zeroCells zeroP.cells (g-(es.length+1))) ty)).cell? ⟨w.heap.size,0+j,none⟩)=(cs++cv)[j]? :=fun j hj=>by
    rw[World.cell?_alloc_at (w:=w.drew) _ _ w.heap.size (0+j) rfl,Array.getElem?_append_left (by simp;omega)]
    simp
   have hzlt:∀x∈Gz++Gv,x<w.heap.size:=fun x hx=>hlt x (by
    rcases List.mem_append.1 hx with h1|h1
    ·exact List.mem_append.2 (.inl (hzs x h1))
    ·exact List.mem_append.2 (.inr (List.mem_cons_of_mem _ h1)))
   have hzv:(Gz++Gv).Nodup:=by
    have h1:=List.nodup_append.1 hnd
    exact List.nodup_append.2 ⟨hznd,(List.nodup_cons.1 h1.2.1).2,fun x hx y hy=>h1.2.2 x (hzs x hx) y (List.mem_cons_of_mem _ hy)⟩
   have hb:Bel (fun b'=>b'<w.heap.size∧b'∉G1++(vb::Gv)) w (w.drew.alloc (.cells ((cs++cv).toArray++Builtin.zeroCells zeroP.cells (g-(es.length+1))) ty)):=⟨rfl,rfl,rfl,by simp,fun b' hb'=>Below.heap_alloc w.drew _ b' hb'.1⟩
   exact K76 (X:=X) (k:=k) (cap:=cap) (A:=A) (G1:=G1) (vc:=vc) (c2:=g) (off2:=0) hk hzs hzv (fun hm=>Nat.lt_irrefl _ (hzlt _ hm)) hrow hrv hb (.inr (Nat.le_refl _)) (heap_alloc_new w.drew _)
    (by simp only[Array.size_append,K3u,List.size_toArray,List.length_append];omega) ⟨hg1,by simp only[roomB];omega,hg2⟩
    (K2b (cs:=cs) (by omega) hcs (fun j v hj hv=>by rw[hcell j (by omega),List.getElem?_append_left (by omega),hv]))
    (K2b (cs:=cv) (by omega) hvs (fun j v hj hv=>by
     have:=hcell (k*7+j) (by omega)
     rw[←Nat.add_assoc]at this
     rw[this,List.getElem?_append_right (by omega),show k*7+j-cs.length=j by omega,hv]))
    (fun j hj=>by omega) (fun x hx=>Below.heap_alloc w.drew _ x (hzlt x hx))
 rcases hv with ⟨rfl,rfl,rfl⟩|⟨b,off,row,ty,Gz,rfl,hh,hc,hrow,rfl⟩
 ·obtain rfl:k=0:=by simpa using hk
  refine(K5j A 0 0 vb voff vc [] cv w (by omega) (by omega) (by omega) rfl hvl (fun _=>rfl) (fun a _ j v hj=>by simp at hj) hvs h1v).mono ?_
  rintro e' w' ⟨rfl,rfl⟩
  refine growT [] 0 0 _ [] _ rfl (fun j v hj=>by simp at hj) (by simp[OwRow]) rfl (by simp) hG (by simp) (fun x hx=>(hGb x hx).1) (grownCap_ge w _ _ _) ?_
  have:=grownCap_le_maxLen w (0+1) 0 101 (by unfold maxLen;omega)
  unfold maxLen at this
  omega
 ·obtain⟨cs,hcl,hcs,h1c⟩:=K45 hrow
  have hbs:b<w.heap.size:=(hGb b (by simp)).1
  have hnd1:=List.nodup_append.1 hG
  have hznd:Gz.Nodup:=(List.nodup_cons.1 hnd1.1).2
  have hbz:b∉Gz:=(List.nodup_cons.1 hnd1.1).1
  have hvb:vb≠b:=fun h=>hnd1.2.2 b (by simp) vb (by simp) h.symm
  have hbv:b∉Gv:=fun h=>hnd1.2.2 b (by simp) b (by simp[h]) rfl
  have hzs:∀x∈Gz,x∈b::Gz:=fun x h=>List.mem_cons_of_mem _ h
  have hzv:(Gz++Gv).Nodup:=List.nodup_append.2 ⟨hznd,(List.nodup_cons.1 hnd1.2.1).2,fun x hx y hy=>hnd1.2.2 x (hzs x hx) y (List.mem_cons_of_mem _ hy)⟩
  have hbz2:b∉Gz++Gv:=fun h=>(List.mem_append.1 h).elim hbz hbv
  have hzlt:∀x∈Gz++Gv,x<w.heap.size:=fun x hx=>(hGb x (by
   rcases List.mem_append.1 hx with h1|h1
   ·exact List.mem_append.2 (.inl (hzs x h1))
   ·exact List.mem_append.2 (.inr (List.mem_cons_of_mem _ h1)))).1
  have hsome:∀j,j<cap*7→(w.cell? ⟨b,off+j,none⟩).isSome=true:=fun j hj=>by
   have:off+j<row.size:=by omega
   simp[World.cell?,hh,this]
  have hfz:∀j,w.frozen? ⟨b,j,none⟩=false:=fun j=>by simp[World.frozen?,hh]
  have hB0:∀(o:Nat) (us:List Value) (w1:World),Bel (fun b'=>b'<w.heap.size∧b'∉(b::Gz)++(vb::Gv)) w1 (w1.setCells b o us):=fun o us w1=>K32 (by simp) us o w1
  have hN0:∀(o:Nat) (us:List Value) (w1:World),Bel (fun b'=>b'≠b) w1 (w1.setCells b o us):=fun o us w1=>K32 (by simp) us o w1
  have hne:∀x∈Gz++Gv,x≠b:=fun x hx e=>hbz2 (e▸hx)
  by_cases hkn:k=es.length
  ·by_cases hroom:es.length+1≤cap
   ·subst hkn
    refine(K8l b off es.length cap vb voff vc cv w hroom hcapB hvl (fun j hj=>by rw[Nat.add_assoc];exact hsome _ (by omega)) (fun j hj=>hfz _) hvs h1v).mono ?_
    rintro e' w' ⟨rfl,rfl⟩
    obtain⟨row',hr1,hr2⟩:=K13 cv (off+es.length*7) w row hh
    exact K76 (k:=es.length) hk hzs hzv hbz2 hrow hrv (hB0 _ _ _) (.inl (by simp)) hr1 (by omega) ⟨hroom,by simp only[roomB];omega,hcapB⟩
     (fun j hj=>World.cell?_setCells_out b _ _ w _ (fun _ _=>by left;show off+j<off+es.length*7;omega))
     (K2b (cs:=cv) (by omega) hvs (fun j v _ hv=>K43 (fun j hj=>by rw[Nat.add_assoc];exact hsome _ (by omega)) j v hv))
     (fun j hj=>by omega) (fun x hx=>(hN0 _ _ _).block x (hne x hx))
   ·have hce:cap=es.length:=by have:=hln.1;omega
    subst hkn
    refine(K5j (some ⟨b,off,none⟩) es.length cap vb voff vc cs cv w hln.1 (by omega) (by omega) hcl hvl (fun h=>by cases h) (fun a ha j v hj=>by
     obtain rfl:=Option.some.inj ha
     rw[Addr.add_lit];exact hcs j v hj) hvs h1v).mono ?_
    rintro e' w' ⟨rfl,rfl⟩
    refine growT cs b off _ Gz _ hcl hcs hrow rfl hzs hG hznd (fun x hx=>(hGb x hx).1) (grownCap_ge w _ _ _) ?_
    have:=grownCap_le_maxLen w (es.length+1) cap 101 (by unfold maxLen;omega)
    unfold maxLen at this
    omega
  ·have hkl:k<es.length:=by omega
   have hdl:(cs.drop (k*7)).length=(es.length-k)*7:=by rw[List.length_drop,hcl];omega
   by_cases hroom:es.length+1≤cap
   ·refine(insP_shift b off es.length cap k vb voff vc cs cv w hkl hroom hcapB hvb hcl hvl hcs (fun j hj=>hsome j (by omega)) (fun j hj=>hfz _) hvs h1c h1v tyv ty rowv.size row.size (by simp[World.shape?,hhv]) (by simp[World.shape?,hh]) (by omega) (by simp[World.frozen?,hhv]) (by simp[World.frozen?,hhv])).mono ?_
    rintro e' w' ⟨rfl,rfl⟩
    obtain⟨row',hr1,hr2⟩:=K13 (cs.drop (k*7)) (off+(k+1)*7) w.drew row hh
    obtain⟨row2,hr3,hr4⟩:=K13 cv (off+k*7) _ row' hr1
    have hs2:∀j,j<cap*7→((w.drew.setCells b (off+(k+1)*7) (cs.drop (k*7))).cell? ⟨b,off+j,none⟩).isSome=true:=fun j hj=>by
     have:off+j<row'.size:=by omega
     simp[World.cell?,hr1,this]
    exact K76 (k:=k) hk hzs hzv hbz2 hrow hrv ((Bel.drew (Bel.refl _ w)).trans ((hB0 _ _ _).trans (hB0 _ _ _))) (.inl (by simp)) hr3 (by omega) ⟨hroom,by simp only[roomB];omega,hcapB⟩
     (fun j hj=>by
      rw[World.cell?_setCells_out b _ _ _ _ (fun _ _=>by left;show off+j<off+k*7;omega),World.cell?_setCells_out b _ _ _ _ (fun _ _=>by left;show off+j<off+(k+1)*7;omega)]
      rfl)
     (K2b (cs:=cv) (by omega) hvs (fun j v _ hv=>K43 (fun j hj=>by rw[Nat.add_assoc];exact hs2 _ (by omega)) j v hv))
     (K2b (cs:=cs.drop (k*7)) (by omega) (K71 hcs) (fun j v hj hv=>by
      rw[World.cell?_setCells_out b _ _ _ _ (fun _ _=>by right;show off+k*7+cv.length≤off+(k+1)*7+j;omega)]
      exact K43 (w1:=w.drew) (fun j hj=>by rw[Nat.add_assoc];exact hsome _ (by omega)) j v hv))
     (fun x hx=>((Bel.drew (Bel.refl _ w)).trans ((hN0 _ _ _).trans (hN0 _ _ _))).block x (hne x hx))
   ·refine(insP_grow b off es.length cap k vb voff vc cs cv w hkl hln.1 (by omega) (by omega) hcl hvl hcs hvs h1c h1v).mono ?_
    rintro e' w' ⟨rfl,rfl⟩
    obtain⟨g,hg⟩:∃g,g=grownCap w (es.length+1) cap 101:=⟨_,rfl⟩
    have hg1:es.length+1≤g:=hg▸grownCap_ge w _ _ _
    have hg2:g≤9223372036854775807:=by
     have:=grownCap_le_maxLen w (es.length+1) cap 101 (by unfold maxLen;omega)
     unfold maxLen at this
     omega
    rw[←hg]
    obtain⟨ROW,hROW⟩:∃ROW:Array Value,ROW=(cs.take (k*7)).toArray++Builtin.zeroCells zeroP.cells (es.length+1-k)++Builtin.zeroCells zeroP.cells (g-(es.length+1)):=⟨_,rfl⟩
    rw[←hROW]
    have hRs:ROW.size=g*7:=by
     rw[hROW]
     simp only[Array.size_append,K3u,List.size_toArray,List.length_take,hcl]
     omega
    obtain⟨w1,hw1⟩:∃w1,w1=(w.alloc (.cells ROW 101)).drew:=⟨_,rfl⟩
    have hh1:w1.heap[w.heap.size]? =some (.cells ROW 101 (0,0)):=by rw[hw1];exact heap_alloc_new w _
    have hc1:∀j,w1.cell? ⟨w.heap.size,j,none⟩=ROW[j]? :=fun j=>by simp[World.cell?,hh1]
    rw[←hw1]
    obtain⟨row',hr1,hr2⟩:=K13 cv (k*7) w1 ROW hh1
    obtain⟨w2,hw2⟩:∃w2,w2=(w1.setCells w.heap.size (k*7) cv).drew:=⟨_,rfl⟩
    rw[←hw2]
    have hh2:w2.heap[w.heap.size]? =some (.cells row' 101 (0,0)):=by rw[hw2];exact hr1
    obtain⟨row2,hr3,hr4⟩:=K13 (cs.drop (k*7)) ((k+1)*7) w2 row' hh2
    have hBs:∀(o:Nat) (us:List Value) (w3:World),Bel (fun b'=>b'<w.heap.size) w3 (w3.setCells w.heap.size o us):=fun o us w3=>K32 (by omega) us o w3
    have hB1:Bel (fun b'=>b'<w.heap.size) w w1:=by
     rw[hw1]
     exact((Bel.refl _ w).alloc (fun _ h=>h) _).drew
    have hB2:Bel (fun b'=>b'<w.heap.size) w w2:=by
     rw[hw2]
     exact(hB1.trans (hBs _ _ _)).drew
    have hB3:=hB2.trans (hBs ((k+1)*7) (cs.drop (k*7)) _)
    have e2:∀j,w2.cell? ⟨w.heap.size,j,none⟩=(w1.setCells w.heap.size (k*7) cv).cell? ⟨w.heap.size,j,none⟩:=fun j=>by rw[hw2];rfl
    have hs1:∀j,j<g*7→(w1.cell? ⟨w.heap.size,j,none⟩).isSome=true:=fun j hj=>by
     have:j<ROW.size:=by omega
     simp[World.cell?,hh1,this]
    have hs2:∀j,j<g*7→(w2.cell? ⟨w.heap.size,j,none⟩).isSome=true:=fun j hj=>by
     have:j<row'.size:=by omega
     simp[World.cell?,hh2,this]
    exact K76 (k:=k) (off2:=0) hk hzs hzv (fun hm=>Nat.lt_irrefl _ (hzlt _ hm)) hrow hrv (hB3.mono fun _ h=>h.1) (.inr (Nat.le_refl _)) hr3 (by omega) ⟨hg1,by simp only[roomB];omega,hg2⟩
     (K2b (cs:=cs) (by omega) hcs (fun j v hj hv=>by
      rw[Nat.zero_add,World.cell?_setCells_out _ _ _ _ _ (fun _ _=>by left;show j<(k+1)*7;omega),e2,World.cell?_setCells_out _ _ _ _ _ (fun _ _=>by left;show j<k*7;omega),hc1,hROW]
      have hjt:j<(cs.take (k*7)).length:=by rw[List.length_take];omega
      rw[Array.append_assoc,Array.getElem?_append_left (by simpa using hjt)]
      simp only[List.getElem?_toArray]
      rw[List.getElem?_take,if_pos hj,hv]))
     (K2b (cs:=cv) (by omega) hvs (fun j v hj hv=>by
      rw[Nat.zero_add,World.cell?_setCells_out _ _ _ _ _ (fun _ _=>by left;show k*7+j<(k+1)*7;omega),e2]
      exact K43 (fun j hj=>hs1 _ (by omega)) j v hv))
     (K2b (cs:=cs.drop (k*7)) (by omega) (K71 hcs) (fun j v hj hv=>by
      rw[Nat.zero_add]
      exact K43 (fun j hj=>hs2 _ (by omega)) j v hv))
     (fun x hx=>hB3.block x (hzlt x hx))
end Go.Proofs.YtflhjihoifbmfaaGreatR
namespace Go.Proofs.YtflhjihoifbmfaaGreatR
open Go Go.RowKit Go.Proofs
open Nat (reduceEqDiff reduceLT reduceLeDiff reduceAdd reduceMul)
open List (reduceReplicate)
def M62:MC:=
(Zs [.box 3 0 (.s 1),.mv 4 (.nil 7),.mv 5 cF] [0,3] (Zs [mS 10 0,.call 11 [1] (.f N1f) [.s 10],mS 6 11] [0,3,6] (.seq (Zs [mS 12 0,.call 13 [] (.f N2i) [.s 12],.un 14 .not (.s 13)] [0,3,6,14] (.cond (.s 14) (Zs [mS 15 6,mS 4 15,.mv 5 cF] [4,5] .ret) .skip))
(Zs [lT 16 5 3,.call 17 [] (.f N1l) [.s 16],mS 7 17] [0,3,6,7] (.seq (Zs [mS 18 6,mS 19 7,.call 20 [] (.f N7a) [.s 18,.s 19],mS 8 20] [0,3,6,7,8] (Zs [mS 21 8,bC 22 .geq 21 0] [0,3,6,7,8,22] (.cond (.s 22) (pr [mS 23 6,mS 24 8,xS 25 7 23 24,fS 26 25 6,lF 27 1 26,bC 28 .add 27 1,xS 29 7 23 24,fS 30 29 6,sS 1 30 28] [0,6]) (Zs [.mv 9 (ci 0)] [0,3,6,7,9] (.seq (.block 0 (.loop ([0,3,6,7,9],[2,3,5]) (.seq (.seq (.reg [Za (mS 31 9),Za (mS 32 6),Za (nS 33 32),Za (bS 34 .lss 31 33),Za (mS 35 34),Zb 35 true (mS 36 6),Zb 35 true (mS 37 9),Zb 35 true (xS 38 7 36 37),Zb 35 true (fS 39 38 0),Zb 35 true (lF 40 1 39),Zb 35 true (mS 41 7),Zb 35 true (bS 42 .lss 40 41),Za (.pick 43 (.s 35) (.s 42) cF)] [0,3,6,7,9,43])
(cX 43 0))
(.block 1 (pr [mS 44 9,bC 45 .add 44 1,mS 9 45] [0,3,6,7,9])))))
(.reg [Za (mS 46 6),Za (mS 47 9),Za (mS 48 7),Za (lT 49 5 3),Za (.call 50 [2] (.f Ns) [.s 49]),Za (.build 51 [pz,pz,.emp 1,pz,pz,pz,pz] [(0,1,.s 48),(1,5,.s 50),(6,1,.c (.int .i64 1))]),Za (.lit 52 3 7 72 [.s 51]),{o:= .callI 53 [4] (.f N4) [.s 46,.s 47,.s 52] [1,3,4] [],ho:=[2]},Za (mS 6 53)] [0,6]))))))
(.seq (Zs [mS 54 6,.call 55 [] (.f N2i) [.s 54],.un 56 .not (.s 55)] [0,6,56] (.cond (.s 56) (Zs [mS 57 0,.call 58 [5] (.f N1f) [.s 57],mS 4 58,.mv 5 cF] [4,5] .ret) .skip))
(Zs [mS 59 6,mS 4 59,.mv 5 cT] [4,5] .ret)))))))
def M6a:MC:=
(Zs [.box 3 0 (.s 1),.mv 4 (.nil 7),.mv 5 cF] [0,3] (.seq (Zs [mS 10 0,.call 11 [] (.f N2j) [.s 10],.un 12 .not (.s 11)] [0,3,12] (.cond (.s 12) (Zs [mS 13 0,.call 14 [1] (.f Nt) [.s 13],mS 4 14,.mv 5 cF] [4,5] .ret) .skip))
(Zs [lT 15 5 3,.call 16 [] (.f N1n) [.s 15],mS 6 16] [0,3,6] (Zs [mS 17 0,mS 18 6,.call 19 [] (.f N7e) [.s 17,.s 18],mS 7 19] [0,3,6,7] (Zs [mS 20 0,.call 21 [2] (.f Nt) [.s 20],mS 8 21] [0,3,6,7,8] (.seq (Zs [mS 22 7,bC 23 .geq 22 0] [0,3,6,7,8,23] (.cond (.s 23) (pr [mS 24 8,mS 25 7,mS 26 8,mS 27 7,xS 28 7 26 27,fS 29 28 6,lF 30 1 29,bC 31 .add 30 1,xS 32 7 24 25,fS 33 32 6,sS 1 33 31] [0,8]) (Zs [.mv 7 (ci 0)] [0,3,6,7] (.seq (.block 0 (.loop ([0,3,6,7],[1,2,3,4,5,6,7]) (.seq (.seq (.reg [Za (mS 34 7),Za (mS 35 0),Za (nS 36 35),Za (bS 37 .lss 34 36),Za (mS 38 37),Zb 38 true (mS 39 0),Zb 38 true (mS 40 7),Zb 38 true (xS 41 7 39 40),Zb 38 true (fS 42 41 0),Zb 38 true (lF 43 1 42),Zb 38 true (mS 44 6),Zb 38 true (bS 45 .lss 43 44),Za (.pick 46 (.s 38) (.s 45) cF)] [0,3,6,7,46])
(cX 46 0))
(.block 1 (pr [mS 47 7,bC 48 .add 47 1,mS 7 48] [0,3,6,7])))))
(Zs [mS 49 0,.call 50 [3] (.f Nt) [.s 49],mS 9 50] [0,3,6,7,9] (.dreg [Zf [52,54,55,56,57,58,60,61,62] [4,5] (mS 51 9),Zf [51,54,55,56,57,58,60,61,62] [4,5] (mS 52 7),Zg [54,55,56,57,58,60,61,62] [4,5] [0,1] (.slc 53 7 (.s 51) none (some (.s 52)) none),Zf [51,52,53,55,56,60,61,62] [4] (mS 54 6),Zc [51,52,53,54,60,61,62] (lT 55 5 3),{o:= .call 56 [4] (.f N1d) [.s 55],hs:=[51,52,53,54,60,61,62],ws:=[4],bf:=[4]},Zd [51,52,53,60,61,62] [3,4,5] (.build 57 [pz,pz,.emp 1,pz,pz,pz,pz] [(0,1,.s 54),(1,5,.s 56),(6,1,.c (.int .i64 1))]),{o:= .lit 58 5 7 72 [.s 57],hs:=[51,52,53,60,61,62],ws:=[4,5],bf:=[3,4,5,6]},{o:= .app 59 3 7 72 (.s 53) (.s 58),hs:=[60,61,62],ws:=[3,5],bf:=(.range 8)},Zf [51,52,53,54,55,56,57,58,59,61] [3,4,5] (mS 60 0),Zf [51,52,53,54,55,56,57,58,59,60] [3,4,5] (mS 61 7),Zg [51,52,53,54,55,56,57,58,59] [3,4,5] [9,10] (.slc 62 7 (.s 60) (some (.s 61)) none none),{o:= .call 63 [6] (.f Nt) [.s 62],ws:=[6],bf:=(.range 12)},{o:= .app 64 3 7 72 (.s 59) (.s 63),ws:=[3,6],bf:=(.range 13)},Ze (.range 14) (mS 8 64)] [0,8]))))))
(.seq (Zs [mS 65 8,.call 66 [] (.f N2j) [.s 65],.un 67 .not (.s 66)] [0,8,67] (.cond (.s 67) (Zs [mS 68 0,.call 69 [7] (.f Nt) [.s 68],mS 4 69,.mv 5 cF] [4,5] .ret) .skip))
(Zs [mS 70 8,mS 4 70,.mv 5 cT] [4,5] .ret))))))))
end Go.Proofs.YtflhjihoifbmfaaGreatR
namespace Go.Proofs.YtflhjihoifbmfaaGreatR
open Go Go.RowKit Go.Proofs
open Nat (reduceEqDiff reduceLT reduceLeDiff reduceAdd reduceMul)
open List (reduceReplicate)
def lowD(d:Int)(p:GPart):Bool:=decide (p.Digest<d)
def K2j(r:GResource):GPart:={Digest:=digest r,Resource:=r,Uses:=1}
def moreP(p:GPart):GPart:={p with Uses:=p.Uses+1}
def Kc(l:List GPart)(r:GResource):List GPart:=
 if 0≤idxF (K2d (digest r)) l then l.modify (idxF (K2d (digest r)) l).toNat moreP else l.take (l.takeWhile (lowD (digest r))).length++[K2j r]++l.drop (l.takeWhile (lowD (digest r))).length
def Kh(l:List GPart)(r:GResource):List GPart×Bool:=if K21 l then(if K21 (Kc l r)then(Kc l r,true)else(l,false))else(l,false)
theorem K3b:∀ {b:Option Int} {l:List GPart},Kx b l=true→∀p∈l,1≤p.Uses∧p.Uses≤1000
 |_,[],_,p,hp=>by simp at hp
 |b,q::l,h,p,hp=>by
  rw[K3a]at h
  simp only[Bool.and_eq_true,decide_eq_true_eq]at h
  rcases List.mem_cons.1 hp with rfl|hp
  ·exact h.2.2.2.1
  ·exact K3b h.2.2.2.2 p hp
theorem K3c{α:Type}{f:α→Bool}:∀ {l:List α} {k:Nat},(∀x∈l.take k,f x=true)→(∀x,l[k]? =some x→f x=false)→k≤l.length→(l.takeWhile f).length=k
 | [],k,_,_,hk=>by simp at hk;simp[hk]
 |x::l,0,_,h,_=>by
  have:=h x rfl
  simp[List.takeWhile,this]
 |x::l,k+1,h1,h2,hk=>by
  have hx:=h1 x (by simp)
  rw[List.takeWhile_cons,if_pos hx,List.length_cons,K3c (k:=k) (fun y hy=>h1 y (by rw[List.take_succ_cons];exact List.mem_cons_of_mem _ hy)) (fun y hy=>h2 y (by simpa using hy)) (by simpa using hk)]
theorem K5t(r:GResource):(K2j r).size=r.size:=rfl
end Go.Proofs.YtflhjihoifbmfaaGreatR
namespace Go.Proofs.YtflhjihoifbmfaaGreatR
open Go Go.RowKit Go.Proofs
open Nat (reduceEqDiff reduceLT reduceLeDiff reduceAdd reduceMul)
open List (reduceReplicate)
theorem K8a{α:Type}{p:α→Bool}:∀ {l:List α},0≤idxF p l→∃(n:Nat) (x:α),idxF p l=n∧l[n]? =some x
 |l,h=>by
  unfold idxF at h ⊢
  split at h
  ·rename_i ha
   rw[if_pos ha]
   obtain⟨x,hx,hp⟩:=List.any_eq_true.1 ha
   have key:∀l:List α,x∈l→(l.takeWhile fun x=> !p x).length<l.length:=by
    intro l
    induction l with
    |nil=>intro h;simp at h
    |cons y l ih=>
     intro h
     rw[List.takeWhile_cons]
     split
     ·rename_i hy
      rcases List.mem_cons.1 h with rfl|h
      ·simp[hp]at hy
      ·have:=ih h;simp only[List.length_cons];omega
     ·simp
   obtain⟨y,hy⟩:=Ke (key l hx)
   exact⟨_,y,rfl,hy⟩
  ·omega
theorem K79{l:List GPart}{n:Nat}{p:GPart}(h:l[n]? =some p):(l.map GPart.enc).set n (moreP p).enc=(l.modify n moreP).map GPart.enc:=by
 refine List.ext_getElem? fun i=>?_
 rw[List.getElem?_set,List.getElem?_map,List.getElem?_map,List.getElem?_modify]
 by_cases e:n=i
 ·subst e
  have:=K6 h
  rw[if_pos rfl,List.length_map,if_pos this,h]
  simp
 ·rw[if_neg e]
  cases l[i]? <;>simp[e]
theorem moreP_size(p:GPart):(moreP p).size=p.size:=rfl
theorem K4i{l:List GPart}{n:Nat}:((l.modify n moreP).map GPart.size).sum=(l.map GPart.size).sum:=by
 congr 1
 refine List.ext_getElem? fun i=>?_
 rw[List.getElem?_map,List.getElem?_map,List.getElem?_modify]
 by_cases e:n=i
 ·subst e
  cases l[n]? <;>simp[moreP_size]
 ·simp[e]
theorem K31{l:List GPart}{r:GResource}(hi:¬idxF (K2d (digest r)) l≥0)(hs:l.length+(l.map GPart.size).sum+r.size+1≤1073741824):(Kc l r).length+((Kc l r).map GPart.size).sum≤1073741824:=by
 rw[Kc,if_neg hi]
 generalize (l.takeWhile (lowD (digest r))).length=k
 have h1:(l.take k++l.drop k)=l:=List.take_append_drop k l
 have h2:((l.take k).map GPart.size).sum+((l.drop k).map GPart.size).sum=(l.map GPart.size).sum:=by
  rw[←List.sum_append,←List.map_append,h1]
 have h3:(l.take k).length+(l.drop k).length=l.length:=by rw[←List.length_append,h1]
 simp only[List.length_append,List.map_append,List.sum_append,List.map_cons,List.map_nil,List.sum_cons,List.sum_nil,List.length_cons,List.length_nil,K5t]
 omega
theorem K6b(r:GResource):(K2j r).enc=[tI (digest r),tI r.Kind,.sl 1 (r.Body.map encI),tI r.To.Host,tI r.To.Path,tI r.To.Query,tI 1]:=by
 simp only[K2j,GPart.enc]
theorem C7p(l:List GPart)(r:GResource)(k:Nat)(hk:k≤l.length)(hl:l.length≤1073741824)(hi:¬idxF (K2d (digest r)) l≥0)(h1:∀x∈l.take k,lowD (digest r) x=true)(h2:∀x,l[k]? =some x→lowD (digest r) x=false):
  CtrI Tryz.prog N4 [oL 7 (l.map GPart.enc),iI k,oL 7 [[tI (digest r),tI r.Kind,.sl 1 (r.Body.map encI),tI r.To.Host,tI r.To.Path,tI r.To.Query,tI 1]]] [none,none] [rL 7 ((Kc l r).map GPart.enc)]:=by
 have h:=C7n (l.map GPart.enc) k (K2j r).enc rfl (by simpa using hk) (by simpa using hl)
 have e:(l.map GPart.enc).take k++[(K2j r).enc]++(l.map GPart.enc).drop k=(Kc l r).map GPart.enc:=by
  rw[Kc,if_neg hi,K3c h1 h2 hk]
  simp only[List.map_append,List.map_take,List.map_drop,List.map_cons,List.map_nil]
 rw[e]at h
 rw[←K6b r]
 exact h
set_option maxHeartbeats 4000000 in
set_option maxRecDepth 100000 in
theorem C9r(l:List GPart)(r:GResource)(hs:l.length+(l.map GPart.size).sum+r.size+1≤1073741824):Ctr Tryz.prog N6g [aL 7 (l.map GPart.enc),aS r.enc] [rL 7 ((Kh l r).1.map GPart.enc),rB (Kh l r).2]:=by
 refine cA M62 6 60 [(.tmp 4,[true]),(.tmp 5,[false])] Tryz.func52 rfl rfl ?_;unfold M62
 intro hb
 clear hb
 have hll:l.length≤1073741824:=by omega
 have hps:l.length+(l.map GPart.size).sum≤1073741824:=by omega
 simp only[go_sem]
 apply K0 (Cx l hps)
 simp only[go_sem]
 intro _
 apply K0 (C16 l hps)
 simp only[go_sem]
 refine⟨fun hst=>?_,fun hst=>?_⟩
 ·simp only[go_sem,Kh,hst]
  done
 ·have hrb:r.Body.length≤1073741824:=by have:=hs;unfold GResource.size at this;omega
  try intros
  apply K0 (C1h r hrb)
  simp only[go_sem]
  try intros
  apply K0 (Ca5 l (digest r))
  simp only[go_sem]
  intro _
  refine⟨fun hi=>?_,fun hi=>?_⟩
  ·obtain⟨n,p,hn,hp⟩:=K8a hi
   have hlt:=K6 hp
   have h0:(0:Int)≤(n:Int):=by omega
   have h1:(n:Int)<(l.length:Int):=by omega
   have hu:=K3b (show Kx none l=true by unfold K21 at hst;simp only[Bool.and_eq_true]at hst;exact hst.2) p (Ku hp)
   have hw:IntKind.i64.wrap (p.Uses+1)=p.Uses+1:=wI (by omega) (by omega)
   have ea:Kc l r=l.modify n moreP:=by unfold Kc;rw[if_pos hi,hn];rfl
   have hm:=K79 hp
   have es:(Kc l r).length+((Kc l r).map GPart.size).sum≤1073741824:=by rw[ea,K4i,List.length_modify];omega
   have hl2:(Kc l r).length=l.length:=by rw[ea,List.length_modify]
   rw[←ea]at hm
   simp only[moreP,GPart.enc,tI]at hm
   simp only[go_sem,hn,K4 hp,h0,h1,hw,hm,hl2,List.length_map,Nat.le_refl]
   apply K0 (C16 (Kc l r) es)
   simp only[go_sem]
   refine⟨fun ho=>?_,fun ho=>?_⟩
   ·try intros
    apply K0 (Cx l hps)
    simp only[go_sem,Kh,hst,ho]
   ·simp only[go_sem,Kh,hst,ho,hl2]
  ·refine Kt (fun k:Nat=>[(9,vI k)]) (fun k=>[]) (fun k=>k≤l.length∧∀x∈l.take k,lowD (digest r) x=true) (fun k=>l.length-k) 0 ?_
   simp only[go_sem]
   refine⟨?_,⟨by omega,by simp⟩,?_⟩
   ·simp only[go_sem]
   ·rintro k ⟨hk,hlt⟩
    by_cases hkl:k<l.length
    ·obtain⟨x,hx⟩:=Ke hkl
     have h1:(k:Int)<(l.length:Int):=by omega
     have h0:(0:Int)≤(k:Int):=by omega
     simp only[go_sem,h1,h0,K4 hx]
     refine⟨fun hd=>?_,fun hd=>?_⟩
     ·refine⟨k+1,by rw[wI (by omega) (by omega)];omega,⟨by omega,fun y hy=>?_⟩,by omega⟩
      rw[Kj hx]at hy
      rcases List.mem_append.1 hy with hy|hy
      ·exact hlt y hy
      ·rw[List.mem_singleton.1 hy];exact decide_eq_true hd
     ·apply K0 (Cr r hrb)
      simp only[go_sem]
      try intros
      refine⟨by simp only[roomB];omega,?_⟩
      apply K7 (C7p l r k hk hll hi hlt (fun y hy=>by rw[hx]at hy;obtain rfl:=Option.some.inj hy;exact decide_eq_false hd))
      simp only[go_sem]
      try intros
      apply K0 (C16 (Kc l r) (K31 hi hs))
      simp only[go_sem]
      refine⟨fun ho=>?_,fun ho=>?_⟩
      ·try intros
       apply K0 (Cx l hps)
       simp only[go_sem,Kh,hst,ho]
      ·simp only[go_sem,Kh,hst,ho]
    ·have h1:¬(k:Int)<(l.length:Int):=by omega
     have hno:∀y,l[k]? =some y→lowD (digest r) y=false:=fun y hy=>absurd (K6 hy) hkl
     simp only[go_sem,h1]
     apply K0 (Cr r hrb)
     simp only[go_sem]
     try intros
     refine⟨by simp only[roomB];omega,?_⟩
     apply K7 (C7p l r k hk hll hi hlt hno)
     simp only[go_sem]
     try intros
     apply K0 (C16 (Kc l r) (K31 hi hs))
     simp only[go_sem]
     refine⟨fun ho=>?_,fun ho=>?_⟩
     ·try intros
      apply K0 (Cx l hps)
      simp only[go_sem,Kh,hst,ho]
     ·simp only[go_sem,Kh,hst,ho]
end Go.Proofs.YtflhjihoifbmfaaGreatR
namespace Go.Proofs.YtflhjihoifbmfaaGreatR
open Go Go.RowKit Go.Proofs
open Nat (reduceEqDiff reduceLT reduceLeDiff reduceAdd reduceMul)
open List (reduceReplicate)
set_option maxHeartbeats 4000000 in
set_option maxRecDepth 100000 in
theorem C9z(l:List GPart)(r:GResource)(hs:l.length+(l.map GPart.size).sum+r.size+1≤1073741824):Ctr Tryz.prog N6o [aL 7 (l.map GPart.enc),aS r.enc] [rL 7 ((Kh l r).1.map GPart.enc),rB (Kh l r).2]:=by
 refine cA M6a 8 71 [(.tmp 4,[true]),(.tmp 5,[false])] Tryz.func50 rfl rfl ?_;unfold M6a
 intro hb
 clear hb
 have hll:l.length≤1073741824:=by omega
 have hps:l.length+(l.map GPart.size).sum≤1073741824:=by omega
 have hrb:r.Body.length≤1073741824:=by have:=hs;unfold GResource.size at this;omega
 simp only[go_sem]
 apply K0 (C17 l hps)
 simp only[go_sem]
 refine⟨fun hst=>?_,fun hst=>?_⟩
 ·apply K0 (C7 l hps)
  simp only[go_sem,Kh,hst]
  try intros
  try exact⟨rfl,rfl⟩
 ·try intros
  apply K0 (C5e r hrb)
  simp only[go_sem]
  try intros
  apply K0 (Ca9 l (digest r) (by omega))
  simp only[go_sem]
  intro _
  apply K0 (C7 l hps)
  simp only[go_sem]
  intros
  refine⟨fun hi=>?_,fun hi=>?_⟩
  ·obtain⟨n,p,hn,hp⟩:=K8a hi
   have hlt:=K6 hp
   have h0:(0:Int)≤(n:Int):=by omega
   have h1:(n:Int)<(l.length:Int):=by omega
   have hu:=K3b (show Kx none l=true by unfold K21 at hst;simp only[Bool.and_eq_true]at hst;exact hst.2) p (Ku hp)
   have hw:IntKind.i64.wrap (p.Uses+1)=p.Uses+1:=wI (by omega) (by omega)
   have ea:Kc l r=l.modify n moreP:=by unfold Kc;rw[if_pos hi,hn];rfl
   have hm:=K79 hp
   have es:(Kc l r).length+((Kc l r).map GPart.size).sum≤1073741824:=by rw[ea,K4i,List.length_modify];omega
   have hl2:(Kc l r).length=l.length:=by rw[ea,List.length_modify]
   rw[←ea]at hm
   simp only[moreP,GPart.enc,tI]at hm
   simp only[go_sem,hn,K4 hp,h0,h1,hw,hm,hl2,List.length_map,Nat.le_refl]
   apply K0 (C17 (Kc l r) es)
   simp only[go_sem]
   refine⟨fun ho=>?_,fun ho=>?_⟩
   ·try intros
    apply K0 (C7 l hps)
    simp only[go_sem,Kh,hst,ho]
   ·simp only[go_sem,Kh,hst,ho,hl2]
  ·refine Kt (fun k:Nat=>[(7,vI k)]) (fun k=>[]) (fun k=>k≤l.length∧∀x∈l.take k,lowD (digest r) x=true) (fun k=>l.length-k) 0 ?_
   simp only[go_sem]
   refine⟨?_,⟨by omega,by simp⟩,?_⟩
   ·simp only[go_sem]
   ·rintro k ⟨hk,hlt⟩
    have key:∀(hno:∀x,l[k]? =some x→lowD (digest r) x=false),Kc l r=l.take k++[K2j r]++l.drop k:=fun hno=>by
     rw[Kc,if_neg hi,K3c hlt hno hk]
    have e1:(if k=l.length then List.map GPart.enc l else List.take k (List.map GPart.enc l))=(l.take k).map GPart.enc:=by
     split
     ·rename_i h;rw[h,List.take_length]
     ·rw[List.map_take]
    have e2:(if k=0∧((l.length:Int)-(k:Int)).toNat=l.length then List.map GPart.enc l else List.take ((l.length:Int)-(k:Int)).toNat (List.drop k (List.map GPart.enc l)))=(l.drop k).map GPart.enc:=by
     split
     ·rename_i h;rw[h.1,List.drop_zero]
     ·rw[List.map_drop,List.take_of_length_le]
      rw[List.length_drop,List.length_map]
      omega
    have hlk:(l.take k).length=k:=by rw[List.length_take];omega
    have hld:(l.drop k).length=l.length-k:=List.length_drop
    have hds:(l.drop k).length+((l.drop k).map GPart.size).sum≤1073741824:=by
     have:=K9u (f:=GPart.size) l k
     omega
    have e3':Kc l r=l.take k++[K2j r]++l.drop k→List.map GPart.enc (l.take k)++[[tI (digest r),tI r.Kind,.sl 1 (r.Body.map encI),tI r.To.Host,tI r.To.Path,tI r.To.Query,tI 1]]++List.map GPart.enc (l.drop k)=(Kc l r).map GPart.enc:=fun h=>by
     rw[h,List.map_append,List.map_append,List.map_cons,List.map_nil,K6b]
    have e4':Kc l r=l.take k++[K2j r]++l.drop k→(l.take k).length+1+(l.drop k).length=(Kc l r).length:=fun h=>by
     rw[h,List.length_append,List.length_append];rfl
    by_cases hkl:k<l.length
    ·obtain⟨x,hx⟩:=Ke hkl
     have h1:(k:Int)<(l.length:Int):=by omega
     have h0:(0:Int)≤(k:Int):=by omega
     simp only[go_sem,h1,h0,K4 hx]
     refine⟨fun hd=>?_,fun hd=>?_⟩
     ·refine⟨k+1,by rw[wI (by omega) (by omega)];omega,⟨by omega,fun y hy=>?_⟩,by omega⟩
      rw[Kj hx]at hy
      rcases List.mem_append.1 hy with hy|hy
      ·exact hlt y hy
      ·rw[List.mem_singleton.1 hy];exact decide_eq_true hd
     ·have hadd:=key (fun y hy=>by rw[hx]at hy;obtain rfl:=Option.some.inj hy;exact decide_eq_false hd)
      have e3:=e3' hadd
      have e4:=e4' hadd
      have hfl:flat (List.map GPart.enc (l.drop k))=false:=by rw[K1e hx];rfl
      apply K0 (C7 l hps)
      simp only[go_sem,h0]
      intro _
      refine⟨by omega,?_⟩
      apply K0 (C1a r hrb)
      simp only[go_sem,Int.sub_zero,Int.toNat_natCast,e1,e2,List.length_map]
      refine⟨by decide,hk,by simp only[roomB];omega,⟨by omega,by omega,by omega⟩,?_⟩
      apply K0 (C7 (l.drop k) hds)
      simp only[go_sem,List.length_map,List.length_append,hfl,e3,e4]
      refine⟨by simp only[roomB];omega,?_⟩
      intros
      apply K0 (C17 (Kc l r) (K31 hi hs))
      simp only[go_sem]
      refine⟨fun ho=>?_,fun ho=>?_⟩
      ·try intros
       apply K0 (C7 l hps)
       simp only[go_sem,Kh,hst,ho]
      ·simp only[go_sem,Kh,hst,ho]
    ·have h1:¬(k:Int)<(l.length:Int):=by omega
     simp only[go_sem,h1]
     apply K0 (C7 l hps)
     have hadd:=key (fun y hy=>absurd (K6 hy) hkl)
     have e3:=e3' hadd
     have e4:=e4' hadd
     have hfl:flat (List.map GPart.enc (l.drop k))=true:=by rw[List.drop_eq_nil_of_le (by omega)];rfl
     have h0:(0:Int)≤(k:Int):=by omega
     have h1':(k:Int)≤(l.length:Int):=by omega
     simp only[go_sem,h0,h1']
     intro _
     refine⟨by omega,?_⟩
     apply K0 (C1a r hrb)
     simp only[go_sem,Int.sub_zero,Int.toNat_natCast,e1,e2,List.length_map]
     refine⟨by decide,hk,by simp only[roomB];omega,⟨by omega,by omega,by omega⟩,?_⟩
     apply K0 (C7 (l.drop k) hds)
     simp only[go_sem,List.length_map,List.length_append,hfl,e3,e4]
     refine⟨by simp only[roomB];omega,?_⟩
     intros
     apply K0 (C17 (Kc l r) (K31 hi hs))
     simp only[go_sem]
     refine⟨fun ho=>?_,fun ho=>?_⟩
     ·try intros
      apply K0 (C7 l hps)
      simp only[go_sem,Kh,hst,ho]
     ·simp only[go_sem,Kh,hst,ho]
end Go.Proofs.YtflhjihoifbmfaaGreatR
namespace Go.Proofs.YtflhjihoifbmfaaGreatR
open Go Go.RowKit Go.Proofs
open Nat (reduceEqDiff reduceLT reduceLeDiff reduceAdd reduceMul)
open List (reduceReplicate)
def psize(l:List GPart):Nat:=l.length+(l.map GPart.size).sum
theorem putPart_no{l:List GPart}{r:GResource}(h:(Kh l r).2=false):(Kh l r).1=l:=by
 unfold Kh at h ⊢
 split at h
 ·split at h
  ·cases h
  ·rw[if_pos (by assumption),if_neg (by assumption)]
 ·rw[if_neg (by assumption)]
theorem K9c(l:List GPart)(r:GResource):psize (Kh l r).1≤psize l+r.size+1:=by
 unfold Kh
 split
 ·split
  ·show psize (Kc l r)≤_
   unfold Kc
   split
   ·simp only[psize,K4i,List.length_modify];omega
   ·generalize (l.takeWhile (lowD (digest r))).length=k
    have h1:(l.take k++l.drop k)=l:=List.take_append_drop k l
    have h2:((l.take k).map GPart.size).sum+((l.drop k).map GPart.size).sum=(l.map GPart.size).sum:=by
     rw[←List.sum_append,←List.map_append,h1]
    have h3:(l.take k).length+(l.drop k).length=l.length:=by rw[←List.length_append,h1]
    simp only[psize,List.length_append,List.map_append,List.sum_append,List.map_cons,List.map_nil,List.sum_cons,List.sum_nil,List.length_cons,List.length_nil,K5t]
    omega
  ·show psize l≤_;omega
 ·show psize l≤_;omega
def partsF(cs:List GCapture):List GPart:=cs.foldl (fun out c=>(Kh out c.Resource).1) []
theorem K6f{cs:List GCapture}{k:Nat}{c:GCapture}(h:cs[k]? =some c):partsF (cs.take (k+1))=(Kh (partsF (cs.take k)) c.Resource).1:=by
 rw[Kj h,partsF,List.foldl_append];rfl
theorem K6e(cs:List GCapture):psize (partsF cs)≤cs.length+(cs.map GCapture.size).sum:=by
 suffices H:∀(cs:List GCapture) (o:List GPart),psize (cs.foldl (fun out c=>(Kh out c.Resource).1) o)≤psize o+(cs.length+(cs.map GCapture.size).sum)by simpa[partsF,psize]using H cs []
 intro cs
 induction cs with
 |nil=>intro o;simp
 |cons c cs ih=>
  intro o
  have h1:=ih (Kh o c.Resource).1
  have h2:=K9c o c.Resource
  simp only[List.foldl_cons,List.length_cons,List.map_cons,List.sum_cons]
  have h3:c.size=c.Resource.size:=rfl
  omega
theorem K6d{cs:List GCapture}{k:Nat}{c:GCapture}(h:cs[k]? =some c):psize (partsF (cs.take k))+c.Resource.size+1≤cs.length+(cs.map GCapture.size).sum:=by
 have h1:=K6e (cs.take k)
 have h2:((cs.take (k+1)).map GCapture.size).sum≤(cs.map GCapture.size).sum:=K1b (f:=GCapture.size) cs (k+1)
 rw[Kj h]at h2
 simp only[List.map_append,List.sum_append,List.map_cons,List.map_nil,List.sum_cons,List.sum_nil]at h2
 have h3:c.size=c.Resource.size:=rfl
 have h4:=K6 h
 have h5:=List.length_take_le k cs
 omega
def K2k(a:GArchive):List GPart:=partsF (Km a)
theorem K5u(a:GArchive):(K2k a).length+((K2k a).map GPart.size).sum≤a.size:=by
 have h1:=K6e (Km a)
 have h2:=K3y a
 unfold K2k
 unfold psize at h1
 omega
def M61:MC:=
(Zs [.box 1 0 (.s 0),.nilo 2 1 7] [1] (Zs [.nilo 3 1 7] [1,3] (.seq (Zs [lT 8 10 1,.call 9 [2] (.f N2t) [.s 8],nS 10 9,.mv 11 (ci 0)] [3,9,10,11] (.block 0 (.loop ([3,9,10,11],[0,3,4]) (Zs [bS 12 .lss 11 10] [3,9,10,11,12] (.seq (cX 12 0)
(.seq (.block 1 (Zs [xS 13 9 9 11,lT 14 9 13,.alloc 5 3 [pz,pz,pz,pz,pz,.emp 1,pz,pz,pz],sS 9 5 14] [3,5,9,10,11] (Zs [mS 16 3,fS 17 5 4,lT 18 5 17,.call 19 [4] (.f N6g) [.s 16,.s 18],mS 15 19,.ext 20 (.s 15) 0,.ext 21 (.s 15) 1,mS 6 20,mS 7 21] [3,6,7,9,10,11] (Zs [mS 22 7] [3,6,9,10,11,22] (.cond (.s 22) (.ren [(4,1)] (pr [mS 23 6,mS 3 23] [3,9,10,11])) .skip)))))
(pr [bC 24 .add 11 1,mS 11 24] [3,9,10,11])))))))
(Zs [mS 25 3,mS 2 25] [2] .ret))))
set_option maxHeartbeats 1000000 in
theorem C9q(a:GArchive)(hs:a.size≤1073741824):Ctr Tryz.prog N6f [aS a.enc] [rL 7 ((K2k a).map GPart.enc)]:=by
 refine cA M61 5 26 [(.tmp 2,[true])] Tryz.func13 rfl rfl ?_;unfold M61
 intro hb
 clear hb
 have hz:=K3y a
 simp only[go_sem]
 apply K0 (C7q a hs)
 simp only[go_sem]
 intros
 refine K3 (Km a) (fun k=>[(3,.val false [.ref 1 0 7 0 (partsF ((Km a).take k)).length]),(11,vI k)]) (fun k=>[(1,⟨0,.row true 7 ((partsF ((Km a).take k)).map GPart.enc)⟩)]) (fun _=>True) (by simp only[roomB];omega) ?_
 simp only[go_sem]
 refine⟨?_,trivial,?_,?_⟩
 ·simp only[go_sem,List.take_zero]
  try exact⟨rfl,rfl⟩
 ·intro k c hx _ h0 h1 hw
  have hr:=K6d hx
  unfold psize at hr
  simp only[go_sem,K4 hx,h0,h1]
  apply K0 (C9r (partsF ((Km a).take k)) c.Resource (by omega))
  simp only[go_sem,hw]
  intros
  rw[K6f hx]
  refine⟨fun ho=>?_,fun ho=>?_⟩
  ·simp only[go_sem,and_false]
   try trivial
  ·rw[putPart_no (by simpa using ho)]
   try exact⟨rfl,rfl⟩
 ·intro _
  simp only[go_sem,List.take_length]
  rfl
def M69:MC:=
(Zs [.box 1 0 (.s 0),.nilo 2 1 7] [1] (Zs [.lit 6 1 7 72 [],mS 3 6] [1,3] (Zs [lT 7 10 1,.call 8 [2] (.f N31) [.s 7],mS 4 8] [3,4] (.seq (Zs [.mv 5 (ci 0)] [3,4,5] (.block 0 (.loop ([3,4,5],[0]) (.seq (Zs [mS 9 5,mS 10 4,nS 11 10,bS 12 .lss 9 11] [3,4,5,12] (cX 12 0))
(.seq (.block 1 (pr [mS 16 3,mS 17 4,mS 18 5,xS 19 9 17 18,fS 20 19 4,lT 21 5 20,.call 22 [1] (.f N6o) [.s 16,.s 21],mS 15 22,.ext 23 (.s 15) 0,.ext 24 (.s 15) 1,mS 3 23] [3,4,5]))
(pr [mS 13 5,bC 14 .add 13 1,mS 5 14] [3,4,5]))))))
(Zs [mS 25 3,mS 2 25] [2] .ret)))))
set_option maxHeartbeats 1000000 in
theorem C9y(a:GArchive)(hs:a.size≤1073741824):Ctr Tryz.prog N6n [aS a.enc] [rL 7 ((K2k a).map GPart.enc)]:=by
 refine cA M69 3 26 [(.tmp 2,[true])] Tryz.func12 rfl rfl ?_;unfold M69
 intro hb
 clear hb
 have hz:=K3y a
 simp only[go_sem]
 apply K0 (C83 a hs)
 simp only[go_sem]
 intros
 refine K3 (Km a) (fun k=>[(3,.val false [.ref 1 0 7 0 (partsF ((Km a).take k)).length]),(5,vI k)]) (fun k=>[(1,⟨0,.row true 7 ((partsF ((Km a).take k)).map GPart.enc)⟩)]) (fun _=>True) (by simp only[roomB];omega) ?_
 simp only[go_sem]
 refine⟨?_,trivial,?_,?_⟩
 ·simp only[go_sem,List.take_zero]
  try exact⟨rfl,rfl⟩
 ·intro k c hx _ h0 h1 hw
  have hr:=K6d hx
  unfold psize at hr
  simp only[go_sem,K4 hx,h0,h1]
  apply K0 (C9z (partsF ((Km a).take k)) c.Resource (by omega))
  simp only[go_sem,hw]
  intros
  rw[K6f hx]
  exact⟨rfl,rfl⟩
 ·intro _
  simp only[go_sem,List.take_length]
  rfl
def savedBy(a:GArchive):Int:=IntKind.i64.wrap ((K16 (K2k a)).2-(K16 (K2k a)).1)
def Y17(v0:Nat)(v1:Nat):MC:=
(Zs [.box 1 0 (.s 0),.mv 2 (ci 0)] [1] (Zs [lT 6 10 1,.call 7 [1] (.f v0) [.s 6],.call 8 [] (.f v1) [.s 7],mS 5 8,.ext 9 (.s 5) 0,.ext 10 (.s 5) 1,mS 3 9,mS 4 10] [3,4] (Zs [mS 11 4,mS 12 3,bS 13 .sub 11 12,mS 2 13] [2] .ret)))
attribute [go_sem] Y17
def M63:MC:=Y17 N6f N3x
theorem C9s(a:GArchive)(hs:a.size≤1073741824):Ctr Tryz.prog N6h [aS a.enc] [rI (savedBy a)]:=by
 refine cA M63 2 14 [(.tmp 2,[false])] Tryz.func10 rfl rfl ?_;unfold M63
 intro hb
 clear hb
 have hz:=K5u a
 simp only[go_sem]
 apply K0 (C9q a hs)
 simp only[go_sem]
 intros
 apply K0 (C8a (K2k a) (by omega))
 simp only[go_sem]
 try intros
 rfl
def M6b:MC:=Y17 N6n N4c
theorem Ca0(a:GArchive)(hs:a.size≤1073741824):Ctr Tryz.prog N6p [aS a.enc] [rI (savedBy a)]:=by
 refine cA M6b 2 14 [(.tmp 2,[false])] Tryz.func8 rfl rfl ?_;unfold M6b
 intro hb
 clear hb
 have hz:=K5u a
 simp only[go_sem]
 apply K0 (C9y a hs)
 simp only[go_sem]
 intros
 apply K0 (C8m (K2k a) (by omega))
 simp only[go_sem]
 try intros
 rfl
end Go.Proofs.YtflhjihoifbmfaaGreatR
namespace Go.Proofs.YtflhjihoifbmfaaGreatR
open Go Go.RowKit Go.Proofs
open Nat (reduceEqDiff reduceLT reduceLeDiff reduceAdd reduceMul)
open List (reduceReplicate)
def M1g:MC:=
(Zs [.box 1 0 (.s 0),.mv 2 cF] [1] (Zs [.mv 3 (ci 1048576)] [1,3] (Zs [lT 7 10 1,mS 8 3,.call 9 [] (.f N51) [.s 7,.s 8],mS 3 9] [1,3] (.seq (Zs [mS 10 3,bC 11 .lss 10 0] [1,11] (.cond (.s 11) (Zs [.mv 2 cT] [2] .ret) .skip))
(Zs [lT 12 10 1,.call 13 [1,2,3,4,5,6,7,8,9] (.f Nz) [.s 12],.call 14 [] (.f N6p) [.s 13],mS 4 14] [1,4] (Zs [lT 15 10 1,.call 16 [10,11,12,13,14,15,16,17,18] (.f Nz) [.s 15],.alloc 5 19 [.emp 9,.emp 4,.emp 4,.emp 6,.emp 4,.emp 5,.emp 4,.emp 1,.emp 4,pz],sS 10 5 16] [1,4,5] (Zs [lT 17 10 5,.call 18 [] (.f N6h) [.s 17],mS 6 18] [1,4,5,6] (.seq (Zs [mS 19 6,mS 20 4,bS 21 .neq 19 20] [1,5,21] (.cond (.s 21) (Zs [.mv 2 cF] [2] .ret) .skip))
(.seq (.seq (.dreg [Zf [23,24] [20,21,22,23,24,25,26,27,28] (lT 22 10 5),Zc [22] (lT 23 10 1),{o:= .call 24 [20,21,22,23,24,25,26,27,28] (.f Nz) [.s 23],hs:=[22],ws:=[20,21,22,23,24,25,26,27,28],bf:=[1]},Ze [0,1,2] (.call 25 [] (.f N4w) [.s 22,.s 24]),Ze (.range 4) (.un 26 .not (.s 25))] [26])
(.cond (.s 26) (Zs [.mv 2 cF] [2] .ret) .skip))
(Zs [.mv 2 cT] [2] .ret))))))))))
theorem c_laws_FnExactSavedBy(a:GArchive):Ctr Tryz.prog N6i [aS a.enc] [rB true]:=by
 refine cA M1g 29 27 [(.tmp 2,[false])] Tryz.func3 rfl rfl ?_;unfold M1g
 intro hb
 clear hb
 simp only[go_sem]
 apply K0 (C91 a _ (by omega))
 simp only[go_sem]
 intro _ hz
 have hs:=szr_ok hz
 have hc_a:=GArchive.cts_le a
 apply K0 (C1e a (by omega))
 simp only[go_sem]
 try intros
 apply K0 (Ca0 a (by omega))
 simp only[go_sem]
 try intros
 apply K0 (C1e a (by omega))
 simp only[go_sem]
 try intros
 apply K0 (C9s a (by omega))
 simp only[go_sem]
 try intros
 apply K0 (C1e a (by omega))
 simp only[go_sem]
 try intros
 apply K0 (C8x a a)
 simp only[go_sem]
 try intros
end Go.Proofs.YtflhjihoifbmfaaGreatR
