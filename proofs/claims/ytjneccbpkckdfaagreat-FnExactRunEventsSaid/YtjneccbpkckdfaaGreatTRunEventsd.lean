/- What the functions compute that the laws of RunEvents reach: contracts. Conditions stand in each theorem. -/
import Derived.Shelf.Spec.SlicesInsertGrow
import Derived.Test.YtjneccbpkckdfaaGreatTRunEventsc
set_option linter.unusedVariables false
set_option linter.unusedSimpArgs false
namespace Go.Proofs.YtjneccbpkckdfaaGreatR
open Go Go.RowKit Go.Proofs
open Nat (reduceEqDiff reduceLT reduceLeDiff reduceAdd reduceMul)
open List (reduceReplicate)
def modM(v:Int):Int:=(IntKind.i64.wrap (v.tmod 1000000+1000000)).tmod 1000000
theorem Kb7:¬(1000000:Int)=0:=by decide
def K3c(d l:Int):Int:=modM (hashL [d,l])
def cmpR(d a b:Int):Int:=cmpI (K3c d b) (K3c d a)
def ltR(d a b:Int):Bool:=decide (K3c d b<K3c d a)
theorem ltR_eq(d:Int):ltz (cmpR d)=ltR d:=by
 funext a b
 by_cases h1:K3c d b<K3c d a
 ·simp[ltz,cmpR,cmpI,ltR,h1]
 ·by_cases h2:K3c d a<K3c d b<;>simp[ltz,cmpR,cmpI,ltR,h1,h2]
theorem swoR(d:Int):Srt.Swo (ltz (cmpR d)):=by
 rw[ltR_eq]
 refine⟨fun x y h=>?_,fun x y z h=>?_⟩
 ·simp only[ltR,decide_eq_true_eq,decide_eq_false_iff_not]at *;omega
 ·simp only[ltR,decide_eq_true_eq]at *;omega
def ordB(d a b:Int):Bool:=decide (K3c d b<K3c d a∨K3c d a=K3c d b∧a<b)
theorem swoB(d:Int):Srt.Swo (ordB d):=by
 refine⟨fun x y h=>?_,fun x y z h=>?_⟩
 ·simp only[ordB,decide_eq_true_eq,decide_eq_false_iff_not]at *;omega
 ·simp only[ordB,decide_eq_true_eq]at *;omega
theorem ordB_tot{d a b:Int}(h:a≠b)(hf:ordB d a b=false):ordB d b a=true:=by
 simp only[ordB,decide_eq_true_eq,decide_eq_false_iff_not]at *;omega
def Ky(l:List Int)(d:Int):List Int:=Srt.isort (ltz (cmpR d)) (sortU l)
theorem Kci{α:Type}{p q:α→α→Bool}{x:α}:∀ {A:List α},(∀z∈A,p x z=q x z)→Srt.ins p x A=Srt.ins q x A
 | [],_=>rfl
 |z::A,h=>by
  simp only[Srt.ins]
  rw[h z (by simp),Kci fun y hy=>h y (by simp[hy])]
theorem Kcl(d:Int):∀(n:Nat) (l:List Int),l.length=n→l.Pairwise (· < ·)→Srt.isort (ltR d) l=Srt.isort (ordB d) l
 |0,l,hn,_=>by
  obtain rfl:=List.length_eq_zero_iff.1 hn
  rfl
 |n+1,l,hn,h=>by
  rcases List.eq_nil_or_concat l with rfl|⟨s,x,rfl⟩
  ·rfl
  ·rw[List.concat_eq_append]at*
   rw[List.pairwise_append]at h
   rw[Srt.isort_snoc,Srt.isort_snoc,Kcl d n s (by simpa using hn) h.1]
   refine Kci fun z hz=>?_
   have hz':z∈s:=by
    rcases Srt.mem_mrg.1 hz with k|k
    ·simp at k
    ·exact k
   have:=h.2.2 z hz' x (by simp)
   simp only[ltR,ordB]
   rw[Bool.eq_iff_iff]
   simp only[decide_eq_true_eq]
   omega
def strictB(d:Int)(l:List Int):Prop:=l.Pairwise fun x y=>ordB d x y=true
theorem K8e{d x:Int}:∀ {l:List Int},strictB d l→x∉l→strictB d (Srt.ins (ordB d) x l)
 | [],_,_=>by simp[Srt.ins,strictB]
 |z::zs,h,hx=>by
  unfold strictB at h ⊢
  rw[List.pairwise_cons]at h
  have hne:x≠z:=fun e=>hx (by simp[e])
  simp only[Srt.ins]
  split
  ·rename_i k
   rw[List.pairwise_cons,List.pairwise_cons]
   refine⟨fun y hy=>?_,h⟩
   rcases List.mem_cons.1 hy with rfl|hy
   ·exact k
   ·exact(swoB d).tr k (h.1 y hy)
  ·rename_i k
   rw[List.pairwise_cons]
   refine⟨fun y hy=>?_,K8e h.2 fun e=>hx (by simp[e])⟩
   rcases Srt.mem_ins.1 hy with rfl|hy
   ·exact ordB_tot hne (by simpa using k)
   ·exact h.1 y hy
theorem Kbj{d:Int}:∀ {B A:List Int},strictB d A→B.Nodup→(∀b∈B,b∉A)→strictB d (Srt.mrg (ordB d) A B)
 | [],A,h,_,_=>h
 |x::B,A,h,hn,hd=>by
  rw[List.nodup_cons]at hn
  rw[Srt.mrg_cons]
  refine Kbj (K8e h (hd x (by simp))) hn.2 fun b hb hm=>?_
  rcases Srt.mem_ins.1 hm with rfl|hm
  ·exact hn.1 hb
  ·exact hd b (by simp[hb]) hm
theorem Kct{d:Int}:∀ {l m:List Int},strictB d l→strictB d m→(∀x,x∈l↔x∈m)→l=m
 | [],[],_,_,_=>rfl
 | [],b::m,_,_,h=>by have:=(h b).2 (by simp);simp at this
 |a::l,[],_,_,h=>by have:=(h a).1 (by simp);simp at this
 |a::l,b::m,h1,h2,h=>by
  unfold strictB at h1 h2
  rw[List.pairwise_cons]at h1 h2
  have hir:∀x,ordB d x x=true→False:=fun x hx=>by have:=(swoB d).asy x x hx;simp_all
  have hab:a=b:=by
   rcases List.mem_cons.1 ((h a).1 (by simp))with e|e
   ·exact e
   ·rcases List.mem_cons.1 ((h b).2 (by simp))with e2|e2
    ·exact e2.symm
    ·exact(hir a ((swoB d).tr (h1.1 b e2) (h2.1 a e))).elim
  subst hab
  congr 1
  refine Kct h1.2 h2.2 fun x=>⟨fun hx=>?_,fun hx=>?_⟩
  ·rcases List.mem_cons.1 ((h x).1 (by simp[hx]))with e|e
   ·subst e;exact(hir x (h1.1 x hx)).elim
   ·exact e
  ·rcases List.mem_cons.1 ((h x).2 (by simp[hx]))with e|e
   ·subst e;exact(hir x (h2.1 x hx)).elim
   ·exact e
def addO(d:Int)(out:List Int)(x:Int):List Int:=if out.contains x then out else Srt.ins (ordB d) x out
theorem K5f{d:Int}:∀(l out:List Int),strictB d out→strictB d (l.foldl (addO d) out)∧∀x,x∈l.foldl (addO d) out↔x∈out∨x∈l
 | [],out,h=>⟨h,by simp⟩
 |z::l,out,h=>by
  have hz:strictB d (addO d out z)∧∀x,x∈addO d out z↔x∈out∨x=z:=by
   unfold addO
   split
   ·rename_i k
    have k':z∈out:=by simpa using k
    refine⟨h,fun x=>⟨.inl,?_⟩⟩
    rintro (k|rfl)
    ·exact k
    ·exact k'
   ·rename_i k
    have k':z∉out:=by simpa using k
    refine⟨K8e h k',fun x=>?_⟩
    rw[Srt.mem_ins]
    constructor<;>rintro (k|k)<;>simp[k]
  obtain⟨h1,h2⟩:=K5f l (addO d out z) hz.1
  refine⟨h1,fun x=>?_⟩
  rw[List.foldl_cons,h2,hz.2,List.mem_cons]
  constructor
  ·rintro ((k|k)|k)<;>simp[k]
  ·rintro (k|k|k)<;>simp[k]
def ordS(l:List Int)(d:Int):List Int:=l.foldl (addO d) []
theorem Kbx(l:List Int)(d:Int):ordS l d=Ky l d:=by
 obtain⟨h1,h2⟩:=K8b l
 obtain⟨h3,h4⟩:=K5f (d:=d) l [] List.Pairwise.nil
 rw[Ky,ltR_eq,Kcl d _ _ rfl h1]
 refine Kct h3 (Kbj List.Pairwise.nil (h1.imp (fun h=>by omega)) (by simp)) fun x=>?_
 rw[Srt.isort,Srt.mem_mrg,h2]
 exact h4 x
theorem ordS_snoc{l:List Int}{d:Int}{k:Nat}{x:Int}(h:l[k]? =some x):ordS (l.take (k+1)) d=addO d (ordS (l.take k) d) x:=by
 rw[Kc h,ordS,List.foldl_append];rfl
theorem K53(l:List Int)(d:Int):(Ky l d).length≤l.length:=by
 rw[Ky,Srt.len_isort,sortU_puts];exact puts_len l
theorem ordFor_mem{l:List Int}{d x:Int}:x∈Ky l d↔x∈l:=by
 rw[Ky,ltR_eq]
 rw[show x∈Srt.isort (ltR d) (sortU l)↔x∈sortU l from by rw[Srt.isort,Srt.mem_mrg];simp,(K8b l).2]
theorem K98(l:List Int)(d:Int):(Ky l d).Nodup:=by
 rw[←Kbx]
 have hir:∀x,ordB d x x=true→False:=fun x hx=>by have:=(swoB d).asy x x hx;simp_all
 exact(K5f (d:=d) l [] List.Pairwise.nil).1.imp fun {a b} h e=>by subst e;exact hir a h
def placedL(l:List Int)(d k:Int):List Int:=(Ky l d).take k.toNat
theorem Cpd(v:Int):Ctr Tryz.prog N4j [aI v,aI 1000000] [rI (modM v)]:=by
 refine cA M4h 0 15 [(.tmp 4,[false])] Tryz.func363 rfl rfl ?_;unfold M4h
 intro hb
 clear hb
 simp only[go_sem]
 apply K0 (C2 _ _ _)
 simp only[go_sem,Kb7]
 refine And.intro ?_ ?_<;>intro h
 ·exact absurd (by decide) h
 ·rfl
theorem Cpi(v:Int):Ctr Tryz.prog N4l [aI v,aI 1000000] [rI (modM v)]:=by
 refine cA M4i 0 15 [(.tmp 4,[false])] Tryz.func368 rfl rfl ?_;unfold M4i
 intro hb
 clear hb
 simp only[go_sem]
 apply K0 (C3 _ _ _)
 simp only[go_sem,Kb7]
 refine And.intro ?_ ?_<;>intro h
 ·exact absurd (by decide) h
 ·rfl
def Mjl:MC:=
(Zs [.mv 4 (ci 0)] [0,1] (Zs [mS 5 0,mS 6 1,.lit 7 0 1 8 [.s 5,.s 6],.call 8 [] (.f N21) [.s 7],.call 9 [] (.f N4j) [.s 8,.c (.int .i64 1000000)],mS 4 9] [4] .ret))
theorem Cjb(d l:Int):Ctr Tryz.prog Nau [aI d,aI l] [rI (K3c d l)]:=by
 refine cA Mjl 1 10 [(.tmp 4,[false])] Tryz.func341 rfl rfl ?_;unfold Mjl
 intro hb
 clear hb
 simp only[go_sem]
 refine⟨⟨by simp,by decide⟩,?_⟩
 apply K0 (C2p [d,l])
 simp only[go_sem]
 apply K0 (Cpd _)
 simp only[go_sem]
 intros
 rfl
def Mjx:MC:=
(Zs [.mv 4 (ci 0)] [0,1] (Zs [mS 5 0,mS 6 1,.lit 7 0 1 8 [.s 5,.s 6],.call 8 [] (.f N25) [.s 7],.call 9 [] (.f N4l) [.s 8,.c (.int .i64 1000000)],mS 4 9] [4] .ret))
theorem Cjf(d l:Int):Ctr Tryz.prog Nax [aI d,aI l] [rI (K3c d l)]:=by
 refine cA Mjx 1 10 [(.tmp 4,[false])] Tryz.func372 rfl rfl ?_;unfold Mjx
 intro hb
 clear hb
 simp only[go_sem]
 refine⟨⟨by simp,by decide⟩,?_⟩
 apply K0 (C2q [d,l])
 simp only[go_sem]
 apply K0 (Cpi _)
 simp only[go_sem]
 intros
 rfl
def Mbd:MC:=
(Zs [.mv 5 (ci 0)] [0,1,2] (.seq (.dreg [Zc [7,9,10] (lF 6 1 2),Zc [6,9,10] (mS 7 1),Zd [9,10] [0,1] (.call 8 [] (.f Nau) [.s 6,.s 7]),Zc [6,7,8,10] (lF 9 1 2),Zc [6,7,8,9] (mS 10 0),Ze (.range 5) (.call 11 [] (.f Nau) [.s 9,.s 10]),Ze (.range 6) (.call 12 [] (.f N4w) [.s 8,.s 11]),Ze (.range 7) (mS 5 12)] [5])
.ret))
theorem Cm4(a b d:Int):Ctr Tryz.prog Nck [aI a,aI b,(false,[.pb [tI d]])] [rI (cmpR d a b)]:=by
 refine cA Mbd 0 13 [(.tmp 5,[false])] Tryz.func340 rfl rfl ?_;unfold Mbd
 intro hb
 clear hb
 simp only[go_sem]
 apply K0 (Cjb _ _)
 simp only[go_sem]
 intros
 apply K0 (Cjb _ _)
 simp only[go_sem]
 intros
 apply K0 (Cj9 _ _)
 simp only[go_sem]
 intros
 rfl
def Mg7:MC:=
(Zs [.box 3 0 (.s 1),.nilo 4 1 1] [0,3] (Zs [mS 6 0,.call 7 [1] (.f Nav) [.s 6],mS 5 7] [3,5] (Zs [mS 8 5,.closF 9 Nck 3,.callI 10 [] (.f N2g) [.s 8,.s 9] [0,1] []] [5] (Zs [mS 11 5,mS 4 11] [4] .ret))))
theorem Cfx(l:List Int)(d:Int)(hl:l.length≤1073741824):Ctr Tryz.prog N6s [aL 1 (l.map encI),aI d] [rL 1 ((Ky l d).map encI)]:=by
 refine cA Mg7 2 12 [(.tmp 4,[true])] Tryz.func263 rfl rfl ?_;unfold Mg7
 intro hb
 clear hb
 simp only[go_sem]
 apply K0 (Cjd l hl)
 simp only[go_sem]
 intros
 apply K7 (Cj5 (cs:=[.pb [tI d]]) (sortU l) _ (cmpR d) (fun x y=>Cm4 x y d) (swoR d))
 simp only[go_sem]
 exact⟨Srt.len_isort.symm,rfl⟩
def Mev:MC:=
(Zs [.mv 6 cF] [0,1,2] (Zs [mS 9 0,mS 10 1,.call 11 [] (.f Nax) [.s 9,.s 10],mS 7 11] [0,1,2,7] (Zs [mS 12 0,mS 13 2,.call 14 [] (.f Nax) [.s 12,.s 13],mS 8 14] [1,2,7,8] (.seq (.reg [Za (mS 15 7),Za (mS 16 8),Za (bS 17 .gtr 15 16),Za (mS 18 17),Zb 18 false (mS 19 7),Zb 18 false (mS 20 8),Zb 18 false (bS 21 .eql 19 20),Zb 18 false (mS 22 21),Zb 22 true (mS 23 1),Zb 22 true (mS 24 2),Zb 22 true (bS 25 .lss 23 24),Zb 18 false (.pick 26 (.s 22) (.s 25) cF),Za (.pick 27 (.s 18) cT (.s 26)),Za (mS 6 27)] [6])
.ret))))
theorem Co3(d a b:Int):Ctr Tryz.prog Nfp [aI d,aI a,aI b] [rB (ordB d a b)]:=by
 refine cA Mev 0 28 [(.tmp 6,[false])] Tryz.func331 rfl rfl ?_;unfold Mev
 intro hb
 clear hb
 simp only[go_sem]
 apply K0 (Cjf _ _)
 simp only[go_sem]
 intros
 apply K0 (Cjf _ _)
 simp only[go_sem]
 intros
 repeat' first
  |(refine And.intro ?_ ?_<;>intro h)
 all_goals (unfold ordB;first|(symm;rw[decide_eq_false_iff_not];omega)|(rw[Bool.eq_iff_iff];simp only[decide_eq_true_eq];omega)|(simp;omega))
def Mgr:MC:=
(Zs [.nilo 4 0 1] [0,1] (Zs [.lit 9 0 1 8 [],mS 5 9] [0,1,5] (.seq (Zs [.mv 6 (ci 0)] [0,1,5,6] (.block 0 (.loop ([0,1,5,6],[1,2]) (.seq (Zs [mS 10 6,mS 11 0,nS 12 11,bS 13 .lss 10 12] [0,1,5,6,13] (cX 13 0))
(.seq (.block 1 (Zs [mS 16 0,mS 17 6,xS 18 1 16 17,lF 19 1 18,mS 7 19] [0,1,5,6,7] (.seq (Zs [mS 20 5,mS 21 7,.call 22 [] (.f N2h) [.s 20,.s 21]] [0,1,5,6,7,22] (.cond (.s 22) (.exit 1) .skip))
(Zs [mS 23 5,nS 24 23,mS 8 24] [0,1,5,6,7,8] (.seq (.block 2 (.loop ([0,1,5,6,7,8],[1,2]) (.seq (.seq (.reg [Za (mS 25 8),Za (bC 26 .gtr 25 0),Za (mS 27 26),Zb 27 true (mS 28 1),Zb 27 true (mS 29 7),Zb 27 true (mS 30 5),Zb 27 true (mS 31 8),Zb 27 true (bC 32 .sub 31 1),Zb 27 true (xS 33 1 30 32),Zb 27 true (lF 34 1 33),Zb 27 true (.call 35 [] (.f Nfp) [.s 28,.s 29,.s 34]),Za (.pick 36 (.s 27) (.s 35) cF)] [0,1,5,6,7,8,36])
(cX 36 2))
(.block 3 (pr [mS 37 8,bC 38 .sub 37 1,mS 8 38] [0,1,5,6,7,8])))))
(.dreg [{o:= .lit 39 1 1 8 [],hs:=[40,41,42,44,45,47,48,49],ho:=[2],ws:=[1]},Zf [39,41,44,45,47,48,49] [1,2] (mS 40 5),Zf [39,40,44,45,47,48,49] [1,2] (mS 41 8),Zg [39,44,45,47,48,49] [1,2] [1,2] (.slc 42 1 (.s 40) none (some (.s 41)) none),{o:= .app 43 1 1 8 (.s 39) (.s 42),hs:=[44,45,47,48,49],ho:=[2],ws:=[1],bf:=(.range 4)},Zf [39,40,41,42,43,47,48,49] [1] (mS 44 7),{o:= .lit 45 2 1 8 [.s 44],hs:=[39,40,41,42,43,47,48,49],ho:=[1],ws:=[2],bf:=[5]},{o:= .app 46 1 1 8 (.s 43) (.s 45),hs:=[47,48,49],ws:=[1],bf:=(.range 7)},Zf [39,40,41,42,43,44,45,46,48] [1,2] (mS 47 5),Zf [39,40,41,42,43,44,45,46,47] [1,2] (mS 48 8),Zg [39,40,41,42,43,44,45,46] [1,2] [8,9] (.slc 49 1 (.s 47) (some (.s 48)) none none),{o:= .app 50 0 1 8 (.s 46) (.s 49),ws:=[0,1],bf:=(.range 11)},Ze (.range 12) (mS 5 50)] [0,1,5,6]))))))
(pr [mS 14 6,bC 15 .add 14 1,mS 6 15] [0,1,5,6]))))))
(Zs [mS 51 5,mS 4 51] [4] .ret))))
set_option maxHeartbeats 1000000 in
theorem Cg1(l:List Int)(d:Int)(hl:l.length≤1073741824):Ctr Tryz.prog N70 [aL 1 (l.map encI),aI d] [rL 1 ((Ky l d).map encI)]:=by
 refine cA Mgr 3 52 [(.tmp 4,[true])] Tryz.func248 rfl rfl ?_;unfold Mgr
 intro hb
 clear hb
 rw[←Kbx]
 simp only[go_sem]
 refine K5 l (fun k=>[(5,.val false [.ref 0 0 1 0 (ordS (l.take k) d).length]),(6,vI k)]) (fun k=>[(0,⟨0,.row true 1 ((ordS (l.take k) d).map encI)⟩)]) (fun _=>True) (by simp only[roomB];omega) ?_
 simp only[go_sem]
 refine⟨?_,trivial,?_,?_⟩
 ·simp only[go_sem,List.take_zero]
  exact⟨rfl,rfl⟩
 ·intro i y hx _ h0 h1 hw
  have hi:=Kg hx
  have hol:(ordS (l.take i) d).length≤l.length:=by
   rw[Kbx]
   exact Nat.le_trans (K53 _ _) (by rw[List.length_take];omega)
  have hsr:Srt.srt (ordB d) (ordS (l.take i) d):=by
   have:=(K5f (d:=d) (l.take i) [] List.Pairwise.nil).1
   exact this.imp fun {a b} h=>(swoB d).asy a b h
  have hst:=ordS_snoc (d:=d) hx
  rw[hst]
  generalize ordS (l.take i) d=out at*
  clear hst
  simp only[go_sem,K4 hx,h0,h1]
  apply K0 (C3g out y)
  simp only[go_sem,hw]
  refine⟨fun hc=>?_,fun hc=>?_⟩
  ·have e:addO d out y=out:=by unfold addO;rw[if_pos hc]
   rw[e]
   exact⟨rfl,rfl⟩
  ·have e:addO d out y=Srt.ins (ordB d) y out:=by unfold addO;rw[if_neg (by rw[hc];simp)]
   rw[e]
   refine Kk (fun n:Nat=>[(8,vI n)]) (fun n=>[]) (fun n=>n≤out.length∧∀z∈out.drop n,ordB d y z=true) (fun n=>n) out.length ?_
   simp only[go_sem]
   refine⟨?_,⟨Nat.le_refl _,by simp⟩,?_⟩
   ·simp only[go_sem]
   ·rintro n ⟨hn1,hn2⟩
    simp only[go_sem]
    refine⟨fun hpos=>?_,fun hzero=>?_⟩
    ·obtain⟨m,hm⟩:∃m,m=n-1:=⟨_,rfl⟩
     obtain⟨z,hz⟩:=Kb (show m<out.length by omega)
     have e1:IntKind.i64.wrap ((n:Int)-1)=(m:Int):=by rw[wI (by omega) (by omega)];omega
     rw[e1]
     simp only[go_sem,K4 hz]
     refine⟨⟨by omega,by omega⟩,?_⟩
     apply K0 (Co3 d y z)
     simp only[go_sem]
     rw[e1]
     refine⟨fun ht=>⟨m,rfl,⟨by omega,?_⟩,by omega⟩,fun hf=>?_⟩
     ·rw[hm]
      exact Srt.drop_step (by omega) (hm▸hz) hn2 ht
     ·have hstop:n=0∨∃y',out[n-1]? =some y'∧ordB d y y'=false:= .inr ⟨z,hm▸hz,hf⟩
      rw[cutA hn1]
      refine⟨by omega,by omega,?_⟩
      have hA:(out.take n).length=n:=by rw[List.length_take];omega
      have hB:out.length=n+(out.drop n).length:=by rw[List.length_drop];omega
      have eC:=cutB (f:=encI) hn1
      have e5:List.map encI (out.take n)++[[T.sc (Value.int IntKind.i64 y)]]=(out.take n++[y]).map encI:=by simp[encI]
      have e6:((out.take n++[y]).map encI).length=(out.take n).length+1:=by simp
      simp only[go_sem,↓Kq (f:=encI) (fun _=>rfl) (out.take n),↓eC,↓e5,↓e6,↓Kq (f:=encI) (fun _=>rfl) (out.drop n)]
      rw[Srt.ins_at (swoB d) hsr hn2 hstop]
      simp only[roomB]
      exact⟨by omega,by omega,by omega,⟨by omega,by omega,by omega⟩,by omega,by omega,⟨by simp only[List.length_append,List.length_cons,List.length_nil],hw⟩,by rw[←List.map_append]⟩
    ·have hstop:n=0∨∃y',out[n-1]? =some y'∧ordB d y y'=false:= .inl (by omega)
     rw[cutA hn1]
     refine⟨by omega,by omega,?_⟩
     have hA:(out.take n).length=n:=by rw[List.length_take];omega
     have hB:out.length=n+(out.drop n).length:=by rw[List.length_drop];omega
     have eC:=cutB (f:=encI) hn1
     have e5:List.map encI (out.take n)++[[T.sc (Value.int IntKind.i64 y)]]=(out.take n++[y]).map encI:=by simp[encI]
     have e6:((out.take n++[y]).map encI).length=(out.take n).length+1:=by simp
     simp only[go_sem,↓Kq (f:=encI) (fun _=>rfl) (out.take n),↓eC,↓e5,↓e6,↓Kq (f:=encI) (fun _=>rfl) (out.drop n)]
     rw[Srt.ins_at (swoB d) hsr hn2 hstop]
     simp only[roomB]
     exact⟨by omega,by omega,by omega,⟨by omega,by omega,by omega⟩,by omega,by omega,⟨by simp only[List.length_append,List.length_cons,List.length_nil],hw⟩,by rw[←List.map_append]⟩
 ·intro _
  simp only[go_sem,List.take_length]
theorem Kdv{l:List Int}{d:Int}{k:Int}{n:Nat}(h:(n:Int)=min (max k 0) (Ky l d).length):placedL l d k=(Ky l d).take n:=by
 unfold placedL
 by_cases hk:k.toNat≤(Ky l d).length
 ·congr 1;omega
 ·rw[List.take_of_length_le (by omega),List.take_of_length_le (by omega)]
def M9d:MC:=
(Zs [.nilo 6 0 1] [0,1,2] (Zs [mS 8 0,mS 9 1,.call 10 [0] (.f N6s) [.s 8,.s 9],mS 7 10] [2,7] (Zs [mS 11 7,mS 12 2,.mm 13 true (.s 12) (ci 0),mS 14 7,nS 15 14,.mm 16 false (.s 13) (.s 15),.slc 17 1 (.s 11) none (some (.s 16)) none,mS 6 17] [6] (.trim 6 .ret))))
theorem Cl1(l:List Int)(d k:Int)(hl:l.length≤1073741824):Ctr Tryz.prog Na5 [aL 1 (l.map encI),aI d,aI k] [rL 1 ((placedL l d k).map encI)]:=by
 refine cA M9d 1 18 [(.tmp 6,[true])] Tryz.func163 rfl rfl ?_;unfold M9d
 intro hb
 clear hb
 have hol:=K53 l d
 simp only[go_sem]
 apply K0 (Cfx l d hl)
 simp only[go_sem]
 intros
 generalize hX:(if ((Ky l d).length:Int)<(if (0:Int)>k then 0 else k)then((Ky l d).length:Int)else(if (0:Int)>k then 0 else k))=X
 have hX2:0≤X∧X≤(Ky l d).length∧(X.toNat:Int)=min (max k 0) (Ky l d).length:=by
  rw[←hX]
  repeat' split
  all_goals omega
 rw[Kdv hX2.2.2]
 have e:(X-0).toNat=X.toNat:=by omega
 exact⟨⟨by omega,by omega,by omega⟩,by omega,by rw[List.length_take,List.length_map];omega,by rw[e,List.map_take]⟩
def M9w:MC:=
(Zs [.nilo 6 0 1] [0,1,2] (Zs [mS 8 0,mS 9 1,.call 10 [1] (.f N70) [.s 8,.s 9],mS 7 10] [2,7] (Zs [.lit 11 0 1 8 [],mS 12 7,mS 13 2,mS 14 7,nS 15 14,.call 16 [] (.f N6z) [.s 13,.s 15],.call 17 [] (.f Nj8) [.c (.int .i64 0),.s 16],.slc 18 1 (.s 12) none (some (.s 17)) none,.app 19 0 1 8 (.s 11) (.s 18),mS 6 19] [6] .ret)))
theorem Clh(l:List Int)(d k:Int)(hl:l.length≤1073741824):Ctr Tryz.prog Nah [aL 1 (l.map encI),aI d,aI k] [rL 1 ((placedL l d k).map encI)]:=by
 refine cA M9w 2 20 [(.tmp 6,[true])] Tryz.func142 rfl rfl ?_;unfold M9w
 intro hb
 clear hb
 have hol:=K53 l d
 simp only[go_sem]
 apply K0 (Cg1 l d hl)
 simp only[go_sem]
 intros
 apply K0 (Cdj k _)
 simp only[go_sem]
 intros
 apply K0 (Coh 0 _)
 simp only[go_sem]
 intros
 generalize hX:(if (if ((Ky l d).length:Int)<k then((Ky l d).length:Int)else k)>0 then(if ((Ky l d).length:Int)<k then((Ky l d).length:Int)else k)else 0)=X
 have hX2:0≤X∧X≤(Ky l d).length∧(X.toNat:Int)=min (max k 0) (Ky l d).length:=by
  rw[←hX]
  repeat' split
  all_goals omega
 rw[Kdv hX2.2.2]
 obtain⟨m,rfl⟩:=Int.eq_ofNat_of_zero_le hX2.1
 have hm:m≤(Ky l d).length:=by omega
 rw[K8r (f:=encI) hm,Int.toNat_natCast]
 have hmt:((Ky l d).take m).length=m:=by rw[List.length_take];omega
 simp only[go_sem,↓Kq (f:=encI) (fun _=>rfl) ((Ky l d).take m),List.length_map,hmt]
 exact⟨⟨by omega,by omega,by omega⟩,by omega,by simp only[roomB];omega⟩
end Go.Proofs.YtjneccbpkckdfaaGreatR
namespace Go.Proofs
open Go.Shelf
def Tryz.laysNm221_ren:Go.Shelf.Ren:=⟨fun|21=>265|27=>342|28=>343|35=>381|39=>394|n=>n,fun|22=>30|3=>3|4=>4|0=>0|n=>n,fun|n=>n⟩
theorem Tryz.laysNm221:Go.Proofs.Lays2.n21 Tryz.prog Tryz.laysNm221_ren:={
 mixed:=by kernel_rfl
 f21:=Tryz.func265.trans (congrArg some (by kernel_rfl))
 f27:=Tryz.func342.trans (congrArg some (by kernel_rfl))
 f28:=Tryz.func343.trans (congrArg some (by kernel_rfl))
 f35:=Tryz.func381.trans (congrArg some (by kernel_rfl))
 f39:=Tryz.func394.trans (congrArg some (by kernel_rfl))
 t0:=Tryz.underlying0
 a0:=Tryz.isAgg0
 z0:=Tryz.sizeOf0
 v0:=Tryz.zeroValue0
 t3:=Tryz.underlying3
 a3:=Tryz.isAgg3
 z3:=Tryz.sizeOf3
 v3:=Tryz.zeroValue3
 t4:=Tryz.underlying4
 a4:=Tryz.isAgg4
 z4:=Tryz.sizeOf4
 v4:=Tryz.zeroValue4
 t22:=Tryz.underlying30
 a22:=Tryz.isAgg30
 z22:=Tryz.sizeOf30
 v22:=Tryz.zeroValue30
 i3:=by kernel_rfl}
end Go.Proofs
namespace Go.Proofs.YtjneccbpkckdfaaGreatR
open Go Go.RowKit Go.Proofs
open Nat (reduceEqDiff reduceLT reduceLeDiff reduceAdd reduceMul)
open List (reduceReplicate)
theorem argsI_ins{w:World}{X:Nat→Prop}{es es':List (List T)}{k:Int}{vs:List Value}{G:List Nat}(h:ResVs w X [oL 1 es,iI k,oL 1 es'] vs G):∃v u G1 G2,vs=[v,.int .i64 k,u]∧Ow w (.sl 1 es) v G1∧Ow w (.sl 1 es') u G2∧G=G1++G2:=by
 match vs,h with
 | [v,i,u],⟨Ga,Gb,h1,⟨Gc,Gd,h2,⟨Ge,Gf,h3,h4,e3⟩,e2⟩,e1⟩=>
  obtain⟨_,G1,G2,k1,k2,e4⟩:=h1
  obtain⟨_,k3,k4⟩:=h2
  obtain⟨_,G3,G4,k5,k6,e5⟩:=h3
  simp only[ResVs]at h4
  simp only[ResC]at k2 k4 k6
  simp only[Rd]at k3
  obtain⟨rfl,_⟩:=k3
  subst h4 k2 k4 k6 e4 e5 e3 e2 e1
  exact⟨v,u,G1,G3,rfl,k1,k5,by simp⟩
 | [],h=>exact h.elim
 | [_],⟨_,_,_,h,_⟩=>exact h.elim
 | [_,_],⟨_,_,_,⟨_,_,_,h,_⟩,_⟩=>exact h.elim
 |_::_::_::_::_,⟨_,_,_,⟨_,_,_,⟨_,_,_,h,_⟩,_⟩,_⟩=>exact h.elim
theorem K25{b:Nat}{ty:TypeId}{fz:Nat×Nat}:∀(vs:List Value) (o:Nat) (w:World) (row:Array Value),w.heap[b]? =some (.cells row ty fz)→∃row',(w.setCells b o vs).heap[b]? =some (.cells row' ty fz)∧row'.size=row.size
 | [],_,_,row,h=>⟨row,h,rfl⟩
 |v::r,o,w,row,h=>by
  have hw:(w.setCell ⟨b,o,none⟩ v).heap[b]? =some (.cells (row.setIfInBounds o v) ty fz):=by simp[World.setCell,Array.getElem?_modify,h]
  obtain⟨row',h1,h2⟩:=K25 r (o+1) (w.setCell ⟨b,o,none⟩ v) (row.setIfInBounds o v) hw
  exact⟨row',h1,h2.trans (by simp)⟩
theorem K6d{B:Nat→Prop}{b:Nat}(hb:¬B b):∀(vs:List Value) (o:Nat) (w:World),Bel B w (w.setCells b o vs)
 | [],_,w=>Bel.refl _ _
 |v::r,o,w=>by
  refine Bel.trans (b:=w.setCell ⟨b,o,none⟩ v) ⟨rfl,rfl,rfl,by simp[World.setCell],fun k hk=>?_⟩ (K6d hb r (o+1) _)
  have hne:k≠b:=fun e=>hb (e▸hk)
  simp[World.setCell,Array.getElem?_modify,Ne.symm hne]
theorem ow_ints{w:World}{b off cap:Nat}{zs:List Int}{row:Array Value}{ty:TypeId}(hh:w.heap[b]? =some (.cells row ty (0,0)))(hc:off+cap≤row.size)(hln:Ln zs.length cap)
  (hz:∀(j:Nat) (x:Int),zs[j]? =some x→w.cell? ⟨b,off+j,none⟩=some (.int .i64 x)∧oneW (.int .i64 x)=true):Ow w (.sl 1 (zs.map encI)) (.slice (some ⟨b,off,none⟩) zs.length cap) [b]:=by
 unfold Ow
 exact⟨some ⟨b,off,none⟩,cap,by rw[List.length_map],by rw[List.length_map];exact hln,.inr ⟨b,off,row,ty,[],rfl,hh,by simpa using hc,owRow_int' hz,rfl⟩⟩
theorem at_mid{α:Type}{A B:List α}{x:α}{k j:Nat}{y:α}(hA:A.length=k)(h:(A++[x]++B)[j]? =some y):(j<k∧A[j]? =some y)∨(j=k∧y=x)∨(k<j∧B[j-(k+1)]? =some y):=by
 subst hA
 rw[List.append_assoc]at h
 by_cases h1:j<A.length
 ·rw[List.getElem?_append_left h1]at h;exact .inl ⟨h1,h⟩
 ·rw[List.getElem?_append_right (by omega)]at h
  by_cases h2:j=A.length
  ·subst h2
   simp at h
   exact .inr (.inl ⟨rfl,h.symm⟩)
  ·rw[List.getElem?_append_right (by simp;omega)]at h
   refine .inr (.inr ⟨by omega,?_⟩)
   rw[←h];simp only[List.length_cons,List.length_nil];congr 1
theorem ins_len{α:Type}{zs:List α}{x:α}{k:Nat}(hk:k≤zs.length):(zs.take k++[x]++zs.drop k).length=zs.length+1:=by
 rw[List.length_append,List.length_append,List.length_take,List.length_drop,List.length_cons,List.length_nil]
 omega
theorem C79(zs:List Int)(k:Nat)(x:Int)(hk:k≤zs.length)(hl:zs.length≤1073741824):CtrI Tryz.prog N4s [oL 1 (zs.map encI),iI k,oL 1 ([x].map encI)] [none,none] [rL 1 ((zs.take k++[x]++zs.drop k).map encI)]:=by
 refine⟨⟨Tryz.f265,Tryz.func265,by kernel_rfl,by kernel_rfl⟩,fun w X vs G ht h hG hGb=>?_⟩
 obtain⟨v,u,G1,G2,rfl,hv,hu,rfl⟩:=argsI_ins h
 unfold Ow at hv hu
 obtain⟨A,cap,rfl,hln,hv⟩:=hv
 obtain⟨A2,vc,rfl,hln2,hu⟩:=hu
 rw[List.length_map]at hln ⊢
 simp only[List.length_map,List.length_cons,List.length_nil,Nat.zero_add]at hln2 ⊢
 rcases hu with ⟨_,h0,_⟩|⟨vb,voff,rowv,tyv,Gv,rfl,hhv,hcv,hrv,rfl⟩
 ·simp at h0
 obtain⟨rfl,hzv⟩:=K5r hrv
 have hx1:=hzv 0 x rfl
 rw[Nat.add_zero]at hx1
 have hvbs:vb<w.heap.size:=(hGb vb (by simp)).1
 have hvs:∀(j:Nat) (v:Value),[Value.int .i64 x][j]? =some v→w.cell? ⟨vb,voff+j,none⟩=some v:=fun j v hj=>by
  cases j with
  |zero=>simp only[List.getElem?_cons_zero,Option.some.injEq]at hj;rw[←hj];exact hx1.1
  |succ j=>simp at hj
 have h1v:∀v∈[Value.int .i64 x],v.oneCell'=true:=fun v hv=>by rw[List.mem_singleton.1 hv];rfl
 have hlen:=ins_len (x:=x) hk
 have hcapB:cap≤9223372036854775807:=hln.2.2
 have fin:∀(w':World) (b2 off2 c2:Nat) (row:Array Value) (ty:TypeId),Bel (fun b'=>b'<w.heap.size∧b'∉G1++[vb]) w w'→(b2∈G1∨w.heap.size≤b2)→w'.heap[b2]? =some (.cells row ty (0,0))→off2+c2≤row.size→zs.length+1≤c2→c2≤9223372036854775807→
   (∀(j:Nat) (y:Int),j<k→zs[j]? =some y→w'.cell? ⟨b2,off2+j,none⟩=some (.int .i64 y))→w'.cell? ⟨b2,off2+k,none⟩=some (.int .i64 x)→
   (∀(j:Nat) (y:Int),(zs.drop k)[j]? =some y→w'.cell? ⟨b2,off2+(k+1)+j,none⟩=some (.int .i64 y))→(∀y∈zs,oneW (.int .i64 y)=true)→
   Bel (fun b'=>b'<w.heap.size∧b'∉G1++[vb]) w w'∧∃us Ga Gb,(Value.slice (some ⟨b2,off2,none⟩) (zs.length+1) c2)=tupV us∧OwOut w' [none,none] (K39 [oL 1 (zs.map encI),iI k,oL 1 ([x].map encI)] [.slice A zs.length cap,.int .i64 k,.slice (some ⟨vb,voff,none⟩) 1 vc]) Ga∧
    ResVs w' (fun b=>(b<w.heap.size→X b∨b∈G1++[vb])∧b∉Ga++Gb) [rL 1 ((zs.take k++[x]++zs.drop k).map encI)] us Gb∧(Ga++Gb).Nodup∧∀b∈Ga++Gb,(b∈G1++[vb]∨w.heap.size≤b)∧b<w'.heap.size:=by
  intro w' b2 off2 c2 row ty hB hb2 hh hc hcl hcb q1 q2 q3 q4
  have hO:=ow_ints hh hc (zs:=zs.take k++[x]++zs.drop k) ⟨by omega,by simp only[roomB];omega,hcb⟩ (fun j y hj=>by
   rcases at_mid (A:=zs.take k) (k:=k) (by simp;omega) hj with ⟨h1,h2⟩|⟨rfl,rfl⟩|⟨h1,h2⟩
   ·rw[List.getElem?_take,if_pos h1]at h2
    exact⟨q1 j y h1 h2,q4 y (Kl h2)⟩
   ·exact⟨q2,hx1.2⟩
   ·have:=q3 _ y h2
    rw[show off2+(k+1)+(j-(k+1))=off2+j by omega]at this
    rw[List.getElem?_drop]at h2
    exact⟨this,q4 y (Kl h2)⟩)
  rw[hlen]at hO
  refine⟨hB,[_],[],[b2],rfl,rfl,⟨[b2],[],⟨⟨_,rfl⟩,[b2],[],hO,rfl,rfl⟩,rfl,rfl⟩,by simp,fun b' hb'=>?_⟩
  obtain rfl:b'=b2:=by simpa using hb'
  exact⟨hb2.imp (fun h=>by simp[h]) id,K2c hh⟩
 rcases hv with ⟨rfl,hz0,rfl⟩|⟨b,off,row,ty,Gz,rfl,hh,hc,hrow,rfl⟩
 ·obtain rfl:zs=[]:=by simpa using hz0
  obtain rfl:k=0:=by simpa using hk
  refine(Any2.slices_Insert_int_end_grow Tryz.laysNm221 A 0 0 vb voff 1 vc [] [.int .i64 x] w (by omega) (by omega) (by omega) (by omega) rfl rfl (fun _=>rfl) (fun a _ j v hj=>by simp at hj) hvs h1v).mono ?_
  rintro e w' ⟨rfl,rfl⟩
  refine fin _ _ _ _ _ _ ⟨rfl,rfl,rfl,by simp,fun b' hb'=>?_⟩ (.inr (Nat.le_refl _)) (heap_alloc_new w.drew _) ?_ (grownCap_ge w _ _ _) ?_ (fun j y hj _=>by omega) ?_ (fun j y hj=>by simp at hj) (by simp)
  ·exact Below.heap_alloc w.drew _ b' hb'.1
  ·have:=grownCap_ge w (0+1) 0 (Tryz.laysNm221_ren.t 3)
   simp[Builtin.zeroCells,Value.cells]
   omega
  ·have:=grownCap_le_maxLen w (0+1) 0 (Tryz.laysNm221_ren.t 3) (by unfold maxLen;omega)
   unfold maxLen at this
   omega
  ·rw[World.cell?_alloc_at (w:=w.drew) _ _ w.heap.size (0+0) rfl,Array.getElem?_append_left (by simp)]
   simp
 ·obtain⟨rfl,hz⟩:=K5r hrow
  have hbs:b<w.heap.size:=(hGb b (by simp)).1
  have hvb:vb≠b:=by
   have:=hG
   simp at this
   exact fun e=>this e.symm
  have hcz:off+cap≤row.size:=by simpa using hc
  have hzw:∀y∈zs,oneW (.int .i64 y)=true:=fun y hy=>by
   obtain⟨j,hj⟩:=List.getElem?_of_mem hy
   exact(hz j y hj).2
  have hcl:(zs.map (Value.int .i64)).length=zs.length:=by simp
  have hcs:∀(j:Nat) (v:Value),(zs.map (Value.int .i64))[j]? =some v→w.cell? ⟨b,off+j,none⟩=some v:=fun j v hj=>by
   rw[List.getElem?_map]at hj
   obtain⟨y,hy,rfl⟩:=Option.map_eq_some_iff.1 hj
   exact(hz j y hy).1
  have h1c:∀v∈zs.map (Value.int .i64),v.oneCell'=true:=fun v hv=>by
   obtain⟨y,_,rfl⟩:=List.mem_map.1 hv
   rfl
  have hsome:∀j,j<cap→(w.cell? ⟨b,off+j,none⟩).isSome=true:=fun j hj=>by
   have:off+j<row.size:=by omega
   simp[World.cell?,hh,this]
  have hfz:∀j,w.frozen? ⟨b,j,none⟩=false:=fun j=>by simp[World.frozen?,hh]
  have hB0:∀(o:Nat) (us:List Value) (w1:World),Bel (fun b'=>b'<w.heap.size∧b'∉[b]++[vb]) w1 (w1.setCells b o us):=fun o us w1=>K6d (by simp) us o w1
  by_cases hkn:k=zs.length
  ·subst hkn
   by_cases hroom:zs.length+1≤cap
   ·refine(Any2.slices_Insert_int_end_room Tryz.laysNm221 b off zs.length cap vb voff 1 vc [.int .i64 x] w (by omega) hroom hcapB rfl (fun j hj=>by rw[Nat.add_assoc];exact hsome _ (by omega)) (fun j hj=>hfz _) hvs h1v).mono ?_
    rintro e w' ⟨rfl,rfl⟩
    obtain⟨row',hr1,hr2⟩:=K25 [Value.int .i64 x] (off+zs.length) w row hh
    refine fin _ _ _ _ _ _ (hB0 _ _ _) (.inl (by simp)) hr1 (by omega) hroom hcapB (fun j y hj hy=>?_) ?_ (fun j y hj=>by simp at hj) hzw
    ·rw[World.cell?_setCells_out b _ _ w _ (fun _ _=>by left;show off+j<off+zs.length;omega)]
     exact(hz j y hy).1
    ·have:=World.cell?_setCells_in b [Value.int .i64 x] (off+zs.length) w (fun j hj=>by rw[Nat.add_assoc];exact hsome _ (by simp at hj;omega)) 0 (by simp)
     simpa using this
   ·have hce:cap=zs.length:=by have:=hln.1;omega
    refine(Any2.slices_Insert_int_end_grow Tryz.laysNm221 (some ⟨b,off,none⟩) zs.length cap vb voff 1 vc (zs.map (Value.int .i64)) [.int .i64 x] w (by omega) hln.1 (by omega) (by omega) hcl rfl (fun h=>by cases h) (fun a ha j v hj=>by
     obtain rfl:=Option.some.inj ha
     rw[Addr.add_lit];exact hcs j v hj) hvs h1v).mono ?_
    rintro e w' ⟨rfl,rfl⟩
    have hsz2:∀j,j<zs.length+1→((w.drew.alloc (.cells ((zs.map (Value.int .i64)++[Value.int .i64 x]).toArray++Builtin.zeroCells (Value.int .i64 0).cells (grownCap w (zs.length+1) cap (Tryz.laysNm221_ren.t 3)-(zs.length+1))) (Tryz.laysNm221_ren.t 3))).cell? ⟨w.heap.size,0+j,none⟩)=(zs.map (Value.int .i64)++[Value.int .i64 x])[j]? :=fun j hj=>by
     rw[World.cell?_alloc_at (w:=w.drew) _ _ w.heap.size (0+j) rfl,Array.getElem?_append_left (by simp;omega)]
     simp
    refine fin _ _ _ _ _ _ ⟨rfl,rfl,rfl,by simp,fun b' hb'=>?_⟩ (.inr (Nat.le_refl _)) (heap_alloc_new w.drew _) ?_ (grownCap_ge w _ _ _) ?_ (fun j y hj hy=>?_) ?_ (fun j y hj=>by simp at hj) hzw
    ·exact Below.heap_alloc w.drew _ b' hb'.1
    ·have:=grownCap_ge w (zs.length+1) cap (Tryz.laysNm221_ren.t 3)
     simp[Builtin.zeroCells,Value.cells]
     omega
    ·have:=grownCap_le_maxLen w (zs.length+1) cap (Tryz.laysNm221_ren.t 3) (by unfold maxLen;omega)
     unfold maxLen at this
     omega
    ·rw[hsz2 j (by omega),List.getElem?_append_left (by simp;omega),List.getElem?_map,hy];rfl
    ·rw[hsz2 _ (by omega),List.getElem?_append_right (by simp)]
     simp
  ·have hkl:k<zs.length:=by omega
   have hdl:((zs.map (Value.int .i64)).drop k).length=zs.length-k:=by simp
   by_cases hroom:zs.length+1≤cap
   ·refine(Any2.slices_Insert_int_shift Tryz.laysNm221 b off zs.length cap k vb voff 1 vc (zs.map (Value.int .i64)) [.int .i64 x] w hkl (by omega) hroom hcapB hvb hcl rfl hcs (fun j hj=>hsome j (by omega)) (fun j hj=>hfz _) hvs h1c h1v tyv ty rowv.size row.size (by simp[World.shape?,hhv]) (by simp[World.shape?,hh]) (by omega) (by simp[World.frozen?,hhv]) (by simp[World.frozen?,hhv])).mono ?_
    rintro e w' ⟨rfl,rfl⟩
    obtain⟨row',hr1,hr2⟩:=K25 ((zs.map (Value.int .i64)).drop k) (off+(k+1)) w.drew row hh
    obtain⟨row2,hr3,hr4⟩:=K25 [Value.int .i64 x] (off+k) _ row' hr1
    have hs2:∀j,j<cap→((w.drew.setCells b (off+(k+1)) ((zs.map (Value.int .i64)).drop k)).cell? ⟨b,off+j,none⟩).isSome=true:=fun j hj=>by
     have:off+j<row'.size:=by omega
     simp[World.cell?,hr1,this]
    refine fin _ _ _ _ _ _ ((Bel.drew (Bel.refl _ w)).trans ((hB0 _ _ _).trans (hB0 _ _ _))) (.inl (by simp)) hr3 (by omega) hroom hcapB (fun j y hj hy=>?_) ?_ (fun j y hj=>?_) hzw
    ·rw[World.cell?_setCells_out b _ _ _ _ (fun _ _=>by left;show off+j<off+k;omega),World.cell?_setCells_out b _ _ _ _ (fun _ _=>by left;show off+j<off+(k+1);omega)]
     exact(hz j y hy).1
    ·have:=World.cell?_setCells_in b [Value.int .i64 x] (off+k) (w.drew.setCells b (off+(k+1)) ((zs.map (Value.int .i64)).drop k)) (fun j hj=>by rw[Nat.add_assoc];exact hs2 _ (by simp at hj;omega)) 0 (by simp)
     simpa using this
    ·have hjl:=Kg hj
     rw[List.length_drop]at hjl
     rw[World.cell?_setCells_out b _ _ _ _ (fun _ _=>by right;show off+k+1≤off+(k+1)+j;omega)]
     have:=World.cell?_setCells_in b ((zs.map (Value.int .i64)).drop k) (off+(k+1)) w.drew (fun j hj=>by
      rw[hdl]at hj
      have:=hsome (k+1+j) (by omega)
      rw[Nat.add_assoc];exact this) j (by rw[hdl];omega)
     rw[this]
     rw[List.getElem?_drop]at hj
     obtain⟨hj1,hj2⟩:=List.getElem?_eq_some_iff.1 hj
     simp[←hj2]
   ·refine(Any2.slices_Insert_int_grow Tryz.laysNm221 b off zs.length cap k vb voff 1 vc (zs.map (Value.int .i64)) [.int .i64 x] w hkl (by omega) hln.1 (by omega) (by omega) hcl rfl hcs hvs h1c h1v).mono ?_
    rintro e w' ⟨rfl,rfl⟩
    obtain⟨g,hg⟩:∃g,g=grownCap w (zs.length+1) cap (Tryz.laysNm221_ren.t 3):=⟨_,rfl⟩
    have hg1:zs.length+1≤g:=hg▸grownCap_ge w _ _ _
    have hg2:g≤9223372036854775807:=by
     have:=grownCap_le_maxLen w (zs.length+1) cap (Tryz.laysNm221_ren.t 3) (by unfold maxLen;omega)
     unfold maxLen at this
     omega
    rw[←hg]
    obtain⟨ROW,hROW⟩:∃ROW:Array Value,ROW=((zs.map (Value.int .i64)).take k).toArray++Builtin.zeroCells (Value.int .i64 0).cells (zs.length+1-k)++Builtin.zeroCells (Value.int .i64 0).cells (g-(zs.length+1)):=⟨_,rfl⟩
    rw[←hROW]
    have hRs:ROW.size=g:=by
     rw[hROW]
     simp[Builtin.zeroCells,Value.cells]
     omega
    obtain⟨w1,hw1⟩:∃w1,w1=(w.alloc (.cells ROW (Tryz.laysNm221_ren.t 3))).drew:=⟨_,rfl⟩
    have hh1:w1.heap[w.heap.size]? =some (.cells ROW (Tryz.laysNm221_ren.t 3) (0,0)):=by rw[hw1];exact heap_alloc_new w _
    have hc1:∀j,w1.cell? ⟨w.heap.size,j,none⟩=ROW[j]? :=fun j=>by simp[World.cell?,hh1]
    rw[←hw1]
    obtain⟨row',hr1,hr2⟩:=K25 [Value.int .i64 x] k w1 ROW hh1
    obtain⟨w2,hw2⟩:∃w2,w2=(w1.setCells w.heap.size k [Value.int .i64 x]).drew:=⟨_,rfl⟩
    rw[←hw2]
    have hh2:w2.heap[w.heap.size]? =some (.cells row' (Tryz.laysNm221_ren.t 3) (0,0)):=by rw[hw2];exact hr1
    obtain⟨row2,hr3,hr4⟩:=K25 ((zs.map (Value.int .i64)).drop k) (k+1) w2 row' hh2
    have hBs:∀(o:Nat) (us:List Value) (w3:World),Bel (fun b'=>b'<w.heap.size∧b'∉[b]++[vb]) w3 (w3.setCells w.heap.size o us):=fun o us w3=>K6d (fun h=>by have:=h.1;omega) us o w3
    have hB1:Bel (fun b'=>b'<w.heap.size∧b'∉[b]++[vb]) w w1:=by
     rw[hw1]
     exact((Bel.refl _ w).alloc (fun _ h=>h.1) _).drew
    have hB2:Bel (fun b'=>b'<w.heap.size∧b'∉[b]++[vb]) w w2:=by
     rw[hw2]
     exact(hB1.trans (hBs _ _ _)).drew
    refine fin _ _ _ _ _ _ (hB2.trans (hBs _ _ _)) (.inr (Nat.le_refl _)) hr3 (by omega) hg1 hg2 (fun j y hj hy=>?_) ?_ (fun j y hj=>?_) hzw
    ·rw[World.cell?_setCells_out _ _ _ _ _ (fun _ _=>by left;show 0+j<k+1;omega)]
     have e:w2.cell? ⟨w.heap.size,0+j,none⟩=(w1.setCells w.heap.size k [Value.int .i64 x]).cell? ⟨w.heap.size,0+j,none⟩:=by rw[hw2];rfl
     rw[e,World.cell?_setCells_out _ _ _ _ _ (fun _ _=>by left;show 0+j<k;omega),hc1,hROW,Nat.zero_add]
     have hjt:j<(List.take k (zs.map (Value.int .i64))).length:=by simp;omega
     rw[Array.append_assoc,Array.getElem?_append_left (by simpa using hjt)]
     simp[hj,hy]
    ·rw[World.cell?_setCells_out _ _ _ _ _ (fun _ _=>by left;show 0+k<k+1;omega)]
     have e:w2.cell? ⟨w.heap.size,0+k,none⟩=(w1.setCells w.heap.size k [Value.int .i64 x]).cell? ⟨w.heap.size,0+k,none⟩:=by rw[hw2];rfl
     rw[e]
     have:=World.cell?_setCells_in w.heap.size [Value.int .i64 x] k w1 (fun j hj=>by rw[hc1];simp at hj;rw[Array.getElem?_eq_getElem (by omega)];rfl) 0 (by simp)
     simpa using this
    ·have hjl:=Kg hj
     rw[List.length_drop]at hjl
     have:=World.cell?_setCells_in w.heap.size ((zs.map (Value.int .i64)).drop k) (k+1) w2 (fun j hj=>by
      rw[hdl]at hj
      have h1:k+1+j<row'.size:=by omega
      simp[World.cell?,hh2,h1]) j (by rw[hdl];omega)
     rw[Nat.zero_add,this]
     rw[List.getElem?_drop]at hj
     obtain⟨hj1,hj2⟩:=List.getElem?_eq_some_iff.1 hj
     simp[←hj2]
def Mbj:MC:=
(Zs [.nilo 4 0 1] [0,1] (Zs [.mv 5 (ci 0)] [0,1,5] (.seq (.block 0 (.loop ([0,1,5],[0,1,2]) (.seq (.seq (.reg [Za (mS 6 5),Za (mS 7 0),Za (nS 8 7),Za (bS 9 .lss 6 8),Za (mS 10 9),Zb 10 true (mS 11 0),Zb 10 true (mS 12 5),Zb 10 true (xS 13 1 11 12),Zb 10 true (lF 14 1 13),Zb 10 true (mS 15 1),Zb 10 true (bS 16 .lss 14 15),Za (.pick 17 (.s 10) (.s 16) cF)] [0,1,5,17])
(cX 17 0))
(.block 1 (pr [mS 18 5,bC 19 .add 18 1,mS 5 19] [0,1,5])))))
(.seq (.seq (.reg [Za (mS 20 5),Za (mS 21 0),Za (nS 22 21),Za (bS 23 .lss 20 22),Za (mS 24 23),Zb 24 true (mS 25 0),Zb 24 true (mS 26 5),Zb 24 true (xS 27 1 25 26),Zb 24 true (lF 28 1 27),Zb 24 true (mS 29 1),Zb 24 true (bS 30 .eql 28 29),Za (.pick 31 (.s 24) (.s 30) cF)] [0,1,5,31])
(.cond (.s 31) (Zs [mS 32 0,.call 33 [0] (.f N4) [.s 32],mS 4 33] [4] .ret) .skip))
(Zs [mS 34 0,.call 35 [1] (.f N4) [.s 34],mS 36 5,mS 37 1,.lit 38 2 1 8 [.s 37],.callI 39 [0] (.f N4s) [.s 35,.s 36,.s 38] [1,2] [],mS 4 39] [4] .ret)))))
theorem Cb0(l:List Int)(n:Int)(hs:l.length≤1073741824):Ctr Tryz.prog N4y [aL 1 (l.map encI),aI n] [rL 1 ((put l n).map encI)]:=by
 refine cA Mbj 3 40 [(.tmp 4,[true])] Tryz.func165 rfl rfl ?_;unfold Mbj
 intro hb
 clear hb
 simp only[go_sem]
 refine Kk (fun k:Nat=>[(5,vI k)]) (fun k=>[]) (fun k=>k≤l.length∧∀x∈l.take k,x<n) (fun k=>l.length-k) 0 ?_
 simp only[go_sem]
 refine⟨?_,⟨by omega,by simp⟩,?_⟩
 ·simp only[go_sem]
 ·rintro k ⟨hk,hlt⟩
  have hp:=K9k hlt
  by_cases hkl:k<l.length
  ·obtain⟨x,hx⟩:=Kb hkl
   have h1:(k:Int)<(l.length:Int):=by omega
   have h0:(0:Int)≤(k:Int):=by omega
   rw[Kj hx,put]at hp
   simp only[go_sem,h1,h0,K4 hx]
   refine⟨fun hxn=>?_,fun hxn=>?_⟩
   ·refine⟨k+1,by rw[wI (by omega) (by omega)];omega,⟨by omega,fun y hy=>?_⟩,by omega⟩
    rw[Kc hx]at hy
    rcases List.mem_append.1 hy with hy|hy
    ·exact hlt y hy
    ·rw[List.mem_singleton.1 hy];exact hxn
   ·rw[if_neg hxn]at hp
    refine⟨fun he=>?_,fun he=>?_⟩
    ·rw[if_pos (by simpa using he),←Kj hx,List.take_append_drop]at hp
     rw[hp]
     apply K0 (Ca l hs)
     simp only[go_sem]
    ·rw[if_neg (by simpa using he),←Kj hx]at hp
     rw[hp]
     apply K0 (Ca l hs)
     simp only[go_sem]
     try intros
     refine⟨by decide,?_⟩
     apply K7 (C79 l k n hk hs)
     simp only[go_sem]
     try simp
  ·have h1:¬(k:Int)<(l.length:Int):=by omega
   obtain rfl:k=l.length:=by omega
   rw[List.drop_length,List.take_length,put]at hp
   rw[hp]
   simp only[go_sem,h1]
   apply K0 (Ca l hs)
   simp only[go_sem]
   try intros
   refine⟨by decide,?_⟩
   apply K7 (C79 l l.length n (Nat.le_refl _) hs)
   simp only[go_sem]
   try simp
def K11(chosen:List Int)(root:Int)(x:GLibrary):GLibrary:=if chosen.contains x.Id then {x with Digests:=put x.Digests root}else x
def tellL(chosen:List Int)(root:Int)(l:List GLibrary):List GLibrary:=l.map (K11 chosen root)
def K35(d:GDisk):Int:=match d.Containers[d.Containers.length-1]? with
 |some y=>y.Root
 |none=>0
def ups(l:List GLibrary):List Int:=(l.filter fun x=>x.Up).map fun x=>x.Id
def K33(a:GArchive):List GLibrary:=if (Kh a.Disk).Containers.length=a.Disk.Containers.length then a.Libraries
 else tellL (placedL (ups a.Libraries) (K35 (Kh a.Disk)) 3) (K35 (Kh a.Disk)) a.Libraries
def K3l(a:GArchive):GArchive:=if K2h a.Disk then {a with Disk:=Kh a.Disk,Libraries:=K33 a}else a
theorem Kcy{chosen:List Int}{root:Int}:∀ {l:List GLibrary},((tellL chosen root l).map GLibrary.size).sum≤(l.map GLibrary.size).sum+l.length
 | []=>by simp[tellL]
 |x::l=>by
  have ih:=Kcy (chosen:=chosen) (root:=root) (l:=l)
  have hx:(K11 chosen root x).size≤x.size+1:=by
   unfold K11
   split
   ·simp only[GLibrary.size];exact K7l
   ·omega
  simp only[tellL,List.map_cons,List.sum_cons,List.length_cons]at*
  omega
theorem Kc5(l:List GLibrary):(ups l).length≤l.length:=by
 unfold ups;rw[List.length_map];exact List.length_filter_le _ _
theorem Kcz{chosen:List Int}{root:Int}{l:List GLibrary}{k:Nat}{x:GLibrary}(h:l[k]? =some x):(((tellL chosen root (l.take k)).map GLibrary.enc++(l.drop k).map GLibrary.enc).set k (K11 chosen root x).enc)=(tellL chosen root (l.take (k+1))).map GLibrary.enc++(l.drop (k+1)).map GLibrary.enc:=by
 have hl:=Kg h
 rw[Kj h,Kc h,tellL,tellL,List.map_append,List.map_append,List.map_cons]
 rw[List.set_append_right _ _ (by simp;omega)]
 simp[K11,Nat.min_eq_left (Nat.le_of_lt hl)]
theorem K6m{chosen:List Int}{root:Int}{l:List GLibrary}{k:Nat}{x:GLibrary}(h:l[k]? =some x):((tellL chosen root (l.take k)).map GLibrary.enc++(l.drop k).map GLibrary.enc)[k]? =some x.enc:=by
 have hl:=Kg h
 rw[List.getElem?_append_right (by simp[tellL];omega),Kj h]
 simp[tellL,Nat.min_eq_left (Nat.le_of_lt hl)]
theorem K6n{chosen:List Int}{root:Int}{l:List GLibrary}{k:Nat}:((tellL chosen root (l.take k)).map GLibrary.enc++(l.drop k).map GLibrary.enc).length=l.length:=by
 simp[tellL];omega
theorem ups_yes{l:List GLibrary}{k:Nat}{x:GLibrary}(h:l[k]? =some x)(u:x.Up=true):ups (l.take (k+1))=ups (l.take k)++[x.Id]:=by
 rw[Kc h,ups,List.filter_append,List.map_append];simp[ups,u]
theorem ups_no{l:List GLibrary}{k:Nat}{x:GLibrary}(h:l[k]? =some x)(u:x.Up=false):ups (l.take (k+1))=ups (l.take k):=by
 rw[Kc h,ups,List.filter_append,List.map_append];simp[ups,u]
theorem Kah(d:GDisk):(Kh d).Containers.length=d.Containers.length∨(Kh d).Containers.length=d.Containers.length+1:=by
 unfold Kh
 split
 ·exact .inl rfl
 ·split
  ·exact .inl rfl
  ·split
   ·right;simp
   ·exact .inl rfl
theorem Kcx{chosen:List Int}{root:Int}{l:List GLibrary}{k:Nat}{x:GLibrary}(h:l[k]? =some x)(hc:chosen.contains x.Id=false):(tellL chosen root (l.take k)).map GLibrary.enc++(l.drop k).map GLibrary.enc=(tellL chosen root (l.take (k+1))).map GLibrary.enc++(l.drop (k+1)).map GLibrary.enc:=by
 have e:K11 chosen root x=x:=by unfold K11;rw[if_neg (by rw[hc];simp)]
 rw[Kj h,Kc h]
 simp[tellL,e]
theorem Kd2{a:GArchive}{root:Int}(h:K2h a.Disk=true)(h2:¬(Kh a.Disk).Containers.length=a.Disk.Containers.length)(hr:K35 (Kh a.Disk)=root):K3l a={a with Disk:=Kh a.Disk,Libraries:=tellL (placedL (ups a.Libraries) root 3) root a.Libraries}:=by
 simp[K3l,h,K33,h2,hr]
def Me3:MC:=
(Zs [.box 1 0 (.s 0),.alloc 2 1 [.emp 9,.emp 4,.emp 4,.emp 6,.emp 4,.emp 5,.emp 4,.emp 1,.emp 4,pz],.mv 3 cF] [1,2] (Zs [lT 14 10 1,.call 15 [2,3,4,5,6,7,8,9,10] (.f N5) [.s 14],.alloc 4 11 [.emp 9,.emp 4,.emp 4,.emp 6,.emp 4,.emp 5,.emp 4,.emp 1,.emp 4,pz],sS 10 4 15] [1,2,4] (Zs [fS 17 1 2,lT 18 3 17,.call 19 [12,13,14] (.f Nf4) [.s 18],mS 16 19,.ext 20 (.s 16) 0,.ext 21 (.s 16) 1,.alloc 5 15 [.emp 4,.emp 6,.emp 4],sS 3 5 20,mS 6 21] [1,2,4,5,6] (.seq (Zs [mS 22 6,.un 23 .not (.s 22)] [1,2,4,5,23] (.cond (.s 23) (Zs [lT 24 10 4,sS 10 2 24,.mv 3 cF] [2,3] .ret) .skip))
(Zs [lT 25 3 5,fS 26 4 2,sS 3 26 25] [1,2,4,5] (.seq (Zs [fS 27 5 0,lF 28 1 27,nS 29 28,fS 30 1 2,fS 31 30 0,lF 32 1 31,nS 33 32,bS 34 .eql 29 33] [1,2,4,5,34] (.cond (.s 34) (Zs [lT 35 10 4,sS 10 2 35,.mv 3 cT] [2,3] .ret) .skip))
(Zs [fS 36 5 0,lF 37 1 36,fS 38 5 0,lF 39 1 38,nS 40 39,bC 41 .sub 40 1,xS 42 4 37 41,fS 43 42 3,lF 44 1 43,mS 7 44] [1,2,4,7] (Zs [.nilo 8 16 1] [1,2,4,7,8] (.seq (Zs [fS 45 1 6,lF 46 1 45,nS 47 46,.mv 48 (ci 0)] [2,4,7,8,46,47,48] (.block 0 (.loop ([2,4,7,8,46,47,48],[0,15,17,18,19,20,21]) (Zs [bS 49 .lss 48 47] [2,4,7,8,46,47,48,49] (.seq (cX 49 0)
(.seq (.block 1 (Zs [xS 50 4 46 48,lT 51 4 50,.alloc 10 17 [pz,.emp 1,.pl (.sc (.bool false)),.pl (.sc (.bool false))],sS 4 10 51] [2,4,7,8,10,46,47,48] (Zs [fS 52 10 2,lF 53 1 52] [2,4,7,8,10,46,47,48,53] (.cond (.s 53) (pr [mS 54 8,fS 55 10 0,lF 56 1 55,.lit 57 18 1 8 [.s 56],.app 58 16 1 8 (.s 54) (.s 57),mS 8 58] [2,4,7,8,46,47,48]) .skip))))
(pr [bC 59 .add 48 1,mS 48 59] [2,4,7,8,46,47,48])))))))
(Zs [mS 60 8,mS 61 7,.call 62 [19] (.f Na5) [.s 60,.s 61,.c (.int .i64 3)],mS 11 62] [2,4,7,11] (.seq (Zs [fS 63 4 6,lF 64 1 63,nS 65 64,.mv 66 (ci 0)] [2,4,7,11,64,65,66] (.block 2 (.loop ([2,4,7,11,64,65,66],[0,15,16,17,18,20,21]) (Zs [bS 67 .lss 66 65] [2,4,7,11,64,65,66,67] (.seq (cX 67 2)
(.seq (.block 3 (Zs [mS 68 66,xS 69 4 64 66,lT 70 4 69,.alloc 13 20 [pz,.emp 1,.pl (.sc (.bool false)),.pl (.sc (.bool false))],mS 12 68,sS 4 13 70] [2,4,7,11,12,13,64,65,66] (Zs [mS 71 11,fS 72 13 0,lF 73 1 72,.call 74 [] (.f Nd) [.s 71,.s 73]] [2,4,7,11,12,13,64,65,66,74] (.cond (.s 74) (.dreg [Zf [77,78,79,80,81] [21] (fS 75 4 6),Zg [77,78,79,80,81] [21] [0] (lF 76 1 75),Zf [75,76,78,79,80,81] [21] (mS 77 12),Zc [75,76,77,80] (fS 78 13 1),Zd [75,76,77,80] [3] (lF 79 1 78),Zc [75,76,77,78,79] (mS 80 7),{o:= .call 81 [21] (.f N4y) [.s 79,.s 80],hs:=[75,76,77],ws:=[21],bf:=[3,4,5]},Ze (.range 7) (xS 82 4 76 77),Ze (.range 8) (fS 83 82 1),{o:=sS 1 83 81,ws:=[8,21],bf:=(.range 9)}] [2,4,7,11,64,65,66]) .skip))))
(pr [bC 84 .add 66 1,mS 66 84] [2,4,7,11,64,65,66])))))))
(Zs [lT 85 10 4,sS 10 2 85,.mv 3 cT] [2,3] .ret))))))))))))
set_option maxHeartbeats 2000000 in
theorem Cnk(a:GArchive)(hs:a.size≤268435456):Ctr Tryz.prog Nf3 [aS a.enc] [rS (K3l a).enc,rB (K2h a.Disk)]:=by
 refine cA Me3 22 86 [(.cell 2 true 10,[true,true,true,true,true,true,true,true,true,false]),(.tmp 3,[false])] Tryz.func72 rfl rfl ?_;unfold Me3
 intro hb
 clear hb
 have hlib:a.Libraries.length≤268435456:=by simp only[GArchive.size]at hs;omega
 simp only[go_sem]
 apply K0 (C6 a (by omega))
 simp only[go_sem]
 intros
 apply K0 (Cnl a.Disk (by simp only[GArchive.size]at hs;omega))
 simp only[go_sem]
 intro hbd
 clear hbd
 refine⟨fun hno=>?_,fun hyes=>⟨fun hsame=>?_,fun hmore=>?_⟩⟩
 ·simp[K3l,hno]
 ·have hs':(Kh a.Disk).Containers.length=a.Disk.Containers.length:=by omega
  simp[K3l,hyes,K33,hs']
 ·have hm':¬(Kh a.Disk).Containers.length=a.Disk.Containers.length:=by omega
  have hnl:=Kah a.Disk
  have hns:=Kco a.Disk
  have hdl:(Kh a.Disk).Containers.length≤536870912:=by simp only[GArchive.size,GDisk.size]at *;omega
  obtain⟨y,hy⟩:=Kb (l:=(Kh a.Disk).Containers) (k:=(Kh a.Disk).Containers.length-1) (by omega)
  have e1:IntKind.i64.wrap (((Kh a.Disk).Containers.length:Int)-1)=(((Kh a.Disk).Containers.length-1:Nat):Int):=by rw[wI (by omega) (by omega)];omega
  have hroot:K35 (Kh a.Disk)=y.Root:=by unfold K35;rw[hy]
  have hW:=Kd2 hyes hm' hroot
  rw[hW,hyes]
  generalize Kh a.Disk=D at*
  rw[e1,Int.toNat_natCast,hy]
  refine⟨⟨by omega,by omega⟩,?_⟩
  simp only[go_sem]
  refine K5 a.Libraries (fun k=>[(8,.val false [.ref 16 0 1 0 (ups (a.Libraries.take k)).length]),(48,vI k)]) (fun k=>[(16,⟨0,.row true 1 ((ups (a.Libraries.take k)).map encI)⟩)]) (fun _=>True) (by simp only[roomB];omega) ?_
  simp only[go_sem]
  refine⟨?_,trivial,?_,?_⟩
  ·simp only[go_sem,List.take_zero]
   exact⟨rfl,rfl⟩
  ·intro k x hx _ h0 h1 hw
   have hul:=Kc5 (a.Libraries.take k)
   have hkl:(a.Libraries.take k).length≤a.Libraries.length:=by rw[List.length_take];omega
   simp only[go_sem,K4 hx,h0,h1,hw]
   refine⟨fun u=>?_,fun u=>?_⟩
   ·rw[ups_yes hx u]
    simp only[roomB]
    simp[encI]
    omega
   ·rw[ups_no hx u]
    exact⟨rfl,rfl⟩
  ·intro _
   have hul:=Kc5 a.Libraries
   simp only[go_sem,List.take_length]
   apply K0 (Cl1 (ups a.Libraries) y.Root 3 (by omega))
   simp only[go_sem]
   intros
   refine K5 a.Libraries (fun k=>[(66,vI k)]) (fun k=>[(8,⟨0,.row true 4 ((tellL (placedL (ups a.Libraries) y.Root 3) y.Root (a.Libraries.take k)).map GLibrary.enc++(a.Libraries.drop k).map GLibrary.enc)⟩)]) (fun _=>True) (by simp only[roomB];omega) ?_
   simp only[go_sem]
   refine⟨?_,trivial,?_,?_⟩
   ·simp only[go_sem,List.take_zero,List.drop_zero]
    simp[tellL]
   ·intro k x hx _ h0 h1 hw
    have hxl:=Kv (f:=GLibrary.size) (Kl hx)
    have hxd:x.Digests.length≤268435456:=by simp only[GLibrary.size]at hxl;simp only[GArchive.size]at hs;omega
    have hst:=Kcz (chosen:=placedL (ups a.Libraries) y.Root 3) (root:=y.Root) hx
    simp only[go_sem,K6n,K4 (K6m hx),h0,h1]
    apply K0 (C2w (placedL (ups a.Libraries) y.Root 3) x.Id)
    simp only[go_sem,hw]
    refine⟨fun hc=>?_,fun hc=>?_⟩
    ·have ex:K11 (placedL (ups a.Libraries) y.Root 3) y.Root x={x with Digests:=put x.Digests y.Root}:=by unfold K11;rw[if_pos hc]
     rw[ex]at hst
     apply K0 (Cb0 x.Digests y.Root (by omega))
     simp only[go_sem,K6n,K4 (K6m hx),h0,h1,hw]
     intro _
     exact hst
    ·exact Kcx (root:=y.Root) hx hc
   ·intro _
    simp only[go_sem,List.take_length,List.drop_length]
    simp[tellL]
def Met:MC:=
(Zs [.box 1 0 (.s 0),.alloc 2 1 [.emp 9,.emp 4,.emp 4,.emp 6,.emp 4,.emp 5,.emp 4,.emp 1,.emp 4,pz],.mv 3 cF] [1,2] (Zs [lT 10 10 1,.call 11 [2,3,4,5,6,7,8,9,10] (.f Ng) [.s 10],.alloc 4 11 [.emp 9,.emp 4,.emp 4,.emp 6,.emp 4,.emp 5,.emp 4,.emp 1,.emp 4,pz],sS 10 4 11] [1,2,4] (Zs [fS 13 1 2,lT 14 3 13,.call 15 [12,13,14] (.f Nfo) [.s 14],mS 12 15,.ext 16 (.s 12) 0,.ext 17 (.s 12) 1,.alloc 5 15 [.emp 4,.emp 6,.emp 4],sS 3 5 16,mS 6 17] [1,2,4,5,6] (.seq (Zs [mS 18 6,.un 19 .not (.s 18)] [1,2,4,5,19] (.cond (.s 19) (Zs [lT 20 10 4,sS 10 2 20,.mv 3 cF] [2,3] .ret) .skip))
(Zs [lT 21 3 5,fS 22 4 2,sS 3 22 21] [1,2,4,5] (.seq (Zs [fS 23 5 0,lF 24 1 23,nS 25 24,fS 26 1 2,fS 27 26 0,lF 28 1 27,nS 29 28,bS 30 .gtr 25 29] [1,2,4,5,30] (.cond (.s 30) (Zs [fS 31 5 0,lF 32 1 31,fS 33 5 0,lF 34 1 33,nS 35 34,bC 36 .sub 35 1,xS 37 4 32 36,fS 38 37 3,lF 39 1 38,mS 7 39] [1,2,4,7] (Zs [fS 40 1 6,lF 41 1 40,.call 42 [16] (.f Nlw) [.s 41],mS 43 7,.call 44 [17] (.f Nah) [.s 42,.s 43,.c (.int .i64 3)],mS 8 44] [2,4,7,8] (Zs [.mv 9 (ci 0)] [2,4,7,8,9] (.block 0 (.loop ([2,4,7,8,9],[0,15,16,18]) (.seq (Zs [mS 45 9,fS 46 4 6,lF 47 1 46,nS 48 47,bS 49 .lss 45 48] [2,4,7,8,9,49] (cX 49 0))
(.seq (.block 1 (Zs [mS 52 8,fS 53 4 6,lF 54 1 53,mS 55 9,xS 56 4 54 55,fS 57 56 0,lF 58 1 57,.call 59 [] (.f N2h) [.s 52,.s 58]] [2,4,7,8,9,59] (.cond (.s 59) (.dreg [Zf [62,63,64,65,66,67,68,69,70] [18] (fS 60 4 6),Zg [62,63,64,65,66,67,68,69,70] [18] [0] (lF 61 1 60),Zf [60,61,63,64,65,66,67,68,69,70] [18] (mS 62 9),Zc [60,61,62,65,69] (fS 63 4 6),Zd [60,61,62,65,69] [3] (lF 64 1 63),Zc [60,61,62,63,64,69] (mS 65 9),Zd [60,61,62,69] [3,4,5] (xS 66 4 64 65),Zd [60,61,62,69] [3,4,5,6] (fS 67 66 1),Zd [60,61,62,69] [3,4,5,6,7] (lF 68 1 67),Zc [60,61,62,63,64,65,66,67,68] (mS 69 7),{o:= .call 70 [18] (.f Nfr) [.s 68,.s 69],hs:=[60,61,62],ws:=[18],bf:=[3,4,5,6,7,8,9]},Ze (.range 11) (xS 71 4 61 62),Ze (.range 12) (fS 72 71 1),{o:=sS 1 72 70,ws:=[8,18],bf:=(.range 13)}] [2,4,7,8,9]) .skip)))
(pr [mS 50 9,bC 51 .add 50 1,mS 9 51] [2,4,7,8,9])))))))) .skip))
(Zs [lT 73 10 4,sS 10 2 73,.mv 3 cT] [2,3] .ret)))))))
set_option maxHeartbeats 2000000 in
theorem Co1(a:GArchive)(hs:a.size≤268435456):Ctr Tryz.prog Nfn [aS a.enc] [rS (K3l a).enc,rB (K2h a.Disk)]:=by
 refine cA Met 19 74 [(.cell 2 true 10,[true,true,true,true,true,true,true,true,true,false]),(.tmp 3,[false])] Tryz.func55 rfl rfl ?_;unfold Met
 intro hb
 clear hb
 have hlib:a.Libraries.length≤268435456:=by simp only[GArchive.size]at hs;omega
 simp only[go_sem]
 apply K0 (Ch a (by omega))
 simp only[go_sem]
 intros
 apply K0 (Co2 a.Disk (by simp only[GArchive.size]at hs;omega))
 simp only[go_sem]
 intro hbd
 clear hbd
 refine⟨fun hno=>?_,fun hyes=>⟨fun hmore=>?_,fun hsame=>?_⟩⟩
 ·simp[K3l,hno]
 ·have hm':¬(Kh a.Disk).Containers.length=a.Disk.Containers.length:=by omega
  have hnl:=Kah a.Disk
  have hns:=Kco a.Disk
  have hdl:(Kh a.Disk).Containers.length≤536870912:=by simp only[GArchive.size,GDisk.size]at *;omega
  obtain⟨y,hy⟩:=Kb (l:=(Kh a.Disk).Containers) (k:=(Kh a.Disk).Containers.length-1) (by omega)
  have e1:IntKind.i64.wrap (((Kh a.Disk).Containers.length:Int)-1)=(((Kh a.Disk).Containers.length-1:Nat):Int):=by rw[wI (by omega) (by omega)];omega
  have hroot:K35 (Kh a.Disk)=y.Root:=by unfold K35;rw[hy]
  have hW:=Kd2 hyes hm' hroot
  rw[hW,hyes]
  generalize Kh a.Disk=D at*
  rw[e1,Int.toNat_natCast,hy]
  refine⟨⟨by omega,by omega⟩,?_⟩
  simp only[go_sem]
  have hul:=Kc5 a.Libraries
  apply K0 (Cpa a.Libraries (by omega))
  simp only[go_sem]
  intros
  apply K0 (Clh (ups a.Libraries) y.Root 3 (by omega))
  simp only[go_sem]
  intros
  refine K5 a.Libraries (fun k=>[(9,vI k)]) (fun k=>[(8,⟨0,.row true 4 ((tellL (placedL (ups a.Libraries) y.Root 3) y.Root (a.Libraries.take k)).map GLibrary.enc++(a.Libraries.drop k).map GLibrary.enc)⟩)]) (fun _=>True) (by simp only[roomB];omega) ?_
  simp only[go_sem]
  refine⟨?_,trivial,?_,?_⟩
  ·simp only[go_sem,List.take_zero,List.drop_zero]
   simp[tellL]
  ·intro k x hx _ h0 h1 hw
   have hxl:=Kv (f:=GLibrary.size) (Kl hx)
   have hxd:x.Digests.length≤268435456:=by simp only[GLibrary.size]at hxl;simp only[GArchive.size]at hs;omega
   have hst:=Kcz (chosen:=placedL (ups a.Libraries) y.Root 3) (root:=y.Root) hx
   simp only[go_sem,K6n,K4 (K6m hx),h0,h1]
   apply K0 (C3g (placedL (ups a.Libraries) y.Root 3) x.Id)
   simp only[go_sem,K6n,K4 (K6m hx),h0,h1,hw]
   refine⟨fun hc=>?_,fun hc=>?_⟩
   ·have ex:K11 (placedL (ups a.Libraries) y.Root 3) y.Root x={x with Digests:=put x.Digests y.Root}:=by unfold K11;rw[if_pos hc]
    rw[ex]at hst
    apply K0 (Clm x.Digests y.Root (by omega))
    simp only[go_sem,K6n,K4 (K6m hx),h0,h1,hw]
    intro _
    exact hst
   ·exact Kcx (root:=y.Root) hx hc
  ·intro _
   simp only[go_sem,List.take_length,List.drop_length]
   simp[tellL]
 ·have hnl:=Kah a.Disk
  have hs':(Kh a.Disk).Containers.length=a.Disk.Containers.length:=by omega
  simp[K3l,hyes,K33,hs']
def ascB(l:List Int):Bool:=decide (l.Pairwise (· < ·))
def Mhx:MC:=
(Zs [.mv 2 cF] [0] (Zs [mS 3 0,.call 4 [0] (.f Nav) [.s 3],mS 5 0,.call 6 [] (.f N2r) [.s 4,.s 5],mS 2 6] [2] .ret))
theorem Con(l:List Int)(hl:l.length≤1073741824):Ctr Tryz.prog Nim [aL 1 (l.map encI)] [rB (ascB l)]:=by
 refine cA Mhx 1 7 [(.tmp 2,[false])] Tryz.func345 rfl rfl ?_;unfold Mhx
 intro hb
 clear hb
 simp only[go_sem]
 apply K0 (Cjd l hl)
 simp only[go_sem]
 intros
 apply K0 (C96 (sortU l) l)
 simp only[go_sem]
 intro _
 obtain⟨h1,h2⟩:=K8b l
 rw[ascB,decide_eq_decide]
 exact⟨fun h=>h▸h1,fun h=>up_eq h1 h h2⟩
def K22:Int→List GLibrary→Bool
 |_,[]=>true
 |b,x::l=>decide (b+1≤x.Id∧x.Id≤99)&&(ascB x.Digests&&K22 x.Id l)
def K2p(l:List GLibrary):Bool:=decide (l.length≤6)&&K22 (-1) l
def bef(l:List GLibrary):Nat→Int
 |0=> -1
 |k+1=>((l[k]?).map (·.Id)).getD 0
theorem Kat{l:List GLibrary}{k:Nat}{x:GLibrary}(h:l[k]? =some x):bef l (k+1)=x.Id:=by simp[bef,h]
theorem dig_le{l:List GLibrary}{k n:Nat}{x:GLibrary}(h:l[k]? =some x)(hs:l.length+(l.map GLibrary.size).sum≤n):x.Digests.length≤n:=by
 have:=Kv (f:=GLibrary.size) (Kl h)
 simp only[GLibrary.size]at this hs
 omega
def M7b:MC:=
(Zs [.mv 2 cF] [0] (.seq (Zs [mS 6 0,nS 7 6,bC 8 .gtr 7 6] [0,8] (.cond (.s 8) (Zs [.mv 2 cF] [2] .ret) .skip))
(Zs [.mv 3 (.c (.int .i64 (-1)))] [0,3] (.seq (Zs [mS 9 0,nS 10 9,.mv 11 (ci 0)] [3,9,10,11] (.block 0 (.loop ([3,9,10,11],[0]) (Zs [bS 12 .lss 11 10] [3,9,10,11,12] (.seq (cX 12 0)
(.seq (.block 1 (Zs [xS 13 4 9 11,lT 14 4 13,.alloc 5 0 [pz,.emp 1,.pl (.sc (.bool false)),.pl (.sc (.bool false))],sS 4 5 14] [3,5,9,10,11] (.seq (.seq (.reg [Za (fS 15 5 0),Za (lF 16 1 15),Za (mS 17 3),Za (bC 18 .add 17 1),Za (.call 19 [] (.f N1) [.s 16,.s 18,.c (.int .i64 99)]),Za (.un 20 .not (.s 19)),Za (mS 21 20),Zb 21 false (fS 22 5 1),Zb 21 false (lF 23 1 22),Zb 21 false (.call 24 [] (.f Nim) [.s 23]),Zb 21 false (.un 25 .not (.s 24)),Za (.pick 26 (.s 21) cT (.s 25))] [5,9,10,11,26])
(.cond (.s 26) (Zs [.mv 2 cF] [2] .ret) .skip))
(pr [fS 27 5 0,lF 28 1 27,mS 3 28] [3,9,10,11]))))
(pr [bC 29 .add 11 1,mS 11 29] [3,9,10,11])))))))
(Zs [.mv 2 cT] [2] .ret)))))
theorem Ckd(l:List GLibrary)(hs:l.length+(l.map GLibrary.size).sum≤1073741824):Ctr Tryz.prog N84 [aL 4 (l.map GLibrary.enc)] [rB (K2p l)]:=by
 refine cA M7b 1 30 [(.tmp 2,[false])] Tryz.func271 rfl rfl ?_;unfold M7b
 intro hb
 clear hb
 simp only[go_sem]
 refine⟨fun h=>?_,fun h=>?_⟩
 ·have:¬l.length≤6:=by omega
  simp[K2p,this]
 ·refine K5 l (fun k=>[(3,vI (bef l k)),(11,vI k)]) (fun k=>[]) (fun k=>(-1≤bef l k∧bef l k≤99)∧K22 (-1) l=K22 (bef l k) (l.drop k)) (by simp only[roomB];omega) ?_
  simp only[go_sem]
  refine⟨?_,⟨by simp[bef],rfl⟩,?_,?_⟩
  ·simp only[go_sem]
   try rfl
  ·intro k x hx hP h0 h1 hw
   obtain⟨hb,hP⟩:=hP
   rw[Kj hx,K22]at hP
   have hw2:IntKind.i64.wrap (bef l k+1)=bef l k+1:=wI (by omega) (by omega)
   simp only[go_sem,K4 hx,h0,h1,hw2]
   apply K0 (C2 x.Id (bef l k+1) 99)
   by_cases c:bef l k+1≤x.Id∧x.Id≤99
   ·have hd:=decide_eq_true c
    simp only[go_sem,hd]
    apply K0 (Con x.Digests (dig_le hx hs))
    cases hA:ascB x.Digests
    ·simp only[go_sem]
     rw[K2p,hP,hA]
     simp
    ·simp only[go_sem,hw,Kat hx]
     rw[hA,hd,Bool.true_and,Bool.true_and]at hP
     exact⟨by omega,hP⟩
   ·have hd:=decide_eq_false c
    simp only[go_sem,hd]
    rw[K2p,hP,hd]
    simp
  ·intro hP
   rw[List.drop_length]at hP
   simp only[go_sem]
   rw[K2p,hP.2,K22]
   simp
   omega
theorem Kcp{l:List Int}{k:Nat}{x y:Int}(hx:l[k]? =some x)(hy:l[k+1]? =some y)(h:(l.take (k+1)).Pairwise (· < ·))(hxy:x<y):(l.take (k+1+1)).Pairwise (· < ·):=by
 rw[Kc hy,List.pairwise_append]
 refine⟨h,by simp,fun a ha b hb=>?_⟩
 rw[List.mem_singleton.1 hb]
 rw[Kc hx,List.pairwise_append]at h
 rw[Kc hx]at ha
 rcases List.mem_append.1 ha with ha|ha
 ·have:=h.2.2 a ha x (by simp);omega
 ·rw[List.mem_singleton.1 ha];exact hxy
theorem pair_no{l:List Int}{k:Nat}{x y:Int}(hx:l[k]? =some x)(hy:l[k+1]? =some y)(hxy:¬x<y):ascB l=false:=by
 rw[ascB,decide_eq_false_iff_not]
 intro h
 have:=List.pairwise_iff_getElem.1 h k (k+1) (List.getElem?_eq_some_iff.1 hx).1 (List.getElem?_eq_some_iff.1 hy).1 (by omega)
 rw[(List.getElem?_eq_some_iff.1 hx).2,(List.getElem?_eq_some_iff.1 hy).2]at this
 exact hxy this
def M7z:MC:=
(Zs [.mv 2 cF] [0] (.seq (Zs [.mv 3 (ci 0)] [0,3] (.block 0 (.loop ([0,3],[]) (.seq (Zs [mS 5 3,mS 6 0,nS 7 6,bS 8 .lss 5 7] [0,3,8] (cX 8 0))
(.seq (.block 1 (.seq (.seq (.dreg [Zc [12] (mS 11 0),Zc [11] (mS 12 3),Ze [0,1] (xS 13 4 11 12),Ze [0,1,2] (fS 14 13 0),Ze (.range 4) (lF 15 1 14),Ze (.range 5) (.call 16 [] (.f N0) [.s 15,.c (.int .i64 0),.c (.int .i64 99)]),Ze (.range 6) (.un 17 .not (.s 16)),Ze (.range 7) (mS 18 17),{o:=mS 19 3,g:=some (18,false),bf:=(.range 8)},{o:=bC 20 .gtr 19 0,g:=some (18,false),bf:=(.range 9)},{o:=mS 21 20,g:=some (18,false),bf:=(.range 10)},{o:=mS 22 0,g:=some (21,true),hs:=[23,24,28,29,30,31,32],bf:=(.range 11)},{o:=mS 23 3,g:=some (21,true),hs:=[22,28,29,30,31,32],bf:=(.range 11)},{o:=bC 24 .sub 23 1,g:=some (21,true),hs:=[22,28,29,30,31,32],bf:=[0,1,2,3,4,5,6,7,8,9,10,12]},{o:=xS 25 4 22 24,g:=some (21,true),hs:=[28,29,30,31,32],bf:=(.range 14)},{o:=fS 26 25 0,g:=some (21,true),hs:=[28,29,30,31,32],bf:=(.range 15)},{o:=lF 27 1 26,g:=some (21,true),hs:=[28,29,30,31,32],bf:=(.range 16)},{o:=mS 28 0,g:=some (21,true),hs:=[22,23,24,25,26,27,29],bf:=(.range 11)},{o:=mS 29 3,g:=some (21,true),hs:=[22,23,24,25,26,27,28],bf:=(.range 11)},{o:=xS 30 4 28 29,g:=some (21,true),hs:=[22,23,24,25,26,27],bf:=[0,1,2,3,4,5,6,7,8,9,10,17,18]},{o:=fS 31 30 0,g:=some (21,true),hs:=[22,23,24,25,26,27],bf:=[0,1,2,3,4,5,6,7,8,9,10,17,18,19]},{o:=lF 32 1 31,g:=some (21,true),hs:=[22,23,24,25,26,27],bf:=[0,1,2,3,4,5,6,7,8,9,10,17,18,19,20]},{o:=bS 33 .geq 27 32,g:=some (21,true),bf:=(.range 22)},{o:= .pick 34 (.s 21) (.s 33) cF,g:=some (18,false),bf:=(.range 23)},Ze (.range 24) (.pick 35 (.s 18) cT (.s 34))] [0,3,35])
(.cond (.s 35) (Zs [.mv 2 cF] [2] .ret) .skip))
(Zs [.mv 4 (ci 1)] [0,3,4] (.block 2 (.loop ([0,3,4],[]) (.seq (Zs [mS 36 4,mS 37 0,mS 38 3,xS 39 4 37 38,fS 40 39 1,lF 41 1 40,nS 42 41,bS 43 .lss 36 42] [0,3,4,43] (cX 43 2))
(.seq (.block 3 (.seq (.dreg [Zc [47,51,52,55,56,57,58,59,60,61,62] (mS 46 0),Zc [46,51,52,55,56,57,58,59,60,61,62] (mS 47 3),Zd [51,52,55,56,57,58,59,60,61,62] [0,1] (xS 48 4 46 47),Zd [51,52,55,56,57,58,59,60,61,62] [0,1,2] (fS 49 48 1),Zd [51,52,55,56,57,58,59,60,61,62] (.range 4) (lF 50 1 49),Zc [46,47,48,49,50,55,56,57,58,59,60,61,62] (mS 51 4),Zd [46,47,48,49,50,55,56,57,58,59,60,61,62] [5] (bC 52 .sub 51 1),Zd [55,56,57,58,59,60,61,62] (.range 7) (xS 53 1 50 52),Zd [55,56,57,58,59,60,61,62] (.range 8) (lF 54 1 53),Zc [46,47,48,49,50,51,52,53,54,56,60] (mS 55 0),Zc [46,47,48,49,50,51,52,53,54,55,60] (mS 56 3),Zd [46,47,48,49,50,51,52,53,54,60] [9,10] (xS 57 4 55 56),Zd [46,47,48,49,50,51,52,53,54,60] [9,10,11] (fS 58 57 1),Zd [46,47,48,49,50,51,52,53,54,60] [9,10,11,12] (lF 59 1 58),Zc [46,47,48,49,50,51,52,53,54,55,56,57,58,59] (mS 60 4),Zd [46,47,48,49,50,51,52,53,54] [9,10,11,12,13,14] (xS 61 1 59 60),Zd [46,47,48,49,50,51,52,53,54] [9,10,11,12,13,14,15] (lF 62 1 61),Ze (.range 17) (bS 63 .geq 54 62)] [0,3,4,63])
(.cond (.s 63) (Zs [.mv 2 cF] [2] .ret) .skip)))
(pr [mS 44 4,bC 45 .add 44 1,mS 4 45] [0,3,4]))))))))
(pr [mS 9 3,bC 10 .add 9 1,mS 3 10] [0,3]))))))
(Zs [mS 64 0,nS 65 64,bC 66 .leq 65 6,mS 2 66] [2] .ret)))
set_option maxHeartbeats 2000000 in
theorem Cku(l:List GLibrary)(hs:l.length+(l.map GLibrary.size).sum≤1073741824):Ctr Tryz.prog N8l [aL 4 (l.map GLibrary.enc)] [rB (K2p l)]:=by
 refine cA M7z 0 67 [(.tmp 2,[false])] Tryz.func252 rfl rfl ?_;unfold M7z
 intro hb
 clear hb
 simp only[go_sem]
 refine K5 l (fun k=>[(3,vI k)]) (fun k=>[]) (fun k=>(-1≤bef l k∧bef l k≤99)∧(0<k→0≤bef l k)∧K22 (-1) l=K22 (bef l k) (l.drop k)) (by simp only[roomB];omega) ?_
 simp only[go_sem]
 refine⟨?_,⟨by simp[bef],by omega,rfl⟩,?_,?_⟩
 ·simp only[go_sem]
 ·intro k x hx hP h0 h1 hw
  obtain⟨hb,hb2,hP⟩:=hP
  rw[Kj hx,K22]at hP
  simp only[go_sem,K4 hx,h0,h1]
  apply K0 (C3 x.Id 0 99)
  simp only[go_sem,K4 hx,h0,h1]
  refine⟨fun c=>?_,fun c=>⟨fun hk=>?_,fun hk=>?_⟩⟩
  ·have hn:¬(bef l k+1≤x.Id∧x.Id≤99):=by omega
   rw[K2p,hP,decide_eq_false hn]
   simp
  ·obtain⟨q,rfl⟩:∃q,k=q+1:=⟨k-1,by omega⟩
   obtain⟨w,hwq⟩:=Kb (l:=l) (k:=q) (by have:=Kg hx;omega)
   have eb:=Kat hwq
   have hkl:=Kg hx
   have hb3:=hb2 (by omega)
   rw[show IntKind.i64.wrap (((q+1:Nat):Int)-1)=(q:Int)by rw[wI (by omega) (by omega)];omega]
   refine⟨⟨by omega,by omega⟩,?_⟩
   rw[Int.toNat_natCast,hwq]
   simp only[go_sem]
   refine⟨fun c2=>?_,fun c2=>?_⟩
   ·have hn:¬(bef l (q+1)+1≤x.Id∧x.Id≤99):=by omega
    rw[K2p,hP,decide_eq_false hn]
    simp
   ·have hc:bef l (q+1)+1≤x.Id∧x.Id≤99:=by omega
    refine Kk (fun j:Nat=>[(4,vI j)]) (fun j=>[]) (fun j=>1≤j∧(x.Digests.take j).Pairwise (· < ·)) (fun j=>x.Digests.length-j) 1 ?_
    simp only[go_sem]
    refine⟨?_,⟨by omega,by rcases x.Digests with _|⟨y,l⟩<;>simp⟩,?_⟩
    ·simp only[go_sem]
     try rfl
    ·rintro j ⟨j1,j2⟩
     by_cases hj:j<x.Digests.length
     ·obtain⟨i,rfl⟩:∃i,j=i+1:=⟨j-1,by omega⟩
      obtain⟨z,hz⟩:=Kb (l:=x.Digests) (k:=i) (by omega)
      obtain⟨y,hy⟩:=Kb hj
      have hdl:=dig_le hx hs
      have g1:((i+1:Nat):Int)<(x.Digests.length:Int):=by omega
      have g2:IntKind.i64.wrap (((i+1:Nat):Int)-1)=(i:Int):=by rw[wI (by omega) (by omega)];omega
      have g3:(0:Int)≤(i:Int):=by omega
      have g4:(i:Int)<(x.Digests.length:Int):=by omega
      have g5:(0:Int)≤((i+1:Nat):Int):=by omega
      simp only[go_sem,K4 hx,h0,h1,hw,g1,g2,g3,g4,g5,K4 hz,K4 hy]
      refine⟨fun c3=>?_,fun c3=>?_⟩
      ·rw[K2p,hP,pair_no hz hy (by omega)]
       simp
      ·exact⟨i+1+1,by rw[wI (by omega) (by omega)];omega,⟨by omega,Kcp hz hy j2 (by omega)⟩,by omega⟩
     ·have g1:¬(j:Int)<(x.Digests.length:Int):=by omega
      rw[List.take_of_length_le (by omega)]at j2
      have hA:ascB x.Digests=true:=decide_eq_true j2
      simp only[go_sem,K4 hx,h0,h1,hw,g1,Kat hx]
      rw[hA,decide_eq_true hc,Bool.true_and,Bool.true_and]at hP
      try exact⟨by omega,fun _=>by omega,hP⟩
  ·have ek:k=0:=by omega
   have hc:bef l k+1≤x.Id∧x.Id≤99:=by rw[ek];simp only[bef];omega
   refine Kk (fun j:Nat=>[(4,vI j)]) (fun j=>[]) (fun j=>1≤j∧(x.Digests.take j).Pairwise (· < ·)) (fun j=>x.Digests.length-j) 1 ?_
   simp only[go_sem]
   refine⟨?_,⟨by omega,by rcases x.Digests with _|⟨y,l⟩<;>simp⟩,?_⟩
   ·simp only[go_sem]
    try rfl
   ·rintro j ⟨j1,j2⟩
    by_cases hj:j<x.Digests.length
    ·obtain⟨i,rfl⟩:∃i,j=i+1:=⟨j-1,by omega⟩
     obtain⟨z,hz⟩:=Kb (l:=x.Digests) (k:=i) (by omega)
     obtain⟨y,hy⟩:=Kb hj
     have hdl:=dig_le hx hs
     have g1:((i+1:Nat):Int)<(x.Digests.length:Int):=by omega
     have g2:IntKind.i64.wrap (((i+1:Nat):Int)-1)=(i:Int):=by rw[wI (by omega) (by omega)];omega
     have g3:(0:Int)≤(i:Int):=by omega
     have g4:(i:Int)<(x.Digests.length:Int):=by omega
     have g5:(0:Int)≤((i+1:Nat):Int):=by omega
     simp only[go_sem,K4 hx,h0,h1,hw,g1,g2,g3,g4,g5,K4 hz,K4 hy]
     refine⟨fun c3=>?_,fun c3=>?_⟩
     ·rw[K2p,hP,pair_no hz hy (by omega)]
      simp
     ·exact⟨i+1+1,by rw[wI (by omega) (by omega)];omega,⟨by omega,Kcp hz hy j2 (by omega)⟩,by omega⟩
    ·have g1:¬(j:Int)<(x.Digests.length:Int):=by omega
     rw[List.take_of_length_le (by omega)]at j2
     have hA:ascB x.Digests=true:=decide_eq_true j2
     simp only[go_sem,K4 hx,h0,h1,hw,g1,Kat hx]
     rw[hA,decide_eq_true hc,Bool.true_and,Bool.true_and]at hP
     try exact⟨by omega,fun _=>by omega,hP⟩
 ·intro hP
  rw[List.drop_length]at hP
  simp only[go_sem]
  rw[K2p,hP.2.2,K22,Bool.and_true]
  exact K7j
def holdP(d:Int)(x:GLibrary):Bool:=x.Up&&x.Digests.contains d
def lackP(d:Int)(x:GLibrary):Bool:=x.Up&& !x.Digests.contains d
def holders(d:Int)(l:List GLibrary):List Int:=(l.filter (holdP d)).map fun x=>x.Id
def Kx(d:Int)(l:List GLibrary):List Int:=(l.filter (lackP d)).map fun x=>x.Id
def K1e(l:List GLibrary)(d:Int):Bool:=K2p l&& !decide (K2v d l=0)
def repairL(l:List GLibrary)(d k:Int):List GLibrary:=if K1e l d then tellL ((Ky (Kx d l) d).take (k-(holders d l).length).toNat) d l else l
theorem libs_up:∀ {l:List GLibrary} {b:Int},K22 b l=true→l.Pairwise (fun x y=>x.Id<y.Id)∧∀x∈l,b<x.Id
 | [],_,_=>by simp
 |x::l,b,h=>by
  simp only[K22,Bool.and_eq_true,decide_eq_true_eq]at h
  obtain⟨h1,h2⟩:=libs_up h.2.2
  refine⟨List.pairwise_cons.2 ⟨h2,h1⟩,fun y hy=>?_⟩
  rcases List.mem_cons.1 hy with rfl|hy
  ·omega
  ·have:=h2 y hy;omega
theorem ids_one{l:List GLibrary}(h:l.Pairwise fun x y=>x.Id<y.Id){m n:Nat}{x y:GLibrary}(hm:l[m]? =some x)(hn:l[n]? =some y)(e:x.Id=y.Id):m=n:=by
 obtain⟨hm1,rfl⟩:=List.getElem?_eq_some_iff.1 hm
 obtain⟨hn1,rfl⟩:=List.getElem?_eq_some_iff.1 hn
 rw[List.pairwise_iff_getElem]at h
 rcases Nat.lt_trichotomy m n with k|k|k
 ·have:=h m n hm1 hn1 k;omega
 ·exact k
 ·have:=h n m hn1 hm1 k;omega
theorem Kcv{s:List Int}{d:Int}{x:GLibrary}:(K11 s d x).Id=x.Id:=by unfold K11;split<;>rfl
theorem K5t{s:List Int}{d:Int}{x:GLibrary}(h:x.Id∉s):K11 s d x=x:=by unfold K11;rw[if_neg (by simpa using h)]
theorem Ka2{s:List Int}{d id:Int}{x:GLibrary}(h:x.Id≠id):K11 (s++[id]) d x=K11 s d x:=by
 have e:(s++[id]).contains x.Id=s.contains x.Id:=by rw[Bool.eq_iff_iff];simp[h]
 unfold K11;rw[e]
theorem Kbk{s:List Int}{d id:Int}{x:GLibrary}(h:x.Id=id):K11 (s++[id]) d x={x with Digests:=put x.Digests d}:=by
 unfold K11;rw[if_pos (by simp[h])]
theorem Kap{d:Int}{l:List GLibrary}:tellL [] d l=l:=by
 unfold tellL
 refine(List.map_congr_left fun x _=>?_).trans (List.map_id l)
 exact K5t (by simp)
theorem K1u{s:List Int}{d:Int}{l:List GLibrary}:(tellL s d l).length=l.length:=by simp[tellL]
theorem lack_at{d id:Int}{l:List GLibrary}(h:id∈Kx d l):∃(j:Nat) (x:GLibrary),l[j]? =some x∧x.Id=id∧x.Up=true∧x.Digests.contains d=false:=by
 obtain⟨x,hx,rfl⟩:=List.mem_map.1 h
 obtain⟨hx,hp⟩:=List.mem_filter.1 hx
 obtain⟨j,hj⟩:=List.getElem?_of_mem hx
 simp only[lackP,Bool.and_eq_true,Bool.not_eq_true']at hp
 exact⟨j,x,hj,rfl,hp.1,hp.2⟩
theorem Ke3{s:List Int}{d:Int}{l:List GLibrary}(hl:l.Pairwise fun x y=>x.Id<y.Id){j:Nat}{x:GLibrary}(hx:l[j]? =some x):tellL (s++[x.Id]) d l=(tellL s d l).set j {x with Digests:=put x.Digests d}:=by
 refine List.ext_getElem? fun m=>?_
 rw[List.getElem?_set]
 have hj:=Kg hx
 by_cases e:j=m
 ·subst e
  have e:=(List.getElem?_eq_some_iff.1 hx).2
  simp[tellL,hj,e,Kbk]
 ·rw[if_neg e]
  simp only[tellL,List.getElem?_map]
  cases hm:l[m]? with
  |none=>rfl
  |some y=>simp only[Option.map_some];rw[Ka2 fun k=>e (ids_one hl hx hm k.symm)]
theorem tell_hold{s:List Int}{d:Int}{l:List GLibrary}(hl:l.Pairwise fun x y=>x.Id<y.Id){j:Nat}{x:GLibrary}(hx:l[j]? =some x)(hu:x.Up=true)(hc:x.Digests.contains d=false)(hs:x.Id∉s):(holders d (tellL (s++[x.Id]) d l)).length=(holders d (tellL s d l)).length+1:=by
 have hy:(tellL s d l)[j]? =some x:=by simp[tellL,hx,K5t hs]
 obtain⟨hj,e⟩:=List.getElem?_eq_some_iff.1 hy
 have h1:holdP d x=false:=by unfold holdP;rw[hu,hc];rfl
 have h2:holdP d {x with Digests:=put x.Digests d}=true:=by unfold holdP;simp[hu,K5c]
 rw[Ke3 hl hx]
 simp only[holders,List.length_map,←List.countP_eq_length_filter]
 rw[List.countP_set hj,e,h1,h2]
 simp
theorem tell_idx{s:List Int}{d:Int}{l:List GLibrary}(hl:l.Pairwise fun x y=>x.Id<y.Id){j:Nat}{x:GLibrary}(hx:l[j]? =some x)(hs:x.Id∉s):idxF (fun y:GLibrary=>decide (y.Id=x.Id)) (tellL s d l)=j:=by
 have hy:(tellL s d l)[j]? =some x:=by simp[tellL,hx,K5t hs]
 refine K32 hy ?_ (by simp)
 rw[List.any_eq_false]
 intro y hy
 obtain⟨m,hm⟩:=List.getElem?_of_mem hy
 have hmj:m<j:=by have:=Kg hm;rw[List.length_take]at this;omega
 rw[List.getElem?_take_of_lt hmj]at hm
 simp only[tellL,List.getElem?_map]at hm
 cases hz:l[m]? with
 |none=>rw[hz]at hm;simp at hm
 |some z=>
  rw[hz]at hm
  simp only[Option.map_some,Option.some.injEq]at hm
  subst hm
  rw[Kcv]
  simp only[decide_eq_true_eq]
  intro e
  have:=ids_one hl hz hx e
  omega
theorem K9x{l:List GLibrary}{d k:Int}:((repairL l d k).map GLibrary.size).sum≤(l.map GLibrary.size).sum+6∧(repairL l d k).length=l.length:=by
 unfold repairL
 split
 ·rename_i h
  simp only[K1e,K2p,Bool.and_eq_true,decide_eq_true_eq]at h
  have:=Kcy (chosen:=(Ky (Kx d l) d).take (k-(holders d l).length).toNat) (root:=d) (l:=l)
  exact⟨by omega,by simp[tellL]⟩
 ·exact⟨by omega,rfl⟩
theorem K8l{d:Int}{l:List GLibrary}{k:Nat}{x:GLibrary}(h:l[k]? =some x)(u:holdP d x=true):holders d (l.take (k+1))=holders d (l.take k)++[x.Id]:=by
 rw[Kc h,holders,List.filter_append,List.map_append];simp[holders,u]
theorem K4z{d:Int}{l:List GLibrary}{k:Nat}{x:GLibrary}(h:l[k]? =some x)(u:holdP d x=false):holders d (l.take (k+1))=holders d (l.take k):=by
 rw[Kc h,holders,List.filter_append,List.map_append];simp[holders,u]
theorem K8m{d:Int}{l:List GLibrary}{k:Nat}{x:GLibrary}(h:l[k]? =some x)(u:lackP d x=true):Kx d (l.take (k+1))=Kx d (l.take k)++[x.Id]:=by
 rw[Kc h,Kx,List.filter_append,List.map_append];simp[Kx,u]
theorem K51{d:Int}{l:List GLibrary}{k:Nat}{x:GLibrary}(h:l[k]? =some x)(u:lackP d x=false):Kx d (l.take (k+1))=Kx d (l.take k):=by
 rw[Kc h,Kx,List.filter_append,List.map_append];simp[Kx,u]
theorem Kad(d:Int)(l:List GLibrary):(holders d l).length≤l.length:=by
 unfold holders;rw[List.length_map];exact List.length_filter_le _ _
theorem K82(d:Int)(l:List GLibrary):(Kx d l).length≤l.length:=by
 unfold Kx;rw[List.length_map];exact List.length_filter_le _ _
def midL(s:List Int)(id d:Int)(l:List GLibrary)(j:Nat):List GLibrary:=tellL (s++[id]) d (l.take j)++tellL s d (l.drop j)
theorem Kag{s:List Int}{id d:Int}{l:List GLibrary}{j:Nat}:(midL s id d l j).length=l.length:=by simp[midL,tellL];omega
theorem midL_zero{s:List Int}{id d:Int}{l:List GLibrary}:midL s id d l 0=tellL s d l:=by simp[midL,tellL]
theorem midL_all{s:List Int}{id d:Int}{l:List GLibrary}:midL s id d l l.length=tellL (s++[id]) d l:=by simp[midL,tellL]
theorem midL_get{s:List Int}{id d:Int}{l:List GLibrary}{j:Nat}{x:GLibrary}(h:l[j]? =some x):(midL s id d l j)[j]? =some (K11 s d x):=by
 have hl:=Kg h
 rw[midL,List.getElem?_append_right (by simp[tellL];omega),Kj h]
 simp[tellL,Nat.min_eq_left (Nat.le_of_lt hl)]
theorem midL_step{s:List Int}{id d:Int}{l:List GLibrary}{j:Nat}{x:GLibrary}(h:l[j]? =some x):(midL s id d l j).set j (K11 (s++[id]) d x)=midL s id d l (j+1):=by
 have hl:=Kg h
 rw[midL,midL,Kj h,Kc h,tellL,tellL,tellL,List.map_append,List.map_cons]
 rw[List.set_append_right _ _ (by simp;omega)]
 simp[tellL,Nat.min_eq_left (Nat.le_of_lt hl)]
theorem midL_same{s:List Int}{id d:Int}{l:List GLibrary}{j:Nat}{x:GLibrary}(h:l[j]? =some x)(e:¬x.Id=id):midL s id d l j=midL s id d l (j+1):=by
 have hl:=Kg h
 rw[midL,midL,Kj h,Kc h]
 simp[tellL,Ka2 e]
def Mdv:MC:=
(Zs [.nilo 4 0 1] [0,1] (Zs [.nilo 5 0 1] [0,1,5] (.seq (Zs [mS 8 0,nS 9 8,.mv 10 (ci 0)] [1,5,8,9,10] (.block 0 (.loop ([1,5,8,9,10],[1,2]) (Zs [bS 11 .lss 10 9] [1,5,8,9,10,11] (.seq (cX 11 0)
(.seq (.block 1 (Zs [xS 12 4 8 10,lT 13 4 12,.alloc 7 1 [pz,.emp 1,.pl (.sc (.bool false)),.pl (.sc (.bool false))],sS 4 7 13] [1,5,7,8,9,10] (.seq (.reg [Za (fS 14 7 2),Za (lF 15 1 14),Za (mS 16 15),Zb 16 true (fS 17 7 1),Zb 16 true (lF 18 1 17),Zb 16 true (mS 19 1),Zb 16 true (.call 20 [] (.f Nd) [.s 18,.s 19]),Za (.pick 21 (.s 16) (.s 20) cF)] [1,5,7,8,9,10,21])
(.cond (.s 21) (pr [mS 22 5,fS 23 7 0,lF 24 1 23,.lit 25 2 1 8 [.s 24],.app 26 0 1 8 (.s 22) (.s 25),mS 5 26] [1,5,8,9,10]) .skip))))
(pr [bC 27 .add 10 1,mS 10 27] [1,5,8,9,10])))))))
(Zs [mS 28 5,mS 4 28] [4] .ret))))
theorem Cnf(l:List GLibrary)(d:Int)(hl:l.length≤1073741824):Ctr Tryz.prog Nex [aL 4 (l.map GLibrary.enc),aI d] [rL 1 ((holders d l).map encI)]:=by
 refine cA Mdv 3 29 [(.tmp 4,[true])] Tryz.func273 rfl rfl ?_;unfold Mdv
 intro hb
 clear hb
 simp only[go_sem]
 refine K5 l (fun k=>[(5,.val false [.ref 0 0 1 0 (holders d (l.take k)).length]),(10,vI k)]) (fun k=>[(0,⟨0,.row true 1 ((holders d (l.take k)).map encI)⟩)]) (fun _=>True) (by simp only[roomB];omega) ?_
 simp only[go_sem]
 refine⟨?_,trivial,?_,?_⟩
 ·simp only[go_sem,List.take_zero]
  exact⟨rfl,rfl⟩
 ·intro k x hx _ h0 h1 hw
  have hul:=Kad d (l.take k)
  have hkl:(l.take k).length≤l.length:=by rw[List.length_take];omega
  simp only[go_sem,K4 hx,h0,h1,hw]
  refine⟨fun u=>?_,fun u=>?_⟩
  ·apply K0 (C2w x.Digests d)
   simp only[go_sem,hw]
   refine⟨fun hc=>?_,fun hc=>?_⟩
   ·rw[K8l hx (by unfold holdP;rw[u,hc];rfl)]
    simp only[roomB]
    simp[encI]
    omega
   ·rw[K4z hx (by unfold holdP;rw[u,hc];rfl)]
    exact⟨rfl,rfl⟩
  ·rw[K4z hx (by unfold holdP;rw[u];rfl)]
   exact⟨rfl,rfl⟩
 ·intro _
  simp only[go_sem,List.take_length]
def Mel:MC:=
(Zs [.nilo 4 0 1] [0,1] (Zs [.lit 7 0 1 8 [],mS 5 7] [0,1,5] (.seq (Zs [.mv 6 (ci 0)] [0,1,5,6] (.block 0 (.loop ([0,1,5,6],[1]) (.seq (Zs [mS 8 6,mS 9 0,nS 10 9,bS 11 .lss 8 10] [0,1,5,6,11] (cX 11 0))
(.seq (.block 1 (.seq (.reg [Za (mS 14 0),Za (mS 15 6),Za (xS 16 4 14 15),Za (fS 17 16 2),Za (lF 18 1 17),Za (mS 19 18),Zb 19 true (mS 20 0),Zb 19 true (mS 21 6),Zb 19 true (xS 22 4 20 21),Zb 19 true (fS 23 22 1),Zb 19 true (lF 24 1 23),Zb 19 true (mS 25 1),Zb 19 true (.call 26 [] (.f N2h) [.s 24,.s 25]),Za (.pick 27 (.s 19) (.s 26) cF)] [0,1,5,6,27])
(.cond (.s 27) (pr [mS 28 5,mS 29 0,mS 30 6,xS 31 4 29 30,fS 32 31 0,lF 33 1 32,.lit 34 1 1 8 [.s 33],.app 35 0 1 8 (.s 28) (.s 34),mS 5 35] [0,1,5,6]) .skip)))
(pr [mS 12 6,bC 13 .add 12 1,mS 6 13] [0,1,5,6]))))))
(Zs [mS 36 5,mS 4 36] [4] .ret))))
theorem Cnv(l:List GLibrary)(d:Int)(hl:l.length≤1073741824):Ctr Tryz.prog Nfg [aL 4 (l.map GLibrary.enc),aI d] [rL 1 ((holders d l).map encI)]:=by
 refine cA Mel 2 37 [(.tmp 4,[true])] Tryz.func254 rfl rfl ?_;unfold Mel
 intro hb
 clear hb
 simp only[go_sem]
 refine K5 l (fun k=>[(5,.val false [.ref 0 0 1 0 (holders d (l.take k)).length]),(6,vI k)]) (fun k=>[(0,⟨0,.row true 1 ((holders d (l.take k)).map encI)⟩)]) (fun _=>True) (by simp only[roomB];omega) ?_
 simp only[go_sem]
 refine⟨?_,trivial,?_,?_⟩
 ·simp only[go_sem,List.take_zero]
  exact⟨rfl,rfl⟩
 ·intro k x hx _ h0 h1 hw
  have hul:=Kad d (l.take k)
  have hkl:(l.take k).length≤l.length:=by rw[List.length_take];omega
  simp only[go_sem,K4 hx,h0,h1,hw]
  refine⟨fun u=>?_,fun u=>?_⟩
  ·apply K0 (C3g x.Digests d)
   simp only[go_sem,K4 hx,h0,h1,hw]
   refine⟨fun hc=>?_,fun hc=>?_⟩
   ·rw[K8l hx (by unfold holdP;rw[u,hc];rfl)]
    simp only[roomB]
    simp[encI]
    omega
   ·rw[K4z hx (by unfold holdP;rw[u,hc];rfl)]
    exact⟨rfl,rfl⟩
  ·rw[K4z hx (by unfold holdP;rw[u];rfl)]
   exact⟨rfl,rfl⟩
 ·intro _
  simp only[go_sem,List.take_length]
def M5q:MC:=
(Zs [.box 2 0 (.s 0),.mv 3 cF] [1,2] (Zs [fS 4 2 0,lF 5 1 4,lF 6 1 1,bS 7 .eql 5 6,mS 3 7] [3] .ret))
theorem Chf(x:GLibrary)(id:Int):Ctr Tryz.prog N60 [aS x.enc,(false,[.pb [tI id]])] [rB (decide (x.Id=id))]:=by
 refine cA M5q 1 8 [(.tmp 3,[false])] Tryz.func274 rfl rfl ?_;unfold M5q
 intro hb
 clear hb
 simp only[go_sem]
 rfl
def M7f:MC:=
(Zs [.nilo 6 0 4,.mv 7 cF] [0,1,2] (Zs [mS 15 0,.call 16 [0] (.f N3e) [.s 15],mS 8 16] [0,1,2,8] (.seq (.seq (.reg [Za (mS 17 0),Za (.call 18 [] (.f N84) [.s 17]),Za (.un 19 .not (.s 18)),Za (mS 20 19),Zb 20 false (mS 21 0),Zb 20 false (mS 22 1),Zb 20 false (.call 23 [] (.f Nch) [.s 21,.s 22]),Zb 20 false (bC 24 .eql 23 0),Za (.pick 25 (.s 20) cT (.s 24))] [0,1,2,8,25])
(.cond (.s 25) (Zs [mS 26 8,mS 6 26,.mv 7 cF] [6,7] .ret) .skip))
(Zs [.nilo 9 1 1] [0,1,2,8,9] (.seq (Zs [mS 27 0,nS 28 27,.mv 29 (ci 0)] [1,2,8,9,27,28,29] (.block 0 (.loop ([1,2,8,9,27,28,29],[2,3,4,5,6,7]) (Zs [bS 30 .lss 29 28] [1,2,8,9,27,28,29,30] (.seq (cX 30 0)
(.seq (.block 1 (Zs [xS 31 4 27 29,lT 32 4 31,.alloc 11 2 [pz,.emp 1,.pl (.sc (.bool false)),.pl (.sc (.bool false))],sS 4 11 32] [1,2,8,9,11,27,28,29] (.seq (.reg [Za (fS 33 11 2),Za (lF 34 1 33),Za (mS 35 34),Zb 35 true (fS 36 11 1),Zb 35 true (lF 37 1 36),Zb 35 true (mS 38 1),Zb 35 true (.call 39 [] (.f Nd) [.s 37,.s 38]),Zb 35 true (.un 40 .not (.s 39)),Za (.pick 41 (.s 35) (.s 40) cF)] [1,2,8,9,11,27,28,29,41])
(.cond (.s 41) (pr [mS 42 9,fS 43 11 0,lF 44 1 43,.lit 45 3 1 8 [.s 44],.app 46 1 1 8 (.s 42) (.s 45),mS 9 46] [1,2,8,9,27,28,29]) .skip))))
(pr [bC 47 .add 29 1,mS 29 47] [1,2,8,9,27,28,29])))))))
(.seq (Zs [mS 48 9,mS 49 1,.call 50 [4] (.f N6s) [.s 48,.s 49],nS 51 50,.mv 52 (ci 0)] [1,2,8,50,51,52] (.block 2 (.loop ([1,2,8,50,51,52],[1,2,3,5,6,7]) (Zs [bS 53 .lss 52 51] [1,2,8,50,51,52,53] (.seq (cX 53 2)
(.seq (.block 3 (Zs [xS 54 1 50 52,lF 55 1 54,.alloc 13 5 [pz],sS 1 13 55] [1,2,8,13,50,51,52] (.seq (Zs [mS 56 8,mS 57 1,.call 58 [6] (.f Nex) [.s 56,.s 57],nS 59 58,mS 60 2,bS 61 .geq 59 60] [1,2,8,13,50,51,52,61] (.cond (.s 61) (.exit 2) .skip))
(Zs [mS 62 8,.clos 63 N60 [13],.call 64 [] (.f Nc) [.s 62,.s 63],mS 14 64] [1,2,8,14,50,51,52] (pr [mS 65 8,mS 66 14,mS 67 8,mS 68 14,xS 69 4 67 68,fS 70 69 1,lF 71 1 70,mS 72 1,.call 73 [7] (.f N4y) [.s 71,.s 72],xS 74 4 65 66,fS 75 74 1,sS 1 75 73] [1,2,8,50,51,52])))))
(pr [bC 76 .add 52 1,mS 52 76] [1,2,8,50,51,52])))))))
(Zs [mS 77 8,mS 6 77,.mv 7 cT] [6,7] .ret)))))))
set_option maxHeartbeats 2000000 in
theorem Ckg(l:List GLibrary)(d k:Int)(hs:l.length+(l.map GLibrary.size).sum≤268435456):Ctr Tryz.prog N87 [aL 4 (l.map GLibrary.enc),aI d,aI k] [rL 4 ((repairL l d k).map GLibrary.enc),rB (K1e l d)]:=by
 refine cA M7f 8 78 [(.tmp 6,[true]),(.tmp 7,[false])] Tryz.func171 rfl rfl ?_;unfold M7f
 intro hb
 clear hb
 simp only[go_sem]
 apply K0 (C6a l (by omega))
 simp only[go_sem]
 intros
 apply K0 (Ckd l (by omega))
 simp only[go_sem]
 refine⟨fun hno=>?_,fun hok=>?_⟩
 ·have e:K1e l d=false:=by unfold K1e;rw[hno];rfl
  simp[repairL,e]
 ·apply K0 (Cm1 l d)
  simp only[go_sem]
  intro _
  refine⟨fun hz=>?_,fun hz=>?_⟩
  ·have e:K1e l d=false:=by unfold K1e;rw[hz];simp
   simp[repairL,e]
  ·have e:K1e l d=true:=by unfold K1e;rw[hok];simpa using hz
   have eR:repairL l d k=tellL ((Ky (Kx d l) d).take (k-(holders d l).length).toNat) d l:=by unfold repairL;rw[if_pos e]
   rw[e,eR]
   have hup:=(libs_up (by simp only[K2p,Bool.and_eq_true]at hok;exact hok.2):l.Pairwise (fun x y=>x.Id<y.Id)∧_).1
   refine K5 l (fun k=>[(9,.val false [.ref 1 0 1 0 (Kx d (l.take k)).length]),(29,vI k)]) (fun k=>[(1,⟨0,.row true 1 ((Kx d (l.take k)).map encI)⟩)]) (fun _=>True) (by simp only[roomB];omega) ?_
   simp only[go_sem]
   refine⟨?_,trivial,?_,?_⟩
   ·simp only[go_sem,List.take_zero]
    exact⟨rfl,rfl⟩
   ·intro m x hx _ h0 h1 hw
    have hul:=K82 d (l.take m)
    have hkl:(l.take m).length≤l.length:=by rw[List.length_take];omega
    simp only[go_sem,K4 hx,h0,h1,hw]
    refine⟨fun u=>?_,fun u=>?_⟩
    ·apply K0 (C2w x.Digests d)
     simp only[go_sem,hw]
     refine⟨fun hc=>?_,fun hc=>?_⟩
     ·rw[K8m hx (by unfold lackP;rw[u,hc];rfl)]
      simp only[roomB]
      simp[encI]
      omega
     ·rw[K51 hx (by unfold lackP;rw[u,hc];rfl)]
      exact⟨rfl,rfl⟩
    ·rw[K51 hx (by unfold lackP;rw[u];rfl)]
     exact⟨rfl,rfl⟩
   ·intro _
    have hul:=K82 d l
    simp only[go_sem,List.take_length]
    apply K0 (Cfx (Kx d l) d (by omega))
    simp only[go_sem]
    intros
    have hol:=K53 (Kx d l) d
    have hnd:=K98 (Kx d l) d
    have hmem:∀x∈Ky (Kx d l) d,x∈Kx d l:=fun x hx=>ordFor_mem.1 hx
    generalize Ky (Kx d l) d=order at*
    refine K5 order (fun m=>[(52,vI m)]) (fun m=>[(0,⟨0,.row true 4 ((tellL (order.take m) d l).map GLibrary.enc)⟩)]) (fun m=>(holders d (tellL (order.take m) d l)).length=(holders d l).length+m∧m≤(k-(holders d l).length).toNat) (by simp only[roomB];omega) ?_
    simp only[go_sem]
    refine⟨?_,⟨by rw[List.take_zero,Kap];simp,Nat.zero_le _⟩,?_,?_⟩
    ·simp only[go_sem,List.take_zero,Kap]
    ·rintro m id hx ⟨hn,hm⟩ h0 h1 hw
     have hml:=Kg hx
     have hsx:=Kc hx
     obtain⟨j,x,hj,rfl,hu,hc⟩:=lack_at (hmem _ (Kl hx))
     have hjl:=Kg hj
     have hni:x.Id∉order.take m:=by
      intro hin
      have h2:=hnd
      rw[←List.take_append_drop m order,List.nodup_append]at h2
      exact h2.2.2 _ hin _ (by rw[Kj hx];simp) rfl
     have hset:=Ke3 (s:=order.take m) (d:=d) hup hj
     have hhold:=tell_hold hup hj hu hc hni
     have hidx:=tell_idx (d:=d) hup hj hni
     have hget:(tellL (order.take m) d l)[j]? =some x:=by simp[tellL,hj,K5t hni]
     have hlen:=K1u (s:=order.take m) (d:=d) (l:=l)
     rw[hsx]
     rw[hhold]
     have hxl:=Kv (f:=GLibrary.size) (Kl hj)
     have hxd:x.Digests.length≤268435456:=by simp only[GLibrary.size]at hxl;omega
     simp only[go_sem,K4 hx,h0,h1,K1u]
     apply K0 (Cnf (tellL (order.take m) d l) d (by omega))
     simp only[go_sem,K1u]
     intros
     refine⟨fun hge=>?_,fun hlt=>?_⟩
     ·have em:(k-(holders d l).length).toNat=m:=by omega
      rw[em]
     ·apply K0 (C3f (tellL (order.take m) d l) _ [.pb [tI x.Id]] (fun y=>decide (y.Id=x.Id)) fun y _=>Chf y x.Id)
      simp only[go_sem,hidx,K4 hget,K1u]
      intro _
      refine⟨⟨by omega,by omega⟩,?_⟩
      apply K0 (Cb0 x.Digests d (by omega))
      simp only[go_sem,K4 hget,hw,K1u]
      rw[hset,List.map_set]
      refine⟨⟨by omega,by omega⟩,fun _=>⟨rfl,by omega,by omega⟩⟩
    ·rintro ⟨hn,hm⟩
     simp only[go_sem,List.take_length,K1u]
     rw[List.take_of_length_le (by omega)]
def M81:MC:=
(Zs [.nilo 6 0 4,.mv 7 cF] [0,1,2] (Zs [mS 15 0,.call 16 [0] (.f N8x) [.s 15],mS 8 16] [0,1,2,8] (.seq (.seq (.reg [Za (mS 17 0),Za (.call 18 [] (.f N8l) [.s 17]),Za (.un 19 .not (.s 18)),Za (mS 20 19),Zb 20 false (mS 21 0),Zb 20 false (mS 22 1),Zb 20 false (.call 23 [] (.f Nda) [.s 21,.s 22]),Zb 20 false (bC 24 .eql 23 0),Za (.pick 25 (.s 20) cT (.s 24))] [0,1,2,8,25])
(.cond (.s 25) (Zs [mS 26 8,mS 6 26,.mv 7 cF] [6,7] .ret) .skip))
(Zs [.lit 27 1 1 8 [],mS 9 27] [0,1,2,8,9] (.seq (Zs [.mv 10 (ci 0)] [0,1,2,8,9,10] (.block 0 (.loop ([0,1,2,8,9,10],[2,3,4,5]) (.seq (Zs [mS 28 10,mS 29 0,nS 30 29,bS 31 .lss 28 30] [0,1,2,8,9,10,31] (cX 31 0))
(.seq (.block 1 (.seq (.reg [Za (mS 34 0),Za (mS 35 10),Za (xS 36 4 34 35),Za (fS 37 36 2),Za (lF 38 1 37),Za (mS 39 38),Zb 39 true (mS 40 0),Zb 39 true (mS 41 10),Zb 39 true (xS 42 4 40 41),Zb 39 true (fS 43 42 1),Zb 39 true (lF 44 1 43),Zb 39 true (mS 45 1),Zb 39 true (.call 46 [] (.f N2h) [.s 44,.s 45]),Zb 39 true (.un 47 .not (.s 46)),Za (.pick 48 (.s 39) (.s 47) cF)] [0,1,2,8,9,10,48])
(.cond (.s 48) (pr [mS 49 9,mS 50 0,mS 51 10,xS 52 4 50 51,fS 53 52 0,lF 54 1 53,.lit 55 2 1 8 [.s 54],.app 56 1 1 8 (.s 49) (.s 55),mS 9 56] [0,1,2,8,9,10]) .skip)))
(pr [mS 32 10,bC 33 .add 32 1,mS 10 33] [0,1,2,8,9,10]))))))
(Zs [mS 57 9,mS 58 1,.call 59 [3] (.f N70) [.s 57,.s 58],mS 11 59] [0,1,2,8,11] (Zs [mS 60 0,mS 61 1,.call 62 [4] (.f Nfg) [.s 60,.s 61],nS 63 62,mS 12 63] [1,2,8,11,12] (.seq (Zs [.mv 13 (ci 0)] [1,2,8,11,12,13] (.block 2 (.loop ([1,2,8,11,12,13],[1,2,4,5]) (.seq (.seq (.reg [Za (mS 64 13),Za (mS 65 11),Za (nS 66 65),Za (bS 67 .lss 64 66),Za (mS 68 67),Zb 68 true (mS 69 12),Zb 68 true (mS 70 2),Zb 68 true (bS 71 .lss 69 70),Za (.pick 72 (.s 68) (.s 71) cF)] [1,2,8,11,12,13,72])
(cX 72 2))
(.seq (.block 3 (.seq (Zs [.mv 14 (ci 0)] [1,2,8,11,12,13,14] (.block 4 (.loop ([1,2,8,11,12,13,14],[1,2,4,5]) (.seq (Zs [mS 75 14,mS 76 8,nS 77 76,bS 78 .lss 75 77] [1,2,8,11,12,13,14,78] (cX 78 4))
(.seq (.block 5 (.seq (.dreg [Zc [82,86,87,88,89] (mS 81 8),Zc [81,86,87,88,89] (mS 82 14),Zd [86,87,88,89] [0,1] (xS 83 4 81 82),Zd [86,87,88,89] [0,1,2] (fS 84 83 0),Zd [86,87,88,89] (.range 4) (lF 85 1 84),Zc [81,82,83,84,85,87] (mS 86 11),Zc [81,82,83,84,85,86] (mS 87 13),Zd [81,82,83,84,85] [5,6] (xS 88 1 86 87),Zd [81,82,83,84,85] [5,6,7] (lF 89 1 88),Ze (.range 9) (bS 90 .eql 85 89)] [1,2,8,11,12,13,14,90])
(.cond (.s 90) (pr [mS 91 8,mS 92 14,mS 93 8,mS 94 14,xS 95 4 93 94,fS 96 95 1,lF 97 1 96,mS 98 1,.call 99 [5] (.f Nfr) [.s 97,.s 98],xS 100 4 91 92,fS 101 100 1,sS 1 101 99] [1,2,8,11,12,13,14]) .skip)))
(pr [mS 79 14,bC 80 .add 79 1,mS 14 80] [1,2,8,11,12,13,14]))))))
(pr [mS 102 12,bC 103 .add 102 1,mS 12 103] [1,2,8,11,12,13])))
(pr [mS 73 13,bC 74 .add 73 1,mS 13 74] [1,2,8,11,12,13]))))))
(Zs [mS 104 8,mS 6 104,.mv 7 cT] [6,7] .ret)))))))))
set_option maxHeartbeats 2000000 in
theorem Ckw(l:List GLibrary)(d k:Int)(hs:l.length+(l.map GLibrary.size).sum≤268435456):Ctr Tryz.prog N8n [aL 4 (l.map GLibrary.enc),aI d,aI k] [rL 4 ((repairL l d k).map GLibrary.enc),rB (K1e l d)]:=by
 refine cA M81 6 105 [(.tmp 6,[true]),(.tmp 7,[false])] Tryz.func149 rfl rfl ?_;unfold M81
 intro hb
 clear hb
 simp only[go_sem]
 apply K0 (Chs l (by omega))
 simp only[go_sem]
 intros
 apply K0 (Cku l (by omega))
 simp only[go_sem]
 refine⟨fun hno=>?_,fun hok=>?_⟩
 ·have e:K1e l d=false:=by unfold K1e;rw[hno];rfl
  simp[repairL,e]
 ·apply K0 (Cms l d)
  simp only[go_sem]
  intro _
  refine⟨fun hz=>?_,fun hz=>?_⟩
  ·have e:K1e l d=false:=by unfold K1e;rw[hz];simp
   simp[repairL,e]
  ·have e:K1e l d=true:=by unfold K1e;rw[hok];simpa using hz
   have eR:repairL l d k=tellL ((Ky (Kx d l) d).take (k-(holders d l).length).toNat) d l:=by unfold repairL;rw[if_pos e]
   rw[e,eR]
   refine K5 l (fun k=>[(9,.val false [.ref 1 0 1 0 (Kx d (l.take k)).length]),(10,vI k)]) (fun k=>[(1,⟨0,.row true 1 ((Kx d (l.take k)).map encI)⟩)]) (fun _=>True) (by simp only[roomB];omega) ?_
   simp only[go_sem]
   refine⟨?_,trivial,?_,?_⟩
   ·simp only[go_sem,List.take_zero]
    exact⟨rfl,rfl⟩
   ·intro m x hx _ h0 h1 hw
    have hul:=K82 d (l.take m)
    have hkl:(l.take m).length≤l.length:=by rw[List.length_take];omega
    simp only[go_sem,K4 hx,h0,h1,hw]
    refine⟨fun u=>?_,fun u=>?_⟩
    ·apply K0 (C3g x.Digests d)
     simp only[go_sem,K4 hx,h0,h1,hw]
     refine⟨fun hc=>?_,fun hc=>?_⟩
     ·rw[K8m hx (by unfold lackP;rw[u,hc];rfl)]
      simp only[roomB]
      simp[encI]
      omega
     ·rw[K51 hx (by unfold lackP;rw[u,hc];rfl)]
      exact⟨rfl,rfl⟩
    ·rw[K51 hx (by unfold lackP;rw[u];rfl)]
     exact⟨rfl,rfl⟩
   ·intro _
    have hul:=K82 d l
    have hhl:=Kad d l
    simp only[go_sem,List.take_length]
    apply K0 (Cg1 (Kx d l) d (by omega))
    simp only[go_sem]
    intros
    have hol:=K53 (Kx d l) d
    have hnd:=K98 (Kx d l) d
    generalize Ky (Kx d l) d=order at*
    apply K0 (Cnv l d (by omega))
    simp only[go_sem]
    intros
    generalize hN:(holders d l).length=N at*
    refine K5 order (fun m=>[(12,vI (N+m:Nat)),(13,vI m)]) (fun m=>[(0,⟨0,.row true 4 ((tellL (order.take m) d l).map GLibrary.enc)⟩)]) (fun m=>m≤(k-N).toNat) (by simp only[roomB];omega) ?_
    simp only[go_sem]
    refine⟨?_,Nat.zero_le _,?_,?_⟩
    ·simp only[go_sem,List.take_zero,Kap]
     try rfl
    ·intro m id hx hm h0 h1 hw
     have hml:=Kg hx
     have hsx:=Kc hx
     have hni:id∉order.take m:=by
      intro hin
      have h2:=hnd
      rw[←List.take_append_drop m order,List.nodup_append]at h2
      exact h2.2.2 _ hin _ (by rw[Kj hx];simp) rfl
     rw[hsx]
     simp only[go_sem,h1,K1u]
     refine⟨fun hlt=>?_,fun hge=>?_⟩
     ·refine K5 l (fun j=>[(14,vI j)]) (fun j=>[(0,⟨0,.row true 4 ((midL (order.take m) id d l j).map GLibrary.enc)⟩)]) (fun _=>True) (by simp only[roomB];omega) ?_
      simp only[go_sem]
      refine⟨?_,trivial,?_,?_⟩
      ·simp only[go_sem,midL_zero]
       try rfl
      ·intro j x hj _ g0 g1 gw
       have hxl:=Kv (f:=GLibrary.size) (Kl hj)
       have hxd:x.Digests.length≤268435456:=by simp only[GLibrary.size]at hxl;omega
       have hmg:=midL_get (s:=order.take m) (id:=id) (d:=d) hj
       by_cases he:x.Id=id
       ·rw[K5t (by rw[he];exact hni)]at hmg
        have hst:=midL_step (s:=order.take m) (id:=id) (d:=d) hj
        rw[Kbk he]at hst
        rw[←hst]
        simp only[go_sem,K4 hmg,K4 hx,h0,h1,g0,g1,gw,Kag,he]
        apply K0 (Clm x.Digests d (by omega))
        simp only[go_sem,K4 hmg,g0,g1,gw,Kag,he]
        intros
        rw[List.map_set]
        rfl
       ·have hsm:=midL_same (s:=order.take m) (d:=d) hj he
        rw[←hsm]
        have hne:¬(K11 (order.take m) d x).Id=id:=by rw[Kcv];exact he
        simp only[go_sem,K4 hmg,K4 hx,h0,h1,g0,g1,gw,Kag,hne]
      ·intro _
       have hw2:IntKind.i64.wrap (((N+m:Nat):Int)+1)=((N+(m+1):Nat):Int):=by simp only[roomB]at *;rw[wI (by omega) (by omega)];omega
       simp only[go_sem,midL_all,hw,hw2,K1u]
       omega
     ·have em:(k-N).toNat=m:=by omega
      rw[em]
    ·intro hm
     simp only[go_sem,List.take_length,K1u]
     rw[List.take_of_length_le (by omega)]
def Ku(l:List GLibrary)(xs:List GContainer):List GLibrary:=xs.foldl (fun l x=>repairL l x.Root 3) l
def K3g(a:GArchive):GArchive:={a with Libraries:=Ku a.Libraries a.Disk.Containers}
theorem K7n{l:List GLibrary}{xs:List GContainer}{k:Nat}{x:GContainer}(h:xs[k]? =some x):Ku l (xs.take (k+1))=repairL (Ku l (xs.take k)) x.Root 3:=by
 rw[Kc h,Ku,List.foldl_append];rfl
theorem K4d:∀ {xs:List GContainer} {l:List GLibrary},((Ku l xs).map GLibrary.size).sum≤(l.map GLibrary.size).sum+6*xs.length∧(Ku l xs).length=l.length
 | [],l=>by simp[Ku]
 |x::xs,l=>by
  have h1:=K9x (l:=l) (d:=x.Root) (k:=3)
  have h2:=K4d (xs:=xs) (l:=repairL l x.Root 3)
  simp only[Ku,List.foldl_cons,List.length_cons]at*
  omega
theorem K2l{xs:List GContainer}{l:List GLibrary}:(Ku l xs).length=l.length:=K4d.2
theorem K9w{l:List GLibrary}{d k:Int}:(repairL l d k).length=l.length:=K9x.2
theorem K8n{l:List GLibrary}:Ku l []=l:=rfl
theorem K99{l:List GLibrary}{d k:Int}(h:K1e l d=false):repairL l d k=l:=by unfold repairL;rw[h];rfl
def Mbh:MC:=
(Zs [.box 1 0 (.s 0),.alloc 2 1 [.emp 9,.emp 4,.emp 4,.emp 6,.emp 4,.emp 5,.emp 4,.emp 1,.emp 4,pz],.mv 3 cF] [1,2] (Zs [lT 9 10 1,.call 10 [2,3,4,5,6,7,8,9,10] (.f N5) [.s 9],.alloc 4 11 [.emp 9,.emp 4,.emp 4,.emp 6,.emp 4,.emp 5,.emp 4,.emp 1,.emp 4,pz],sS 10 4 10] [1,2,4] (.seq (Zs [fS 11 1 2,fS 12 11 0,lF 13 1 12,nS 14 13,.mv 15 (ci 0)] [1,2,4,13,14,15] (.block 0 (.loop ([1,2,4,13,14,15],[12,13]) (Zs [bS 16 .lss 15 14] [1,2,4,13,14,15,16] (.seq (cX 16 0)
(.seq (.block 1 (Zs [xS 17 4 13 15,lT 18 4 17,.alloc 6 12 [.emp 4,.emp 5,.emp 9,pz],sS 4 6 18] [1,2,4,6,13,14,15] (Zs [fS 20 4 6,lF 21 1 20,fS 22 6 3,lF 23 1 22,.call 24 [13] (.f N87) [.s 21,.s 23,.c (.int .i64 3)],mS 19 24,.ext 25 (.s 19) 0,.ext 26 (.s 19) 1,mS 7 25,mS 8 26] [1,2,4,7,8,13,14,15] (Zs [mS 27 8] [1,2,4,7,13,14,15,27] (.cond (.s 27) (.ren [(13,8)] (pr [mS 28 7,fS 29 4 6,sS 1 29 28] [1,2,4,13,14,15])) .skip)))))
(pr [bC 30 .add 15 1,mS 15 30] [1,2,4,13,14,15])))))))
(.seq (.dreg [Zc [32,33,34,35,36,37] (lT 31 10 4),Zc [31,34,35] (fS 32 4 6),Zd [31,34,35] [1] (lF 33 1 32),Zc [31,32,33] (fS 34 1 6),Zd [31,32,33] [3] (lF 35 1 34),Zd [31] [1,2,3,4] (.call 36 [] (.f N5z) [.s 33,.s 35]),Zg [31] [1,2,3,4,5,6,7,8,9,10] [1,2,3,4,5] (.un 37 .not (.s 36)),{o:=sS 10 2 31,hs:=[37],ws:=[1,2,3,4,5,6,7,8,9,10],bf:=(.range 6)},Ze (.range 8) (mS 3 37)] [2,3])
.ret))))
set_option maxHeartbeats 2000000 in
theorem Cm8(a:GArchive)(hs:a.size≤33554432):Ctr Tryz.prog Nco [aS a.enc] [rS (K3g a).enc,rB (!decide ((K3g a).Libraries=a.Libraries))]:=by
 refine cA Mbh 14 38 [(.cell 2 true 10,[true,true,true,true,true,true,true,true,true,false]),(.tmp 3,[false])] Tryz.func77 rfl rfl ?_;unfold Mbh
 intro hb
 clear hb
 have hlib:a.Libraries.length+(a.Libraries.map GLibrary.size).sum+a.Disk.Containers.length≤33554432:=by simp only[GArchive.size,GDisk.size]at hs;omega
 simp only[go_sem]
 apply K0 (C6 a (by omega))
 simp only[go_sem]
 intros
 refine K5 a.Disk.Containers (fun k=>[(15,vI k)]) (fun k=>[(8,⟨0,.row true 4 ((Ku a.Libraries (a.Disk.Containers.take k)).map GLibrary.enc)⟩)]) (fun _=>True) (by simp only[roomB];omega) ?_
 simp only[go_sem]
 refine⟨?_,trivial,?_,?_⟩
 ·simp only[go_sem,List.take_zero,K8n]
  try trivial
 ·intro k x hx _ h0 h1 hw
  have hsn:=K7n (l:=a.Libraries) hx
  have hsz:=K4d (xs:=a.Disk.Containers.take k) (l:=a.Libraries)
  have hkl:(a.Disk.Containers.take k).length≤a.Disk.Containers.length:=by rw[List.length_take];omega
  rw[hsn]
  have hL:(Ku a.Libraries (a.Disk.Containers.take k)).length=a.Libraries.length:=K2l
  generalize Ku a.Libraries (a.Disk.Containers.take k)=L at*
  simp only[go_sem,K4 hx,h0,h1,hL]
  apply K0 (Ckg L x.Root 3 (by omega))
  simp only[go_sem,hw,hL,K9w,and_self]
  intro _ hn
  rw[K99 hn]
 ·intro _
  simp only[go_sem,List.take_length,K2l]
  apply K0 (Che (Ku a.Libraries a.Disk.Containers) a.Libraries)
  simp only[go_sem,K2l]
  exact⟨⟨rfl,rfl,rfl,rfl,rfl,rfl,rfl,rfl,rfl,rfl⟩,rfl⟩
def Mcb:MC:=
(Zs [.box 1 0 (.s 0),.alloc 2 1 [.emp 9,.emp 4,.emp 4,.emp 6,.emp 4,.emp 5,.emp 4,.emp 1,.emp 4,pz],.mv 3 cF] [1,2] (Zs [lT 8 10 1,.call 9 [2,3,4,5,6,7,8,9,10] (.f Ng) [.s 8],.alloc 4 11 [.emp 9,.emp 4,.emp 4,.emp 6,.emp 4,.emp 5,.emp 4,.emp 1,.emp 4,pz],sS 10 4 9] [1,2,4] (.seq (Zs [.mv 5 (ci 0)] [1,2,4,5] (.block 0 (.loop ([1,2,4,5],[12]) (.seq (Zs [mS 10 5,fS 11 1 2,fS 12 11 0,lF 13 1 12,nS 14 13,bS 15 .lss 10 14] [1,2,4,5,15] (cX 15 0))
(.seq (.block 1 (.seq (.dreg [Zc [21,22,23,24,25,26,27] (fS 19 4 6),Zd [21,22,23,24,25,26,27] [0] (lF 20 1 19),Zc [19,20,24] (fS 21 1 2),Zd [19,20,24] [2] (fS 22 21 0),Zd [19,20,24] [2,3] (lF 23 1 22),Zc [19,20,21,22,23] (mS 24 5),Zd [19,20] [2,3,4,5] (xS 25 4 23 24),Zd [19,20] [2,3,4,5,6] (fS 26 25 3),Zd [19,20] [2,3,4,5,6,7] (lF 27 1 26),{o:= .call 28 [12] (.f N8n) [.s 20,.s 27,.c (.int .i64 3)],ws:=[12],bf:=(.range 9)},Ze (.range 10) (mS 18 28),Zd [30] (.range 11) (.ext 29 (.s 18) 0),Zd [6,29] (.range 11) (.ext 30 (.s 18) 1),Zd [30] (.range 12) (mS 6 29),Ze (.range 14) (mS 7 30)] [1,2,4,5,6,7])
(Zs [mS 31 7] [1,2,4,5,6,31] (.cond (.s 31) (.ren [(12,8)] (pr [mS 32 6,fS 33 4 6,sS 1 33 32] [1,2,4,5])) .skip))))
(pr [mS 16 5,bC 17 .add 16 1,mS 5 17] [1,2,4,5]))))))
(.seq (.dreg [Zc [35,36,37,38,39,40] (lT 34 10 4),Zc [34,37,38] (fS 35 4 6),Zd [34,37,38] [1] (lF 36 1 35),Zc [34,35,36] (fS 37 1 6),Zd [34,35,36] [3] (lF 38 1 37),Zd [34] [1,2,3,4] (.call 39 [] (.f N67) [.s 36,.s 38]),Zg [34] [1,2,3,4,5,6,7,8,9,10] [1,2,3,4,5] (.un 40 .not (.s 39)),{o:=sS 10 2 34,hs:=[40],ws:=[1,2,3,4,5,6,7,8,9,10],bf:=(.range 6)},Ze (.range 8) (mS 3 40)] [2,3])
.ret))))
set_option maxHeartbeats 2000000 in
theorem Cmx(a:GArchive)(hs:a.size≤33554432):Ctr Tryz.prog Ndf [aS a.enc] [rS (K3g a).enc,rB (!decide ((K3g a).Libraries=a.Libraries))]:=by
 refine cA Mcb 13 41 [(.cell 2 true 10,[true,true,true,true,true,true,true,true,true,false]),(.tmp 3,[false])] Tryz.func60 rfl rfl ?_;unfold Mcb
 intro hb
 clear hb
 have hlib:a.Libraries.length+(a.Libraries.map GLibrary.size).sum+a.Disk.Containers.length≤33554432:=by simp only[GArchive.size,GDisk.size]at hs;omega
 simp only[go_sem]
 apply K0 (Ch a (by omega))
 simp only[go_sem]
 intros
 refine K5 a.Disk.Containers (fun k=>[(5,vI k)]) (fun k=>[(8,⟨0,.row true 4 ((Ku a.Libraries (a.Disk.Containers.take k)).map GLibrary.enc)⟩)]) (fun _=>True) (by simp only[roomB];omega) ?_
 simp only[go_sem]
 refine⟨?_,trivial,?_,?_⟩
 ·simp only[go_sem,List.take_zero,K8n]
  try trivial
 ·intro k x hx _ h0 h1 hw
  have hsn:=K7n (l:=a.Libraries) hx
  have hsz:=K4d (xs:=a.Disk.Containers.take k) (l:=a.Libraries)
  have hkl:(a.Disk.Containers.take k).length≤a.Disk.Containers.length:=by rw[List.length_take];omega
  rw[hsn]
  have hL:(Ku a.Libraries (a.Disk.Containers.take k)).length=a.Libraries.length:=K2l
  generalize Ku a.Libraries (a.Disk.Containers.take k)=L at*
  simp only[go_sem,K4 hx,h0,h1,hL]
  apply K0 (Ckw L x.Root 3 (by omega))
  simp only[go_sem,hw,hL,K9w,and_self]
  intro _ hn
  rw[K99 hn]
 ·intro _
  simp only[go_sem,List.take_length,K2l]
  apply K0 (Chq (Ku a.Libraries a.Disk.Containers) a.Libraries)
  simp only[go_sem,K2l]
  exact⟨⟨rfl,rfl,rfl,rfl,rfl,rfl,rfl,rfl,rfl,rfl⟩,rfl⟩
def K3s(a:GArchive)(e:GEvent):GArchive:=
 if e.Kind=1 then K2b a e.N e.Inputs else if e.Kind=2 then K3l a else if e.Kind=3 then K5a a else if e.Kind=4 then K3n a e.Version
 else if e.Kind=5 then K41 a e.Exclusion else if e.Kind=6 then K2j a e.N true else if e.Kind=7 then K2j a e.N false else if e.Kind=8 then K3g a else if e.Kind=9 then K55 a e.N else a
def K9h(a:GArchive)(e:GEvent):Bool:=
 if e.Kind=1 then K1c a e.N e.Inputs else if e.Kind=2 then K2h a.Disk else if e.Kind=3 then K1x a.Disk else if e.Kind=4 then K2k a e.Version
 else if e.Kind=5 then K2o a e.Exclusion else if e.Kind=6 then K3x a e.N true else if e.Kind=7 then K3x a e.N false else if e.Kind=8 then !decide ((K3g a).Libraries=a.Libraries)else if e.Kind=9 then K3d a e.N else false
def Y40(v0:Nat)(v1:Nat)(v2:Nat)(v3:Nat)(v4:Nat)(v5:Nat)(v6:Nat)(v7:Nat)(v8:Nat):MC:=
(Zs [.box 2 0 (.s 0),.box 3 1 (.s 1),.alloc 4 2 [.emp 9,.emp 4,.emp 4,.emp 6,.emp 4,.emp 5,.emp 4,.emp 1,.emp 4,pz],.mv 5 cF] [2,3,4] (.seq (Zs [fS 6 3 0,lF 7 1 6] [2,3,4,7] (.block 0 (Zs [bC 9 .eql 7 1,mS 8 9] [2,3,4,7,8] (.cond (.s 8) (Zs [lT 10 10 2,fS 11 3 1,lF 12 1 11,fS 13 3 2,lF 14 1 13,.call 15 [3,4,5,6,7,8,9,10,11] (.f v0) [.s 10,.s 12,.s 14],.ext 16 (.s 15) 0,.ext 17 (.s 15) 1,sS 10 4 16,mS 5 17] [4,5] .ret) (Zs [bC 19 .eql 7 2,mS 18 19] [2,3,4,7,18] (.cond (.s 18) (Zs [lT 20 10 2,.call 21 [12,13,14,15,16,17,18,19,20] (.f v1) [.s 20],.ext 22 (.s 21) 0,.ext 23 (.s 21) 1,sS 10 4 22,mS 5 23] [4,5] .ret) (Zs [bC 25 .eql 7 3,mS 24 25] [2,3,4,7,24] (.cond (.s 24) (Zs [lT 26 10 2,.call 27 [21,22,23,24,25,26,27,28,29] (.f v2) [.s 26],.ext 28 (.s 27) 0,.ext 29 (.s 27) 1,sS 10 4 28,mS 5 29] [4,5] .ret) (Zs [bC 31 .eql 7 4,mS 30 31] [2,3,4,7,30] (.cond (.s 30) (Zs [lT 32 10 2,fS 33 3 3,lT 34 9 33,.call 35 [30,31,32,33,34,35,36,37,38] (.f v3) [.s 32,.s 34],.ext 36 (.s 35) 0,.ext 37 (.s 35) 1,sS 10 4 36,mS 5 37] [4,5] .ret) (Zs [bC 39 .eql 7 5,mS 38 39] [2,3,4,7,38] (.cond (.s 38) (Zs [lT 40 10 2,fS 41 3 12,lT 42 5 41,.call 43 [39,40,41,42,43,44,45,46,47] (.f v4) [.s 40,.s 42],.ext 44 (.s 43) 0,.ext 45 (.s 43) 1,sS 10 4 44,mS 5 45] [4,5] .ret) (.seq (Zs [bC 47 .eql 7 6,mS 46 47] [2,3,4,7,46] (.cond (.s 46) .skip (pr [bC 48 .eql 7 7,mS 46 48] [2,3,4,7,46])))
(.cond (.s 46) (Zs [lT 49 10 2,fS 50 3 1,lF 51 1 50,fS 52 3 0,lF 53 1 52,bC 54 .eql 53 6,.call 55 [48,49,50,51,52,53,54,55,56] (.f v5) [.s 49,.s 51,.s 54],.ext 56 (.s 55) 0,.ext 57 (.s 55) 1,sS 10 4 56,mS 5 57] [4,5] .ret) (Zs [bC 59 .eql 7 8,mS 58 59] [2,3,4,7,58] (.cond (.s 58) (Zs [lT 60 10 2,.call 61 [57,58,59,60,61,62,63,64,65] (.f v6) [.s 60],.ext 62 (.s 61) 0,.ext 63 (.s 61) 1,sS 10 4 62,mS 5 63] [4,5] .ret) (Zs [bC 65 .eql 7 9,mS 64 65] [2,3,4,64] (.cond (.s 64) (Zs [lT 66 10 2,fS 67 3 1,lF 68 1 67,.call 69 [66,67,68,69,70,71,72,73,74] (.f v7) [.s 66,.s 68],.ext 70 (.s 69) 0,.ext 71 (.s 69) 1,sS 10 4 70,mS 5 71] [4,5] .ret) .skip))))))))))))))))))
(Zs [lT 72 10 2,.call 73 [75,76,77,78,79,80,81,82,83] (.f v8) [.s 72],sS 10 4 73,.mv 5 cF] [4,5] .ret)))
attribute [go_sem] Y40
def Mb5:MC:=Y40 Nf2 Nf3 Nf0 Ncn Na7 Na8 Nco Ngw N5
set_option maxHeartbeats 2000000 in
theorem Cly(a:GArchive)(e:GEvent)(hs:a.size≤16777216)(he:e.size≤16777216):Ctr Tryz.prog Nce [aS a.enc,aS e.enc] [rS (K3s a e).enc,rB (K9h a e)]:=by
 refine cA Mb5 84 74 [(.cell 4 true 10,[true,true,true,true,true,true,true,true,true,false]),(.tmp 5,[false])] Tryz.func13 rfl rfl ?_;unfold Mb5
 intro hb
 clear hb
 have hv:e.Version.size≤e.size:=by simp only[GEvent.size];omega
 simp only[go_sem]
 repeat' first
  |(refine And.intro ?_ ?_<;>intro h)
  |(apply K0 (Cnj a e.N e.Inputs (by omega));simp only[go_sem])
  |(apply K0 (Cnk a (by omega));simp only[go_sem])
  |(apply K0 (Cni a (by omega));simp only[go_sem])
  |(apply K0 (Cm7 a e.Version (by omega) (by omega));simp only[go_sem])
  |(apply K0 (Cl3 a e.Exclusion (by omega));simp only[go_sem])
  |(apply K0 (Cl4 a e.N _ (by omega));simp only[go_sem])
  |(apply K0 (Cm8 a (by omega));simp only[go_sem])
  |(apply K0 (Co6 a e.N (by omega));simp only[go_sem])
  |(apply K0 (C6 a (by omega));simp only[go_sem])
 all_goals (intro hx;clear hx;first|(exfalso;omega)|simp[K3s,K9h, *])
def Mc1:MC:=Y40 Nfm Nfn Nfk Nde Naj Nak Ndf Nh7 Ng
set_option maxHeartbeats 2000000 in
theorem Cmp(a:GArchive)(e:GEvent)(hs:a.size≤16777216)(he:e.size≤16777216):Ctr Tryz.prog Nd7 [aS a.enc,aS e.enc] [rS (K3s a e).enc,rB (K9h a e)]:=by
 refine cA Mc1 84 74 [(.cell 4 true 10,[true,true,true,true,true,true,true,true,true,false]),(.tmp 5,[false])] Tryz.func10 rfl rfl ?_;unfold Mc1
 intro hb
 clear hb
 have hv:e.Version.size≤e.size:=by simp only[GEvent.size];omega
 simp only[go_sem]
 repeat' first
  |(refine And.intro ?_ ?_<;>intro h)
  |(apply K0 (Co0 a e.N e.Inputs (by omega));simp only[go_sem])
  |(apply K0 (Co1 a (by omega));simp only[go_sem])
  |(apply K0 (Cnz a (by omega));simp only[go_sem])
  |(apply K0 (Cmw a e.Version (by omega) (by omega));simp only[go_sem])
  |(apply K0 (Clj a e.Exclusion (by omega));simp only[go_sem])
  |(apply K0 (Clk a e.N _ (by omega));simp only[go_sem])
  |(apply K0 (Cmx a (by omega));simp only[go_sem])
  |(apply K0 (Coi a e.N (by omega));simp only[go_sem])
  |(apply K0 (Ch a (by omega));simp only[go_sem])
 all_goals (intro hx;clear hx;first|(exfalso;omega)|simp[K3s,K9h, *])
def K1p(a:GArchive)(l:List GEvent):GArchive:=l.foldl K3s a
theorem Kc0{α:Type}{f g:α→Nat}:∀ {l:List α},(∀x∈l,f x≤g x)→(l.map f).sum≤(l.map g).sum
 | [],_=>Nat.le_refl _
 |x::l,h=>by
  have ih:=Kc0 (f:=f) (g:=g) (l:=l) fun y hy=>h y (by simp[hy])
  have hx:=h x (by simp)
  simp only[List.map_cons,List.sum_cons]
  omega
theorem K7s{α:Type}{f:α→Nat}{n:Nat}:∀ {l:List α},(∀x∈l,f x≤n)→(l.map f).sum≤l.length*n
 | [],_=>by simp
 |x::l,h=>by
  have ih:=K7s (f:=f) (n:=n) (l:=l) fun y hy=>h y (by simp[hy])
  have hx:=h x (by simp)
  rw[List.map_cons,List.sum_cons,List.length_cons,Nat.succ_mul]
  omega
theorem sum_add{α:Type}{f g:α→Nat}:∀ {l:List α},(l.map fun x=>f x+g x).sum=(l.map f).sum+(l.map g).sum
 | []=>rfl
 |x::l=>by
  have ih:=sum_add (f:=f) (g:=g) (l:=l)
  simp only[List.map_cons,List.sum_cons]
  omega
theorem res_body{r:GResource}(h:K1h r=true):r.Body.length≤6:=by
 unfold K1h at h
 split at h
 ·simp only[Bool.and_eq_true,decide_eq_true_eq]at h;exact h.1
 ·split at h
  ·simp only[Bool.and_eq_true,decide_eq_true_eq]at h;omega
  ·split at h
   ·simp only[Bool.and_eq_true,decide_eq_true_eq]at h;omega
   ·cases h
theorem Kaw{x:GContainer}(h:K1b x=true):x.size≤172:=by
 simp only[K1b,K1f,K8u,K8q,K1g,Bool.and_eq_true,decide_eq_true_eq]at h
 obtain⟨⟨h1,_⟩,⟨h2,_⟩,⟨h3,h4⟩,_⟩:=h
 have h5:=K7s (f:=GCapture.size) (n:=6) (l:=x.Captures) fun c hc=>by
  have:=List.all_eq_true.1 h4 c hc
  simp only[K4k,Bool.and_eq_true]at this
  have:=res_body this.2.2
  simp only[GCapture.size,GResource.size]
  omega
 simp only[GContainer.size]
 omega
theorem K72{n:Nat}{l:List GContainer}(h:K1g n K1b l=true):l.length≤n∧(l.map GContainer.size).sum≤l.length*172:=by
 simp only[K1g,Bool.and_eq_true,decide_eq_true_eq]at h
 exact⟨h.1,K7s fun x hx=>Kaw (List.all_eq_true.1 h.2 x hx)⟩
theorem K6r{l:List GContainer}:(index l).length≤(l.map GContainer.size).sum:=by
 rw[index,Srt.len_isort];exact K5h
theorem K80{d:GDisk}(h:K1x d=true):d.Containers.length≤6∧(d.Containers.map GContainer.size).sum≤d.Containers.length*172∧d.Wanted.length≤1∧(d.Wanted.map GContainer.size).sum≤d.Wanted.length*172∧d.Index.length≤1032:=by
 simp only[K1x,Bool.and_eq_true,Bool.or_eq_true,whole,decide_eq_true_eq]at h
 obtain⟨h1,h2,h3⟩:=h
 obtain⟨a1,a2⟩:=K72 h1
 obtain⟨b1,b2⟩:=K72 h2
 refine⟨a1,a2,b1,b2,?_⟩
 rcases h3 with h3|⟨_,h3⟩
 ·rw[h3]
  have:=K6r (l:=d.Containers)
  omega
 ·rw[h3]
  have h4:=K6r (l:=d.Containers.dropLast)
  have h5:K1g 6 K1b d.Containers.dropLast=true:=by
   simp only[K1g,Bool.and_eq_true,decide_eq_true_eq,List.length_dropLast]at h1 ⊢
   exact⟨by omega,List.all_eq_true.2 fun x hx=>List.all_eq_true.1 h1.2 x ((List.dropLast_sublist _).subset hx)⟩
  have h6:=(K72 h5).2
  rw[List.length_dropLast]at h6
  omega
theorem first_most(d:GDisk)(x:GContainer):max (K2i d x).size 2243≤max d.size 2243∧(K2i d x).Containers=d.Containers:=by
 unfold K2i
 split
 ·rename_i h
  simp only[K29,Bool.and_eq_true]at h
  obtain⟨h1,h2,h3,h4,h5⟩:=K80 h.1
  have hx:=Kaw h.2.1
  refine⟨?_,rfl⟩
  simp only[GDisk.size,List.length_cons,List.length_nil,List.map_cons,List.map_nil,List.sum_cons,List.sum_nil]
  omega
 ·exact⟨Nat.le_refl _,rfl⟩
theorem rec_most(d:GDisk):max (K3y d).size 2243≤max d.size 2243∧(K3y d).Containers=d.Containers:=by
 unfold K3y
 split
 ·rename_i h
  obtain⟨h1,h2,h3,h4,h5⟩:=K80 h
  have:=K6r (l:=d.Containers)
  refine⟨?_,rfl⟩
  simp only[GDisk.size,List.length_nil,List.map_nil,List.sum_nil]
  omega
 ·exact⟨Nat.le_refl _,rfl⟩
theorem next_most(d:GDisk):max (Kh d).size 2243≤max d.size 2243∧((Kh d).Containers=d.Containers∨∃x,(Kh d).Containers=d.Containers++[x]∧d.Containers.length<6):=by
 unfold Kh
 split
 ·exact⟨Nat.le_refl _,.inl rfl⟩
 ·rename_i hs
  simp only[K1d,Bool.or_eq_true,Bool.not_eq_true',Bool.and_eq_true,decide_eq_true_eq,not_or]at hs
  have hok:K1x d=true:=by simpa using hs.1
  obtain⟨h1,h2,h3,h4,h5⟩:=K80 hok
  split
  ·have:=K6r (l:=d.Containers)
   refine⟨?_,.inl rfl⟩
   simp only[GDisk.size]
   omega
  ·split
   ·rename_i x l hw
    have hx:(d.Wanted.map GContainer.size).sum=x.size+(l.map GContainer.size).sum:=by rw[hw];simp
    have hl:d.Wanted.length=l.length+1:=by rw[hw];simp
    refine⟨?_,.inr ⟨x,rfl,by omega⟩⟩
    simp only[GDisk.size,List.length_append,List.map_append,List.sum_append,List.length_cons,List.length_nil,List.map_cons,List.map_nil,List.sum_cons,List.sum_nil]
    omega
   ·exact⟨Nat.le_refl _,.inl rfl⟩
def lackN(rs:List Int)(x:GLibrary):Nat:=rs.countP fun r=> !x.Digests.contains r
def potL(c:Bool)(rs:List Int)(x:GLibrary):Nat:=x.size+(if c then lackN rs x else 0)
def rootsD(l:List GContainer):List Int:=l.map fun x=>x.Root
def few6(l:List GLibrary):Bool:=decide (l.length≤6)
theorem lackN_le{rs:List Int}{x:GLibrary}:lackN rs x≤rs.length:=List.countP_le_length
theorem put_in:∀ {l:List Int} {n:Int},l.Pairwise (· < ·)→n∈l→put l n=l
 | [],n,_,h=>by simp at h
 |x::l,n,hp,h=>by
  rw[List.pairwise_cons]at hp
  rw[put]
  split
  ·rename_i hx
   rcases List.mem_cons.1 h with e|h
   ·omega
   ·rw[put_in hp.2 h]
  ·split
   ·rfl
   ·rename_i h1 h2
    rcases List.mem_cons.1 h with e|h
    ·exact(h2 e.symm).elim
    ·have:=hp.1 n h;omega
theorem Kde{p q:Int→Bool}{d:Int}(hpq:∀r,q r=true→p r=true)(hd:p d=true)(hd':q d=false):∀ {rs:List Int},d∈rs→rs.countP q+1≤rs.countP p
 | [],h=>by simp at h
 |r::rs,h=>by
  have hm:rs.countP q≤rs.countP p:=List.countP_mono_left fun x _=>hpq x
  rw[List.countP_cons,List.countP_cons]
  by_cases e:r=d
  ·subst e
   rw[hd,hd']
   simp only[if_true,Bool.false_eq_true,if_false]
   omega
  ·have hr:d∈rs:=by
    rcases List.mem_cons.1 h with k|k
    ·exact(e k.symm).elim
    ·exact k
   have ih:=Kde hpq hd hd' hr
   cases hq:q r with
   |true=>rw[hpq r hq];simp only[if_true];omega
   |false=>simp only[Bool.false_eq_true,if_false];split<;>omega
theorem K94:∀ {l:List GLibrary} {b:Int},K22 b l=true→∀x∈l,x.Digests.Pairwise (· < ·)
 | [],_,_,x,hx=>by simp at hx
 |y::l,b,h,x,hx=>by
  simp only[K22,Bool.and_eq_true,ascB,decide_eq_true_eq]at h
  rcases List.mem_cons.1 hx with rfl|hx
  ·exact h.2.1
  ·exact K94 h.2.2 x hx
theorem told_pot{rs:List Int}{s:List Int}{d:Int}{x:GLibrary}(hd:d∈rs)(ha:x.Digests.Pairwise (· < ·)):potL true rs (K11 s d x)≤potL true rs x:=by
 unfold K11
 split
 ·by_cases hm:d∈x.Digests
  ·rw[put_in ha hm];exact Nat.le_refl _
  ·have h1:=K7l (l:=x.Digests) (n:=d)
   have h2:=Kde (p:=fun r=> !x.Digests.contains r) (q:=fun r=> !(put x.Digests d).contains r) (d:=d) (fun r h=>by
    simp only[Bool.not_eq_true',List.contains_eq_mem,decide_eq_false_iff_not,K5c]at h ⊢
    exact fun k=>h (.inr k)) (by simp[hm]) (by simp[K5c]) hd
   simp only[potL,lackN,GLibrary.size,if_true]
   omega
 ·exact Nat.le_refl _
theorem repair_pot{rs:List Int}{l:List GLibrary}{d k:Int}(hd:d∈rs):((repairL l d k).map (potL true rs)).sum≤(l.map (potL true rs)).sum:=by
 unfold repairL
 split
 ·rename_i h
  simp only[K1e,K2p,Bool.and_eq_true]at h
  have ha:=K94 h.1.2
  rw[tellL,List.map_map]
  exact Kc0 fun x hx=>told_pot hd (ha x hx)
 ·exact Nat.le_refl _
theorem K8o{rs:List Int}:∀ {xs:List GContainer} {l:List GLibrary},(∀x∈xs,x.Root∈rs)→((Ku l xs).map (potL true rs)).sum≤(l.map (potL true rs)).sum
 | [],l,_=>Nat.le_refl _
 |x::xs,l,h=>by
  have h1:=repair_pot (rs:=rs) (l:=l) (d:=x.Root) (k:=3) (h x (by simp))
  have h2:=K8o (rs:=rs) (xs:=xs) (l:=repairL l x.Root 3) fun y hy=>h y (by simp[hy])
  simp only[Ku,List.foldl_cons]at*
  omega
theorem K7m:∀ {xs:List GContainer} {l:List GLibrary},few6 l=false→Ku l xs=l
 | [],l,_=>rfl
 |x::xs,l,h=>by
  have h1:repairL l x.Root 3=l:=K99 (by simp only[K1e,K2p];simp only[few6]at h;rw[h];rfl)
  have ih:=K7m (xs:=xs) (l:=l) h
  simp only[Ku,List.foldl_cons]at*
  rw[h1];exact ih
theorem tell_pot2{c:Bool}{rs:List Int}{s:List Int}{d r:Int}{x:GLibrary}:potL c (rs++[r]) (K11 s d x)≤potL c rs x+2:=by
 have hone:∀p:Int→Bool,[r].countP p≤1:=fun p=>List.countP_le_length
 have h2:lackN (rs++[r]) (K11 s d x)≤lackN rs x+1:=by
  unfold lackN
  rw[List.countP_append]
  have h3:=hone fun r=> !(K11 s d x).Digests.contains r
  have h4:rs.countP (fun r=> !(K11 s d x).Digests.contains r)≤rs.countP fun r=> !x.Digests.contains r:=by
   refine List.countP_mono_left fun y _ h=>?_
   unfold K11 at h
   split at h
   ·simp only[Bool.not_eq_true',List.contains_eq_mem,decide_eq_false_iff_not,K5c]at h ⊢
    exact fun k=>h (.inr k)
   ·exact h
  omega
 have h1:(K11 s d x).size≤x.size+1:=by
  unfold K11
  split
  ·simp only[GLibrary.size];exact K7l
  ·omega
 unfold potL
 split<;>omega
theorem Kcw{c:Bool}{rs:List Int}{s:List Int}{d r:Int}:∀ {l:List GLibrary},((tellL s d l).map (potL c (rs++[r]))).sum≤(l.map (potL c rs)).sum+2*l.length
 | []=>by simp[tellL]
 |x::l=>by
  have ih:=Kcw (c:=c) (rs:=rs) (s:=s) (d:=d) (r:=r) (l:=l)
  have hx:=tell_pot2 (c:=c) (rs:=rs) (s:=s) (d:=d) (r:=r) (x:=x)
  simp only[tellL,List.map_cons,List.sum_cons,List.length_cons]at*
  omega
def potA(a:GArchive):Nat:=(a.Site.length+(a.Site.map GVersion.size).sum)+a.Script.length+max a.Disk.size 2243+a.Exclusions.length+
 (a.Libraries.length+(a.Libraries.map (potL (few6 a.Libraries) (rootsD a.Disk.Containers))).sum)+a.Keys.length+max a.Statements.length 40+2*(a.Libraries.length*(6-a.Disk.Containers.length))
theorem size_pot(a:GArchive):a.size≤potA a:=by
 have h:(a.Libraries.map GLibrary.size).sum≤(a.Libraries.map (potL (few6 a.Libraries) (rootsD a.Disk.Containers))).sum:=Kc0 fun x _=>by unfold potL;omega
 simp only[GArchive.size,potA]
 omega
theorem pot_start(a:GArchive):potA a≤13*a.size+2283:=by
 have h:(a.Libraries.map (potL (few6 a.Libraries) (rootsD a.Disk.Containers))).sum≤(a.Libraries.map GLibrary.size).sum+6*a.Disk.Containers.length:=by
  unfold potL
  rw[sum_add]
  have h2:(a.Libraries.map fun x=>if few6 a.Libraries then lackN (rootsD a.Disk.Containers) x else 0).sum≤6*a.Disk.Containers.length:=by
   cases hc:few6 a.Libraries with
   |false=>
    have:=K7s (f:=fun _:GLibrary=>0) (n:=0) (l:=a.Libraries) fun _ _=>Nat.le_refl _
    simp only[Bool.false_eq_true,if_false]
    omega
   |true=>
    simp only[if_true]
    have h3:(a.Libraries.map fun x=>lackN (rootsD a.Disk.Containers) x).sum≤a.Libraries.length*a.Disk.Containers.length:=K7s fun x _=>by
     have:=lackN_le (rs:=rootsD a.Disk.Containers) (x:=x)
     rwa [rootsD,List.length_map]at this
    simp only[few6,decide_eq_true_eq]at hc
    have h4:=Nat.mul_le_mul_right a.Disk.Containers.length hc
    omega
  omega
 have h5:a.Libraries.length*(6-a.Disk.Containers.length)≤a.Libraries.length*6:=Nat.mul_le_mul_left _ (Nat.sub_le _ _)
 simp only[GArchive.size,GDisk.size,potA]at*
 omega
theorem set_same{f:GLibrary→Nat}{l:List GLibrary}{n:Nat}{up:Bool}(h:∀x:GLibrary,f {x with Up:=up}=f x):(K66 l n up).map f=l.map f:=by
 unfold K66
 split
 ·rename_i x hx
  rw[List.map_set,h]
  refine List.ext_getElem? fun m=>?_
  rw[List.getElem?_set]
  split
  ·rename_i e
   subst e
   obtain⟨hl,rfl⟩:=List.getElem?_eq_some_iff.1 hx
   simp[hl]
  ·rfl
 ·rfl
theorem Kcs{l:List GLibrary}{n:Nat}{up:Bool}:(K66 l n up).length=l.length:=by
 unfold K66
 split<;>simp
theorem pot_visit(a:GArchive)(seed:Int)(ins:List Int):potA (K2b a seed ins)≤potA a:=by
 unfold K2b
 split
 ·rename_i h
  simp only[K1c,Bool.and_eq_true,decide_eq_true_eq]at h
  have hl:=K5m (a:=a) (root:=(madeC a.Script (K17 a seed ins)).Root) a.Keys.length
  obtain⟨h1,h2⟩:=first_most a.Disk (madeC a.Script (K17 a seed ins))
  simp only[potA,h2,List.length_append]
  omega
 ·exact Nat.le_refl _
theorem pot_write(a:GArchive):potA (K3l a)≤potA a:=by
 unfold K3l
 split
 ·obtain⟨h1,h2⟩:=next_most a.Disk
  rcases h2 with h2|⟨x,h2,h3⟩
  ·have e:K33 a=a.Libraries:=by unfold K33;rw[if_pos (by rw[h2])]
   simp only[potA,e,h2]
   omega
  ·have e:K33 a=tellL (placedL (ups a.Libraries) (K35 (Kh a.Disk)) 3) (K35 (Kh a.Disk)) a.Libraries:=by
    unfold K33;rw[if_neg (by rw[h2,List.length_append,List.length_cons,List.length_nil];omega)]
   have hl:(K33 a).length=a.Libraries.length:=by rw[e];exact K1u
   have hp:=Kcw (c:=few6 a.Libraries) (rs:=rootsD a.Disk.Containers) (s:=placedL (ups a.Libraries) (K35 (Kh a.Disk)) 3) (d:=K35 (Kh a.Disk)) (r:=x.Root) (l:=a.Libraries)
   rw[←e]at hp
   have hf:few6 (K33 a)=few6 a.Libraries:=by unfold few6;rw[hl]
   have hr:rootsD (Kh a.Disk).Containers=rootsD a.Disk.Containers++[x.Root]:=by rw[h2];simp[rootsD]
   have hc:(Kh a.Disk).Containers.length=a.Disk.Containers.length+1:=by rw[h2];simp
   have hm:a.Libraries.length*(6-a.Disk.Containers.length)=a.Libraries.length*(6-(a.Disk.Containers.length+1))+a.Libraries.length:=by
    rw[show 6-a.Disk.Containers.length=6-(a.Disk.Containers.length+1)+1 by omega,Nat.mul_add,Nat.mul_one]
   simp only[potA,hl,hf,hr,hc]
   omega
 ·exact Nat.le_refl _
theorem pot_crash(a:GArchive):potA (K5a a)≤potA a:=by
 obtain⟨h1,h2⟩:=rec_most a.Disk
 simp only[potA,K5a,h2]
 omega
theorem pot_change(a:GArchive)(x:GVersion):potA (K3n a x)≤potA a+(x.size+1):=by
 unfold K3n
 split
 ·simp only[potA,List.length_append,List.length_cons,List.length_nil,List.map_append,List.map_cons,List.map_nil,List.sum_append,List.sum_cons,List.sum_nil];omega
 ·omega
theorem pot_excl(a:GArchive)(x:GExclusion):potA (K41 a x)≤potA a+1:=by
 unfold K41
 split
 ·simp only[potA,List.length_append,List.length_cons,List.length_nil];omega
 ·omega
theorem pot_lib(a:GArchive)(id:Int)(up:Bool):potA (K2j a id up)≤potA a:=by
 unfold K2j
 split
 ·have hf:∀n,few6 (K66 a.Libraries n up)=few6 a.Libraries:=fun n=>by unfold few6;rw[Kcs]
  simp only[potA,Kcs,hf]
  rw[set_same fun x=>rfl]
  exact Nat.le_refl _
 ·exact Nat.le_refl _
theorem pot_repair(a:GArchive):potA (K3g a)≤potA a:=by
 have hl:(Ku a.Libraries a.Disk.Containers).length=a.Libraries.length:=K2l
 have hf:few6 (Ku a.Libraries a.Disk.Containers)=few6 a.Libraries:=by unfold few6;rw[hl]
 cases hc:few6 a.Libraries with
 |false=>
  have e:K3g a=a:=by unfold K3g;rw[K7m hc]
  rw[e]
  exact Nat.le_refl _
 |true=>
  have hp:=K8o (rs:=rootsD a.Disk.Containers) (xs:=a.Disk.Containers) (l:=a.Libraries) fun x hx=>List.mem_map.2 ⟨x,hx,rfl⟩
  rw[hc]at hf
  simp only[potA,K3g,hl,hf,hc]
  omega
theorem pot_tick(a:GArchive)(n:Int):potA (K55 a n)≤potA a:=by unfold K55;split<;>exact Nat.le_refl _
theorem pot_apply(a:GArchive)(e:GEvent):potA (K3s a e)≤potA a+(e.size+1):=by
 have h1:=pot_visit a e.N e.Inputs
 have h2:=pot_write a
 have h3:=pot_crash a
 have h4:=pot_change a e.Version
 have h5:=pot_excl a e.Exclusion
 have h6:=pot_lib a e.N true
 have h7:=pot_lib a e.N false
 have h8:=pot_repair a
 have h9:=pot_tick a e.N
 have hv:e.Version.size≤e.size:=by simp only[GEvent.size];omega
 unfold K3s
 repeat' split
 all_goals omega
theorem Kba{a:GArchive}{l:List GEvent}{k:Nat}{e:GEvent}(h:l[k]? =some e):K1p a (l.take (k+1))=K3s (K1p a (l.take k)) e:=by
 rw[Kc h,K1p,List.foldl_append];rfl
theorem pot_run{a:GArchive}:∀ {l:List GEvent},potA (K1p a l)≤potA a+(l.length+(l.map GEvent.size).sum)
 |l=>by
  have key:∀(l:List GEvent) (b:GArchive),potA (l.foldl K3s b)≤potA b+(l.length+(l.map GEvent.size).sum):=by
   intro l
   induction l with
   |nil=>intro b;simp
   |cons e l ih=>
    intro b
    have h1:=ih (K3s b e)
    have h2:=pot_apply b e
    simp only[List.foldl_cons,List.length_cons,List.map_cons,List.sum_cons]
    omega
  exact key l a
theorem K88{a:GArchive}{l:List GEvent}:(K1p a l).size≤13*a.size+2283+(l.length+(l.map GEvent.size).sum):=by
 have h1:=size_pot (K1p a l)
 have h2:=pot_run (a:=a) (l:=l)
 have h3:=pot_start a
 omega
theorem K9t{l:List GEvent}(k:Nat):(l.take k).length+((l.take k).map GEvent.size).sum≤l.length+(l.map GEvent.size).sum:=by
 have h1:=K2e (f:=GEvent.size) l k
 have h2:(l.take k).length≤l.length:=by rw[List.length_take];omega
 omega
abbrev Kaz(x:GArchive):List (Nat×OV):=[(2,⟨0,.row true 9 (x.Site.map GVersion.enc)⟩),(3,⟨0,.row true 4 (x.Script.map GOp.enc)⟩),(4,⟨0,.row true 4 (x.Disk.Containers.map GContainer.enc)⟩),(5,⟨0,.row true 6 (x.Disk.Index.map GFound.enc)⟩),(6,⟨0,.row true 4 (x.Disk.Wanted.map GContainer.enc)⟩),(7,⟨0,.row true 5 (x.Exclusions.map GExclusion.enc)⟩),(8,⟨0,.row true 4 (x.Libraries.map GLibrary.enc)⟩),(9,⟨0,.row true 1 (x.Keys.map encI)⟩),(10,⟨0,.row true 4 (x.Statements.map GStatement.enc)⟩),
 (11,⟨0,.box [.ref 2 0 9 0 x.Site.length,.ref 3 0 4 0 x.Script.length,.ref 4 0 4 0 x.Disk.Containers.length,.ref 5 0 6 0 x.Disk.Index.length,.ref 6 0 4 0 x.Disk.Wanted.length,.ref 7 0 5 0 x.Exclusions.length,.ref 8 0 4 0 x.Libraries.length,.ref 9 0 1 0 x.Keys.length,.ref 10 0 4 0 x.Statements.length,.pl (tI x.Now)]⟩)]
theorem Kcr{a:GArchive}:K1p a []=a:=rfl
def Mdz:MC:=
(Zs [.box 2 0 (.s 0),.alloc 4 1 [.emp 9,.emp 4,.emp 4,.emp 6,.emp 4,.emp 5,.emp 4,.emp 1,.emp 4,pz]] [1,2,4] (Zs [lT 8 10 2,.call 9 [2,3,4,5,6,7,8,9,10] (.f N5) [.s 8],.alloc 5 11 [.emp 9,.emp 4,.emp 4,.emp 6,.emp 4,.emp 5,.emp 4,.emp 1,.emp 4,pz],sS 10 5 9] [1,4,5] (.seq (Zs [mS 10 1,nS 11 10,.mv 12 (ci 0)] [4,5,10,11,12] (.block 0 (.loop ([4,5,10,11,12],[0,12]) (Zs [bS 13 .lss 12 11] [4,5,10,11,12,13] (.seq (cX 13 0)
(.seq (.block 1 (Zs [xS 14 17 10 12,lT 15 17 14,.alloc 7 12 [pz,pz,.emp 1,pz,pz,pz,pz,pz,.emp 1,pz,pz,pz,pz,pz,pz,pz,pz],sS 17 7 15] [4,5,7,10,11,12] (pr [lT 17 10 5,lT 18 17 7,.call 19 [2,3,4,5,6,7,8,9,10] (.f Nce) [.s 17,.s 18],mS 16 19,.ext 20 (.s 16) 0,.ext 21 (.s 16) 1,sS 10 5 20] [4,5,10,11,12])))
(pr [bC 22 .add 12 1,mS 12 22] [4,5,10,11,12])))))))
(Zs [lT 23 10 5,sS 10 4 23] [4] .ret))))
set_option maxHeartbeats 4000000 in
theorem Cdk(a:GArchive)(l:List GEvent)(hs:13*a.size+2283+(l.length+(l.map GEvent.size).sum)≤16777216):Ctr Tryz.prog N5i [aS a.enc,aL 17 (l.map GEvent.enc)] [rS (K1p a l).enc]:=by
 refine cA Mdz 13 24 [(.cell 4 true 10,[true,true,true,true,true,true,true,true,true,false])] Tryz.func22 rfl rfl ?_;unfold Mdz
 intro hb
 clear hb
 simp only[go_sem]
 apply K0 (C6 a (by omega))
 simp only[go_sem]
 intro hbd
 clear hbd
 refine K5 l (fun k=>[(12,vI k)]) (fun k=>Kaz (K1p a (l.take k))) (fun _=>True) (by simp only[roomB];omega) ?_
 simp only[go_sem,Kaz]
 refine⟨?_,trivial,?_,?_⟩
 ·simp only[go_sem,List.take_zero,Kcr]
 ·intro k e he _ h0 h1 hw
  have hsz:=K88 (a:=a) (l:=l.take k)
  have htk:=K9t (l:=l) k
  have hes:=Kv (f:=GEvent.size) (Kl he)
  rw[Kba he]
  generalize K1p a (l.take k)=x at*
  simp only[go_sem,K4 he,h0,h1]
  apply K0 (Cly x e (by omega) (by omega))
  simp only[go_sem,hw]
  try intros
 ·intro _
  simp only[go_sem,List.take_length]
def Mep:MC:=
(Zs [.box 2 0 (.s 0),.alloc 4 1 [.emp 9,.emp 4,.emp 4,.emp 6,.emp 4,.emp 5,.emp 4,.emp 1,.emp 4,pz]] [1,2,4] (Zs [lT 7 10 2,.call 8 [2,3,4,5,6,7,8,9,10] (.f Ng) [.s 7],.alloc 5 11 [.emp 9,.emp 4,.emp 4,.emp 6,.emp 4,.emp 5,.emp 4,.emp 1,.emp 4,pz],sS 10 5 8] [1,4,5] (.seq (Zs [.mv 6 (ci 0)] [1,4,5,6] (.block 0 (.loop ([1,4,5,6],[0]) (.seq (Zs [mS 9 6,mS 10 1,nS 11 10,bS 12 .lss 9 11] [1,4,5,6,12] (cX 12 0))
(.seq (.block 1 (.dreg [Zc [17,18,19,20] (lT 16 10 5),Zc [16,18] (mS 17 1),Zc [16,17] (mS 18 6),Zd [16] [1,2] (xS 19 17 17 18),Zd [16] [1,2,3] (lT 20 17 19),{o:= .call 21 [2,3,4,5,6,7,8,9,10] (.f Nd7) [.s 16,.s 20],ws:=[2,3,4,5,6,7,8,9,10],bf:=(.range 5)},Ze (.range 6) (mS 15 21),Zd [23] (.range 7) (.ext 22 (.s 15) 0),Zg [22] [2,3,4,5,6,7,8,9,10,11] (.range 7) (.ext 23 (.s 15) 1),{o:=sS 10 5 22,hs:=[23],ws:=[2,3,4,5,6,7,8,9,10,11],bf:=(.range 8)}] [1,4,5,6]))
(pr [mS 13 6,bC 14 .add 13 1,mS 6 14] [1,4,5,6]))))))
(Zs [lT 24 10 5,sS 10 4 24] [4] .ret))))
set_option maxHeartbeats 4000000 in
theorem Cny(a:GArchive)(l:List GEvent)(hs:13*a.size+2283+(l.length+(l.map GEvent.size).sum)≤16777216):Ctr Tryz.prog Nfj [aS a.enc,aL 17 (l.map GEvent.enc)] [rS (K1p a l).enc]:=by
 refine cA Mep 12 25 [(.cell 4 true 10,[true,true,true,true,true,true,true,true,true,false])] Tryz.func20 rfl rfl ?_;unfold Mep
 intro hb
 clear hb
 simp only[go_sem]
 apply K0 (Ch a (by omega))
 simp only[go_sem]
 intro hbd
 clear hbd
 refine K5 l (fun k=>[(6,vI k)]) (fun k=>Kaz (K1p a (l.take k))) (fun _=>True) (by simp only[roomB];omega) ?_
 simp only[go_sem,Kaz]
 refine⟨?_,trivial,?_,?_⟩
 ·simp only[go_sem,List.take_zero,Kcr]
 ·intro k e he _ h0 h1 hw
  have hsz:=K88 (a:=a) (l:=l.take k)
  have htk:=K9t (l:=l) k
  have hes:=Kv (f:=GEvent.size) (Kl he)
  rw[Kba he]
  generalize K1p a (l.take k)=x at*
  simp only[go_sem,K4 he,h0,h1]
  apply K0 (Cmp x e (by omega) (by omega))
  simp only[go_sem,hw]
  try intros
 ·intro _
  simp only[go_sem,List.take_length]
def GEvent.mks(x:GEvent)(k:Int):GEvent:={x with Inputs:=mkL iMk iCt x.Inputs (k),Version:=x.Version.mks (k+(ctL iCt x.Inputs:Nat))}
def GEvent.cts(x:GEvent):Nat:=ctL iCt x.Inputs+x.Version.cts
theorem GEvent.cts_le(x:GEvent):x.cts≤16*x.size:=by
 simp only[GEvent.cts,GEvent.size]
 have hInputs:=ctL_le' (c:=iCt) (fun y=>by simp only[iCt];omega) x.Inputs
 have hVersion:=GVersion.cts_le x.Version
 omega
@[go_sem] theorem GEvent.mks_len0 (x:GEvent) (k:Int):((x.mks k).Inputs).length=x.Inputs.length:=K9
@[go_sem] theorem GEvent.mks_len1 (x:GEvent) (k:Int):((x.mks k).Version.Resource.Body).length=x.Version.Resource.Body.length:=K9
def GEvent.mkd(x:GEvent)(k:Int):GEvent:=⟨k,(k+1),(mkL iMk iCt x.Inputs (k+2)),⟨⟨((k+2)+(ctL iCt x.Inputs:Nat)),(((k+2)+(ctL iCt x.Inputs:Nat))+1),(((k+2)+(ctL iCt x.Inputs:Nat))+2)⟩,(((k+2)+(ctL iCt x.Inputs:Nat))+3),⟨(((k+2)+(ctL iCt x.Inputs:Nat))+4),(mkL iMk iCt x.Version.Resource.Body (((k+2)+(ctL iCt x.Inputs:Nat))+5)),⟨((((k+2)+(ctL iCt x.Inputs:Nat))+5)+(ctL iCt x.Version.Resource.Body:Nat)),(((((k+2)+(ctL iCt x.Inputs:Nat))+5)+(ctL iCt x.Version.Resource.Body:Nat))+1),(((((k+2)+(ctL iCt x.Inputs:Nat))+5)+(ctL iCt x.Version.Resource.Body:Nat))+2)⟩⟩⟩,⟨(((((k+2)+(ctL iCt x.Inputs:Nat))+5)+(ctL iCt x.Version.Resource.Body:Nat))+3),(((((k+2)+(ctL iCt x.Inputs:Nat))+5)+(ctL iCt x.Version.Resource.Body:Nat))+4),(((((k+2)+(ctL iCt x.Inputs:Nat))+5)+(ctL iCt x.Version.Resource.Body:Nat))+5),(((((k+2)+(ctL iCt x.Inputs:Nat))+5)+(ctL iCt x.Version.Resource.Body:Nat))+6),(((((k+2)+(ctL iCt x.Inputs:Nat))+5)+(ctL iCt x.Version.Resource.Body:Nat))+7)⟩⟩
def GEvent.ct(x:GEvent):Nat:=15+ctL iCt x.Inputs+ctL iCt x.Version.Resource.Body
theorem GEvent.ct_le(x:GEvent):x.ct≤16*(1+x.size):=by
 simp only[GEvent.ct,GEvent.size,GVersion.size,GResource.size]
 have h0:=ctL_le' (c:=iCt) (fun y=>by simp only[iCt];omega) x.Inputs
 have h1:=ctL_le' (c:=iCt) (fun y=>by simp only[iCt];omega) x.Version.Resource.Body
 omega
def Mbr:MC:=
(Zs [.mv 4 (ci 0)] [0,1] (.seq (Zs [.mv 5 (ci 0)] [0,1,5] (.block 0 (.loop ([0,1,5],[1,2]) (.seq (Zs [mS 6 5,mS 7 0,nS 8 7,bS 9 .lss 6 8] [0,1,5,9] (cX 9 0))
(.seq (.block 1 (Zs [mS 12 0,mS 13 5,mS 14 1,xS 15 17 12 13,fS 16 15 0,sS 1 16 14] [0,1,5] (Zs [mS 17 1,bC 18 .add 17 1,mS 1 18] [0,1,5] (Zs [mS 19 0,mS 20 5,mS 21 1,xS 22 17 19 20,fS 23 22 1,sS 1 23 21] [0,1,5] (Zs [mS 24 1,bC 25 .add 24 1,mS 1 25] [0,1,5] (Zs [mS 26 0,mS 27 5,xS 28 17 26 27,fS 29 28 2,.loadT 30 1 (.s 29),mS 31 1,.callI 32 [] (.f N1r) [.s 30,.s 31] [1] [0],mS 1 32] [0,1,5] (Zs [mS 33 0,mS 34 5,mS 35 1,xS 36 17 33 34,fS 37 36 3,fS 38 37 0,fS 39 38 0,sS 1 39 35] [0,1,5] (Zs [mS 40 1,bC 41 .add 40 1,mS 1 41] [0,1,5] (Zs [mS 42 0,mS 43 5,mS 44 1,xS 45 17 42 43,fS 46 45 3,fS 47 46 0,fS 48 47 1,sS 1 48 44] [0,1,5] (Zs [mS 49 1,bC 50 .add 49 1,mS 1 50] [0,1,5] (Zs [mS 51 0,mS 52 5,mS 53 1,xS 54 17 51 52,fS 55 54 3,fS 56 55 0,fS 57 56 2,sS 1 57 53] [0,1,5] (Zs [mS 58 1,bC 59 .add 58 1,mS 1 59] [0,1,5] (Zs [mS 60 0,mS 61 5,mS 62 1,xS 63 17 60 61,fS 64 63 3,fS 65 64 3,sS 1 65 62] [0,1,5] (Zs [mS 66 1,bC 67 .add 66 1,mS 1 67] [0,1,5] (Zs [mS 68 0,mS 69 5,mS 70 1,xS 71 17 68 69,fS 72 71 3,fS 73 72 4,fS 74 73 0,sS 1 74 70] [0,1,5] (Zs [mS 75 1,bC 76 .add 75 1,mS 1 76] [0,1,5] (Zs [mS 77 0,mS 78 5,xS 79 17 77 78,fS 80 79 3,fS 81 80 4,fS 82 81 1,.loadT 83 2 (.s 82),mS 84 1,.callI 85 [] (.f N1r) [.s 83,.s 84] [2] [0],mS 1 85] [0,1,5] (Zs [mS 86 0,mS 87 5,mS 88 1,xS 89 17 86 87,fS 90 89 3,fS 91 90 4,fS 92 91 2,fS 93 92 0,sS 1 93 88] [0,1,5] (Zs [mS 94 1,bC 95 .add 94 1,mS 1 95] [0,1,5] (Zs [mS 96 0,mS 97 5,mS 98 1,xS 99 17 96 97,fS 100 99 3,fS 101 100 4,fS 102 101 2,fS 103 102 1,sS 1 103 98] [0,1,5] (Zs [mS 104 1,bC 105 .add 104 1,mS 1 105] [0,1,5] (Zs [mS 106 0,mS 107 5,mS 108 1,xS 109 17 106 107,fS 110 109 3,fS 111 110 4,fS 112 111 2,fS 113 112 2,sS 1 113 108] [0,1,5] (Zs [mS 114 1,bC 115 .add 114 1,mS 1 115] [0,1,5] (Zs [mS 116 0,mS 117 5,mS 118 1,xS 119 17 116 117,fS 120 119 12,fS 121 120 0,sS 1 121 118] [0,1,5] (Zs [mS 122 1,bC 123 .add 122 1,mS 1 123] [0,1,5] (Zs [mS 124 0,mS 125 5,mS 126 1,xS 127 17 124 125,fS 128 127 12,fS 129 128 1,sS 1 129 126] [0,1,5] (Zs [mS 130 1,bC 131 .add 130 1,mS 1 131] [0,1,5] (Zs [mS 132 0,mS 133 5,mS 134 1,xS 135 17 132 133,fS 136 135 12,fS 137 136 2,sS 1 137 134] [0,1,5] (Zs [mS 138 1,bC 139 .add 138 1,mS 1 139] [0,1,5] (Zs [mS 140 0,mS 141 5,mS 142 1,xS 143 17 140 141,fS 144 143 12,fS 145 144 3,sS 1 145 142] [0,1,5] (Zs [mS 146 1,bC 147 .add 146 1,mS 1 147] [0,1,5] (Zs [mS 148 0,mS 149 5,mS 150 1,xS 151 17 148 149,fS 152 151 12,fS 153 152 4,sS 1 153 150] [0,1,5] (pr [mS 154 1,bC 155 .add 154 1,mS 1 155] [0,1,5])))))))))))))))))))))))))))))))))
(pr [mS 10 5,bC 11 .add 10 1,mS 5 11] [0,1,5]))))))
(Zs [mS 156 1,mS 4 156] [4] .ret)))
theorem Cmg(xs:List GEvent)(k:Int)(hk:0≤k)(hN:k+(ctL GEvent.ct xs:Nat)≤4611686018427387904):CtrI Tryz.prog Ncx [oL 17 (xs.map GEvent.enc),iI k] [some (17,(mkL GEvent.mkd GEvent.ct xs k).map GEvent.enc)] [rI (k+(ctL GEvent.ct xs:Nat))]:=by
 refine K15 (M:=Mbr) (m:=2) (n:=157) (res:=[(.tmp 4,[false])]) hmix Tryz.func24 rfl (by kernel_rfl) rfl (by kernel_rfl) (by kernel_rfl) (Nat.le_of_ble_eq_true rfl) rfl rfl ?_;unfold Mbr
 intro hb
 have hl:=Kw hb
 clear hb
 simp only[go_sem]
 refine K5 xs (fun i=>[(1,vI (k+(ctL GEvent.ct (xs.take i):Nat))),(5,vI i)]) (fun i=>[(0,⟨1,.row true 17 ((mkL GEvent.mkd GEvent.ct (xs.take i) k).map GEvent.enc++(xs.drop i).map GEvent.enc)⟩)]) (fun _=>True) hl ?_
 simp only[go_sem]
 refine⟨?_,trivial,?_,?_⟩
 ·simp only[go_sem,List.take_zero,List.drop_zero,K3i,K1i]
  all_goals simp
 ·intro i x hx _ h0 h1 hw
  have hR:=K43 (mk:=GEvent.mkd) (c:=GEvent.ct) (k:=k) (f:=GEvent.enc) hx
  have hA:=K42 (mk:=GEvent.mkd) (c:=GEvent.ct) (k:=k) (f:=GEvent.enc) hx
  generalize hAe:(mkL GEvent.mkd GEvent.ct (xs.take i) k).map GEvent.enc=A at hR hA
  generalize hBe:(xs.drop (i+1)).map GEvent.enc=B at hR hA
  obtain⟨hg,hs,hl,hd⟩:=hA
  have hc:=Ks (c:=GEvent.ct) (i+1) (l:=xs)
  rw[Kf hx]at hc
  have hK0:0≤k+((ctL GEvent.ct (xs.take i):Nat):Int):=by omega
  have hK1:k+((ctL GEvent.ct (xs.take i):Nat):Int)+(GEvent.ct x:Nat)≤4611686018427387904:=by omega
  generalize hK:k+((ctL GEvent.ct (xs.take i):Nat):Int)=K at hK0 hK1
  simp only[GEvent.ct]at hK1
  simp only[go_sem,hR,hg,hs,hl,h0,h1,waK (K:=K+1) (K':=K+1) (by omega) (by omega) (by omega),waK (K:=K+1+1) (K':=K+2) (by omega) (by omega) (by omega)]
  refine K7 (C1o x.Inputs (K+2) (by omega) (by omega)) ?_
  have hK1:0≤K+2+(ctL iCt x.Inputs:Nat):=by omega
  generalize eK1:K+2+((ctL iCt x.Inputs:Nat):Int)=K1 at hK1
  simp only[go_sem,hg,hs,hl,hd,h0,h1,waK (K:=K1+1) (K':=K1+1) (by omega) (by omega) (by omega),waK (K:=K1+1+1) (K':=K1+2) (by omega) (by omega) (by omega),waK (K:=K1+2+1) (K':=K1+3) (by omega) (by omega) (by omega),waK (K:=K1+3+1) (K':=K1+4) (by omega) (by omega) (by omega),waK (K:=K1+4+1) (K':=K1+5) (by omega) (by omega) (by omega)]
  refine K7 (C1o x.Version.Resource.Body (K1+5) (by omega) (by omega)) ?_
  have hK2:0≤K1+5+(ctL iCt x.Version.Resource.Body:Nat):=by omega
  generalize eK2:K1+5+((ctL iCt x.Version.Resource.Body:Nat):Int)=K2 at hK2
  simp only[go_sem,hw,hg,hs,hl,hd,h0,h1,waK (K:=K2+1) (K':=K2+1) (by omega) (by omega) (by omega),waK (K:=K2+1+1) (K':=K2+2) (by omega) (by omega) (by omega),waK (K:=K2+2+1) (K':=K2+3) (by omega) (by omega) (by omega),waK (K:=K2+3+1) (K':=K2+4) (by omega) (by omega) (by omega),waK (K:=K2+4+1) (K':=K2+5) (by omega) (by omega) (by omega),waK (K:=K2+5+1) (K':=K2+6) (by omega) (by omega) (by omega),waK (K:=K2+6+1) (K':=K2+7) (by omega) (by omega) (by omega),waK (K:=K2+7+1) (K':=K2+8) (by omega) (by omega) (by omega)]
  subst eK2
  subst eK1
  subst hK hAe hBe
  refine⟨?_,K36 hx⟩
  rw[Kf hx]
  simp only[GEvent.ct]
  omega
 ·intro _
  simp only[go_sem,List.take_length,List.drop_length,List.map_nil,List.append_nil,K9]
def M4q:MC:=
(Zs [.box 2 0 (.s 0),.mv 4 cF] [1,2] (Zs [.mv 5 (ci 1048576)] [1,2,5] (Zs [lT 14 10 2,mS 15 5,.call 16 [] (.f Nf8) [.s 14,.s 15],mS 5 16] [1,2,5] (.seq (Zs [mS 17 5,bC 18 .lss 17 0] [1,2,5,18] (.cond (.s 18) (Zs [.mv 4 cT] [4] .ret) .skip))
(Zs [mS 19 1,mS 20 5,.call 21 [] (.f Nh3) [.s 19,.s 20],mS 5 21] [1,2,5] (.seq (Zs [mS 22 5,bC 23 .lss 22 0] [1,2,23] (.cond (.s 23) (Zs [.mv 4 cT] [4] .ret) .skip))
(Zs [lT 24 10 2,.call 25 [1,2,3,4,5,6,7,8,9] (.f N2b) [.s 24],mS 26 1,.call 27 [10] (.f N2l) [.s 26],.call 28 [11,12,13,14,15,16,17,18,19] (.f Nfj) [.s 25,.s 27],.alloc 6 20 [.emp 9,.emp 4,.emp 4,.emp 6,.emp 4,.emp 5,.emp 4,.emp 1,.emp 4,pz],sS 10 6 28] [1,2,6] (Zs [lT 29 10 2,.call 30 [21,22,23,24,25,26,27,28,29] (.f N2b) [.s 29],.alloc 7 30 [.emp 9,.emp 4,.emp 4,.emp 6,.emp 4,.emp 5,.emp 4,.emp 1,.emp 4,pz],sS 10 7 30] [1,2,6,7] (Zs [mS 31 1,.call 32 [31] (.f N2l) [.s 31],mS 8 32] [1,2,6,7,8] (Zs [lT 33 10 7,mS 34 8,.call 35 [32,33,34,35,36,37,38,39,40] (.f N5i) [.s 33,.s 34],.alloc 9 41 [.emp 9,.emp 4,.emp 4,.emp 6,.emp 4,.emp 5,.emp 4,.emp 1,.emp 4,pz],sS 10 9 35] [1,2,6,7,8,9] (.seq (Zs [lT 36 10 9,lT 37 10 6,.call 38 [] (.f N29) [.s 36,.s 37],.un 39 .not (.s 38)] [1,2,6,7,8,9,39] (.cond (.s 39) (Zs [.mv 4 cF] [4] .ret) .skip))
(.seq (.seq (.dreg [Zf [41,42] [42,43,44,45,46,47,48,49,50] (lT 40 10 7),Zc [40] (lT 41 10 2),{o:= .call 42 [42,43,44,45,46,47,48,49,50] (.f N2b) [.s 41],hs:=[40],ws:=[42,43,44,45,46,47,48,49,50],bf:=[1]},Ze [0,1,2] (.call 43 [] (.f N29) [.s 40,.s 42]),Ze (.range 4) (.un 44 .not (.s 43))] [1,2,6,7,8,9,44])
(.cond (.s 44) (Zs [.mv 4 cF] [4] .ret) .skip))
(.seq (Zs [mS 45 8,mS 46 1,.call 47 [51] (.f N2l) [.s 46],.call 48 [] (.f Ngy) [.s 45,.s 47],.un 49 .not (.s 48)] [1,2,6,7,8,9,49] (.cond (.s 49) (Zs [.mv 4 cF] [4] .ret) .skip))
(Zs [.mv 10 (ci 1)] [1,2,6,7,8,9,10] (Zs [lT 50 10 7,mS 51 10,.callI 52 [] (.f N4a) [.s 50,.s 51] [21,22,23,24,25,26,27,28,29] [],mS 10 52] [1,2,6,8,9,10] (Zs [mS 53 8,mS 54 10,.callI 55 [] (.f Ncx) [.s 53,.s 54] [31] [],mS 10 55] [1,2,6,9,10] (.seq (.seq (.reg [Za (mS 56 10),Za (bC 57 .lss 56 0),Za (mS 58 57),Zb 58 false (lT 59 10 9),Zb 58 false (lT 60 10 6),Zb 58 false (.call 61 [] (.f N29) [.s 59,.s 60]),Zb 58 false (.un 62 .not (.s 61)),Za (.pick 63 (.s 58) cT (.s 62))] [1,2,6,9,63])
(.cond (.s 63) (Zs [.mv 4 cF] [4] .ret) .skip))
(Zs [.mv 11 (ci 1)] [1,2,6,9,11] (Zs [lT 64 10 9,mS 65 11,.callI 66 [] (.f N4a) [.s 64,.s 65] [32,33,34,35,36,37,38,39,40] [],mS 11 66] [1,2,6,9,11] (Zs [.mv 12 (ci 1)] [1,2,6,9,11,12] (Zs [lT 67 10 9,mS 68 12,.call 69 [] (.f N49) [.s 67,.s 68],mS 12 69] [1,2,6,9,11,12] (.seq (Zs [mS 70 12,bC 71 .lss 70 0] [1,2,6,9,11,12,71] (.cond (.s 71) (Zs [.mv 4 cF] [4] .ret) .skip))
(.seq (Zs [mS 72 12,mS 73 11,bS 74 .neq 72 73] [1,2,6,9,11,74] (.cond (.s 74) (Zs [.mv 4 cF] [4] .ret) .skip))
(Zs [lT 75 10 2,.call 76 [52,53,54,55,56,57,58,59,60] (.f N2b) [.s 75],mS 77 1,.call 78 [61] (.f N2l) [.s 77],.call 79 [62,63,64,65,66,67,68,69,70] (.f N5i) [.s 76,.s 78],.alloc 13 71 [.emp 9,.emp 4,.emp 4,.emp 6,.emp 4,.emp 5,.emp 4,.emp 1,.emp 4,pz],sS 10 13 79] [6,9,11,13] (.seq (Zs [lT 80 10 13,lT 81 10 6,.call 82 [] (.f N29) [.s 80,.s 81],.un 83 .not (.s 82)] [9,11,83] (.cond (.s 83) (Zs [.mv 4 cF] [4] .ret) .skip))
(Zs [.mv 12 (ci 1)] [9,11,12] (Zs [lT 84 10 9,mS 85 12,.call 86 [] (.f N49) [.s 84,.s 85],mS 12 86] [11,12] (.seq (Zs [mS 87 12,bC 88 .lss 87 0] [11,12,88] (.cond (.s 88) (Zs [.mv 4 cF] [4] .ret) .skip))
(.seq (Zs [mS 89 12,mS 90 11,bS 91 .neq 89 90] [91] (.cond (.s 91) (Zs [.mv 4 cF] [4] .ret) .skip))
(Zs [.mv 4 cT] [4] .ret))))))))))))))))))))))))))))))
theorem c_laws_FnExactRunEvents(a:GArchive)(l:List GEvent):Ctr Tryz.prog Nfu [aS a.enc,aL 17 (l.map GEvent.enc)] [rB true]:=by
 refine cA M4q 72 92 [(.tmp 4,[false])] Tryz.func4 rfl rfl ?_;unfold M4q
 intro hb
 clear hb
 simp only[go_sem]
 apply K0 (Cno a _ (by omega))
 simp only[go_sem]
 intro _ hz
 obtain⟨hz1,hz2,hz3⟩:=K1t (m:=l.length+(l.map GEvent.size).sum) (by omega) hz
 apply K0 (Cod l _ hz1)
 rw[←hz3]
 simp only[go_sem]
 intro _ hz
 have hs:=szr_ok hz
 have hc_a:=GArchive.cts_le a
 have hc_l:=K4u (c:=GEvent.ct) (s:=GEvent.size) GEvent.ct_le l
 have hr0:=GArchive.cts_le (K1p a l)
 have hl_runTo_size:=K88 (a:=a) (l:=l)
 apply K0 (C38 a (by omega))
 simp only[go_sem]
 try intros
 apply K0 (C3z l (by omega))
 simp only[go_sem]
 try intros
 apply K0 (Cny a l (by omega))
 simp only[go_sem]
 try intros
 apply K0 (C38 a (by omega))
 simp only[go_sem]
 try intros
 apply K0 (C3z l (by omega))
 simp only[go_sem]
 try intros
 apply K0 (Cdk a l (by omega))
 simp only[go_sem]
 try intros
 apply K0 (C37 (K1p a l) (K1p a l))
 simp only[go_sem]
 try intros
 apply K0 (C38 a (by omega))
 simp only[go_sem]
 try intros
 apply K0 (C37 a a)
 simp only[go_sem]
 try intros
 apply K0 (C3z l (by omega))
 simp only[go_sem]
 try intros
 apply K0 (Co8 l l)
 simp only[go_sem]
 try intros
 apply K7 (C93 a (1) (by omega) (by omega))
 simp only[go_sem]
 try intros
 apply K7 (Cmg l (1+((a).cts:Nat)) (by omega) (by omega))
 simp only[go_sem]
 try intros
 have hk:¬((1+((a).cts:Nat)+(ctL GEvent.ct (l):Nat):Int))<0:=by omega
 simp only[go_sem,hk]
 try intros
 apply K0 (C37 (K1p a l) (K1p a l))
 simp only[go_sem]
 try intros
 apply K7 (C93 (K1p a l) (1) (by omega) (by omega))
 simp only[go_sem]
 try intros
 apply K0 (C92 (K1p a l) (1) (by omega) (by omega))
 simp only[go_sem]
 have hq0:¬((1+((K1p a l).cts:Nat):Int))<0:=by omega
 try simp only[go_sem,hq0]
 try intros
 apply K0 (C38 a (by omega))
 simp only[go_sem]
 try intros
 apply K0 (C3z l (by omega))
 simp only[go_sem]
 try intros
 apply K0 (Cdk a l (by omega))
 simp only[go_sem]
 try intros
 apply K0 (C37 (K1p a l) (K1p a l))
 simp only[go_sem]
 try intros
 apply K0 (C92 (K1p a l) (1) (by omega) (by omega))
 simp only[go_sem]
 have hq0:¬((1+((K1p a l).cts:Nat):Int))<0:=by omega
 try simp only[go_sem,hq0]
 try intros
end Go.Proofs.YtjneccbpkckdfaaGreatR
