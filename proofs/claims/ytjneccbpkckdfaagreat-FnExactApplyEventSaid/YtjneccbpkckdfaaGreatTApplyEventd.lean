/- What the functions compute that the laws of ApplyEvent reach: contracts. Conditions stand in each theorem. -/
import Derived.Shelf.Spec.SlicesInsertGrow
import Derived.Test.YtjneccbpkckdfaaGreatTApplyEventc
set_option linter.unusedVariables false
set_option linter.unusedSimpArgs false
namespace Go.Proofs.YtjneccbpkckdfaaGreatR
open Go Go.RowKit Go.Proofs
open Nat (reduceEqDiff reduceLT reduceLeDiff reduceAdd reduceMul)
open List (reduceReplicate)
def put:List Int→Int→List Int
 | [],n=>[n]
 |x::l,n=>if x<n then x::put l n else if x=n then x::l else n::x::l
theorem K9a:∀ {l:List Int} {n x:Int},x∈put l n↔x=n∨x∈l
 | [],n,x=>by simp[put]
 |y::l,n,x=>by
  rw[put]
  split
  ·rw[List.mem_cons,K9a,List.mem_cons]
   constructor
   ·rintro (h|h|h)<;>simp[h]
   ·rintro (h|h|h)<;>simp[h]
  ·split
   ·rename_i h1 h2
    subst h2
    simp
   ·simp
theorem put_up:∀ {l:List Int} {n:Int},l.Pairwise (· < ·)→(put l n).Pairwise (· < ·)
 | [],n,_=>by simp[put]
 |y::l,n,h=>by
  rw[List.pairwise_cons]at h
  rw[put]
  split
  ·rw[List.pairwise_cons]
   refine⟨fun x hx=>?_,put_up h.2⟩
   rcases K9a.1 hx with rfl|hx
   ·assumption
   ·exact h.1 x hx
  ·split
   ·rw[List.pairwise_cons];exact h
   ·rw[List.pairwise_cons,List.pairwise_cons]
    refine⟨fun x hx=>?_,h⟩
    rcases List.mem_cons.1 hx with rfl|hx
    ·omega
    ·have:=h.1 x hx;omega
theorem up_eq:∀ {l m:List Int},l.Pairwise (· < ·)→m.Pairwise (· < ·)→(∀x,x∈l↔x∈m)→l=m
 | [],[],_,_,_=>rfl
 | [],b::m,_,_,h=>by have:=(h b).2 (by simp);simp at this
 |a::l,[],_,_,h=>by have:=(h a).1 (by simp);simp at this
 |a::l,b::m,h1,h2,h=>by
  rw[List.pairwise_cons]at h1 h2
  have hab:a=b:=by
   rcases List.mem_cons.1 ((h a).1 (by simp))with e|e
   ·exact e
   ·rcases List.mem_cons.1 ((h b).2 (by simp))with e2|e2
    ·exact e2.symm
    ·have:=h1.1 b e2;have:=h2.1 a e;omega
  subst hab
  congr 1
  refine up_eq h1.2 h2.2 fun x=>⟨fun hx=>?_,fun hx=>?_⟩
  ·rcases List.mem_cons.1 ((h x).1 (by simp[hx]))with e|e
   ·have:=h1.1 x hx;omega
   ·exact e
  ·rcases List.mem_cons.1 ((h x).2 (by simp[hx]))with e|e
   ·have:=h2.1 x hx;omega
   ·exact e
theorem sortI_up(zs:List Int):(sortI zs).Pairwise (· ≤ ·):=by
 have:=List.pairwise_mergeSort (le:=fun x y:Int=>decide (x≤y)) (fun a b c h1 h2=>by simp only[decide_eq_true_eq]at *;omega) (fun a b=>by simp only[Bool.or_eq_true,decide_eq_true_eq];omega) zs
 exact this.imp (by simp)
theorem uniq_up{zs:List Int}(h:zs.Pairwise (· ≤ ·)):∀m,m≤zs.length→(Lib.compactUpTo zs.toArray m).Pairwise (· < ·)∧∀x,x∈Lib.compactUpTo zs.toArray m↔x∈zs.take m
 |0,_=>by simp[Lib.compactUpTo]
 |m+1,hm=>by
  obtain⟨ih1,ih2⟩:=uniq_up h m (by omega)
  obtain⟨x,hx⟩:=Kb (l:=zs) (k:=m) (by omega)
  have e0:zs.toArray[m]! =x:=by
   rw[getElem!_pos _ m (by simpa using (by omega:m<zs.length))]
   simpa using (List.getElem?_eq_some_iff.1 hx).2
  rw[Lib.compactUpTo_succ,Kc hx,e0]
  cases m with
  |zero=>
   have hk:Lib.keeps zs.toArray 0=true:=by simp[Lib.keeps]
   rw[hk]
   simp[Lib.compactUpTo]
  |succ m=>
   obtain⟨y,hy⟩:=Kb (l:=zs) (k:=m) (by omega)
   have e1:zs.toArray[m+1-1]! =y:=by
    rw[Nat.add_sub_cancel,getElem!_pos _ m (by simpa using (by omega:m<zs.length))]
    simpa using (List.getElem?_eq_some_iff.1 hy).2
   have hyx:y≤x:=by
    have:=List.pairwise_iff_getElem.1 h m (m+1) (by omega) (by omega) (by omega)
    rw[(List.getElem?_eq_some_iff.1 hy).2,(List.getElem?_eq_some_iff.1 hx).2]at this
    exact this
   have hyt:y∈zs.take (m+1):=by rw[Kc hy];simp
   have hle:∀z∈zs.take (m+1),z≤y:=fun z hz=>by
    rw[Kc hy]at hz
    rcases List.mem_append.1 hz with hz|hz
    ·have hp:=h.sublist (List.take_sublist (m+1) zs)
     rw[Kc hy,List.pairwise_append]at hp
     exact hp.2.2 z hz y (by simp)
    ·rw[List.mem_singleton.1 hz];exact Int.le_refl _
   by_cases hxy:x=y
   ·have hk:Lib.keeps zs.toArray (m+1)=false:=Lib.keeps_neg (by omega) (by rw[e0,e1,hxy])
    rw[hk]
    simp only[Bool.false_eq_true,if_false,List.append_nil]
    refine⟨ih1,fun z=>?_⟩
    rw[ih2,List.mem_append,List.mem_singleton]
    constructor
    ·exact .inl
    ·rintro (hz|rfl)
     ·exact hz
     ·rw[hxy];exact hyt
   ·have hk:Lib.keeps zs.toArray (m+1)=true:=Lib.keeps_pos (by rw[e0,e1];exact hxy)
    rw[hk,if_pos rfl]
    refine⟨?_,fun z=>?_⟩
    ·rw[List.pairwise_append]
     refine⟨ih1,by simp,fun z hz w hw=>?_⟩
     rw[List.mem_singleton.1 hw]
     have:=hle z ((ih2 z).1 hz)
     omega
    ·rw[List.mem_append,List.mem_append,ih2]
theorem K83(zs:List Int):(sortU zs).Pairwise (· < ·)∧∀x,x∈sortU zs↔x∈zs:=by
 have h:=uniq_up (sortI_up zs) (sortI zs).length (Nat.le_refl _)
 refine⟨h.1,fun x=>?_⟩
 rw[sortU,uniqI,Lib.compact,h.2 x,List.take_length,sortI]
 exact(List.mergeSort_perm _ _).mem_iff
def puts(zs:List Int):List Int:=zs.foldl put []
theorem K8m:∀(zs l:List Int),l.Pairwise (· < ·)→(zs.foldl put l).Pairwise (· < ·)∧∀x,x∈zs.foldl put l↔x∈l∨x∈zs
 | [],l,h=>⟨h,by simp⟩
 |z::zs,l,h=>by
  obtain⟨h1,h2⟩:=K8m zs (put l z) (put_up h)
  refine⟨h1,fun x=>?_⟩
  rw[List.foldl_cons,h2,K9a,List.mem_cons]
  constructor
  ·rintro ((h|h)|h)<;>simp[h]
  ·rintro (h|h|h)<;>simp[h]
theorem sortU_puts(zs:List Int):sortU zs=puts zs:=by
 obtain⟨h1,h2⟩:=K83 zs
 obtain⟨h3,h4⟩:=K8m zs [] List.Pairwise.nil
 exact up_eq h1 h3 fun x=>by rw[h2,puts,h4];simp
theorem Kbn:∀ {l:List Int} {n:Int},(put l n).length≤l.length+1
 | [],n=>by simp[put]
 |y::l,n=>by
  have:=Kbn (l:=l) (n:=n)
  rw[put]
  split
  ·simp only[List.length_cons];omega
  ·split<;>simp
def Mjg:MC:=
(Zs [.nilo 2 0 1] [0] (Zs [mS 4 0,.call 5 [1] (.f N4) [.s 4],mS 3 5] [3] (Zs [mS 6 3,.callI 7 [] (.f N65) [.s 6] [1] []] [3] (Zs [mS 8 3,.callI 9 [0] (.f N4b) [.s 8] [1] [],mS 2 9] [2] .ret))))
theorem Cj6(l:List Int)(hl:l.length≤1073741824):Ctr Tryz.prog Nax [aL 1 (l.map encI)] [rL 1 ((sortU l).map encI)]:=by
 refine cA Mjg 2 10 [(.tmp 2,[true])] Tryz.func338 rfl rfl ?_;unfold Mjg
 intro hb
 clear hb
 simp only[go_sem]
 apply K0 (Ca l hl)
 simp only[go_sem]
 try intros
 apply K7 (Cmh l)
 simp only[go_sem]
 try intros
 refine⟨(K6t l).symm,?_⟩
 apply K7 (Cix (sortI l))
 simp only[go_sem]
 try intros
 rfl
theorem K99{n:Int}:∀ {l:List Int} {k:Nat},(∀x∈l.take k,x<n)→put l n=l.take k++put (l.drop k) n
 |l,0,_=>by simp
 | [],k+1,_=>by simp
 |x::l,k+1,h=>by
  have hx:x<n:=h x (by simp)
  rw[put,if_pos hx,List.take_succ_cons,List.drop_succ_cons,List.cons_append,←K99 (fun y hy=>h y (by simp[hy]))]
def Mlp:MC:=
(Zs [.nilo 4 0 1] [0,1] (Zs [.mv 5 (ci 0)] [0,1,5] (.seq (.block 0 (.loop ([0,1,5],[0,1]) (.seq (.seq (.reg [Za (mS 6 5),Za (mS 7 0),Za (nS 8 7),Za (bS 9 .lss 6 8),Za (mS 10 9),Zb 10 true (mS 11 0),Zb 10 true (mS 12 5),Zb 10 true (xS 13 1 11 12),Zb 10 true (lF 14 1 13),Zb 10 true (mS 15 1),Zb 10 true (bS 16 .lss 14 15),Za (.pick 17 (.s 10) (.s 16) cF)] [0,1,5,17])
(cX 17 0))
(.block 1 (pr [mS 18 5,bC 19 .add 18 1,mS 5 19] [0,1,5])))))
(.seq (.seq (.reg [Za (mS 20 5),Za (mS 21 0),Za (nS 22 21),Za (bS 23 .lss 20 22),Za (mS 24 23),Zb 24 true (mS 25 0),Zb 24 true (mS 26 5),Zb 24 true (xS 27 1 25 26),Zb 24 true (lF 28 1 27),Zb 24 true (mS 29 1),Zb 24 true (bS 30 .eql 28 29),Za (.pick 31 (.s 24) (.s 30) cF)] [0,1,5,31])
(.cond (.s 31) (Zs [.lit 32 0 1 8 [],mS 33 0,.app 34 0 1 8 (.s 32) (.s 33),mS 4 34] [4] .ret) .skip))
(.seq (.dreg [{o:= .lit 35 0 1 8 [],hs:=[36,37,38,40,41,43,44,45],ho:=[1],ws:=[0]},Zf [35,37,40,41,43,44,45] [0,1] (mS 36 0),Zf [35,36,40,41,43,44,45] [0,1] (mS 37 5),Zg [35,40,41,43,44,45] [0,1] [1,2] (.slc 38 1 (.s 36) none (some (.s 37)) none),{o:= .app 39 0 1 8 (.s 35) (.s 38),hs:=[40,41,43,44,45],ho:=[1],ws:=[0],bf:=(.range 4)},Zf [35,36,37,38,39,43,44,45] [0] (mS 40 1),{o:= .lit 41 1 1 8 [.s 40],hs:=[35,36,37,38,39,43,44,45],ho:=[0],ws:=[1],bf:=[5]},{o:= .app 42 0 1 8 (.s 39) (.s 41),hs:=[43,44,45],ws:=[0],bf:=(.range 7)},Zf [35,36,37,38,39,40,41,42,44] [0,1] (mS 43 0),Zf [35,36,37,38,39,40,41,42,43] [0,1] (mS 44 5),Zg [35,36,37,38,39,40,41,42] [0,1] [8,9] (.slc 45 1 (.s 43) (some (.s 44)) none none),{o:= .app 46 0 1 8 (.s 42) (.s 45),ws:=[0],bf:=(.range 11)},Ze (.range 12) (mS 4 46)] [4])
.ret)))))
theorem Clh(l:List Int)(n:Int)(hs:l.length≤1073741824):Ctr Tryz.prog Nfr [aL 1 (l.map encI),aI n] [rL 1 ((put l n).map encI)]:=by
 refine cA Mlp 2 47 [(.tmp 4,[true])] Tryz.func145 rfl rfl ?_;unfold Mlp
 intro hb
 clear hb
 simp only[go_sem]
 refine Kj (fun k:Nat=>[(5,vI k)]) (fun k=>[]) (fun k=>k≤l.length∧∀x∈l.take k,x<n) (fun k=>l.length-k) 0 ?_
 simp only[go_sem]
 refine⟨?_,⟨by omega,by simp⟩,?_⟩
 ·simp only[go_sem]
 ·rintro k ⟨hk,hlt⟩
  by_cases hkl:k<l.length
  ·obtain⟨x,hx⟩:=Kb hkl
   have h1:(k:Int)<(l.length:Int):=by omega
   have h0:(0:Int)≤(k:Int):=by omega
   simp only[go_sem,h1,h0,K4 hx,↓K8h (f:=encI) (l:=l) hk,↓Kal (f:=encI) (l:=l) hk,↓Ko (f:=encI) (fun _=>rfl) l,↓Ko (f:=encI) (fun _=>rfl) (l.take k),↓Ko (f:=encI) (fun _=>rfl) (l.drop k),List.length_append,List.length_map,List.length_cons,List.length_nil,Nat.zero_add]
   refine⟨fun hxn=>?_,fun hxn=>?_⟩
   ·refine⟨k+1,by rw[wI (by omega) (by omega)];omega,⟨by omega,fun y hy=>?_⟩,by omega⟩
    rw[Kc hx]at hy
    rcases List.mem_append.1 hy with hy|hy
    ·exact hlt y hy
    ·rw[List.mem_singleton.1 hy];exact hxn
   ·have hp:=K99 hlt
    rw[Ki hx,put,if_neg hxn]at hp
    have ht:=List.length_take_le k l
    have hd:(l.drop k).length≤l.length:=by simp
    refine⟨fun he=>⟨by simp only[roomB];omega,?_⟩,fun he=>⟨⟨by omega,by omega⟩,by simp only[roomB];omega,by decide,by simp only[roomB];omega,⟨by omega,by omega⟩,by simp only[roomB];omega,?_⟩⟩
    ·rw[if_pos he,←Ki hx,List.take_append_drop]at hp
     rw[hp]
    ·rw[if_neg he,←Ki hx]at hp
     rw[hp]
     simp[encI]
  ·have h1:¬(k:Int)<(l.length:Int):=by omega
   simp only[go_sem,h1,↓K8h (f:=encI) (l:=l) hk,↓Kal (f:=encI) (l:=l) hk,↓Ko (f:=encI) (fun _=>rfl) (l.take k),↓Ko (f:=encI) (fun _=>rfl) (l.drop k),List.length_append,List.length_map,List.length_cons,List.length_nil,Nat.zero_add]
   obtain rfl:k=l.length:=by omega
   have hp:=K99 hlt
   rw[List.drop_length,List.take_length,put]at hp
   refine⟨⟨by omega,by omega,by omega⟩,?_⟩
   rw[hp,List.take_length,List.drop_length]
   exact⟨by simp only[roomB];omega,by decide,by simp only[roomB];omega,⟨by omega,by omega,by omega⟩,by simp only[roomB,List.length_nil];omega,by simp[encI]⟩
def ticks(l:List GCapture)(a:GAddress):List Int:=(l.filter fun c=>decide (c.Address=a)).map (·.Tick)
theorem puts_len:∀(zs:List Int) ,(puts zs).length≤zs.length:=by
 intro zs
 suffices H:∀(zs l:List Int),(zs.foldl put l).length≤l.length+zs.length by simpa[puts]using H zs []
 intro zs
 induction zs with
 |nil=>intro l;simp
 |cons z zs ih=>
  intro l
  have h1:=ih (put l z)
  have h2:=Kbn (l:=l) (n:=z)
  rw[List.foldl_cons,List.length_cons];omega
def lo(a:GArchive)(x:GAddress):List Int:=puts (ticks (served a) x)
def modM(v:Int):Int:=(IntKind.i64.wrap (v.tmod 1000000+1000000)).tmod 1000000
theorem Kav:¬(1000000:Int)=0:=by decide
def K39(d l:Int):Int:=modM (hashL [d,l])
def cmpR(d a b:Int):Int:=cmpI (K39 d b) (K39 d a)
def ltR(d a b:Int):Bool:=decide (K39 d b<K39 d a)
theorem ltR_eq(d:Int):ltz (cmpR d)=ltR d:=by
 funext a b
 by_cases h1:K39 d b<K39 d a
 ·simp[ltz,cmpR,cmpI,ltR,h1]
 ·by_cases h2:K39 d a<K39 d b<;>simp[ltz,cmpR,cmpI,ltR,h1,h2]
theorem swoR(d:Int):Srt.Swo (ltz (cmpR d)):=by
 rw[ltR_eq]
 refine⟨fun x y h=>?_,fun x y z h=>?_⟩
 ·simp only[ltR,decide_eq_true_eq,decide_eq_false_iff_not]at *;omega
 ·simp only[ltR,decide_eq_true_eq]at *;omega
def ordB(d a b:Int):Bool:=decide (K39 d b<K39 d a∨K39 d a=K39 d b∧a<b)
theorem swoB(d:Int):Srt.Swo (ordB d):=by
 refine⟨fun x y h=>?_,fun x y z h=>?_⟩
 ·simp only[ordB,decide_eq_true_eq,decide_eq_false_iff_not]at *;omega
 ·simp only[ordB,decide_eq_true_eq]at *;omega
theorem ordB_tot{d a b:Int}(h:a≠b)(hf:ordB d a b=false):ordB d b a=true:=by
 simp only[ordB,decide_eq_true_eq,decide_eq_false_iff_not]at *;omega
def Kw(l:List Int)(d:Int):List Int:=Srt.isort (ltz (cmpR d)) (sortU l)
theorem Kc6{α:Type}{p q:α→α→Bool}{x:α}:∀ {A:List α},(∀z∈A,p x z=q x z)→Srt.ins p x A=Srt.ins q x A
 | [],_=>rfl
 |z::A,h=>by
  simp only[Srt.ins]
  rw[h z (by simp),Kc6 fun y hy=>h y (by simp[hy])]
theorem Kc9(d:Int):∀(n:Nat) (l:List Int),l.length=n→l.Pairwise (· < ·)→Srt.isort (ltR d) l=Srt.isort (ordB d) l
 |0,l,hn,_=>by
  obtain rfl:=List.length_eq_zero_iff.1 hn
  rfl
 |n+1,l,hn,h=>by
  rcases List.eq_nil_or_concat l with rfl|⟨s,x,rfl⟩
  ·rfl
  ·rw[List.concat_eq_append]at*
   rw[List.pairwise_append]at h
   rw[Srt.isort_snoc,Srt.isort_snoc,Kc9 d n s (by simpa using hn) h.1]
   refine Kc6 fun z hz=>?_
   have hz':z∈s:=by
    rcases Srt.mem_mrg.1 hz with k|k
    ·simp at k
    ·exact k
   have:=h.2.2 z hz' x (by simp)
   simp only[ltR,ordB]
   rw[Bool.eq_iff_iff]
   simp only[decide_eq_true_eq]
   omega
def strictB(d:Int)(l:List Int):Prop:=l.Pairwise fun x y=>ordB d x y=true
theorem K86{d x:Int}:∀ {l:List Int},strictB d l→x∉l→strictB d (Srt.ins (ordB d) x l)
 | [],_,_=>by simp[Srt.ins,strictB]
 |z::zs,h,hx=>by
  unfold strictB at h ⊢
  rw[List.pairwise_cons]at h
  have hne:x≠z:=fun e=>hx (by simp[e])
  simp only[Srt.ins]
  split
  ·rename_i k
   rw[List.pairwise_cons,List.pairwise_cons]
   refine⟨fun y hy=>?_,h⟩
   rcases List.mem_cons.1 hy with rfl|hy
   ·exact k
   ·exact(swoB d).tr k (h.1 y hy)
  ·rename_i k
   rw[List.pairwise_cons]
   refine⟨fun y hy=>?_,K86 h.2 fun e=>hx (by simp[e])⟩
   rcases Srt.mem_ins.1 hy with rfl|hy
   ·exact ordB_tot hne (by simpa using k)
   ·exact h.1 y hy
theorem Kb7{d:Int}:∀ {B A:List Int},strictB d A→B.Nodup→(∀b∈B,b∉A)→strictB d (Srt.mrg (ordB d) A B)
 | [],A,h,_,_=>h
 |x::B,A,h,hn,hd=>by
  rw[List.nodup_cons]at hn
  rw[Srt.mrg_cons]
  refine Kb7 (K86 h (hd x (by simp))) hn.2 fun b hb hm=>?_
  rcases Srt.mem_ins.1 hm with rfl|hm
  ·exact hn.1 hb
  ·exact hd b (by simp[hb]) hm
theorem Kcf{d:Int}:∀ {l m:List Int},strictB d l→strictB d m→(∀x,x∈l↔x∈m)→l=m
 | [],[],_,_,_=>rfl
 | [],b::m,_,_,h=>by have:=(h b).2 (by simp);simp at this
 |a::l,[],_,_,h=>by have:=(h a).1 (by simp);simp at this
 |a::l,b::m,h1,h2,h=>by
  unfold strictB at h1 h2
  rw[List.pairwise_cons]at h1 h2
  have hir:∀x,ordB d x x=true→False:=fun x hx=>by have:=(swoB d).asy x x hx;simp_all
  have hab:a=b:=by
   rcases List.mem_cons.1 ((h a).1 (by simp))with e|e
   ·exact e
   ·rcases List.mem_cons.1 ((h b).2 (by simp))with e2|e2
    ·exact e2.symm
    ·exact(hir a ((swoB d).tr (h1.1 b e2) (h2.1 a e))).elim
  subst hab
  congr 1
  refine Kcf h1.2 h2.2 fun x=>⟨fun hx=>?_,fun hx=>?_⟩
  ·rcases List.mem_cons.1 ((h x).1 (by simp[hx]))with e|e
   ·subst e;exact(hir x (h1.1 x hx)).elim
   ·exact e
  ·rcases List.mem_cons.1 ((h x).2 (by simp[hx]))with e|e
   ·subst e;exact(hir x (h2.1 x hx)).elim
   ·exact e
def addO(d:Int)(out:List Int)(x:Int):List Int:=if out.contains x then out else Srt.ins (ordB d) x out
theorem K5c{d:Int}:∀(l out:List Int),strictB d out→strictB d (l.foldl (addO d) out)∧∀x,x∈l.foldl (addO d) out↔x∈out∨x∈l
 | [],out,h=>⟨h,by simp⟩
 |z::l,out,h=>by
  have hz:strictB d (addO d out z)∧∀x,x∈addO d out z↔x∈out∨x=z:=by
   unfold addO
   split
   ·rename_i k
    have k':z∈out:=by simpa using k
    refine⟨h,fun x=>⟨.inl,?_⟩⟩
    rintro (k|rfl)
    ·exact k
    ·exact k'
   ·rename_i k
    have k':z∉out:=by simpa using k
    refine⟨K86 h k',fun x=>?_⟩
    rw[Srt.mem_ins]
    constructor<;>rintro (k|k)<;>simp[k]
  obtain⟨h1,h2⟩:=K5c l (addO d out z) hz.1
  refine⟨h1,fun x=>?_⟩
  rw[List.foldl_cons,h2,hz.2,List.mem_cons]
  constructor
  ·rintro ((k|k)|k)<;>simp[k]
  ·rintro (k|k|k)<;>simp[k]
def ordS(l:List Int)(d:Int):List Int:=l.foldl (addO d) []
theorem Kbl(l:List Int)(d:Int):ordS l d=Kw l d:=by
 obtain⟨h1,h2⟩:=K83 l
 obtain⟨h3,h4⟩:=K5c (d:=d) l [] List.Pairwise.nil
 rw[Kw,ltR_eq,Kc9 d _ _ rfl h1]
 refine Kcf h3 (Kb7 List.Pairwise.nil (h1.imp (fun h=>by omega)) (by simp)) fun x=>?_
 rw[Srt.isort,Srt.mem_mrg,h2]
 exact h4 x
theorem ordS_snoc{l:List Int}{d:Int}{k:Nat}{x:Int}(h:l[k]? =some x):ordS (l.take (k+1)) d=addO d (ordS (l.take k) d) x:=by
 rw[Kc h,ordS,List.foldl_append];rfl
theorem K51(l:List Int)(d:Int):(Kw l d).length≤l.length:=by
 rw[Kw,Srt.len_isort,sortU_puts];exact puts_len l
theorem ordFor_mem{l:List Int}{d x:Int}:x∈Kw l d↔x∈l:=by
 rw[Kw,ltR_eq]
 rw[show x∈Srt.isort (ltR d) (sortU l)↔x∈sortU l from by rw[Srt.isort,Srt.mem_mrg];simp,(K83 l).2]
theorem K8x(l:List Int)(d:Int):(Kw l d).Nodup:=by
 rw[←Kbl]
 have hir:∀x,ordB d x x=true→False:=fun x hx=>by have:=(swoB d).asy x x hx;simp_all
 exact(K5c (d:=d) l [] List.Pairwise.nil).1.imp fun {a b} h e=>by subst e;exact hir a h
def placedL(l:List Int)(d k:Int):List Int:=(Kw l d).take k.toNat
theorem Cp3(v:Int):Ctr Tryz.prog N4j [aI v,aI 1000000] [rI (modM v)]:=by
 refine cA M4h 0 15 [(.tmp 4,[false])] Tryz.func363 rfl rfl ?_;unfold M4h
 intro hb
 clear hb
 simp only[go_sem]
 apply K0 (C2 _ _ _)
 simp only[go_sem,Kav]
 refine And.intro ?_ ?_<;>intro h
 ·exact absurd (by decide) h
 ·rfl
theorem Cp8(v:Int):Ctr Tryz.prog N4l [aI v,aI 1000000] [rI (modM v)]:=by
 refine cA M4i 0 15 [(.tmp 4,[false])] Tryz.func368 rfl rfl ?_;unfold M4i
 intro hb
 clear hb
 simp only[go_sem]
 apply K0 (C3 _ _ _)
 simp only[go_sem,Kav]
 refine And.intro ?_ ?_<;>intro h
 ·exact absurd (by decide) h
 ·rfl
def Mje:MC:=
(Zs [.mv 4 (ci 0)] [0,1] (Zs [mS 5 0,mS 6 1,.lit 7 0 1 8 [.s 5,.s 6],.call 8 [] (.f N20) [.s 7],.call 9 [] (.f N4j) [.s 8,.c (.int .i64 1000000)],mS 4 9] [4] .ret))
theorem Cj4(d l:Int):Ctr Tryz.prog Naw [aI d,aI l] [rI (K39 d l)]:=by
 refine cA Mje 1 10 [(.tmp 4,[false])] Tryz.func341 rfl rfl ?_;unfold Mje
 intro hb
 clear hb
 simp only[go_sem]
 refine⟨⟨by simp,by decide⟩,?_⟩
 apply K0 (C2n [d,l])
 simp only[go_sem]
 apply K0 (Cp3 _)
 simp only[go_sem]
 intros
 rfl
def Mjq:MC:=
(Zs [.mv 4 (ci 0)] [0,1] (Zs [mS 5 0,mS 6 1,.lit 7 0 1 8 [.s 5,.s 6],.call 8 [] (.f N24) [.s 7],.call 9 [] (.f N4l) [.s 8,.c (.int .i64 1000000)],mS 4 9] [4] .ret))
theorem Cj8(d l:Int):Ctr Tryz.prog Naz [aI d,aI l] [rI (K39 d l)]:=by
 refine cA Mjq 1 10 [(.tmp 4,[false])] Tryz.func372 rfl rfl ?_;unfold Mjq
 intro hb
 clear hb
 simp only[go_sem]
 refine⟨⟨by simp,by decide⟩,?_⟩
 apply K0 (C2o [d,l])
 simp only[go_sem]
 apply K0 (Cp8 _)
 simp only[go_sem]
 intros
 rfl
def Mbg:MC:=
(Zs [.mv 5 (ci 0)] [0,1,2] (.seq (.dreg [Zc [7,9,10] (lF 6 1 2),Zc [6,9,10] (mS 7 1),Zd [9,10] [0,1] (.call 8 [] (.f Naw) [.s 6,.s 7]),Zc [6,7,8,10] (lF 9 1 2),Zc [6,7,8,9] (mS 10 0),Ze (.range 5) (.call 11 [] (.f Naw) [.s 9,.s 10]),Ze (.range 6) (.call 12 [] (.f N4v) [.s 8,.s 11]),Ze (.range 7) (mS 5 12)] [5])
.ret))
theorem Cly(a b d:Int):Ctr Tryz.prog Ncl [aI a,aI b,(false,[.pb [tI d]])] [rI (cmpR d a b)]:=by
 refine cA Mbg 0 13 [(.tmp 5,[false])] Tryz.func340 rfl rfl ?_;unfold Mbg
 intro hb
 clear hb
 simp only[go_sem]
 apply K0 (Cj4 _ _)
 simp only[go_sem]
 intros
 apply K0 (Cj4 _ _)
 simp only[go_sem]
 intros
 apply K0 (Cj2 _ _)
 simp only[go_sem]
 intros
 rfl
def Mg6:MC:=
(Zs [.box 3 0 (.s 1),.nilo 4 1 1] [0,3] (Zs [mS 6 0,.call 7 [1] (.f Nax) [.s 6],mS 5 7] [3,5] (Zs [mS 8 5,.closF 9 Ncl 3,.callI 10 [] (.f N2f) [.s 8,.s 9] [0,1] []] [5] (Zs [mS 11 5,mS 4 11] [4] .ret))))
theorem Cfw(l:List Int)(d:Int)(hl:l.length≤1073741824):Ctr Tryz.prog N6r [aL 1 (l.map encI),aI d] [rL 1 ((Kw l d).map encI)]:=by
 refine cA Mg6 2 12 [(.tmp 4,[true])] Tryz.func263 rfl rfl ?_;unfold Mg6
 intro hb
 clear hb
 simp only[go_sem]
 apply K0 (Cj6 l hl)
 simp only[go_sem]
 intros
 apply K7 (Ciy (cs:=[.pb [tI d]]) (sortU l) _ (cmpR d) (fun x y=>Cly x y d) (swoR d))
 simp only[go_sem]
 exact⟨Srt.len_isort.symm,rfl⟩
def Met:MC:=
(Zs [.mv 6 cF] [0,1,2] (Zs [mS 9 0,mS 10 1,.call 11 [] (.f Naz) [.s 9,.s 10],mS 7 11] [0,1,2,7] (Zs [mS 12 0,mS 13 2,.call 14 [] (.f Naz) [.s 12,.s 13],mS 8 14] [1,2,7,8] (.seq (.reg [Za (mS 15 7),Za (mS 16 8),Za (bS 17 .gtr 15 16),Za (mS 18 17),Zb 18 false (mS 19 7),Zb 18 false (mS 20 8),Zb 18 false (bS 21 .eql 19 20),Zb 18 false (mS 22 21),Zb 22 true (mS 23 1),Zb 22 true (mS 24 2),Zb 22 true (bS 25 .lss 23 24),Zb 18 false (.pick 26 (.s 22) (.s 25) cF),Za (.pick 27 (.s 18) cT (.s 26)),Za (mS 6 27)] [6])
.ret))))
theorem Cnw(d a b:Int):Ctr Tryz.prog Nfp [aI d,aI a,aI b] [rB (ordB d a b)]:=by
 refine cA Met 0 28 [(.tmp 6,[false])] Tryz.func331 rfl rfl ?_;unfold Met
 intro hb
 clear hb
 simp only[go_sem]
 apply K0 (Cj8 _ _)
 simp only[go_sem]
 intros
 apply K0 (Cj8 _ _)
 simp only[go_sem]
 intros
 repeat' first
  |(refine And.intro ?_ ?_<;>intro h)
 all_goals (unfold ordB;first|(symm;rw[decide_eq_false_iff_not];omega)|(rw[Bool.eq_iff_iff];simp only[decide_eq_true_eq];omega)|(simp;omega))
def Mgn:MC:=
(Zs [.nilo 4 0 1] [0,1] (Zs [.lit 9 0 1 8 [],mS 5 9] [0,1,5] (.seq (Zs [.mv 6 (ci 0)] [0,1,5,6] (.block 0 (.loop ([0,1,5,6],[1,2]) (.seq (Zs [mS 10 6,mS 11 0,nS 12 11,bS 13 .lss 10 12] [0,1,5,6,13] (cX 13 0))
(.seq (.block 1 (Zs [mS 16 0,mS 17 6,xS 18 1 16 17,lF 19 1 18,mS 7 19] [0,1,5,6,7] (.seq (Zs [mS 20 5,mS 21 7,.call 22 [] (.f N2g) [.s 20,.s 21]] [0,1,5,6,7,22] (.cond (.s 22) (.exit 1) .skip))
(Zs [mS 23 5,nS 24 23,mS 8 24] [0,1,5,6,7,8] (.seq (.block 2 (.loop ([0,1,5,6,7,8],[1,2]) (.seq (.seq (.reg [Za (mS 25 8),Za (bC 26 .gtr 25 0),Za (mS 27 26),Zb 27 true (mS 28 1),Zb 27 true (mS 29 7),Zb 27 true (mS 30 5),Zb 27 true (mS 31 8),Zb 27 true (bC 32 .sub 31 1),Zb 27 true (xS 33 1 30 32),Zb 27 true (lF 34 1 33),Zb 27 true (.call 35 [] (.f Nfp) [.s 28,.s 29,.s 34]),Za (.pick 36 (.s 27) (.s 35) cF)] [0,1,5,6,7,8,36])
(cX 36 2))
(.block 3 (pr [mS 37 8,bC 38 .sub 37 1,mS 8 38] [0,1,5,6,7,8])))))
(.dreg [{o:= .lit 39 1 1 8 [],hs:=[40,41,42,44,45,47,48,49],ho:=[2],ws:=[1]},Zf [39,41,44,45,47,48,49] [1,2] (mS 40 5),Zf [39,40,44,45,47,48,49] [1,2] (mS 41 8),Zg [39,44,45,47,48,49] [1,2] [1,2] (.slc 42 1 (.s 40) none (some (.s 41)) none),{o:= .app 43 1 1 8 (.s 39) (.s 42),hs:=[44,45,47,48,49],ho:=[2],ws:=[1],bf:=(.range 4)},Zf [39,40,41,42,43,47,48,49] [1] (mS 44 7),{o:= .lit 45 2 1 8 [.s 44],hs:=[39,40,41,42,43,47,48,49],ho:=[1],ws:=[2],bf:=[5]},{o:= .app 46 1 1 8 (.s 43) (.s 45),hs:=[47,48,49],ws:=[1],bf:=(.range 7)},Zf [39,40,41,42,43,44,45,46,48] [1,2] (mS 47 5),Zf [39,40,41,42,43,44,45,46,47] [1,2] (mS 48 8),Zg [39,40,41,42,43,44,45,46] [1,2] [8,9] (.slc 49 1 (.s 47) (some (.s 48)) none none),{o:= .app 50 0 1 8 (.s 46) (.s 49),ws:=[0,1],bf:=(.range 11)},Ze (.range 12) (mS 5 50)] [0,1,5,6]))))))
(pr [mS 14 6,bC 15 .add 14 1,mS 6 15] [0,1,5,6]))))))
(Zs [mS 51 5,mS 4 51] [4] .ret))))
set_option maxHeartbeats 1000000 in
theorem Cg0(l:List Int)(d:Int)(hl:l.length≤1073741824):Ctr Tryz.prog N6z [aL 1 (l.map encI),aI d] [rL 1 ((Kw l d).map encI)]:=by
 refine cA Mgn 3 52 [(.tmp 4,[true])] Tryz.func248 rfl rfl ?_;unfold Mgn
 intro hb
 clear hb
 rw[←Kbl]
 simp only[go_sem]
 refine K5 l (fun k=>[(5,.val false [.ref 0 0 1 0 (ordS (l.take k) d).length]),(6,vI k)]) (fun k=>[(0,⟨0,.row true 1 ((ordS (l.take k) d).map encI)⟩)]) (fun _=>True) (by simp only[roomB];omega) ?_
 simp only[go_sem]
 refine⟨?_,trivial,?_,?_⟩
 ·simp only[go_sem,List.take_zero]
  exact⟨rfl,rfl⟩
 ·intro i y hx _ h0 h1 hw
  have hi:=Kg hx
  have hol:(ordS (l.take i) d).length≤l.length:=by
   rw[Kbl]
   exact Nat.le_trans (K51 _ _) (by rw[List.length_take];omega)
  have hsr:Srt.srt (ordB d) (ordS (l.take i) d):=by
   have:=(K5c (d:=d) (l.take i) [] List.Pairwise.nil).1
   exact this.imp fun {a b} h=>(swoB d).asy a b h
  have hst:=ordS_snoc (d:=d) hx
  rw[hst]
  generalize ordS (l.take i) d=out at*
  clear hst
  simp only[go_sem,K4 hx,h0,h1]
  apply K0 (C3f out y)
  simp only[go_sem,hw]
  refine⟨fun hc=>?_,fun hc=>?_⟩
  ·have e:addO d out y=out:=by unfold addO;rw[if_pos hc]
   rw[e]
   exact⟨rfl,rfl⟩
  ·have e:addO d out y=Srt.ins (ordB d) y out:=by unfold addO;rw[if_neg (by rw[hc];simp)]
   rw[e]
   refine Kj (fun n:Nat=>[(8,vI n)]) (fun n=>[]) (fun n=>n≤out.length∧∀z∈out.drop n,ordB d y z=true) (fun n=>n) out.length ?_
   simp only[go_sem]
   refine⟨?_,⟨Nat.le_refl _,by simp⟩,?_⟩
   ·simp only[go_sem]
   ·rintro n ⟨hn1,hn2⟩
    simp only[go_sem]
    refine⟨fun hpos=>?_,fun hzero=>?_⟩
    ·obtain⟨m,hm⟩:∃m,m=n-1:=⟨_,rfl⟩
     obtain⟨z,hz⟩:=Kb (show m<out.length by omega)
     have e1:IntKind.i64.wrap ((n:Int)-1)=(m:Int):=by rw[wI (by omega) (by omega)];omega
     rw[e1]
     simp only[go_sem,K4 hz]
     refine⟨⟨by omega,by omega⟩,?_⟩
     apply K0 (Cnw d y z)
     simp only[go_sem]
     rw[e1]
     refine⟨fun ht=>⟨m,rfl,⟨by omega,?_⟩,by omega⟩,fun hf=>?_⟩
     ·rw[hm]
      exact Srt.drop_step (by omega) (hm▸hz) hn2 ht
     ·have hstop:n=0∨∃y',out[n-1]? =some y'∧ordB d y y'=false:= .inr ⟨z,hm▸hz,hf⟩
      rw[cutA hn1]
      refine⟨by omega,by omega,?_⟩
      have hA:(out.take n).length=n:=by rw[List.length_take];omega
      have hB:out.length=n+(out.drop n).length:=by rw[List.length_drop];omega
      have eC:=cutB (f:=encI) hn1
      have e5:List.map encI (out.take n)++[[T.sc (Value.int IntKind.i64 y)]]=(out.take n++[y]).map encI:=by simp[encI]
      have e6:((out.take n++[y]).map encI).length=(out.take n).length+1:=by simp
      simp only[go_sem,↓Ko (f:=encI) (fun _=>rfl) (out.take n),↓eC,↓e5,↓e6,↓Ko (f:=encI) (fun _=>rfl) (out.drop n)]
      rw[Srt.ins_at (swoB d) hsr hn2 hstop]
      simp only[roomB]
      exact⟨by omega,by omega,by omega,⟨by omega,by omega,by omega⟩,by omega,by omega,⟨by simp only[List.length_append,List.length_cons,List.length_nil],hw⟩,by rw[←List.map_append]⟩
    ·have hstop:n=0∨∃y',out[n-1]? =some y'∧ordB d y y'=false:= .inl (by omega)
     rw[cutA hn1]
     refine⟨by omega,by omega,?_⟩
     have hA:(out.take n).length=n:=by rw[List.length_take];omega
     have hB:out.length=n+(out.drop n).length:=by rw[List.length_drop];omega
     have eC:=cutB (f:=encI) hn1
     have e5:List.map encI (out.take n)++[[T.sc (Value.int IntKind.i64 y)]]=(out.take n++[y]).map encI:=by simp[encI]
     have e6:((out.take n++[y]).map encI).length=(out.take n).length+1:=by simp
     simp only[go_sem,↓Ko (f:=encI) (fun _=>rfl) (out.take n),↓eC,↓e5,↓e6,↓Ko (f:=encI) (fun _=>rfl) (out.drop n)]
     rw[Srt.ins_at (swoB d) hsr hn2 hstop]
     simp only[roomB]
     exact⟨by omega,by omega,by omega,⟨by omega,by omega,by omega⟩,by omega,by omega,⟨by simp only[List.length_append,List.length_cons,List.length_nil],hw⟩,by rw[←List.map_append]⟩
 ·intro _
  simp only[go_sem,List.take_length]
theorem Kdi{l:List Int}{d:Int}{k:Int}{n:Nat}(h:(n:Int)=min (max k 0) (Kw l d).length):placedL l d k=(Kw l d).take n:=by
 unfold placedL
 by_cases hk:k.toNat≤(Kw l d).length
 ·congr 1;omega
 ·rw[List.take_of_length_le (by omega),List.take_of_length_le (by omega)]
def M9e:MC:=
(Zs [.nilo 6 0 1] [0,1,2] (Zs [mS 8 0,mS 9 1,.call 10 [0] (.f N6r) [.s 8,.s 9],mS 7 10] [2,7] (Zs [mS 11 7,mS 12 2,.mm 13 true (.s 12) (ci 0),mS 14 7,nS 15 14,.mm 16 false (.s 13) (.s 15),.slc 17 1 (.s 11) none (some (.s 16)) none,mS 6 17] [6] (.trim 6 .ret))))
theorem Ckv(l:List Int)(d k:Int)(hl:l.length≤1073741824):Ctr Tryz.prog Na7 [aL 1 (l.map encI),aI d,aI k] [rL 1 ((placedL l d k).map encI)]:=by
 refine cA M9e 1 18 [(.tmp 6,[true])] Tryz.func163 rfl rfl ?_;unfold M9e
 intro hb
 clear hb
 have hol:=K51 l d
 simp only[go_sem]
 apply K0 (Cfw l d hl)
 simp only[go_sem]
 intros
 generalize hX:(if ((Kw l d).length:Int)<(if (0:Int)>k then 0 else k)then((Kw l d).length:Int)else(if (0:Int)>k then 0 else k))=X
 have hX2:0≤X∧X≤(Kw l d).length∧(X.toNat:Int)=min (max k 0) (Kw l d).length:=by
  rw[←hX]
  repeat' split
  all_goals omega
 rw[Kdi hX2.2.2]
 have e:(X-0).toNat=X.toNat:=by omega
 exact⟨⟨by omega,by omega,by omega⟩,by omega,by rw[List.length_take,List.length_map];omega,by rw[e,List.map_take]⟩
def M9y:MC:=
(Zs [.nilo 6 0 1] [0,1,2] (Zs [mS 8 0,mS 9 1,.call 10 [1] (.f N6z) [.s 8,.s 9],mS 7 10] [2,7] (Zs [.lit 11 0 1 8 [],mS 12 7,mS 13 2,mS 14 7,nS 15 14,.call 16 [] (.f N6y) [.s 13,.s 15],.call 17 [] (.f Nj1) [.c (.int .i64 0),.s 16],.slc 18 1 (.s 12) none (some (.s 17)) none,.app 19 0 1 8 (.s 11) (.s 18),mS 6 19] [6] .ret)))
theorem Clc(l:List Int)(d k:Int)(hl:l.length≤1073741824):Ctr Tryz.prog Nak [aL 1 (l.map encI),aI d,aI k] [rL 1 ((placedL l d k).map encI)]:=by
 refine cA M9y 2 20 [(.tmp 6,[true])] Tryz.func142 rfl rfl ?_;unfold M9y
 intro hb
 clear hb
 have hol:=K51 l d
 simp only[go_sem]
 apply K0 (Cg0 l d hl)
 simp only[go_sem]
 intros
 apply K0 (Cdj k _)
 simp only[go_sem]
 intros
 apply K0 (Co8 0 _)
 simp only[go_sem]
 intros
 generalize hX:(if (if ((Kw l d).length:Int)<k then((Kw l d).length:Int)else k)>0 then(if ((Kw l d).length:Int)<k then((Kw l d).length:Int)else k)else 0)=X
 have hX2:0≤X∧X≤(Kw l d).length∧(X.toNat:Int)=min (max k 0) (Kw l d).length:=by
  rw[←hX]
  repeat' split
  all_goals omega
 rw[Kdi hX2.2.2]
 obtain⟨m,rfl⟩:=Int.eq_ofNat_of_zero_le hX2.1
 have hm:m≤(Kw l d).length:=by omega
 rw[K8h (f:=encI) hm,Int.toNat_natCast]
 have hmt:((Kw l d).take m).length=m:=by rw[List.length_take];omega
 simp only[go_sem,↓Ko (f:=encI) (fun _=>rfl) ((Kw l d).take m),List.length_map,hmt]
 exact⟨⟨by omega,by omega,by omega⟩,by omega,by simp only[roomB];omega⟩
end Go.Proofs.YtjneccbpkckdfaaGreatR
namespace Go.Proofs
open Go.Shelf
def Tryz.laysNm221_ren:Go.Shelf.Ren:=⟨fun|21=>265|27=>342|28=>343|35=>381|39=>394|n=>n,fun|22=>30|3=>3|4=>4|0=>0|n=>n,fun|n=>n⟩
theorem Tryz.laysNm221:Go.Proofs.Lays2.n21 Tryz.prog Tryz.laysNm221_ren:={
 mixed:=by kernel_rfl
 f21:=Tryz.func265.trans (congrArg some (by kernel_rfl))
 f27:=Tryz.func342.trans (congrArg some (by kernel_rfl))
 f28:=Tryz.func343.trans (congrArg some (by kernel_rfl))
 f35:=Tryz.func381.trans (congrArg some (by kernel_rfl))
 f39:=Tryz.func394.trans (congrArg some (by kernel_rfl))
 t0:=Tryz.underlying0
 a0:=Tryz.isAgg0
 z0:=Tryz.sizeOf0
 v0:=Tryz.zeroValue0
 t3:=Tryz.underlying3
 a3:=Tryz.isAgg3
 z3:=Tryz.sizeOf3
 v3:=Tryz.zeroValue3
 t4:=Tryz.underlying4
 a4:=Tryz.isAgg4
 z4:=Tryz.sizeOf4
 v4:=Tryz.zeroValue4
 t22:=Tryz.underlying30
 a22:=Tryz.isAgg30
 z22:=Tryz.sizeOf30
 v22:=Tryz.zeroValue30
 i3:=by kernel_rfl}
end Go.Proofs
namespace Go.Proofs.YtjneccbpkckdfaaGreatR
open Go Go.RowKit Go.Proofs
open Nat (reduceEqDiff reduceLT reduceLeDiff reduceAdd reduceMul)
open List (reduceReplicate)
theorem argsI_ins{w:World}{X:Nat→Prop}{es es':List (List T)}{k:Int}{vs:List Value}{G:List Nat}(h:ResVs w X [oL 1 es,iI k,oL 1 es'] vs G):∃v u G1 G2,vs=[v,.int .i64 k,u]∧Ow w (.sl 1 es) v G1∧Ow w (.sl 1 es') u G2∧G=G1++G2:=by
 match vs,h with
 | [v,i,u],⟨Ga,Gb,h1,⟨Gc,Gd,h2,⟨Ge,Gf,h3,h4,e3⟩,e2⟩,e1⟩=>
  obtain⟨_,G1,G2,k1,k2,e4⟩:=h1
  obtain⟨_,k3,k4⟩:=h2
  obtain⟨_,G3,G4,k5,k6,e5⟩:=h3
  simp only[ResVs]at h4
  simp only[ResC]at k2 k4 k6
  simp only[Rd]at k3
  obtain⟨rfl,_⟩:=k3
  subst h4 k2 k4 k6 e4 e5 e3 e2 e1
  exact⟨v,u,G1,G3,rfl,k1,k5,by simp⟩
 | [],h=>exact h.elim
 | [_],⟨_,_,_,h,_⟩=>exact h.elim
 | [_,_],⟨_,_,_,⟨_,_,_,h,_⟩,_⟩=>exact h.elim
 |_::_::_::_::_,⟨_,_,_,⟨_,_,_,⟨_,_,_,h,_⟩,_⟩,_⟩=>exact h.elim
theorem K1y{b:Nat}{ty:TypeId}{fz:Nat×Nat}:∀(vs:List Value) (o:Nat) (w:World) (row:Array Value),w.heap[b]? =some (.cells row ty fz)→∃row',(w.setCells b o vs).heap[b]? =some (.cells row' ty fz)∧row'.size=row.size
 | [],_,_,row,h=>⟨row,h,rfl⟩
 |v::r,o,w,row,h=>by
  have hw:(w.setCell ⟨b,o,none⟩ v).heap[b]? =some (.cells (row.setIfInBounds o v) ty fz):=by simp[World.setCell,Array.getElem?_modify,h]
  obtain⟨row',h1,h2⟩:=K1y r (o+1) (w.setCell ⟨b,o,none⟩ v) (row.setIfInBounds o v) hw
  exact⟨row',h1,h2.trans (by simp)⟩
theorem K68{B:Nat→Prop}{b:Nat}(hb:¬B b):∀(vs:List Value) (o:Nat) (w:World),Bel B w (w.setCells b o vs)
 | [],_,w=>Bel.refl _ _
 |v::r,o,w=>by
  refine Bel.trans (b:=w.setCell ⟨b,o,none⟩ v) ⟨rfl,rfl,rfl,by simp[World.setCell],fun k hk=>?_⟩ (K68 hb r (o+1) _)
  have hne:k≠b:=fun e=>hb (e▸hk)
  simp[World.setCell,Array.getElem?_modify,Ne.symm hne]
theorem ow_ints{w:World}{b off cap:Nat}{zs:List Int}{row:Array Value}{ty:TypeId}(hh:w.heap[b]? =some (.cells row ty (0,0)))(hc:off+cap≤row.size)(hln:Ln zs.length cap)
  (hz:∀(j:Nat) (x:Int),zs[j]? =some x→w.cell? ⟨b,off+j,none⟩=some (.int .i64 x)∧oneW (.int .i64 x)=true):Ow w (.sl 1 (zs.map encI)) (.slice (some ⟨b,off,none⟩) zs.length cap) [b]:=by
 unfold Ow
 exact⟨some ⟨b,off,none⟩,cap,by rw[List.length_map],by rw[List.length_map];exact hln,.inr ⟨b,off,row,ty,[],rfl,hh,by simpa using hc,owRow_int' hz,rfl⟩⟩
theorem at_mid{α:Type}{A B:List α}{x:α}{k j:Nat}{y:α}(hA:A.length=k)(h:(A++[x]++B)[j]? =some y):(j<k∧A[j]? =some y)∨(j=k∧y=x)∨(k<j∧B[j-(k+1)]? =some y):=by
 subst hA
 rw[List.append_assoc]at h
 by_cases h1:j<A.length
 ·rw[List.getElem?_append_left h1]at h;exact .inl ⟨h1,h⟩
 ·rw[List.getElem?_append_right (by omega)]at h
  by_cases h2:j=A.length
  ·subst h2
   simp at h
   exact .inr (.inl ⟨rfl,h.symm⟩)
  ·rw[List.getElem?_append_right (by simp;omega)]at h
   refine .inr (.inr ⟨by omega,?_⟩)
   rw[←h];simp only[List.length_cons,List.length_nil];congr 1
theorem ins_len{α:Type}{zs:List α}{x:α}{k:Nat}(hk:k≤zs.length):(zs.take k++[x]++zs.drop k).length=zs.length+1:=by
 rw[List.length_append,List.length_append,List.length_take,List.length_drop,List.length_cons,List.length_nil]
 omega
theorem C78(zs:List Int)(k:Nat)(x:Int)(hk:k≤zs.length)(hl:zs.length≤1073741824):CtrI Tryz.prog N4r [oL 1 (zs.map encI),iI k,oL 1 ([x].map encI)] [none,none] [rL 1 ((zs.take k++[x]++zs.drop k).map encI)]:=by
 refine⟨⟨Tryz.f265,Tryz.func265,by kernel_rfl,by kernel_rfl⟩,fun w X vs G ht h hG hGb=>?_⟩
 obtain⟨v,u,G1,G2,rfl,hv,hu,rfl⟩:=argsI_ins h
 unfold Ow at hv hu
 obtain⟨A,cap,rfl,hln,hv⟩:=hv
 obtain⟨A2,vc,rfl,hln2,hu⟩:=hu
 rw[List.length_map]at hln ⊢
 simp only[List.length_map,List.length_cons,List.length_nil,Nat.zero_add]at hln2 ⊢
 rcases hu with ⟨_,h0,_⟩|⟨vb,voff,rowv,tyv,Gv,rfl,hhv,hcv,hrv,rfl⟩
 ·simp at h0
 obtain⟨rfl,hzv⟩:=K5o hrv
 have hx1:=hzv 0 x rfl
 rw[Nat.add_zero]at hx1
 have hvbs:vb<w.heap.size:=(hGb vb (by simp)).1
 have hvs:∀(j:Nat) (v:Value),[Value.int .i64 x][j]? =some v→w.cell? ⟨vb,voff+j,none⟩=some v:=fun j v hj=>by
  cases j with
  |zero=>simp only[List.getElem?_cons_zero,Option.some.injEq]at hj;rw[←hj];exact hx1.1
  |succ j=>simp at hj
 have h1v:∀v∈[Value.int .i64 x],v.oneCell'=true:=fun v hv=>by rw[List.mem_singleton.1 hv];rfl
 have hlen:=ins_len (x:=x) hk
 have hcapB:cap≤9223372036854775807:=hln.2.2
 have fin:∀(w':World) (b2 off2 c2:Nat) (row:Array Value) (ty:TypeId),Bel (fun b'=>b'<w.heap.size∧b'∉G1++[vb]) w w'→(b2∈G1∨w.heap.size≤b2)→w'.heap[b2]? =some (.cells row ty (0,0))→off2+c2≤row.size→zs.length+1≤c2→c2≤9223372036854775807→
   (∀(j:Nat) (y:Int),j<k→zs[j]? =some y→w'.cell? ⟨b2,off2+j,none⟩=some (.int .i64 y))→w'.cell? ⟨b2,off2+k,none⟩=some (.int .i64 x)→
   (∀(j:Nat) (y:Int),(zs.drop k)[j]? =some y→w'.cell? ⟨b2,off2+(k+1)+j,none⟩=some (.int .i64 y))→(∀y∈zs,oneW (.int .i64 y)=true)→
   Bel (fun b'=>b'<w.heap.size∧b'∉G1++[vb]) w w'∧∃us Ga Gb,(Value.slice (some ⟨b2,off2,none⟩) (zs.length+1) c2)=tupV us∧OwOut w' [none,none] (K34 [oL 1 (zs.map encI),iI k,oL 1 ([x].map encI)] [.slice A zs.length cap,.int .i64 k,.slice (some ⟨vb,voff,none⟩) 1 vc]) Ga∧
    ResVs w' (fun b=>(b<w.heap.size→X b∨b∈G1++[vb])∧b∉Ga++Gb) [rL 1 ((zs.take k++[x]++zs.drop k).map encI)] us Gb∧(Ga++Gb).Nodup∧∀b∈Ga++Gb,(b∈G1++[vb]∨w.heap.size≤b)∧b<w'.heap.size:=by
  intro w' b2 off2 c2 row ty hB hb2 hh hc hcl hcb q1 q2 q3 q4
  have hO:=ow_ints hh hc (zs:=zs.take k++[x]++zs.drop k) ⟨by omega,by simp only[roomB];omega,hcb⟩ (fun j y hj=>by
   rcases at_mid (A:=zs.take k) (k:=k) (by simp;omega) hj with ⟨h1,h2⟩|⟨rfl,rfl⟩|⟨h1,h2⟩
   ·rw[List.getElem?_take,if_pos h1]at h2
    exact⟨q1 j y h1 h2,q4 y (Km h2)⟩
   ·exact⟨q2,hx1.2⟩
   ·have:=q3 _ y h2
    rw[show off2+(k+1)+(j-(k+1))=off2+j by omega]at this
    rw[List.getElem?_drop]at h2
    exact⟨this,q4 y (Km h2)⟩)
  rw[hlen]at hO
  refine⟨hB,[_],[],[b2],rfl,rfl,⟨[b2],[],⟨⟨_,rfl⟩,[b2],[],hO,rfl,rfl⟩,rfl,rfl⟩,by simp,fun b' hb'=>?_⟩
  obtain rfl:b'=b2:=by simpa using hb'
  exact⟨hb2.imp (fun h=>by simp[h]) id,K29 hh⟩
 rcases hv with ⟨rfl,hz0,rfl⟩|⟨b,off,row,ty,Gz,rfl,hh,hc,hrow,rfl⟩
 ·obtain rfl:zs=[]:=by simpa using hz0
  obtain rfl:k=0:=by simpa using hk
  refine(Any2.slices_Insert_int_end_grow Tryz.laysNm221 A 0 0 vb voff 1 vc [] [.int .i64 x] w (by omega) (by omega) (by omega) (by omega) rfl rfl (fun _=>rfl) (fun a _ j v hj=>by simp at hj) hvs h1v).mono ?_
  rintro e w' ⟨rfl,rfl⟩
  refine fin _ _ _ _ _ _ ⟨rfl,rfl,rfl,by simp,fun b' hb'=>?_⟩ (.inr (Nat.le_refl _)) (heap_alloc_new w.drew _) ?_ (grownCap_ge w _ _ _) ?_ (fun j y hj _=>by omega) ?_ (fun j y hj=>by simp at hj) (by simp)
  ·exact Below.heap_alloc w.drew _ b' hb'.1
  ·have:=grownCap_ge w (0+1) 0 (Tryz.laysNm221_ren.t 3)
   simp[Builtin.zeroCells,Value.cells]
   omega
  ·have:=grownCap_le_maxLen w (0+1) 0 (Tryz.laysNm221_ren.t 3) (by unfold maxLen;omega)
   unfold maxLen at this
   omega
  ·rw[World.cell?_alloc_at (w:=w.drew) _ _ w.heap.size (0+0) rfl,Array.getElem?_append_left (by simp)]
   simp
 ·obtain⟨rfl,hz⟩:=K5o hrow
  have hbs:b<w.heap.size:=(hGb b (by simp)).1
  have hvb:vb≠b:=by
   have:=hG
   simp at this
   exact fun e=>this e.symm
  have hcz:off+cap≤row.size:=by simpa using hc
  have hzw:∀y∈zs,oneW (.int .i64 y)=true:=fun y hy=>by
   obtain⟨j,hj⟩:=List.getElem?_of_mem hy
   exact(hz j y hj).2
  have hcl:(zs.map (Value.int .i64)).length=zs.length:=by simp
  have hcs:∀(j:Nat) (v:Value),(zs.map (Value.int .i64))[j]? =some v→w.cell? ⟨b,off+j,none⟩=some v:=fun j v hj=>by
   rw[List.getElem?_map]at hj
   obtain⟨y,hy,rfl⟩:=Option.map_eq_some_iff.1 hj
   exact(hz j y hy).1
  have h1c:∀v∈zs.map (Value.int .i64),v.oneCell'=true:=fun v hv=>by
   obtain⟨y,_,rfl⟩:=List.mem_map.1 hv
   rfl
  have hsome:∀j,j<cap→(w.cell? ⟨b,off+j,none⟩).isSome=true:=fun j hj=>by
   have:off+j<row.size:=by omega
   simp[World.cell?,hh,this]
  have hfz:∀j,w.frozen? ⟨b,j,none⟩=false:=fun j=>by simp[World.frozen?,hh]
  have hB0:∀(o:Nat) (us:List Value) (w1:World),Bel (fun b'=>b'<w.heap.size∧b'∉[b]++[vb]) w1 (w1.setCells b o us):=fun o us w1=>K68 (by simp) us o w1
  by_cases hkn:k=zs.length
  ·subst hkn
   by_cases hroom:zs.length+1≤cap
   ·refine(Any2.slices_Insert_int_end_room Tryz.laysNm221 b off zs.length cap vb voff 1 vc [.int .i64 x] w (by omega) hroom hcapB rfl (fun j hj=>by rw[Nat.add_assoc];exact hsome _ (by omega)) (fun j hj=>hfz _) hvs h1v).mono ?_
    rintro e w' ⟨rfl,rfl⟩
    obtain⟨row',hr1,hr2⟩:=K1y [Value.int .i64 x] (off+zs.length) w row hh
    refine fin _ _ _ _ _ _ (hB0 _ _ _) (.inl (by simp)) hr1 (by omega) hroom hcapB (fun j y hj hy=>?_) ?_ (fun j y hj=>by simp at hj) hzw
    ·rw[World.cell?_setCells_out b _ _ w _ (fun _ _=>by left;show off+j<off+zs.length;omega)]
     exact(hz j y hy).1
    ·have:=World.cell?_setCells_in b [Value.int .i64 x] (off+zs.length) w (fun j hj=>by rw[Nat.add_assoc];exact hsome _ (by simp at hj;omega)) 0 (by simp)
     simpa using this
   ·have hce:cap=zs.length:=by have:=hln.1;omega
    refine(Any2.slices_Insert_int_end_grow Tryz.laysNm221 (some ⟨b,off,none⟩) zs.length cap vb voff 1 vc (zs.map (Value.int .i64)) [.int .i64 x] w (by omega) hln.1 (by omega) (by omega) hcl rfl (fun h=>by cases h) (fun a ha j v hj=>by
     obtain rfl:=Option.some.inj ha
     rw[Addr.add_lit];exact hcs j v hj) hvs h1v).mono ?_
    rintro e w' ⟨rfl,rfl⟩
    have hsz2:∀j,j<zs.length+1→((w.drew.alloc (.cells ((zs.map (Value.int .i64)++[Value.int .i64 x]).toArray++Builtin.zeroCells (Value.int .i64 0).cells (grownCap w (zs.length+1) cap (Tryz.laysNm221_ren.t 3)-(zs.length+1))) (Tryz.laysNm221_ren.t 3))).cell? ⟨w.heap.size,0+j,none⟩)=(zs.map (Value.int .i64)++[Value.int .i64 x])[j]? :=fun j hj=>by
     rw[World.cell?_alloc_at (w:=w.drew) _ _ w.heap.size (0+j) rfl,Array.getElem?_append_left (by simp;omega)]
     simp
    refine fin _ _ _ _ _ _ ⟨rfl,rfl,rfl,by simp,fun b' hb'=>?_⟩ (.inr (Nat.le_refl _)) (heap_alloc_new w.drew _) ?_ (grownCap_ge w _ _ _) ?_ (fun j y hj hy=>?_) ?_ (fun j y hj=>by simp at hj) hzw
    ·exact Below.heap_alloc w.drew _ b' hb'.1
    ·have:=grownCap_ge w (zs.length+1) cap (Tryz.laysNm221_ren.t 3)
     simp[Builtin.zeroCells,Value.cells]
     omega
    ·have:=grownCap_le_maxLen w (zs.length+1) cap (Tryz.laysNm221_ren.t 3) (by unfold maxLen;omega)
     unfold maxLen at this
     omega
    ·rw[hsz2 j (by omega),List.getElem?_append_left (by simp;omega),List.getElem?_map,hy];rfl
    ·rw[hsz2 _ (by omega),List.getElem?_append_right (by simp)]
     simp
  ·have hkl:k<zs.length:=by omega
   have hdl:((zs.map (Value.int .i64)).drop k).length=zs.length-k:=by simp
   by_cases hroom:zs.length+1≤cap
   ·refine(Any2.slices_Insert_int_shift Tryz.laysNm221 b off zs.length cap k vb voff 1 vc (zs.map (Value.int .i64)) [.int .i64 x] w hkl (by omega) hroom hcapB hvb hcl rfl hcs (fun j hj=>hsome j (by omega)) (fun j hj=>hfz _) hvs h1c h1v tyv ty rowv.size row.size (by simp[World.shape?,hhv]) (by simp[World.shape?,hh]) (by omega) (by simp[World.frozen?,hhv]) (by simp[World.frozen?,hhv])).mono ?_
    rintro e w' ⟨rfl,rfl⟩
    obtain⟨row',hr1,hr2⟩:=K1y ((zs.map (Value.int .i64)).drop k) (off+(k+1)) w.drew row hh
    obtain⟨row2,hr3,hr4⟩:=K1y [Value.int .i64 x] (off+k) _ row' hr1
    have hs2:∀j,j<cap→((w.drew.setCells b (off+(k+1)) ((zs.map (Value.int .i64)).drop k)).cell? ⟨b,off+j,none⟩).isSome=true:=fun j hj=>by
     have:off+j<row'.size:=by omega
     simp[World.cell?,hr1,this]
    refine fin _ _ _ _ _ _ ((Bel.drew (Bel.refl _ w)).trans ((hB0 _ _ _).trans (hB0 _ _ _))) (.inl (by simp)) hr3 (by omega) hroom hcapB (fun j y hj hy=>?_) ?_ (fun j y hj=>?_) hzw
    ·rw[World.cell?_setCells_out b _ _ _ _ (fun _ _=>by left;show off+j<off+k;omega),World.cell?_setCells_out b _ _ _ _ (fun _ _=>by left;show off+j<off+(k+1);omega)]
     exact(hz j y hy).1
    ·have:=World.cell?_setCells_in b [Value.int .i64 x] (off+k) (w.drew.setCells b (off+(k+1)) ((zs.map (Value.int .i64)).drop k)) (fun j hj=>by rw[Nat.add_assoc];exact hs2 _ (by simp at hj;omega)) 0 (by simp)
     simpa using this
    ·have hjl:=Kg hj
     rw[List.length_drop]at hjl
     rw[World.cell?_setCells_out b _ _ _ _ (fun _ _=>by right;show off+k+1≤off+(k+1)+j;omega)]
     have:=World.cell?_setCells_in b ((zs.map (Value.int .i64)).drop k) (off+(k+1)) w.drew (fun j hj=>by
      rw[hdl]at hj
      have:=hsome (k+1+j) (by omega)
      rw[Nat.add_assoc];exact this) j (by rw[hdl];omega)
     rw[this]
     rw[List.getElem?_drop]at hj
     obtain⟨hj1,hj2⟩:=List.getElem?_eq_some_iff.1 hj
     simp[←hj2]
   ·refine(Any2.slices_Insert_int_grow Tryz.laysNm221 b off zs.length cap k vb voff 1 vc (zs.map (Value.int .i64)) [.int .i64 x] w hkl (by omega) hln.1 (by omega) (by omega) hcl rfl hcs hvs h1c h1v).mono ?_
    rintro e w' ⟨rfl,rfl⟩
    obtain⟨g,hg⟩:∃g,g=grownCap w (zs.length+1) cap (Tryz.laysNm221_ren.t 3):=⟨_,rfl⟩
    have hg1:zs.length+1≤g:=hg▸grownCap_ge w _ _ _
    have hg2:g≤9223372036854775807:=by
     have:=grownCap_le_maxLen w (zs.length+1) cap (Tryz.laysNm221_ren.t 3) (by unfold maxLen;omega)
     unfold maxLen at this
     omega
    rw[←hg]
    obtain⟨ROW,hROW⟩:∃ROW:Array Value,ROW=((zs.map (Value.int .i64)).take k).toArray++Builtin.zeroCells (Value.int .i64 0).cells (zs.length+1-k)++Builtin.zeroCells (Value.int .i64 0).cells (g-(zs.length+1)):=⟨_,rfl⟩
    rw[←hROW]
    have hRs:ROW.size=g:=by
     rw[hROW]
     simp[Builtin.zeroCells,Value.cells]
     omega
    obtain⟨w1,hw1⟩:∃w1,w1=(w.alloc (.cells ROW (Tryz.laysNm221_ren.t 3))).drew:=⟨_,rfl⟩
    have hh1:w1.heap[w.heap.size]? =some (.cells ROW (Tryz.laysNm221_ren.t 3) (0,0)):=by rw[hw1];exact heap_alloc_new w _
    have hc1:∀j,w1.cell? ⟨w.heap.size,j,none⟩=ROW[j]? :=fun j=>by simp[World.cell?,hh1]
    rw[←hw1]
    obtain⟨row',hr1,hr2⟩:=K1y [Value.int .i64 x] k w1 ROW hh1
    obtain⟨w2,hw2⟩:∃w2,w2=(w1.setCells w.heap.size k [Value.int .i64 x]).drew:=⟨_,rfl⟩
    rw[←hw2]
    have hh2:w2.heap[w.heap.size]? =some (.cells row' (Tryz.laysNm221_ren.t 3) (0,0)):=by rw[hw2];exact hr1
    obtain⟨row2,hr3,hr4⟩:=K1y ((zs.map (Value.int .i64)).drop k) (k+1) w2 row' hh2
    have hBs:∀(o:Nat) (us:List Value) (w3:World),Bel (fun b'=>b'<w.heap.size∧b'∉[b]++[vb]) w3 (w3.setCells w.heap.size o us):=fun o us w3=>K68 (fun h=>by have:=h.1;omega) us o w3
    have hB1:Bel (fun b'=>b'<w.heap.size∧b'∉[b]++[vb]) w w1:=by
     rw[hw1]
     exact((Bel.refl _ w).alloc (fun _ h=>h.1) _).drew
    have hB2:Bel (fun b'=>b'<w.heap.size∧b'∉[b]++[vb]) w w2:=by
     rw[hw2]
     exact(hB1.trans (hBs _ _ _)).drew
    refine fin _ _ _ _ _ _ (hB2.trans (hBs _ _ _)) (.inr (Nat.le_refl _)) hr3 (by omega) hg1 hg2 (fun j y hj hy=>?_) ?_ (fun j y hj=>?_) hzw
    ·rw[World.cell?_setCells_out _ _ _ _ _ (fun _ _=>by left;show 0+j<k+1;omega)]
     have e:w2.cell? ⟨w.heap.size,0+j,none⟩=(w1.setCells w.heap.size k [Value.int .i64 x]).cell? ⟨w.heap.size,0+j,none⟩:=by rw[hw2];rfl
     rw[e,World.cell?_setCells_out _ _ _ _ _ (fun _ _=>by left;show 0+j<k;omega),hc1,hROW,Nat.zero_add]
     have hjt:j<(List.take k (zs.map (Value.int .i64))).length:=by simp;omega
     rw[Array.append_assoc,Array.getElem?_append_left (by simpa using hjt)]
     simp[hj,hy]
    ·rw[World.cell?_setCells_out _ _ _ _ _ (fun _ _=>by left;show 0+k<k+1;omega)]
     have e:w2.cell? ⟨w.heap.size,0+k,none⟩=(w1.setCells w.heap.size k [Value.int .i64 x]).cell? ⟨w.heap.size,0+k,none⟩:=by rw[hw2];rfl
     rw[e]
     have:=World.cell?_setCells_in w.heap.size [Value.int .i64 x] k w1 (fun j hj=>by rw[hc1];simp at hj;rw[Array.getElem?_eq_getElem (by omega)];rfl) 0 (by simp)
     simpa using this
    ·have hjl:=Kg hj
     rw[List.length_drop]at hjl
     have:=World.cell?_setCells_in w.heap.size ((zs.map (Value.int .i64)).drop k) (k+1) w2 (fun j hj=>by
      rw[hdl]at hj
      have h1:k+1+j<row'.size:=by omega
      simp[World.cell?,hh2,h1]) j (by rw[hdl];omega)
     rw[Nat.zero_add,this]
     rw[List.getElem?_drop]at hj
     obtain⟨hj1,hj2⟩:=List.getElem?_eq_some_iff.1 hj
     simp[←hj2]
def Mbm:MC:=
(Zs [.nilo 4 0 1] [0,1] (Zs [.mv 5 (ci 0)] [0,1,5] (.seq (.block 0 (.loop ([0,1,5],[0,1,2]) (.seq (.seq (.reg [Za (mS 6 5),Za (mS 7 0),Za (nS 8 7),Za (bS 9 .lss 6 8),Za (mS 10 9),Zb 10 true (mS 11 0),Zb 10 true (mS 12 5),Zb 10 true (xS 13 1 11 12),Zb 10 true (lF 14 1 13),Zb 10 true (mS 15 1),Zb 10 true (bS 16 .lss 14 15),Za (.pick 17 (.s 10) (.s 16) cF)] [0,1,5,17])
(cX 17 0))
(.block 1 (pr [mS 18 5,bC 19 .add 18 1,mS 5 19] [0,1,5])))))
(.seq (.seq (.reg [Za (mS 20 5),Za (mS 21 0),Za (nS 22 21),Za (bS 23 .lss 20 22),Za (mS 24 23),Zb 24 true (mS 25 0),Zb 24 true (mS 26 5),Zb 24 true (xS 27 1 25 26),Zb 24 true (lF 28 1 27),Zb 24 true (mS 29 1),Zb 24 true (bS 30 .eql 28 29),Za (.pick 31 (.s 24) (.s 30) cF)] [0,1,5,31])
(.cond (.s 31) (Zs [mS 32 0,.call 33 [0] (.f N4) [.s 32],mS 4 33] [4] .ret) .skip))
(Zs [mS 34 0,.call 35 [1] (.f N4) [.s 34],mS 36 5,mS 37 1,.lit 38 2 1 8 [.s 37],.callI 39 [0] (.f N4r) [.s 35,.s 36,.s 38] [1,2] [],mS 4 39] [4] .ret)))))
theorem Cb3(l:List Int)(n:Int)(hs:l.length≤1073741824):Ctr Tryz.prog N4y [aL 1 (l.map encI),aI n] [rL 1 ((put l n).map encI)]:=by
 refine cA Mbm 3 40 [(.tmp 4,[true])] Tryz.func165 rfl rfl ?_;unfold Mbm
 intro hb
 clear hb
 simp only[go_sem]
 refine Kj (fun k:Nat=>[(5,vI k)]) (fun k=>[]) (fun k=>k≤l.length∧∀x∈l.take k,x<n) (fun k=>l.length-k) 0 ?_
 simp only[go_sem]
 refine⟨?_,⟨by omega,by simp⟩,?_⟩
 ·simp only[go_sem]
 ·rintro k ⟨hk,hlt⟩
  have hp:=K99 hlt
  by_cases hkl:k<l.length
  ·obtain⟨x,hx⟩:=Kb hkl
   have h1:(k:Int)<(l.length:Int):=by omega
   have h0:(0:Int)≤(k:Int):=by omega
   rw[Ki hx,put]at hp
   simp only[go_sem,h1,h0,K4 hx]
   refine⟨fun hxn=>?_,fun hxn=>?_⟩
   ·refine⟨k+1,by rw[wI (by omega) (by omega)];omega,⟨by omega,fun y hy=>?_⟩,by omega⟩
    rw[Kc hx]at hy
    rcases List.mem_append.1 hy with hy|hy
    ·exact hlt y hy
    ·rw[List.mem_singleton.1 hy];exact hxn
   ·rw[if_neg hxn]at hp
    refine⟨fun he=>?_,fun he=>?_⟩
    ·rw[if_pos (by simpa using he),←Ki hx,List.take_append_drop]at hp
     rw[hp]
     apply K0 (Ca l hs)
     simp only[go_sem]
    ·rw[if_neg (by simpa using he),←Ki hx]at hp
     rw[hp]
     apply K0 (Ca l hs)
     simp only[go_sem]
     try intros
     refine⟨by decide,?_⟩
     apply K7 (C78 l k n hk hs)
     simp only[go_sem]
     try simp
  ·have h1:¬(k:Int)<(l.length:Int):=by omega
   obtain rfl:k=l.length:=by omega
   rw[List.drop_length,List.take_length,put]at hp
   rw[hp]
   simp only[go_sem,h1]
   apply K0 (Ca l hs)
   simp only[go_sem]
   try intros
   refine⟨by decide,?_⟩
   apply K7 (C78 l l.length n (Nat.le_refl _) hs)
   simp only[go_sem]
   try simp
def K1k(chosen:List Int)(root:Int)(x:GLibrary):GLibrary:=if chosen.contains x.Id then {x with Digests:=put x.Digests root}else x
def tellL(chosen:List Int)(root:Int)(l:List GLibrary):List GLibrary:=l.map (K1k chosen root)
def K4k(d:GDisk):Int:=match d.Containers[d.Containers.length-1]? with
 |some y=>y.Root
 |none=>0
def ups(l:List GLibrary):List Int:=(l.filter fun x=>x.Up).map fun x=>x.Id
def K45(a:GArchive):List GLibrary:=if (Kq a.Disk).Containers.length=a.Disk.Containers.length then a.Libraries
 else tellL (placedL (ups a.Libraries) (K4k (Kq a.Disk)) 3) (K4k (Kq a.Disk)) a.Libraries
def K3j(a:GArchive):GArchive:=if K2e a.Disk then {a with Disk:=Kq a.Disk,Libraries:=K45 a}else a
theorem K93{chosen:List Int}{root:Int}:∀ {l:List GLibrary},((tellL chosen root l).map GLibrary.size).sum≤(l.map GLibrary.size).sum+l.length
 | []=>by simp[tellL]
 |x::l=>by
  have ih:=K93 (chosen:=chosen) (root:=root) (l:=l)
  have hx:(K1k chosen root x).size≤x.size+1:=by
   unfold K1k
   split
   ·simp only[GLibrary.size];exact Kbn
   ·omega
  simp only[tellL,List.map_cons,List.sum_cons,List.length_cons]at*
  omega
theorem wrote_size(a:GArchive):(K3j a).size≤3*a.size:=by
 unfold K3j
 split
 ·have h1:=K8v a.Disk
  have h2:(K45 a).length=a.Libraries.length∧((K45 a).map GLibrary.size).sum≤(a.Libraries.map GLibrary.size).sum+a.Libraries.length:=by
   unfold K45
   split
   ·exact⟨rfl,by omega⟩
   ·exact⟨by simp[tellL],K93⟩
  simp only[GArchive.size]at*
  omega
 ·omega
theorem Kbt(l:List GLibrary):(ups l).length≤l.length:=by
 unfold ups;rw[List.length_map];exact List.length_filter_le _ _
theorem Kcj{chosen:List Int}{root:Int}{l:List GLibrary}{k:Nat}{x:GLibrary}(h:l[k]? =some x):(((tellL chosen root (l.take k)).map GLibrary.enc++(l.drop k).map GLibrary.enc).set k (K1k chosen root x).enc)=(tellL chosen root (l.take (k+1))).map GLibrary.enc++(l.drop (k+1)).map GLibrary.enc:=by
 have hl:=Kg h
 rw[Ki h,Kc h,tellL,tellL,List.map_append,List.map_append,List.map_cons]
 rw[List.set_append_right _ _ (by simp;omega)]
 simp[K1k,Nat.min_eq_left (Nat.le_of_lt hl)]
theorem K6i{chosen:List Int}{root:Int}{l:List GLibrary}{k:Nat}{x:GLibrary}(h:l[k]? =some x):((tellL chosen root (l.take k)).map GLibrary.enc++(l.drop k).map GLibrary.enc)[k]? =some x.enc:=by
 have hl:=Kg h
 rw[List.getElem?_append_right (by simp[tellL];omega),Ki h]
 simp[tellL,Nat.min_eq_left (Nat.le_of_lt hl)]
theorem K6j{chosen:List Int}{root:Int}{l:List GLibrary}{k:Nat}:((tellL chosen root (l.take k)).map GLibrary.enc++(l.drop k).map GLibrary.enc).length=l.length:=by
 simp[tellL];omega
theorem ups_yes{l:List GLibrary}{k:Nat}{x:GLibrary}(h:l[k]? =some x)(u:x.Up=true):ups (l.take (k+1))=ups (l.take k)++[x.Id]:=by
 rw[Kc h,ups,List.filter_append,List.map_append];simp[ups,u]
theorem ups_no{l:List GLibrary}{k:Nat}{x:GLibrary}(h:l[k]? =some x)(u:x.Up=false):ups (l.take (k+1))=ups (l.take k):=by
 rw[Kc h,ups,List.filter_append,List.map_append];simp[ups,u]
theorem Ka5(d:GDisk):(Kq d).Containers.length=d.Containers.length∨(Kq d).Containers.length=d.Containers.length+1:=by
 unfold Kq
 split
 ·exact .inl rfl
 ·split
  ·exact .inl rfl
  ·split
   ·right;simp
   ·exact .inl rfl
theorem Kci{chosen:List Int}{root:Int}{l:List GLibrary}{k:Nat}{x:GLibrary}(h:l[k]? =some x)(hc:chosen.contains x.Id=false):(tellL chosen root (l.take k)).map GLibrary.enc++(l.drop k).map GLibrary.enc=(tellL chosen root (l.take (k+1))).map GLibrary.enc++(l.drop (k+1)).map GLibrary.enc:=by
 have e:K1k chosen root x=x:=by unfold K1k;rw[if_neg (by rw[hc];simp)]
 rw[Ki h,Kc h]
 simp[tellL,e]
theorem Kcm{a:GArchive}{root:Int}(h:K2e a.Disk=true)(h2:¬(Kq a.Disk).Containers.length=a.Disk.Containers.length)(hr:K4k (Kq a.Disk)=root):K3j a={a with Disk:=Kq a.Disk,Libraries:=tellL (placedL (ups a.Libraries) root 3) root a.Libraries}:=by
 simp[K3j,h,K45,h2,hr]
def Me1:MC:=
(Zs [.box 1 0 (.s 0),.alloc 2 1 [.emp 9,.emp 4,.emp 4,.emp 6,.emp 4,.emp 5,.emp 4,.emp 1,.emp 4,pz],.mv 3 cF] [1,2] (Zs [lT 14 10 1,.call 15 [2,3,4,5,6,7,8,9,10] (.f N5) [.s 14],.alloc 4 11 [.emp 9,.emp 4,.emp 4,.emp 6,.emp 4,.emp 5,.emp 4,.emp 1,.emp 4,pz],sS 10 4 15] [1,2,4] (Zs [fS 17 1 2,lT 18 3 17,.call 19 [12,13,14] (.f Nf3) [.s 18],mS 16 19,.ext 20 (.s 16) 0,.ext 21 (.s 16) 1,.alloc 5 15 [.emp 4,.emp 6,.emp 4],sS 3 5 20,mS 6 21] [1,2,4,5,6] (.seq (Zs [mS 22 6,.un 23 .not (.s 22)] [1,2,4,5,23] (.cond (.s 23) (Zs [lT 24 10 4,sS 10 2 24,.mv 3 cF] [2,3] .ret) .skip))
(Zs [lT 25 3 5,fS 26 4 2,sS 3 26 25] [1,2,4,5] (.seq (Zs [fS 27 5 0,lF 28 1 27,nS 29 28,fS 30 1 2,fS 31 30 0,lF 32 1 31,nS 33 32,bS 34 .eql 29 33] [1,2,4,5,34] (.cond (.s 34) (Zs [lT 35 10 4,sS 10 2 35,.mv 3 cT] [2,3] .ret) .skip))
(Zs [fS 36 5 0,lF 37 1 36,fS 38 5 0,lF 39 1 38,nS 40 39,bC 41 .sub 40 1,xS 42 4 37 41,fS 43 42 3,lF 44 1 43,mS 7 44] [1,2,4,7] (Zs [.nilo 8 16 1] [1,2,4,7,8] (.seq (Zs [fS 45 1 6,lF 46 1 45,nS 47 46,.mv 48 (ci 0)] [2,4,7,8,46,47,48] (.block 0 (.loop ([2,4,7,8,46,47,48],[0,15,17,18,19,20,21]) (Zs [bS 49 .lss 48 47] [2,4,7,8,46,47,48,49] (.seq (cX 49 0)
(.seq (.block 1 (Zs [xS 50 4 46 48,lT 51 4 50,.alloc 10 17 [pz,.emp 1,.pl (.sc (.bool false)),.pl (.sc (.bool false))],sS 4 10 51] [2,4,7,8,10,46,47,48] (Zs [fS 52 10 2,lF 53 1 52] [2,4,7,8,10,46,47,48,53] (.cond (.s 53) (pr [mS 54 8,fS 55 10 0,lF 56 1 55,.lit 57 18 1 8 [.s 56],.app 58 16 1 8 (.s 54) (.s 57),mS 8 58] [2,4,7,8,46,47,48]) .skip))))
(pr [bC 59 .add 48 1,mS 48 59] [2,4,7,8,46,47,48])))))))
(Zs [mS 60 8,mS 61 7,.call 62 [19] (.f Na7) [.s 60,.s 61,.c (.int .i64 3)],mS 11 62] [2,4,7,11] (.seq (Zs [fS 63 4 6,lF 64 1 63,nS 65 64,.mv 66 (ci 0)] [2,4,7,11,64,65,66] (.block 2 (.loop ([2,4,7,11,64,65,66],[0,15,16,17,18,20,21]) (Zs [bS 67 .lss 66 65] [2,4,7,11,64,65,66,67] (.seq (cX 67 2)
(.seq (.block 3 (Zs [mS 68 66,xS 69 4 64 66,lT 70 4 69,.alloc 13 20 [pz,.emp 1,.pl (.sc (.bool false)),.pl (.sc (.bool false))],mS 12 68,sS 4 13 70] [2,4,7,11,12,13,64,65,66] (Zs [mS 71 11,fS 72 13 0,lF 73 1 72,.call 74 [] (.f Nd) [.s 71,.s 73]] [2,4,7,11,12,13,64,65,66,74] (.cond (.s 74) (.dreg [Zf [77,78,79,80,81] [21] (fS 75 4 6),Zg [77,78,79,80,81] [21] [0] (lF 76 1 75),Zf [75,76,78,79,80,81] [21] (mS 77 12),Zc [75,76,77,80] (fS 78 13 1),Zd [75,76,77,80] [3] (lF 79 1 78),Zc [75,76,77,78,79] (mS 80 7),{o:= .call 81 [21] (.f N4y) [.s 79,.s 80],hs:=[75,76,77],ws:=[21],bf:=[3,4,5]},Ze (.range 7) (xS 82 4 76 77),Ze (.range 8) (fS 83 82 1),{o:=sS 1 83 81,ws:=[8,21],bf:=(.range 9)}] [2,4,7,11,64,65,66]) .skip))))
(pr [bC 84 .add 66 1,mS 66 84] [2,4,7,11,64,65,66])))))))
(Zs [lT 85 10 4,sS 10 2 85,.mv 3 cT] [2,3] .ret))))))))))))
set_option maxHeartbeats 2000000 in
theorem Cnd(a:GArchive)(hs:a.size≤268435456):Ctr Tryz.prog Nf2 [aS a.enc] [rS (K3j a).enc,rB (K2e a.Disk)]:=by
 refine cA Me1 22 86 [(.cell 2 true 10,[true,true,true,true,true,true,true,true,true,false]),(.tmp 3,[false])] Tryz.func72 rfl rfl ?_;unfold Me1
 intro hb
 clear hb
 have hlib:a.Libraries.length≤268435456:=by simp only[GArchive.size]at hs;omega
 simp only[go_sem]
 apply K0 (C9 a (by omega))
 simp only[go_sem]
 intros
 apply K0 (Cne a.Disk (by simp only[GArchive.size]at hs;omega))
 simp only[go_sem]
 intro hbd
 clear hbd
 refine⟨fun hno=>?_,fun hyes=>⟨fun hsame=>?_,fun hmore=>?_⟩⟩
 ·simp[K3j,hno]
 ·have hs':(Kq a.Disk).Containers.length=a.Disk.Containers.length:=by omega
  simp[K3j,hyes,K45,hs']
 ·have hm':¬(Kq a.Disk).Containers.length=a.Disk.Containers.length:=by omega
  have hnl:=Ka5 a.Disk
  have hns:=K8v a.Disk
  have hdl:(Kq a.Disk).Containers.length≤536870912:=by simp only[GArchive.size,GDisk.size]at *;omega
  obtain⟨y,hy⟩:=Kb (l:=(Kq a.Disk).Containers) (k:=(Kq a.Disk).Containers.length-1) (by omega)
  have e1:IntKind.i64.wrap (((Kq a.Disk).Containers.length:Int)-1)=(((Kq a.Disk).Containers.length-1:Nat):Int):=by rw[wI (by omega) (by omega)];omega
  have hroot:K4k (Kq a.Disk)=y.Root:=by unfold K4k;rw[hy]
  have hW:=Kcm hyes hm' hroot
  rw[hW,hyes]
  generalize Kq a.Disk=D at*
  rw[e1,Int.toNat_natCast,hy]
  refine⟨⟨by omega,by omega⟩,?_⟩
  simp only[go_sem]
  refine K5 a.Libraries (fun k=>[(8,.val false [.ref 16 0 1 0 (ups (a.Libraries.take k)).length]),(48,vI k)]) (fun k=>[(16,⟨0,.row true 1 ((ups (a.Libraries.take k)).map encI)⟩)]) (fun _=>True) (by simp only[roomB];omega) ?_
  simp only[go_sem]
  refine⟨?_,trivial,?_,?_⟩
  ·simp only[go_sem,List.take_zero]
   exact⟨rfl,rfl⟩
  ·intro k x hx _ h0 h1 hw
   have hul:=Kbt (a.Libraries.take k)
   have hkl:(a.Libraries.take k).length≤a.Libraries.length:=by rw[List.length_take];omega
   simp only[go_sem,K4 hx,h0,h1,hw]
   refine⟨fun u=>?_,fun u=>?_⟩
   ·rw[ups_yes hx u]
    simp only[roomB]
    simp[encI]
    omega
   ·rw[ups_no hx u]
    exact⟨rfl,rfl⟩
  ·intro _
   have hul:=Kbt a.Libraries
   simp only[go_sem,List.take_length]
   apply K0 (Ckv (ups a.Libraries) y.Root 3 (by omega))
   simp only[go_sem]
   intros
   refine K5 a.Libraries (fun k=>[(66,vI k)]) (fun k=>[(8,⟨0,.row true 4 ((tellL (placedL (ups a.Libraries) y.Root 3) y.Root (a.Libraries.take k)).map GLibrary.enc++(a.Libraries.drop k).map GLibrary.enc)⟩)]) (fun _=>True) (by simp only[roomB];omega) ?_
   simp only[go_sem]
   refine⟨?_,trivial,?_,?_⟩
   ·simp only[go_sem,List.take_zero,List.drop_zero]
    simp[tellL]
   ·intro k x hx _ h0 h1 hw
    have hxl:=Kz (f:=GLibrary.size) (Km hx)
    have hxd:x.Digests.length≤268435456:=by simp only[GLibrary.size]at hxl;simp only[GArchive.size]at hs;omega
    have hst:=Kcj (chosen:=placedL (ups a.Libraries) y.Root 3) (root:=y.Root) hx
    simp only[go_sem,K6j,K4 (K6i hx),h0,h1]
    apply K0 (C2u (placedL (ups a.Libraries) y.Root 3) x.Id)
    simp only[go_sem,hw]
    refine⟨fun hc=>?_,fun hc=>?_⟩
    ·have ex:K1k (placedL (ups a.Libraries) y.Root 3) y.Root x={x with Digests:=put x.Digests y.Root}:=by unfold K1k;rw[if_pos hc]
     rw[ex]at hst
     apply K0 (Cb3 x.Digests y.Root (by omega))
     simp only[go_sem,K6j,K4 (K6i hx),h0,h1,hw]
     intro _
     exact hst
    ·exact Kci (root:=y.Root) hx hc
   ·intro _
    simp only[go_sem,List.take_length,List.drop_length]
    simp[tellL]
def Mer:MC:=
(Zs [.box 1 0 (.s 0),.alloc 2 1 [.emp 9,.emp 4,.emp 4,.emp 6,.emp 4,.emp 5,.emp 4,.emp 1,.emp 4,pz],.mv 3 cF] [1,2] (Zs [lT 10 10 1,.call 11 [2,3,4,5,6,7,8,9,10] (.f Ng) [.s 10],.alloc 4 11 [.emp 9,.emp 4,.emp 4,.emp 6,.emp 4,.emp 5,.emp 4,.emp 1,.emp 4,pz],sS 10 4 11] [1,2,4] (Zs [fS 13 1 2,lT 14 3 13,.call 15 [12,13,14] (.f Nfo) [.s 14],mS 12 15,.ext 16 (.s 12) 0,.ext 17 (.s 12) 1,.alloc 5 15 [.emp 4,.emp 6,.emp 4],sS 3 5 16,mS 6 17] [1,2,4,5,6] (.seq (Zs [mS 18 6,.un 19 .not (.s 18)] [1,2,4,5,19] (.cond (.s 19) (Zs [lT 20 10 4,sS 10 2 20,.mv 3 cF] [2,3] .ret) .skip))
(Zs [lT 21 3 5,fS 22 4 2,sS 3 22 21] [1,2,4,5] (.seq (Zs [fS 23 5 0,lF 24 1 23,nS 25 24,fS 26 1 2,fS 27 26 0,lF 28 1 27,nS 29 28,bS 30 .gtr 25 29] [1,2,4,5,30] (.cond (.s 30) (Zs [fS 31 5 0,lF 32 1 31,fS 33 5 0,lF 34 1 33,nS 35 34,bC 36 .sub 35 1,xS 37 4 32 36,fS 38 37 3,lF 39 1 38,mS 7 39] [1,2,4,7] (Zs [fS 40 1 6,lF 41 1 40,.call 42 [16] (.f Nlr) [.s 41],mS 43 7,.call 44 [17] (.f Nak) [.s 42,.s 43,.c (.int .i64 3)],mS 8 44] [2,4,7,8] (Zs [.mv 9 (ci 0)] [2,4,7,8,9] (.block 0 (.loop ([2,4,7,8,9],[0,15,16,18]) (.seq (Zs [mS 45 9,fS 46 4 6,lF 47 1 46,nS 48 47,bS 49 .lss 45 48] [2,4,7,8,9,49] (cX 49 0))
(.seq (.block 1 (Zs [mS 52 8,fS 53 4 6,lF 54 1 53,mS 55 9,xS 56 4 54 55,fS 57 56 0,lF 58 1 57,.call 59 [] (.f N2g) [.s 52,.s 58]] [2,4,7,8,9,59] (.cond (.s 59) (.dreg [Zf [62,63,64,65,66,67,68,69,70] [18] (fS 60 4 6),Zg [62,63,64,65,66,67,68,69,70] [18] [0] (lF 61 1 60),Zf [60,61,63,64,65,66,67,68,69,70] [18] (mS 62 9),Zc [60,61,62,65,69] (fS 63 4 6),Zd [60,61,62,65,69] [3] (lF 64 1 63),Zc [60,61,62,63,64,69] (mS 65 9),Zd [60,61,62,69] [3,4,5] (xS 66 4 64 65),Zd [60,61,62,69] [3,4,5,6] (fS 67 66 1),Zd [60,61,62,69] [3,4,5,6,7] (lF 68 1 67),Zc [60,61,62,63,64,65,66,67,68] (mS 69 7),{o:= .call 70 [18] (.f Nfr) [.s 68,.s 69],hs:=[60,61,62],ws:=[18],bf:=[3,4,5,6,7,8,9]},Ze (.range 11) (xS 71 4 61 62),Ze (.range 12) (fS 72 71 1),{o:=sS 1 72 70,ws:=[8,18],bf:=(.range 13)}] [2,4,7,8,9]) .skip)))
(pr [mS 50 9,bC 51 .add 50 1,mS 9 51] [2,4,7,8,9])))))))) .skip))
(Zs [lT 73 10 4,sS 10 2 73,.mv 3 cT] [2,3] .ret)))))))
set_option maxHeartbeats 2000000 in
theorem Cnu(a:GArchive)(hs:a.size≤268435456):Ctr Tryz.prog Nfn [aS a.enc] [rS (K3j a).enc,rB (K2e a.Disk)]:=by
 refine cA Mer 19 74 [(.cell 2 true 10,[true,true,true,true,true,true,true,true,true,false]),(.tmp 3,[false])] Tryz.func55 rfl rfl ?_;unfold Mer
 intro hb
 clear hb
 have hlib:a.Libraries.length≤268435456:=by simp only[GArchive.size]at hs;omega
 simp only[go_sem]
 apply K0 (Cs a (by omega))
 simp only[go_sem]
 intros
 apply K0 (Cnv a.Disk (by simp only[GArchive.size]at hs;omega))
 simp only[go_sem]
 intro hbd
 clear hbd
 refine⟨fun hno=>?_,fun hyes=>⟨fun hmore=>?_,fun hsame=>?_⟩⟩
 ·simp[K3j,hno]
 ·have hm':¬(Kq a.Disk).Containers.length=a.Disk.Containers.length:=by omega
  have hnl:=Ka5 a.Disk
  have hns:=K8v a.Disk
  have hdl:(Kq a.Disk).Containers.length≤536870912:=by simp only[GArchive.size,GDisk.size]at *;omega
  obtain⟨y,hy⟩:=Kb (l:=(Kq a.Disk).Containers) (k:=(Kq a.Disk).Containers.length-1) (by omega)
  have e1:IntKind.i64.wrap (((Kq a.Disk).Containers.length:Int)-1)=(((Kq a.Disk).Containers.length-1:Nat):Int):=by rw[wI (by omega) (by omega)];omega
  have hroot:K4k (Kq a.Disk)=y.Root:=by unfold K4k;rw[hy]
  have hW:=Kcm hyes hm' hroot
  rw[hW,hyes]
  generalize Kq a.Disk=D at*
  rw[e1,Int.toNat_natCast,hy]
  refine⟨⟨by omega,by omega⟩,?_⟩
  simp only[go_sem]
  have hul:=Kbt a.Libraries
  apply K0 (Cp0 a.Libraries (by omega))
  simp only[go_sem]
  intros
  apply K0 (Clc (ups a.Libraries) y.Root 3 (by omega))
  simp only[go_sem]
  intros
  refine K5 a.Libraries (fun k=>[(9,vI k)]) (fun k=>[(8,⟨0,.row true 4 ((tellL (placedL (ups a.Libraries) y.Root 3) y.Root (a.Libraries.take k)).map GLibrary.enc++(a.Libraries.drop k).map GLibrary.enc)⟩)]) (fun _=>True) (by simp only[roomB];omega) ?_
  simp only[go_sem]
  refine⟨?_,trivial,?_,?_⟩
  ·simp only[go_sem,List.take_zero,List.drop_zero]
   simp[tellL]
  ·intro k x hx _ h0 h1 hw
   have hxl:=Kz (f:=GLibrary.size) (Km hx)
   have hxd:x.Digests.length≤268435456:=by simp only[GLibrary.size]at hxl;simp only[GArchive.size]at hs;omega
   have hst:=Kcj (chosen:=placedL (ups a.Libraries) y.Root 3) (root:=y.Root) hx
   simp only[go_sem,K6j,K4 (K6i hx),h0,h1]
   apply K0 (C3f (placedL (ups a.Libraries) y.Root 3) x.Id)
   simp only[go_sem,K6j,K4 (K6i hx),h0,h1,hw]
   refine⟨fun hc=>?_,fun hc=>?_⟩
   ·have ex:K1k (placedL (ups a.Libraries) y.Root 3) y.Root x={x with Digests:=put x.Digests y.Root}:=by unfold K1k;rw[if_pos hc]
    rw[ex]at hst
    apply K0 (Clh x.Digests y.Root (by omega))
    simp only[go_sem,K6j,K4 (K6i hx),h0,h1,hw]
    intro _
    exact hst
   ·exact Kci (root:=y.Root) hx hc
  ·intro _
   simp only[go_sem,List.take_length,List.drop_length]
   simp[tellL]
 ·have hnl:=Ka5 a.Disk
  have hs':(Kq a.Disk).Containers.length=a.Disk.Containers.length:=by omega
  simp[K3j,hyes,K45,hs']
def ascB(l:List Int):Bool:=decide (l.Pairwise (· < ·))
def Mhr:MC:=
(Zs [.mv 2 cF] [0] (Zs [mS 3 0,.call 4 [0] (.f Nax) [.s 3],mS 5 0,.call 6 [] (.f N2p) [.s 4,.s 5],mS 2 6] [2] .ret))
theorem Coe(l:List Int)(hl:l.length≤1073741824):Ctr Tryz.prog Nig [aL 1 (l.map encI)] [rB (ascB l)]:=by
 refine cA Mhr 1 7 [(.tmp 2,[false])] Tryz.func345 rfl rfl ?_;unfold Mhr
 intro hb
 clear hb
 simp only[go_sem]
 apply K0 (Cj6 l hl)
 simp only[go_sem]
 intros
 apply K0 (C97 (sortU l) l)
 simp only[go_sem]
 intro _
 obtain⟨h1,h2⟩:=K83 l
 rw[ascB,decide_eq_decide]
 exact⟨fun h=>h▸h1,fun h=>up_eq h1 h h2⟩
def K2i:Int→List GLibrary→Bool
 |_,[]=>true
 |b,x::l=>decide (b+1≤x.Id∧x.Id≤99)&&(ascB x.Digests&&K2i x.Id l)
def K38(l:List GLibrary):Bool:=decide (l.length≤6)&&K2i (-1) l
def bef(l:List GLibrary):Nat→Int
 |0=> -1
 |k+1=>((l[k]?).map (·.Id)).getD 0
theorem Kah{l:List GLibrary}{k:Nat}{x:GLibrary}(h:l[k]? =some x):bef l (k+1)=x.Id:=by simp[bef,h]
theorem dig_le{l:List GLibrary}{k n:Nat}{x:GLibrary}(h:l[k]? =some x)(hs:l.length+(l.map GLibrary.size).sum≤n):x.Digests.length≤n:=by
 have:=Kz (f:=GLibrary.size) (Km h)
 simp only[GLibrary.size]at this hs
 omega
def M7a:MC:=
(Zs [.mv 2 cF] [0] (.seq (Zs [mS 6 0,nS 7 6,bC 8 .gtr 7 6] [0,8] (.cond (.s 8) (Zs [.mv 2 cF] [2] .ret) .skip))
(Zs [.mv 3 (.c (.int .i64 (-1)))] [0,3] (.seq (Zs [mS 9 0,nS 10 9,.mv 11 (ci 0)] [3,9,10,11] (.block 0 (.loop ([3,9,10,11],[0]) (Zs [bS 12 .lss 11 10] [3,9,10,11,12] (.seq (cX 12 0)
(.seq (.block 1 (Zs [xS 13 4 9 11,lT 14 4 13,.alloc 5 0 [pz,.emp 1,.pl (.sc (.bool false)),.pl (.sc (.bool false))],sS 4 5 14] [3,5,9,10,11] (.seq (.seq (.reg [Za (fS 15 5 0),Za (lF 16 1 15),Za (mS 17 3),Za (bC 18 .add 17 1),Za (.call 19 [] (.f N1) [.s 16,.s 18,.c (.int .i64 99)]),Za (.un 20 .not (.s 19)),Za (mS 21 20),Zb 21 false (fS 22 5 1),Zb 21 false (lF 23 1 22),Zb 21 false (.call 24 [] (.f Nig) [.s 23]),Zb 21 false (.un 25 .not (.s 24)),Za (.pick 26 (.s 21) cT (.s 25))] [5,9,10,11,26])
(.cond (.s 26) (Zs [.mv 2 cF] [2] .ret) .skip))
(pr [fS 27 5 0,lF 28 1 27,mS 3 28] [3,9,10,11]))))
(pr [bC 29 .add 11 1,mS 11 29] [3,9,10,11])))))))
(Zs [.mv 2 cT] [2] .ret)))))
theorem Ck6(l:List GLibrary)(hs:l.length+(l.map GLibrary.size).sum≤1073741824):Ctr Tryz.prog N84 [aL 4 (l.map GLibrary.enc)] [rB (K38 l)]:=by
 refine cA M7a 1 30 [(.tmp 2,[false])] Tryz.func271 rfl rfl ?_;unfold M7a
 intro hb
 clear hb
 simp only[go_sem]
 refine⟨fun h=>?_,fun h=>?_⟩
 ·have:¬l.length≤6:=by omega
  simp[K38,this]
 ·refine K5 l (fun k=>[(3,vI (bef l k)),(11,vI k)]) (fun k=>[]) (fun k=>(-1≤bef l k∧bef l k≤99)∧K2i (-1) l=K2i (bef l k) (l.drop k)) (by simp only[roomB];omega) ?_
  simp only[go_sem]
  refine⟨?_,⟨by simp[bef],rfl⟩,?_,?_⟩
  ·simp only[go_sem]
   try rfl
  ·intro k x hx hP h0 h1 hw
   obtain⟨hb,hP⟩:=hP
   rw[Ki hx,K2i]at hP
   have hw2:IntKind.i64.wrap (bef l k+1)=bef l k+1:=wI (by omega) (by omega)
   simp only[go_sem,K4 hx,h0,h1,hw2]
   apply K0 (C2 x.Id (bef l k+1) 99)
   by_cases c:bef l k+1≤x.Id∧x.Id≤99
   ·have hd:=decide_eq_true c
    simp only[go_sem,hd]
    apply K0 (Coe x.Digests (dig_le hx hs))
    cases hA:ascB x.Digests
    ·simp only[go_sem]
     rw[K38,hP,hA]
     simp
    ·simp only[go_sem,hw,Kah hx]
     rw[hA,hd,Bool.true_and,Bool.true_and]at hP
     exact⟨by omega,hP⟩
   ·have hd:=decide_eq_false c
    simp only[go_sem,hd]
    rw[K38,hP,hd]
    simp
  ·intro hP
   rw[List.drop_length]at hP
   simp only[go_sem]
   rw[K38,hP.2,K2i]
   simp
   omega
theorem Kcc{l:List Int}{k:Nat}{x y:Int}(hx:l[k]? =some x)(hy:l[k+1]? =some y)(h:(l.take (k+1)).Pairwise (· < ·))(hxy:x<y):(l.take (k+1+1)).Pairwise (· < ·):=by
 rw[Kc hy,List.pairwise_append]
 refine⟨h,by simp,fun a ha b hb=>?_⟩
 rw[List.mem_singleton.1 hb]
 rw[Kc hx,List.pairwise_append]at h
 rw[Kc hx]at ha
 rcases List.mem_append.1 ha with ha|ha
 ·have:=h.2.2 a ha x (by simp);omega
 ·rw[List.mem_singleton.1 ha];exact hxy
theorem pair_no{l:List Int}{k:Nat}{x y:Int}(hx:l[k]? =some x)(hy:l[k+1]? =some y)(hxy:¬x<y):ascB l=false:=by
 rw[ascB,decide_eq_false_iff_not]
 intro h
 have:=List.pairwise_iff_getElem.1 h k (k+1) (List.getElem?_eq_some_iff.1 hx).1 (List.getElem?_eq_some_iff.1 hy).1 (by omega)
 rw[(List.getElem?_eq_some_iff.1 hx).2,(List.getElem?_eq_some_iff.1 hy).2]at this
 exact hxy this
def M7z:MC:=
(Zs [.mv 2 cF] [0] (.seq (Zs [.mv 3 (ci 0)] [0,3] (.block 0 (.loop ([0,3],[]) (.seq (Zs [mS 5 3,mS 6 0,nS 7 6,bS 8 .lss 5 7] [0,3,8] (cX 8 0))
(.seq (.block 1 (.seq (.seq (.dreg [Zc [12] (mS 11 0),Zc [11] (mS 12 3),Ze [0,1] (xS 13 4 11 12),Ze [0,1,2] (fS 14 13 0),Ze (.range 4) (lF 15 1 14),Ze (.range 5) (.call 16 [] (.f N0) [.s 15,.c (.int .i64 0),.c (.int .i64 99)]),Ze (.range 6) (.un 17 .not (.s 16)),Ze (.range 7) (mS 18 17),{o:=mS 19 3,g:=some (18,false),bf:=(.range 8)},{o:=bC 20 .gtr 19 0,g:=some (18,false),bf:=(.range 9)},{o:=mS 21 20,g:=some (18,false),bf:=(.range 10)},{o:=mS 22 0,g:=some (21,true),hs:=[23,24,28,29,30,31,32],bf:=(.range 11)},{o:=mS 23 3,g:=some (21,true),hs:=[22,28,29,30,31,32],bf:=(.range 11)},{o:=bC 24 .sub 23 1,g:=some (21,true),hs:=[22,28,29,30,31,32],bf:=[0,1,2,3,4,5,6,7,8,9,10,12]},{o:=xS 25 4 22 24,g:=some (21,true),hs:=[28,29,30,31,32],bf:=(.range 14)},{o:=fS 26 25 0,g:=some (21,true),hs:=[28,29,30,31,32],bf:=(.range 15)},{o:=lF 27 1 26,g:=some (21,true),hs:=[28,29,30,31,32],bf:=(.range 16)},{o:=mS 28 0,g:=some (21,true),hs:=[22,23,24,25,26,27,29],bf:=(.range 11)},{o:=mS 29 3,g:=some (21,true),hs:=[22,23,24,25,26,27,28],bf:=(.range 11)},{o:=xS 30 4 28 29,g:=some (21,true),hs:=[22,23,24,25,26,27],bf:=[0,1,2,3,4,5,6,7,8,9,10,17,18]},{o:=fS 31 30 0,g:=some (21,true),hs:=[22,23,24,25,26,27],bf:=[0,1,2,3,4,5,6,7,8,9,10,17,18,19]},{o:=lF 32 1 31,g:=some (21,true),hs:=[22,23,24,25,26,27],bf:=[0,1,2,3,4,5,6,7,8,9,10,17,18,19,20]},{o:=bS 33 .geq 27 32,g:=some (21,true),bf:=(.range 22)},{o:= .pick 34 (.s 21) (.s 33) cF,g:=some (18,false),bf:=(.range 23)},Ze (.range 24) (.pick 35 (.s 18) cT (.s 34))] [0,3,35])
(.cond (.s 35) (Zs [.mv 2 cF] [2] .ret) .skip))
(Zs [.mv 4 (ci 1)] [0,3,4] (.block 2 (.loop ([0,3,4],[]) (.seq (Zs [mS 36 4,mS 37 0,mS 38 3,xS 39 4 37 38,fS 40 39 1,lF 41 1 40,nS 42 41,bS 43 .lss 36 42] [0,3,4,43] (cX 43 2))
(.seq (.block 3 (.seq (.dreg [Zc [47,51,52,55,56,57,58,59,60,61,62] (mS 46 0),Zc [46,51,52,55,56,57,58,59,60,61,62] (mS 47 3),Zd [51,52,55,56,57,58,59,60,61,62] [0,1] (xS 48 4 46 47),Zd [51,52,55,56,57,58,59,60,61,62] [0,1,2] (fS 49 48 1),Zd [51,52,55,56,57,58,59,60,61,62] (.range 4) (lF 50 1 49),Zc [46,47,48,49,50,55,56,57,58,59,60,61,62] (mS 51 4),Zd [46,47,48,49,50,55,56,57,58,59,60,61,62] [5] (bC 52 .sub 51 1),Zd [55,56,57,58,59,60,61,62] (.range 7) (xS 53 1 50 52),Zd [55,56,57,58,59,60,61,62] (.range 8) (lF 54 1 53),Zc [46,47,48,49,50,51,52,53,54,56,60] (mS 55 0),Zc [46,47,48,49,50,51,52,53,54,55,60] (mS 56 3),Zd [46,47,48,49,50,51,52,53,54,60] [9,10] (xS 57 4 55 56),Zd [46,47,48,49,50,51,52,53,54,60] [9,10,11] (fS 58 57 1),Zd [46,47,48,49,50,51,52,53,54,60] [9,10,11,12] (lF 59 1 58),Zc [46,47,48,49,50,51,52,53,54,55,56,57,58,59] (mS 60 4),Zd [46,47,48,49,50,51,52,53,54] [9,10,11,12,13,14] (xS 61 1 59 60),Zd [46,47,48,49,50,51,52,53,54] [9,10,11,12,13,14,15] (lF 62 1 61),Ze (.range 17) (bS 63 .geq 54 62)] [0,3,4,63])
(.cond (.s 63) (Zs [.mv 2 cF] [2] .ret) .skip)))
(pr [mS 44 4,bC 45 .add 44 1,mS 4 45] [0,3,4]))))))))
(pr [mS 9 3,bC 10 .add 9 1,mS 3 10] [0,3]))))))
(Zs [mS 64 0,nS 65 64,bC 66 .leq 65 6,mS 2 66] [2] .ret)))
set_option maxHeartbeats 2000000 in
theorem Cko(l:List GLibrary)(hs:l.length+(l.map GLibrary.size).sum≤1073741824):Ctr Tryz.prog N8m [aL 4 (l.map GLibrary.enc)] [rB (K38 l)]:=by
 refine cA M7z 0 67 [(.tmp 2,[false])] Tryz.func252 rfl rfl ?_;unfold M7z
 intro hb
 clear hb
 simp only[go_sem]
 refine K5 l (fun k=>[(3,vI k)]) (fun k=>[]) (fun k=>(-1≤bef l k∧bef l k≤99)∧(0<k→0≤bef l k)∧K2i (-1) l=K2i (bef l k) (l.drop k)) (by simp only[roomB];omega) ?_
 simp only[go_sem]
 refine⟨?_,⟨by simp[bef],by omega,rfl⟩,?_,?_⟩
 ·simp only[go_sem]
 ·intro k x hx hP h0 h1 hw
  obtain⟨hb,hb2,hP⟩:=hP
  rw[Ki hx,K2i]at hP
  simp only[go_sem,K4 hx,h0,h1]
  apply K0 (C3 x.Id 0 99)
  simp only[go_sem,K4 hx,h0,h1]
  refine⟨fun c=>?_,fun c=>⟨fun hk=>?_,fun hk=>?_⟩⟩
  ·have hn:¬(bef l k+1≤x.Id∧x.Id≤99):=by omega
   rw[K38,hP,decide_eq_false hn]
   simp
  ·obtain⟨q,rfl⟩:∃q,k=q+1:=⟨k-1,by omega⟩
   obtain⟨w,hwq⟩:=Kb (l:=l) (k:=q) (by have:=Kg hx;omega)
   have eb:=Kah hwq
   have hkl:=Kg hx
   have hb3:=hb2 (by omega)
   rw[show IntKind.i64.wrap (((q+1:Nat):Int)-1)=(q:Int)by rw[wI (by omega) (by omega)];omega]
   refine⟨⟨by omega,by omega⟩,?_⟩
   rw[Int.toNat_natCast,hwq]
   simp only[go_sem]
   refine⟨fun c2=>?_,fun c2=>?_⟩
   ·have hn:¬(bef l (q+1)+1≤x.Id∧x.Id≤99):=by omega
    rw[K38,hP,decide_eq_false hn]
    simp
   ·have hc:bef l (q+1)+1≤x.Id∧x.Id≤99:=by omega
    refine Kj (fun j:Nat=>[(4,vI j)]) (fun j=>[]) (fun j=>1≤j∧(x.Digests.take j).Pairwise (· < ·)) (fun j=>x.Digests.length-j) 1 ?_
    simp only[go_sem]
    refine⟨?_,⟨by omega,by rcases x.Digests with _|⟨y,l⟩<;>simp⟩,?_⟩
    ·simp only[go_sem]
     try rfl
    ·rintro j ⟨j1,j2⟩
     by_cases hj:j<x.Digests.length
     ·obtain⟨i,rfl⟩:∃i,j=i+1:=⟨j-1,by omega⟩
      obtain⟨z,hz⟩:=Kb (l:=x.Digests) (k:=i) (by omega)
      obtain⟨y,hy⟩:=Kb hj
      have hdl:=dig_le hx hs
      have g1:((i+1:Nat):Int)<(x.Digests.length:Int):=by omega
      have g2:IntKind.i64.wrap (((i+1:Nat):Int)-1)=(i:Int):=by rw[wI (by omega) (by omega)];omega
      have g3:(0:Int)≤(i:Int):=by omega
      have g4:(i:Int)<(x.Digests.length:Int):=by omega
      have g5:(0:Int)≤((i+1:Nat):Int):=by omega
      simp only[go_sem,K4 hx,h0,h1,hw,g1,g2,g3,g4,g5,K4 hz,K4 hy]
      refine⟨fun c3=>?_,fun c3=>?_⟩
      ·rw[K38,hP,pair_no hz hy (by omega)]
       simp
      ·exact⟨i+1+1,by rw[wI (by omega) (by omega)];omega,⟨by omega,Kcc hz hy j2 (by omega)⟩,by omega⟩
     ·have g1:¬(j:Int)<(x.Digests.length:Int):=by omega
      rw[List.take_of_length_le (by omega)]at j2
      have hA:ascB x.Digests=true:=decide_eq_true j2
      simp only[go_sem,K4 hx,h0,h1,hw,g1,Kah hx]
      rw[hA,decide_eq_true hc,Bool.true_and,Bool.true_and]at hP
      try exact⟨by omega,fun _=>by omega,hP⟩
  ·have ek:k=0:=by omega
   have hc:bef l k+1≤x.Id∧x.Id≤99:=by rw[ek];simp only[bef];omega
   refine Kj (fun j:Nat=>[(4,vI j)]) (fun j=>[]) (fun j=>1≤j∧(x.Digests.take j).Pairwise (· < ·)) (fun j=>x.Digests.length-j) 1 ?_
   simp only[go_sem]
   refine⟨?_,⟨by omega,by rcases x.Digests with _|⟨y,l⟩<;>simp⟩,?_⟩
   ·simp only[go_sem]
    try rfl
   ·rintro j ⟨j1,j2⟩
    by_cases hj:j<x.Digests.length
    ·obtain⟨i,rfl⟩:∃i,j=i+1:=⟨j-1,by omega⟩
     obtain⟨z,hz⟩:=Kb (l:=x.Digests) (k:=i) (by omega)
     obtain⟨y,hy⟩:=Kb hj
     have hdl:=dig_le hx hs
     have g1:((i+1:Nat):Int)<(x.Digests.length:Int):=by omega
     have g2:IntKind.i64.wrap (((i+1:Nat):Int)-1)=(i:Int):=by rw[wI (by omega) (by omega)];omega
     have g3:(0:Int)≤(i:Int):=by omega
     have g4:(i:Int)<(x.Digests.length:Int):=by omega
     have g5:(0:Int)≤((i+1:Nat):Int):=by omega
     simp only[go_sem,K4 hx,h0,h1,hw,g1,g2,g3,g4,g5,K4 hz,K4 hy]
     refine⟨fun c3=>?_,fun c3=>?_⟩
     ·rw[K38,hP,pair_no hz hy (by omega)]
      simp
     ·exact⟨i+1+1,by rw[wI (by omega) (by omega)];omega,⟨by omega,Kcc hz hy j2 (by omega)⟩,by omega⟩
    ·have g1:¬(j:Int)<(x.Digests.length:Int):=by omega
     rw[List.take_of_length_le (by omega)]at j2
     have hA:ascB x.Digests=true:=decide_eq_true j2
     simp only[go_sem,K4 hx,h0,h1,hw,g1,Kah hx]
     rw[hA,decide_eq_true hc,Bool.true_and,Bool.true_and]at hP
     try exact⟨by omega,fun _=>by omega,hP⟩
 ·intro hP
  rw[List.drop_length]at hP
  simp only[go_sem]
  rw[K38,hP.2.2,K2i,Bool.and_true]
  exact K7e
def holdP(d:Int)(x:GLibrary):Bool:=x.Up&&x.Digests.contains d
def lackP(d:Int)(x:GLibrary):Bool:=x.Up&& !x.Digests.contains d
def holders(d:Int)(l:List GLibrary):List Int:=(l.filter (holdP d)).map fun x=>x.Id
def Ku(d:Int)(l:List GLibrary):List Int:=(l.filter (lackP d)).map fun x=>x.Id
def K1j(l:List GLibrary)(d:Int):Bool:=K38 l&& !decide (K2q d l=0)
def repairL(l:List GLibrary)(d k:Int):List GLibrary:=if K1j l d then tellL ((Kw (Ku d l) d).take (k-(holders d l).length).toNat) d l else l
theorem libs_up:∀ {l:List GLibrary} {b:Int},K2i b l=true→l.Pairwise (fun x y=>x.Id<y.Id)∧∀x∈l,b<x.Id
 | [],_,_=>by simp
 |x::l,b,h=>by
  simp only[K2i,Bool.and_eq_true,decide_eq_true_eq]at h
  obtain⟨h1,h2⟩:=libs_up h.2.2
  refine⟨List.pairwise_cons.2 ⟨h2,h1⟩,fun y hy=>?_⟩
  rcases List.mem_cons.1 hy with rfl|hy
  ·omega
  ·have:=h2 y hy;omega
theorem ids_one{l:List GLibrary}(h:l.Pairwise fun x y=>x.Id<y.Id){m n:Nat}{x y:GLibrary}(hm:l[m]? =some x)(hn:l[n]? =some y)(e:x.Id=y.Id):m=n:=by
 obtain⟨hm1,rfl⟩:=List.getElem?_eq_some_iff.1 hm
 obtain⟨hn1,rfl⟩:=List.getElem?_eq_some_iff.1 hn
 rw[List.pairwise_iff_getElem]at h
 rcases Nat.lt_trichotomy m n with k|k|k
 ·have:=h m n hm1 hn1 k;omega
 ·exact k
 ·have:=h n m hn1 hm1 k;omega
theorem Kch{s:List Int}{d:Int}{x:GLibrary}:(K1k s d x).Id=x.Id:=by unfold K1k;split<;>rfl
theorem K5q{s:List Int}{d:Int}{x:GLibrary}(h:x.Id∉s):K1k s d x=x:=by unfold K1k;rw[if_neg (by simpa using h)]
theorem K9r{s:List Int}{d id:Int}{x:GLibrary}(h:x.Id≠id):K1k (s++[id]) d x=K1k s d x:=by
 have e:(s++[id]).contains x.Id=s.contains x.Id:=by rw[Bool.eq_iff_iff];simp[h]
 unfold K1k;rw[e]
theorem Kb8{s:List Int}{d id:Int}{x:GLibrary}(h:x.Id=id):K1k (s++[id]) d x={x with Digests:=put x.Digests d}:=by
 unfold K1k;rw[if_pos (by simp[h])]
theorem Kad{d:Int}{l:List GLibrary}:tellL [] d l=l:=by
 unfold tellL
 refine(List.map_congr_left fun x _=>?_).trans (List.map_id l)
 exact K5q (by simp)
theorem K2b{s:List Int}{d:Int}{l:List GLibrary}:(tellL s d l).length=l.length:=by simp[tellL]
theorem lack_at{d id:Int}{l:List GLibrary}(h:id∈Ku d l):∃(j:Nat) (x:GLibrary),l[j]? =some x∧x.Id=id∧x.Up=true∧x.Digests.contains d=false:=by
 obtain⟨x,hx,rfl⟩:=List.mem_map.1 h
 obtain⟨hx,hp⟩:=List.mem_filter.1 hx
 obtain⟨j,hj⟩:=List.getElem?_of_mem hx
 simp only[lackP,Bool.and_eq_true,Bool.not_eq_true']at hp
 exact⟨j,x,hj,rfl,hp.1,hp.2⟩
theorem Kdq{s:List Int}{d:Int}{l:List GLibrary}(hl:l.Pairwise fun x y=>x.Id<y.Id){j:Nat}{x:GLibrary}(hx:l[j]? =some x):tellL (s++[x.Id]) d l=(tellL s d l).set j {x with Digests:=put x.Digests d}:=by
 refine List.ext_getElem? fun m=>?_
 rw[List.getElem?_set]
 have hj:=Kg hx
 by_cases e:j=m
 ·subst e
  have e:=(List.getElem?_eq_some_iff.1 hx).2
  simp[tellL,hj,e,Kb8]
 ·rw[if_neg e]
  simp only[tellL,List.getElem?_map]
  cases hm:l[m]? with
  |none=>rfl
  |some y=>simp only[Option.map_some];rw[K9r fun k=>e (ids_one hl hx hm k.symm)]
theorem tell_hold{s:List Int}{d:Int}{l:List GLibrary}(hl:l.Pairwise fun x y=>x.Id<y.Id){j:Nat}{x:GLibrary}(hx:l[j]? =some x)(hu:x.Up=true)(hc:x.Digests.contains d=false)(hs:x.Id∉s):(holders d (tellL (s++[x.Id]) d l)).length=(holders d (tellL s d l)).length+1:=by
 have hy:(tellL s d l)[j]? =some x:=by simp[tellL,hx,K5q hs]
 obtain⟨hj,e⟩:=List.getElem?_eq_some_iff.1 hy
 have h1:holdP d x=false:=by unfold holdP;rw[hu,hc];rfl
 have h2:holdP d {x with Digests:=put x.Digests d}=true:=by unfold holdP;simp[hu,K9a]
 rw[Kdq hl hx]
 simp only[holders,List.length_map,←List.countP_eq_length_filter]
 rw[List.countP_set hj,e,h1,h2]
 simp
theorem tell_idx{s:List Int}{d:Int}{l:List GLibrary}(hl:l.Pairwise fun x y=>x.Id<y.Id){j:Nat}{x:GLibrary}(hx:l[j]? =some x)(hs:x.Id∉s):idxF (fun y:GLibrary=>decide (y.Id=x.Id)) (tellL s d l)=j:=by
 have hy:(tellL s d l)[j]? =some x:=by simp[tellL,hx,K5q hs]
 refine K2w hy ?_ (by simp)
 rw[List.any_eq_false]
 intro y hy
 obtain⟨m,hm⟩:=List.getElem?_of_mem hy
 have hmj:m<j:=by have:=Kg hm;rw[List.length_take]at this;omega
 rw[List.getElem?_take_of_lt hmj]at hm
 simp only[tellL,List.getElem?_map]at hm
 cases hz:l[m]? with
 |none=>rw[hz]at hm;simp at hm
 |some z=>
  rw[hz]at hm
  simp only[Option.map_some,Option.some.injEq]at hm
  subst hm
  rw[Kch]
  simp only[decide_eq_true_eq]
  intro e
  have:=ids_one hl hz hx e
  omega
theorem K9m{l:List GLibrary}{d k:Int}:((repairL l d k).map GLibrary.size).sum≤(l.map GLibrary.size).sum+6∧(repairL l d k).length=l.length:=by
 unfold repairL
 split
 ·rename_i h
  simp only[K1j,K38,Bool.and_eq_true,decide_eq_true_eq]at h
  have:=K93 (chosen:=(Kw (Ku d l) d).take (k-(holders d l).length).toNat) (root:=d) (l:=l)
  exact⟨by omega,by simp[tellL]⟩
 ·exact⟨by omega,rfl⟩
theorem K8d{d:Int}{l:List GLibrary}{k:Nat}{x:GLibrary}(h:l[k]? =some x)(u:holdP d x=true):holders d (l.take (k+1))=holders d (l.take k)++[x.Id]:=by
 rw[Kc h,holders,List.filter_append,List.map_append];simp[holders,u]
theorem K4x{d:Int}{l:List GLibrary}{k:Nat}{x:GLibrary}(h:l[k]? =some x)(u:holdP d x=false):holders d (l.take (k+1))=holders d (l.take k):=by
 rw[Kc h,holders,List.filter_append,List.map_append];simp[holders,u]
theorem K8e{d:Int}{l:List GLibrary}{k:Nat}{x:GLibrary}(h:l[k]? =some x)(u:lackP d x=true):Ku d (l.take (k+1))=Ku d (l.take k)++[x.Id]:=by
 rw[Kc h,Ku,List.filter_append,List.map_append];simp[Ku,u]
theorem K4z{d:Int}{l:List GLibrary}{k:Nat}{x:GLibrary}(h:l[k]? =some x)(u:lackP d x=false):Ku d (l.take (k+1))=Ku d (l.take k):=by
 rw[Kc h,Ku,List.filter_append,List.map_append];simp[Ku,u]
theorem Ka1(d:Int)(l:List GLibrary):(holders d l).length≤l.length:=by
 unfold holders;rw[List.length_map];exact List.length_filter_le _ _
theorem K7v(d:Int)(l:List GLibrary):(Ku d l).length≤l.length:=by
 unfold Ku;rw[List.length_map];exact List.length_filter_le _ _
def midL(s:List Int)(id d:Int)(l:List GLibrary)(j:Nat):List GLibrary:=tellL (s++[id]) d (l.take j)++tellL s d (l.drop j)
theorem Ka4{s:List Int}{id d:Int}{l:List GLibrary}{j:Nat}:(midL s id d l j).length=l.length:=by simp[midL,tellL];omega
theorem midL_zero{s:List Int}{id d:Int}{l:List GLibrary}:midL s id d l 0=tellL s d l:=by simp[midL,tellL]
theorem midL_all{s:List Int}{id d:Int}{l:List GLibrary}:midL s id d l l.length=tellL (s++[id]) d l:=by simp[midL,tellL]
theorem midL_get{s:List Int}{id d:Int}{l:List GLibrary}{j:Nat}{x:GLibrary}(h:l[j]? =some x):(midL s id d l j)[j]? =some (K1k s d x):=by
 have hl:=Kg h
 rw[midL,List.getElem?_append_right (by simp[tellL];omega),Ki h]
 simp[tellL,Nat.min_eq_left (Nat.le_of_lt hl)]
theorem midL_step{s:List Int}{id d:Int}{l:List GLibrary}{j:Nat}{x:GLibrary}(h:l[j]? =some x):(midL s id d l j).set j (K1k (s++[id]) d x)=midL s id d l (j+1):=by
 have hl:=Kg h
 rw[midL,midL,Ki h,Kc h,tellL,tellL,tellL,List.map_append,List.map_cons]
 rw[List.set_append_right _ _ (by simp;omega)]
 simp[tellL,Nat.min_eq_left (Nat.le_of_lt hl)]
theorem midL_same{s:List Int}{id d:Int}{l:List GLibrary}{j:Nat}{x:GLibrary}(h:l[j]? =some x)(e:¬x.Id=id):midL s id d l j=midL s id d l (j+1):=by
 have hl:=Kg h
 rw[midL,midL,Ki h,Kc h]
 simp[tellL,K9r e]
def Mdu:MC:=
(Zs [.nilo 4 0 1] [0,1] (Zs [.nilo 5 0 1] [0,1,5] (.seq (Zs [mS 8 0,nS 9 8,.mv 10 (ci 0)] [1,5,8,9,10] (.block 0 (.loop ([1,5,8,9,10],[1,2]) (Zs [bS 11 .lss 10 9] [1,5,8,9,10,11] (.seq (cX 11 0)
(.seq (.block 1 (Zs [xS 12 4 8 10,lT 13 4 12,.alloc 7 1 [pz,.emp 1,.pl (.sc (.bool false)),.pl (.sc (.bool false))],sS 4 7 13] [1,5,7,8,9,10] (.seq (.reg [Za (fS 14 7 2),Za (lF 15 1 14),Za (mS 16 15),Zb 16 true (fS 17 7 1),Zb 16 true (lF 18 1 17),Zb 16 true (mS 19 1),Zb 16 true (.call 20 [] (.f Nd) [.s 18,.s 19]),Za (.pick 21 (.s 16) (.s 20) cF)] [1,5,7,8,9,10,21])
(.cond (.s 21) (pr [mS 22 5,fS 23 7 0,lF 24 1 23,.lit 25 2 1 8 [.s 24],.app 26 0 1 8 (.s 22) (.s 25),mS 5 26] [1,5,8,9,10]) .skip))))
(pr [bC 27 .add 10 1,mS 10 27] [1,5,8,9,10])))))))
(Zs [mS 28 5,mS 4 28] [4] .ret))))
theorem Cn8(l:List GLibrary)(d:Int)(hl:l.length≤1073741824):Ctr Tryz.prog Nev [aL 4 (l.map GLibrary.enc),aI d] [rL 1 ((holders d l).map encI)]:=by
 refine cA Mdu 3 29 [(.tmp 4,[true])] Tryz.func273 rfl rfl ?_;unfold Mdu
 intro hb
 clear hb
 simp only[go_sem]
 refine K5 l (fun k=>[(5,.val false [.ref 0 0 1 0 (holders d (l.take k)).length]),(10,vI k)]) (fun k=>[(0,⟨0,.row true 1 ((holders d (l.take k)).map encI)⟩)]) (fun _=>True) (by simp only[roomB];omega) ?_
 simp only[go_sem]
 refine⟨?_,trivial,?_,?_⟩
 ·simp only[go_sem,List.take_zero]
  exact⟨rfl,rfl⟩
 ·intro k x hx _ h0 h1 hw
  have hul:=Ka1 d (l.take k)
  have hkl:(l.take k).length≤l.length:=by rw[List.length_take];omega
  simp only[go_sem,K4 hx,h0,h1,hw]
  refine⟨fun u=>?_,fun u=>?_⟩
  ·apply K0 (C2u x.Digests d)
   simp only[go_sem,hw]
   refine⟨fun hc=>?_,fun hc=>?_⟩
   ·rw[K8d hx (by unfold holdP;rw[u,hc];rfl)]
    simp only[roomB]
    simp[encI]
    omega
   ·rw[K4x hx (by unfold holdP;rw[u,hc];rfl)]
    exact⟨rfl,rfl⟩
  ·rw[K4x hx (by unfold holdP;rw[u];rfl)]
   exact⟨rfl,rfl⟩
 ·intro _
  simp only[go_sem,List.take_length]
def Mek:MC:=
(Zs [.nilo 4 0 1] [0,1] (Zs [.lit 7 0 1 8 [],mS 5 7] [0,1,5] (.seq (Zs [.mv 6 (ci 0)] [0,1,5,6] (.block 0 (.loop ([0,1,5,6],[1]) (.seq (Zs [mS 8 6,mS 9 0,nS 10 9,bS 11 .lss 8 10] [0,1,5,6,11] (cX 11 0))
(.seq (.block 1 (.seq (.reg [Za (mS 14 0),Za (mS 15 6),Za (xS 16 4 14 15),Za (fS 17 16 2),Za (lF 18 1 17),Za (mS 19 18),Zb 19 true (mS 20 0),Zb 19 true (mS 21 6),Zb 19 true (xS 22 4 20 21),Zb 19 true (fS 23 22 1),Zb 19 true (lF 24 1 23),Zb 19 true (mS 25 1),Zb 19 true (.call 26 [] (.f N2g) [.s 24,.s 25]),Za (.pick 27 (.s 19) (.s 26) cF)] [0,1,5,6,27])
(.cond (.s 27) (pr [mS 28 5,mS 29 0,mS 30 6,xS 31 4 29 30,fS 32 31 0,lF 33 1 32,.lit 34 1 1 8 [.s 33],.app 35 0 1 8 (.s 28) (.s 34),mS 5 35] [0,1,5,6]) .skip)))
(pr [mS 12 6,bC 13 .add 12 1,mS 6 13] [0,1,5,6]))))))
(Zs [mS 36 5,mS 4 36] [4] .ret))))
theorem Cnp(l:List GLibrary)(d:Int)(hl:l.length≤1073741824):Ctr Tryz.prog Nfh [aL 4 (l.map GLibrary.enc),aI d] [rL 1 ((holders d l).map encI)]:=by
 refine cA Mek 2 37 [(.tmp 4,[true])] Tryz.func254 rfl rfl ?_;unfold Mek
 intro hb
 clear hb
 simp only[go_sem]
 refine K5 l (fun k=>[(5,.val false [.ref 0 0 1 0 (holders d (l.take k)).length]),(6,vI k)]) (fun k=>[(0,⟨0,.row true 1 ((holders d (l.take k)).map encI)⟩)]) (fun _=>True) (by simp only[roomB];omega) ?_
 simp only[go_sem]
 refine⟨?_,trivial,?_,?_⟩
 ·simp only[go_sem,List.take_zero]
  exact⟨rfl,rfl⟩
 ·intro k x hx _ h0 h1 hw
  have hul:=Ka1 d (l.take k)
  have hkl:(l.take k).length≤l.length:=by rw[List.length_take];omega
  simp only[go_sem,K4 hx,h0,h1,hw]
  refine⟨fun u=>?_,fun u=>?_⟩
  ·apply K0 (C3f x.Digests d)
   simp only[go_sem,K4 hx,h0,h1,hw]
   refine⟨fun hc=>?_,fun hc=>?_⟩
   ·rw[K8d hx (by unfold holdP;rw[u,hc];rfl)]
    simp only[roomB]
    simp[encI]
    omega
   ·rw[K4x hx (by unfold holdP;rw[u,hc];rfl)]
    exact⟨rfl,rfl⟩
  ·rw[K4x hx (by unfold holdP;rw[u];rfl)]
   exact⟨rfl,rfl⟩
 ·intro _
  simp only[go_sem,List.take_length]
def M5p:MC:=
(Zs [.box 2 0 (.s 0),.mv 3 cF] [1,2] (Zs [fS 4 2 0,lF 5 1 4,lF 6 1 1,bS 7 .eql 5 6,mS 3 7] [3] .ret))
theorem Ch9(x:GLibrary)(id:Int):Ctr Tryz.prog N5z [aS x.enc,(false,[.pb [tI id]])] [rB (decide (x.Id=id))]:=by
 refine cA M5p 1 8 [(.tmp 3,[false])] Tryz.func274 rfl rfl ?_;unfold M5p
 intro hb
 clear hb
 simp only[go_sem]
 rfl
def M7e:MC:=
(Zs [.nilo 6 0 4,.mv 7 cF] [0,1,2] (Zs [mS 15 0,.call 16 [0] (.f N3d) [.s 15],mS 8 16] [0,1,2,8] (.seq (.seq (.reg [Za (mS 17 0),Za (.call 18 [] (.f N84) [.s 17]),Za (.un 19 .not (.s 18)),Za (mS 20 19),Zb 20 false (mS 21 0),Zb 20 false (mS 22 1),Zb 20 false (.call 23 [] (.f Nci) [.s 21,.s 22]),Zb 20 false (bC 24 .eql 23 0),Za (.pick 25 (.s 20) cT (.s 24))] [0,1,2,8,25])
(.cond (.s 25) (Zs [mS 26 8,mS 6 26,.mv 7 cF] [6,7] .ret) .skip))
(Zs [.nilo 9 1 1] [0,1,2,8,9] (.seq (Zs [mS 27 0,nS 28 27,.mv 29 (ci 0)] [1,2,8,9,27,28,29] (.block 0 (.loop ([1,2,8,9,27,28,29],[2,3,4,5,6,7]) (Zs [bS 30 .lss 29 28] [1,2,8,9,27,28,29,30] (.seq (cX 30 0)
(.seq (.block 1 (Zs [xS 31 4 27 29,lT 32 4 31,.alloc 11 2 [pz,.emp 1,.pl (.sc (.bool false)),.pl (.sc (.bool false))],sS 4 11 32] [1,2,8,9,11,27,28,29] (.seq (.reg [Za (fS 33 11 2),Za (lF 34 1 33),Za (mS 35 34),Zb 35 true (fS 36 11 1),Zb 35 true (lF 37 1 36),Zb 35 true (mS 38 1),Zb 35 true (.call 39 [] (.f Nd) [.s 37,.s 38]),Zb 35 true (.un 40 .not (.s 39)),Za (.pick 41 (.s 35) (.s 40) cF)] [1,2,8,9,11,27,28,29,41])
(.cond (.s 41) (pr [mS 42 9,fS 43 11 0,lF 44 1 43,.lit 45 3 1 8 [.s 44],.app 46 1 1 8 (.s 42) (.s 45),mS 9 46] [1,2,8,9,27,28,29]) .skip))))
(pr [bC 47 .add 29 1,mS 29 47] [1,2,8,9,27,28,29])))))))
(.seq (Zs [mS 48 9,mS 49 1,.call 50 [4] (.f N6r) [.s 48,.s 49],nS 51 50,.mv 52 (ci 0)] [1,2,8,50,51,52] (.block 2 (.loop ([1,2,8,50,51,52],[1,2,3,5,6,7]) (Zs [bS 53 .lss 52 51] [1,2,8,50,51,52,53] (.seq (cX 53 2)
(.seq (.block 3 (Zs [xS 54 1 50 52,lF 55 1 54,.alloc 13 5 [pz],sS 1 13 55] [1,2,8,13,50,51,52] (.seq (Zs [mS 56 8,mS 57 1,.call 58 [6] (.f Nev) [.s 56,.s 57],nS 59 58,mS 60 2,bS 61 .geq 59 60] [1,2,8,13,50,51,52,61] (.cond (.s 61) (.exit 2) .skip))
(Zs [mS 62 8,.clos 63 N5z [13],.call 64 [] (.f Nc) [.s 62,.s 63],mS 14 64] [1,2,8,14,50,51,52] (pr [mS 65 8,mS 66 14,mS 67 8,mS 68 14,xS 69 4 67 68,fS 70 69 1,lF 71 1 70,mS 72 1,.call 73 [7] (.f N4y) [.s 71,.s 72],xS 74 4 65 66,fS 75 74 1,sS 1 75 73] [1,2,8,50,51,52])))))
(pr [bC 76 .add 52 1,mS 52 76] [1,2,8,50,51,52])))))))
(Zs [mS 77 8,mS 6 77,.mv 7 cT] [6,7] .ret)))))))
set_option maxHeartbeats 2000000 in
theorem Ck9(l:List GLibrary)(d k:Int)(hs:l.length+(l.map GLibrary.size).sum≤268435456):Ctr Tryz.prog N87 [aL 4 (l.map GLibrary.enc),aI d,aI k] [rL 4 ((repairL l d k).map GLibrary.enc),rB (K1j l d)]:=by
 refine cA M7e 8 78 [(.tmp 6,[true]),(.tmp 7,[false])] Tryz.func171 rfl rfl ?_;unfold M7e
 intro hb
 clear hb
 simp only[go_sem]
 apply K0 (C69 l (by omega))
 simp only[go_sem]
 intros
 apply K0 (Ck6 l (by omega))
 simp only[go_sem]
 refine⟨fun hno=>?_,fun hok=>?_⟩
 ·have e:K1j l d=false:=by unfold K1j;rw[hno];rfl
  simp[repairL,e]
 ·apply K0 (Clv l d)
  simp only[go_sem]
  intro _
  refine⟨fun hz=>?_,fun hz=>?_⟩
  ·have e:K1j l d=false:=by unfold K1j;rw[hz];simp
   simp[repairL,e]
  ·have e:K1j l d=true:=by unfold K1j;rw[hok];simpa using hz
   have eR:repairL l d k=tellL ((Kw (Ku d l) d).take (k-(holders d l).length).toNat) d l:=by unfold repairL;rw[if_pos e]
   rw[e,eR]
   have hup:=(libs_up (by simp only[K38,Bool.and_eq_true]at hok;exact hok.2):l.Pairwise (fun x y=>x.Id<y.Id)∧_).1
   refine K5 l (fun k=>[(9,.val false [.ref 1 0 1 0 (Ku d (l.take k)).length]),(29,vI k)]) (fun k=>[(1,⟨0,.row true 1 ((Ku d (l.take k)).map encI)⟩)]) (fun _=>True) (by simp only[roomB];omega) ?_
   simp only[go_sem]
   refine⟨?_,trivial,?_,?_⟩
   ·simp only[go_sem,List.take_zero]
    exact⟨rfl,rfl⟩
   ·intro m x hx _ h0 h1 hw
    have hul:=K7v d (l.take m)
    have hkl:(l.take m).length≤l.length:=by rw[List.length_take];omega
    simp only[go_sem,K4 hx,h0,h1,hw]
    refine⟨fun u=>?_,fun u=>?_⟩
    ·apply K0 (C2u x.Digests d)
     simp only[go_sem,hw]
     refine⟨fun hc=>?_,fun hc=>?_⟩
     ·rw[K8e hx (by unfold lackP;rw[u,hc];rfl)]
      simp only[roomB]
      simp[encI]
      omega
     ·rw[K4z hx (by unfold lackP;rw[u,hc];rfl)]
      exact⟨rfl,rfl⟩
    ·rw[K4z hx (by unfold lackP;rw[u];rfl)]
     exact⟨rfl,rfl⟩
   ·intro _
    have hul:=K7v d l
    simp only[go_sem,List.take_length]
    apply K0 (Cfw (Ku d l) d (by omega))
    simp only[go_sem]
    intros
    have hol:=K51 (Ku d l) d
    have hnd:=K8x (Ku d l) d
    have hmem:∀x∈Kw (Ku d l) d,x∈Ku d l:=fun x hx=>ordFor_mem.1 hx
    generalize Kw (Ku d l) d=order at*
    refine K5 order (fun m=>[(52,vI m)]) (fun m=>[(0,⟨0,.row true 4 ((tellL (order.take m) d l).map GLibrary.enc)⟩)]) (fun m=>(holders d (tellL (order.take m) d l)).length=(holders d l).length+m∧m≤(k-(holders d l).length).toNat) (by simp only[roomB];omega) ?_
    simp only[go_sem]
    refine⟨?_,⟨by rw[List.take_zero,Kad];simp,Nat.zero_le _⟩,?_,?_⟩
    ·simp only[go_sem,List.take_zero,Kad]
    ·rintro m id hx ⟨hn,hm⟩ h0 h1 hw
     have hml:=Kg hx
     have hsx:=Kc hx
     obtain⟨j,x,hj,rfl,hu,hc⟩:=lack_at (hmem _ (Km hx))
     have hjl:=Kg hj
     have hni:x.Id∉order.take m:=by
      intro hin
      have h2:=hnd
      rw[←List.take_append_drop m order,List.nodup_append]at h2
      exact h2.2.2 _ hin _ (by rw[Ki hx];simp) rfl
     have hset:=Kdq (s:=order.take m) (d:=d) hup hj
     have hhold:=tell_hold hup hj hu hc hni
     have hidx:=tell_idx (d:=d) hup hj hni
     have hget:(tellL (order.take m) d l)[j]? =some x:=by simp[tellL,hj,K5q hni]
     have hlen:=K2b (s:=order.take m) (d:=d) (l:=l)
     rw[hsx]
     rw[hhold]
     have hxl:=Kz (f:=GLibrary.size) (Km hj)
     have hxd:x.Digests.length≤268435456:=by simp only[GLibrary.size]at hxl;omega
     simp only[go_sem,K4 hx,h0,h1,K2b]
     apply K0 (Cn8 (tellL (order.take m) d l) d (by omega))
     simp only[go_sem,K2b]
     intros
     refine⟨fun hge=>?_,fun hlt=>?_⟩
     ·have em:(k-(holders d l).length).toNat=m:=by omega
      rw[em]
     ·apply K0 (C3e (tellL (order.take m) d l) _ [.pb [tI x.Id]] (fun y=>decide (y.Id=x.Id)) fun y _=>Ch9 y x.Id)
      simp only[go_sem,hidx,K4 hget,K2b]
      intro _
      refine⟨⟨by omega,by omega⟩,?_⟩
      apply K0 (Cb3 x.Digests d (by omega))
      simp only[go_sem,K4 hget,hw,K2b]
      rw[hset,List.map_set]
      refine⟨⟨by omega,by omega⟩,fun _=>⟨rfl,by omega,by omega⟩⟩
    ·rintro ⟨hn,hm⟩
     simp only[go_sem,List.take_length,K2b]
     rw[List.take_of_length_le (by omega)]
def M81:MC:=
(Zs [.nilo 6 0 4,.mv 7 cF] [0,1,2] (Zs [mS 15 0,.call 16 [0] (.f N8y) [.s 15],mS 8 16] [0,1,2,8] (.seq (.seq (.reg [Za (mS 17 0),Za (.call 18 [] (.f N8m) [.s 17]),Za (.un 19 .not (.s 18)),Za (mS 20 19),Zb 20 false (mS 21 0),Zb 20 false (mS 22 1),Zb 20 false (.call 23 [] (.f Nda) [.s 21,.s 22]),Zb 20 false (bC 24 .eql 23 0),Za (.pick 25 (.s 20) cT (.s 24))] [0,1,2,8,25])
(.cond (.s 25) (Zs [mS 26 8,mS 6 26,.mv 7 cF] [6,7] .ret) .skip))
(Zs [.lit 27 1 1 8 [],mS 9 27] [0,1,2,8,9] (.seq (Zs [.mv 10 (ci 0)] [0,1,2,8,9,10] (.block 0 (.loop ([0,1,2,8,9,10],[2,3,4,5]) (.seq (Zs [mS 28 10,mS 29 0,nS 30 29,bS 31 .lss 28 30] [0,1,2,8,9,10,31] (cX 31 0))
(.seq (.block 1 (.seq (.reg [Za (mS 34 0),Za (mS 35 10),Za (xS 36 4 34 35),Za (fS 37 36 2),Za (lF 38 1 37),Za (mS 39 38),Zb 39 true (mS 40 0),Zb 39 true (mS 41 10),Zb 39 true (xS 42 4 40 41),Zb 39 true (fS 43 42 1),Zb 39 true (lF 44 1 43),Zb 39 true (mS 45 1),Zb 39 true (.call 46 [] (.f N2g) [.s 44,.s 45]),Zb 39 true (.un 47 .not (.s 46)),Za (.pick 48 (.s 39) (.s 47) cF)] [0,1,2,8,9,10,48])
(.cond (.s 48) (pr [mS 49 9,mS 50 0,mS 51 10,xS 52 4 50 51,fS 53 52 0,lF 54 1 53,.lit 55 2 1 8 [.s 54],.app 56 1 1 8 (.s 49) (.s 55),mS 9 56] [0,1,2,8,9,10]) .skip)))
(pr [mS 32 10,bC 33 .add 32 1,mS 10 33] [0,1,2,8,9,10]))))))
(Zs [mS 57 9,mS 58 1,.call 59 [3] (.f N6z) [.s 57,.s 58],mS 11 59] [0,1,2,8,11] (Zs [mS 60 0,mS 61 1,.call 62 [4] (.f Nfh) [.s 60,.s 61],nS 63 62,mS 12 63] [1,2,8,11,12] (.seq (Zs [.mv 13 (ci 0)] [1,2,8,11,12,13] (.block 2 (.loop ([1,2,8,11,12,13],[1,2,4,5]) (.seq (.seq (.reg [Za (mS 64 13),Za (mS 65 11),Za (nS 66 65),Za (bS 67 .lss 64 66),Za (mS 68 67),Zb 68 true (mS 69 12),Zb 68 true (mS 70 2),Zb 68 true (bS 71 .lss 69 70),Za (.pick 72 (.s 68) (.s 71) cF)] [1,2,8,11,12,13,72])
(cX 72 2))
(.seq (.block 3 (.seq (Zs [.mv 14 (ci 0)] [1,2,8,11,12,13,14] (.block 4 (.loop ([1,2,8,11,12,13,14],[1,2,4,5]) (.seq (Zs [mS 75 14,mS 76 8,nS 77 76,bS 78 .lss 75 77] [1,2,8,11,12,13,14,78] (cX 78 4))
(.seq (.block 5 (.seq (.dreg [Zc [82,86,87,88,89] (mS 81 8),Zc [81,86,87,88,89] (mS 82 14),Zd [86,87,88,89] [0,1] (xS 83 4 81 82),Zd [86,87,88,89] [0,1,2] (fS 84 83 0),Zd [86,87,88,89] (.range 4) (lF 85 1 84),Zc [81,82,83,84,85,87] (mS 86 11),Zc [81,82,83,84,85,86] (mS 87 13),Zd [81,82,83,84,85] [5,6] (xS 88 1 86 87),Zd [81,82,83,84,85] [5,6,7] (lF 89 1 88),Ze (.range 9) (bS 90 .eql 85 89)] [1,2,8,11,12,13,14,90])
(.cond (.s 90) (pr [mS 91 8,mS 92 14,mS 93 8,mS 94 14,xS 95 4 93 94,fS 96 95 1,lF 97 1 96,mS 98 1,.call 99 [5] (.f Nfr) [.s 97,.s 98],xS 100 4 91 92,fS 101 100 1,sS 1 101 99] [1,2,8,11,12,13,14]) .skip)))
(pr [mS 79 14,bC 80 .add 79 1,mS 14 80] [1,2,8,11,12,13,14]))))))
(pr [mS 102 12,bC 103 .add 102 1,mS 12 103] [1,2,8,11,12,13])))
(pr [mS 73 13,bC 74 .add 73 1,mS 13 74] [1,2,8,11,12,13]))))))
(Zs [mS 104 8,mS 6 104,.mv 7 cT] [6,7] .ret)))))))))
set_option maxHeartbeats 2000000 in
theorem Ckq(l:List GLibrary)(d k:Int)(hs:l.length+(l.map GLibrary.size).sum≤268435456):Ctr Tryz.prog N8o [aL 4 (l.map GLibrary.enc),aI d,aI k] [rL 4 ((repairL l d k).map GLibrary.enc),rB (K1j l d)]:=by
 refine cA M81 6 105 [(.tmp 6,[true]),(.tmp 7,[false])] Tryz.func149 rfl rfl ?_;unfold M81
 intro hb
 clear hb
 simp only[go_sem]
 apply K0 (Chm l (by omega))
 simp only[go_sem]
 intros
 apply K0 (Cko l (by omega))
 simp only[go_sem]
 refine⟨fun hno=>?_,fun hok=>?_⟩
 ·have e:K1j l d=false:=by unfold K1j;rw[hno];rfl
  simp[repairL,e]
 ·apply K0 (Cml l d)
  simp only[go_sem]
  intro _
  refine⟨fun hz=>?_,fun hz=>?_⟩
  ·have e:K1j l d=false:=by unfold K1j;rw[hz];simp
   simp[repairL,e]
  ·have e:K1j l d=true:=by unfold K1j;rw[hok];simpa using hz
   have eR:repairL l d k=tellL ((Kw (Ku d l) d).take (k-(holders d l).length).toNat) d l:=by unfold repairL;rw[if_pos e]
   rw[e,eR]
   refine K5 l (fun k=>[(9,.val false [.ref 1 0 1 0 (Ku d (l.take k)).length]),(10,vI k)]) (fun k=>[(1,⟨0,.row true 1 ((Ku d (l.take k)).map encI)⟩)]) (fun _=>True) (by simp only[roomB];omega) ?_
   simp only[go_sem]
   refine⟨?_,trivial,?_,?_⟩
   ·simp only[go_sem,List.take_zero]
    exact⟨rfl,rfl⟩
   ·intro m x hx _ h0 h1 hw
    have hul:=K7v d (l.take m)
    have hkl:(l.take m).length≤l.length:=by rw[List.length_take];omega
    simp only[go_sem,K4 hx,h0,h1,hw]
    refine⟨fun u=>?_,fun u=>?_⟩
    ·apply K0 (C3f x.Digests d)
     simp only[go_sem,K4 hx,h0,h1,hw]
     refine⟨fun hc=>?_,fun hc=>?_⟩
     ·rw[K8e hx (by unfold lackP;rw[u,hc];rfl)]
      simp only[roomB]
      simp[encI]
      omega
     ·rw[K4z hx (by unfold lackP;rw[u,hc];rfl)]
      exact⟨rfl,rfl⟩
    ·rw[K4z hx (by unfold lackP;rw[u];rfl)]
     exact⟨rfl,rfl⟩
   ·intro _
    have hul:=K7v d l
    have hhl:=Ka1 d l
    simp only[go_sem,List.take_length]
    apply K0 (Cg0 (Ku d l) d (by omega))
    simp only[go_sem]
    intros
    have hol:=K51 (Ku d l) d
    have hnd:=K8x (Ku d l) d
    generalize Kw (Ku d l) d=order at*
    apply K0 (Cnp l d (by omega))
    simp only[go_sem]
    intros
    generalize hN:(holders d l).length=N at*
    refine K5 order (fun m=>[(12,vI (N+m:Nat)),(13,vI m)]) (fun m=>[(0,⟨0,.row true 4 ((tellL (order.take m) d l).map GLibrary.enc)⟩)]) (fun m=>m≤(k-N).toNat) (by simp only[roomB];omega) ?_
    simp only[go_sem]
    refine⟨?_,Nat.zero_le _,?_,?_⟩
    ·simp only[go_sem,List.take_zero,Kad]
     try rfl
    ·intro m id hx hm h0 h1 hw
     have hml:=Kg hx
     have hsx:=Kc hx
     have hni:id∉order.take m:=by
      intro hin
      have h2:=hnd
      rw[←List.take_append_drop m order,List.nodup_append]at h2
      exact h2.2.2 _ hin _ (by rw[Ki hx];simp) rfl
     rw[hsx]
     simp only[go_sem,h1,K2b]
     refine⟨fun hlt=>?_,fun hge=>?_⟩
     ·refine K5 l (fun j=>[(14,vI j)]) (fun j=>[(0,⟨0,.row true 4 ((midL (order.take m) id d l j).map GLibrary.enc)⟩)]) (fun _=>True) (by simp only[roomB];omega) ?_
      simp only[go_sem]
      refine⟨?_,trivial,?_,?_⟩
      ·simp only[go_sem,midL_zero]
       try rfl
      ·intro j x hj _ g0 g1 gw
       have hxl:=Kz (f:=GLibrary.size) (Km hj)
       have hxd:x.Digests.length≤268435456:=by simp only[GLibrary.size]at hxl;omega
       have hmg:=midL_get (s:=order.take m) (id:=id) (d:=d) hj
       by_cases he:x.Id=id
       ·rw[K5q (by rw[he];exact hni)]at hmg
        have hst:=midL_step (s:=order.take m) (id:=id) (d:=d) hj
        rw[Kb8 he]at hst
        rw[←hst]
        simp only[go_sem,K4 hmg,K4 hx,h0,h1,g0,g1,gw,Ka4,he]
        apply K0 (Clh x.Digests d (by omega))
        simp only[go_sem,K4 hmg,g0,g1,gw,Ka4,he]
        intros
        rw[List.map_set]
        rfl
       ·have hsm:=midL_same (s:=order.take m) (d:=d) hj he
        rw[←hsm]
        have hne:¬(K1k (order.take m) d x).Id=id:=by rw[Kch];exact he
        simp only[go_sem,K4 hmg,K4 hx,h0,h1,g0,g1,gw,Ka4,hne]
      ·intro _
       have hw2:IntKind.i64.wrap (((N+m:Nat):Int)+1)=((N+(m+1):Nat):Int):=by simp only[roomB]at *;rw[wI (by omega) (by omega)];omega
       simp only[go_sem,midL_all,hw,hw2,K2b]
       omega
     ·have em:(k-N).toNat=m:=by omega
      rw[em]
    ·intro hm
     simp only[go_sem,List.take_length,K2b]
     rw[List.take_of_length_le (by omega)]
def K18(l:List GLibrary)(xs:List GContainer):List GLibrary:=xs.foldl (fun l x=>repairL l x.Root 3) l
def K40(a:GArchive):GArchive:={a with Libraries:=K18 a.Libraries a.Disk.Containers}
theorem K7g{l:List GLibrary}{xs:List GContainer}{k:Nat}{x:GContainer}(h:xs[k]? =some x):K18 l (xs.take (k+1))=repairL (K18 l (xs.take k)) x.Root 3:=by
 rw[Kc h,K18,List.foldl_append];rfl
theorem K3i:∀ {xs:List GContainer} {l:List GLibrary},((K18 l xs).map GLibrary.size).sum≤(l.map GLibrary.size).sum+6*xs.length∧(K18 l xs).length=l.length
 | [],l=>by simp[K18]
 |x::xs,l=>by
  have h1:=K9m (l:=l) (d:=x.Root) (k:=3)
  have h2:=K3i (xs:=xs) (l:=repairL l x.Root 3)
  simp only[K18,List.foldl_cons,List.length_cons]at*
  omega
theorem K35{xs:List GContainer}{l:List GLibrary}:(K18 l xs).length=l.length:=K3i.2
theorem K9l{l:List GLibrary}{d k:Int}:(repairL l d k).length=l.length:=K9m.2
theorem K8f{l:List GLibrary}:K18 l []=l:=rfl
theorem Kcd{l:List GLibrary}{d k:Int}(h:K1j l d=false):repairL l d k=l:=by unfold repairL;rw[h];rfl
theorem Kcr(a:GArchive):(K40 a).size≤7*a.size:=by
 have h:=K3i (xs:=a.Disk.Containers) (l:=a.Libraries)
 simp only[K40,GArchive.size,GDisk.size]
 omega
def Mbk:MC:=
(Zs [.box 1 0 (.s 0),.alloc 2 1 [.emp 9,.emp 4,.emp 4,.emp 6,.emp 4,.emp 5,.emp 4,.emp 1,.emp 4,pz],.mv 3 cF] [1,2] (Zs [lT 9 10 1,.call 10 [2,3,4,5,6,7,8,9,10] (.f N5) [.s 9],.alloc 4 11 [.emp 9,.emp 4,.emp 4,.emp 6,.emp 4,.emp 5,.emp 4,.emp 1,.emp 4,pz],sS 10 4 10] [1,2,4] (.seq (Zs [fS 11 1 2,fS 12 11 0,lF 13 1 12,nS 14 13,.mv 15 (ci 0)] [1,2,4,13,14,15] (.block 0 (.loop ([1,2,4,13,14,15],[12,13]) (Zs [bS 16 .lss 15 14] [1,2,4,13,14,15,16] (.seq (cX 16 0)
(.seq (.block 1 (Zs [xS 17 4 13 15,lT 18 4 17,.alloc 6 12 [.emp 4,.emp 5,.emp 9,pz],sS 4 6 18] [1,2,4,6,13,14,15] (Zs [fS 20 4 6,lF 21 1 20,fS 22 6 3,lF 23 1 22,.call 24 [13] (.f N87) [.s 21,.s 23,.c (.int .i64 3)],mS 19 24,.ext 25 (.s 19) 0,.ext 26 (.s 19) 1,mS 7 25,mS 8 26] [1,2,4,7,8,13,14,15] (Zs [mS 27 8] [1,2,4,7,13,14,15,27] (.cond (.s 27) (.ren [(13,8)] (pr [mS 28 7,fS 29 4 6,sS 1 29 28] [1,2,4,13,14,15])) .skip)))))
(pr [bC 30 .add 15 1,mS 15 30] [1,2,4,13,14,15])))))))
(.seq (.dreg [Zc [32,33,34,35,36,37] (lT 31 10 4),Zc [31,34,35] (fS 32 4 6),Zd [31,34,35] [1] (lF 33 1 32),Zc [31,32,33] (fS 34 1 6),Zd [31,32,33] [3] (lF 35 1 34),Zd [31] [1,2,3,4] (.call 36 [] (.f N5y) [.s 33,.s 35]),Zg [31] [1,2,3,4,5,6,7,8,9,10] [1,2,3,4,5] (.un 37 .not (.s 36)),{o:=sS 10 2 31,hs:=[37],ws:=[1,2,3,4,5,6,7,8,9,10],bf:=(.range 6)},Ze (.range 8) (mS 3 37)] [2,3])
.ret))))
set_option maxHeartbeats 2000000 in
theorem Cm2(a:GArchive)(hs:a.size≤33554432):Ctr Tryz.prog Ncp [aS a.enc] [rS (K40 a).enc,rB (!decide ((K40 a).Libraries=a.Libraries))]:=by
 refine cA Mbk 14 38 [(.cell 2 true 10,[true,true,true,true,true,true,true,true,true,false]),(.tmp 3,[false])] Tryz.func77 rfl rfl ?_;unfold Mbk
 intro hb
 clear hb
 have hlib:a.Libraries.length+(a.Libraries.map GLibrary.size).sum+a.Disk.Containers.length≤33554432:=by simp only[GArchive.size,GDisk.size]at hs;omega
 simp only[go_sem]
 apply K0 (C9 a (by omega))
 simp only[go_sem]
 intros
 refine K5 a.Disk.Containers (fun k=>[(15,vI k)]) (fun k=>[(8,⟨0,.row true 4 ((K18 a.Libraries (a.Disk.Containers.take k)).map GLibrary.enc)⟩)]) (fun _=>True) (by simp only[roomB];omega) ?_
 simp only[go_sem]
 refine⟨?_,trivial,?_,?_⟩
 ·simp only[go_sem,List.take_zero,K8f]
  try trivial
 ·intro k x hx _ h0 h1 hw
  have hsn:=K7g (l:=a.Libraries) hx
  have hsz:=K3i (xs:=a.Disk.Containers.take k) (l:=a.Libraries)
  have hkl:(a.Disk.Containers.take k).length≤a.Disk.Containers.length:=by rw[List.length_take];omega
  rw[hsn]
  have hL:(K18 a.Libraries (a.Disk.Containers.take k)).length=a.Libraries.length:=K35
  generalize K18 a.Libraries (a.Disk.Containers.take k)=L at*
  simp only[go_sem,K4 hx,h0,h1,hL]
  apply K0 (Ck9 L x.Root 3 (by omega))
  simp only[go_sem,hw,hL,K9l,and_self]
  intro _ hn
  rw[Kcd hn]
 ·intro _
  simp only[go_sem,List.take_length,K35]
  apply K0 (Ch8 (K18 a.Libraries a.Disk.Containers) a.Libraries)
  simp only[go_sem,K35]
  exact⟨⟨rfl,rfl,rfl,rfl,rfl,rfl,rfl,rfl,rfl,rfl⟩,rfl⟩
def Mcd:MC:=
(Zs [.box 1 0 (.s 0),.alloc 2 1 [.emp 9,.emp 4,.emp 4,.emp 6,.emp 4,.emp 5,.emp 4,.emp 1,.emp 4,pz],.mv 3 cF] [1,2] (Zs [lT 8 10 1,.call 9 [2,3,4,5,6,7,8,9,10] (.f Ng) [.s 8],.alloc 4 11 [.emp 9,.emp 4,.emp 4,.emp 6,.emp 4,.emp 5,.emp 4,.emp 1,.emp 4,pz],sS 10 4 9] [1,2,4] (.seq (Zs [.mv 5 (ci 0)] [1,2,4,5] (.block 0 (.loop ([1,2,4,5],[12]) (.seq (Zs [mS 10 5,fS 11 1 2,fS 12 11 0,lF 13 1 12,nS 14 13,bS 15 .lss 10 14] [1,2,4,5,15] (cX 15 0))
(.seq (.block 1 (.seq (.dreg [Zc [21,22,23,24,25,26,27] (fS 19 4 6),Zd [21,22,23,24,25,26,27] [0] (lF 20 1 19),Zc [19,20,24] (fS 21 1 2),Zd [19,20,24] [2] (fS 22 21 0),Zd [19,20,24] [2,3] (lF 23 1 22),Zc [19,20,21,22,23] (mS 24 5),Zd [19,20] [2,3,4,5] (xS 25 4 23 24),Zd [19,20] [2,3,4,5,6] (fS 26 25 3),Zd [19,20] [2,3,4,5,6,7] (lF 27 1 26),{o:= .call 28 [12] (.f N8o) [.s 20,.s 27,.c (.int .i64 3)],ws:=[12],bf:=(.range 9)},Ze (.range 10) (mS 18 28),Zd [30] (.range 11) (.ext 29 (.s 18) 0),Zd [6,29] (.range 11) (.ext 30 (.s 18) 1),Zd [30] (.range 12) (mS 6 29),Ze (.range 14) (mS 7 30)] [1,2,4,5,6,7])
(Zs [mS 31 7] [1,2,4,5,6,31] (.cond (.s 31) (.ren [(12,8)] (pr [mS 32 6,fS 33 4 6,sS 1 33 32] [1,2,4,5])) .skip))))
(pr [mS 16 5,bC 17 .add 16 1,mS 5 17] [1,2,4,5]))))))
(.seq (.dreg [Zc [35,36,37,38,39,40] (lT 34 10 4),Zc [34,37,38] (fS 35 4 6),Zd [34,37,38] [1] (lF 36 1 35),Zc [34,35,36] (fS 37 1 6),Zd [34,35,36] [3] (lF 38 1 37),Zd [34] [1,2,3,4] (.call 39 [] (.f N66) [.s 36,.s 38]),Zg [34] [1,2,3,4,5,6,7,8,9,10] [1,2,3,4,5] (.un 40 .not (.s 39)),{o:=sS 10 2 34,hs:=[40],ws:=[1,2,3,4,5,6,7,8,9,10],bf:=(.range 6)},Ze (.range 8) (mS 3 40)] [2,3])
.ret))))
set_option maxHeartbeats 2000000 in
theorem Cmq(a:GArchive)(hs:a.size≤33554432):Ctr Tryz.prog Ndf [aS a.enc] [rS (K40 a).enc,rB (!decide ((K40 a).Libraries=a.Libraries))]:=by
 refine cA Mcd 13 41 [(.cell 2 true 10,[true,true,true,true,true,true,true,true,true,false]),(.tmp 3,[false])] Tryz.func60 rfl rfl ?_;unfold Mcd
 intro hb
 clear hb
 have hlib:a.Libraries.length+(a.Libraries.map GLibrary.size).sum+a.Disk.Containers.length≤33554432:=by simp only[GArchive.size,GDisk.size]at hs;omega
 simp only[go_sem]
 apply K0 (Cs a (by omega))
 simp only[go_sem]
 intros
 refine K5 a.Disk.Containers (fun k=>[(5,vI k)]) (fun k=>[(8,⟨0,.row true 4 ((K18 a.Libraries (a.Disk.Containers.take k)).map GLibrary.enc)⟩)]) (fun _=>True) (by simp only[roomB];omega) ?_
 simp only[go_sem]
 refine⟨?_,trivial,?_,?_⟩
 ·simp only[go_sem,List.take_zero,K8f]
  try trivial
 ·intro k x hx _ h0 h1 hw
  have hsn:=K7g (l:=a.Libraries) hx
  have hsz:=K3i (xs:=a.Disk.Containers.take k) (l:=a.Libraries)
  have hkl:(a.Disk.Containers.take k).length≤a.Disk.Containers.length:=by rw[List.length_take];omega
  rw[hsn]
  have hL:(K18 a.Libraries (a.Disk.Containers.take k)).length=a.Libraries.length:=K35
  generalize K18 a.Libraries (a.Disk.Containers.take k)=L at*
  simp only[go_sem,K4 hx,h0,h1,hL]
  apply K0 (Ckq L x.Root 3 (by omega))
  simp only[go_sem,hw,hL,K9l,and_self]
  intro _ hn
  rw[Kcd hn]
 ·intro _
  simp only[go_sem,List.take_length,K35]
  apply K0 (Chk (K18 a.Libraries a.Disk.Containers) a.Libraries)
  simp only[go_sem,K35]
  exact⟨⟨rfl,rfl,rfl,rfl,rfl,rfl,rfl,rfl,rfl,rfl⟩,rfl⟩
def K1o(a:GArchive)(e:GEvent):GArchive:=
 if e.Kind=1 then K24 a e.N e.Inputs else if e.Kind=2 then K3j a else if e.Kind=3 then K59 a else if e.Kind=4 then K3m a e.Version
 else if e.Kind=5 then K3z a e.Exclusion else if e.Kind=6 then K2g a e.N true else if e.Kind=7 then K2g a e.N false else if e.Kind=8 then K40 a else if e.Kind=9 then K54 a e.N else a
def K96(a:GArchive)(e:GEvent):Bool:=
 if e.Kind=1 then K1b a e.N e.Inputs else if e.Kind=2 then K2e a.Disk else if e.Kind=3 then K2k a.Disk else if e.Kind=4 then K2h a e.Version
 else if e.Kind=5 then K2l a e.Exclusion else if e.Kind=6 then K3w a e.N true else if e.Kind=7 then K3w a e.N false else if e.Kind=8 then !decide ((K40 a).Libraries=a.Libraries)else if e.Kind=9 then K3a a e.N else false
theorem Kcx{a:GArchive}{e:GEvent}(hs:a.size≤16777216)(he:e.size≤16777216):(K1o a e).size≤600000000:=by
 have h1:=visit_size (a:=a) e.N e.Inputs hs
 have h2:=wrote_size a
 have h3:=crash_size a
 have h4:=change_size a e.Version
 have h5:=excl_size a e.Exclusion
 have h6:=Kde a e.N true
 have h7:=Kde a e.N false
 have h8:=Kcr a
 have h9:=tick_size a e.N
 have hv:e.Version.size≤e.size:=by simp only[GEvent.size];omega
 unfold K1o
 repeat' split
 all_goals omega
def Y40(v0:Nat)(v1:Nat)(v2:Nat)(v3:Nat)(v4:Nat)(v5:Nat)(v6:Nat)(v7:Nat)(v8:Nat):MC:=
(Zs [.box 2 0 (.s 0),.box 3 1 (.s 1),.alloc 4 2 [.emp 9,.emp 4,.emp 4,.emp 6,.emp 4,.emp 5,.emp 4,.emp 1,.emp 4,pz],.mv 5 cF] [2,3,4] (.seq (Zs [fS 6 3 0,lF 7 1 6] [2,3,4,7] (.block 0 (Zs [bC 9 .eql 7 1,mS 8 9] [2,3,4,7,8] (.cond (.s 8) (Zs [lT 10 10 2,fS 11 3 1,lF 12 1 11,fS 13 3 2,lF 14 1 13,.call 15 [3,4,5,6,7,8,9,10,11] (.f v0) [.s 10,.s 12,.s 14],.ext 16 (.s 15) 0,.ext 17 (.s 15) 1,sS 10 4 16,mS 5 17] [4,5] .ret) (Zs [bC 19 .eql 7 2,mS 18 19] [2,3,4,7,18] (.cond (.s 18) (Zs [lT 20 10 2,.call 21 [12,13,14,15,16,17,18,19,20] (.f v1) [.s 20],.ext 22 (.s 21) 0,.ext 23 (.s 21) 1,sS 10 4 22,mS 5 23] [4,5] .ret) (Zs [bC 25 .eql 7 3,mS 24 25] [2,3,4,7,24] (.cond (.s 24) (Zs [lT 26 10 2,.call 27 [21,22,23,24,25,26,27,28,29] (.f v2) [.s 26],.ext 28 (.s 27) 0,.ext 29 (.s 27) 1,sS 10 4 28,mS 5 29] [4,5] .ret) (Zs [bC 31 .eql 7 4,mS 30 31] [2,3,4,7,30] (.cond (.s 30) (Zs [lT 32 10 2,fS 33 3 3,lT 34 9 33,.call 35 [30,31,32,33,34,35,36,37,38] (.f v3) [.s 32,.s 34],.ext 36 (.s 35) 0,.ext 37 (.s 35) 1,sS 10 4 36,mS 5 37] [4,5] .ret) (Zs [bC 39 .eql 7 5,mS 38 39] [2,3,4,7,38] (.cond (.s 38) (Zs [lT 40 10 2,fS 41 3 12,lT 42 5 41,.call 43 [39,40,41,42,43,44,45,46,47] (.f v4) [.s 40,.s 42],.ext 44 (.s 43) 0,.ext 45 (.s 43) 1,sS 10 4 44,mS 5 45] [4,5] .ret) (.seq (Zs [bC 47 .eql 7 6,mS 46 47] [2,3,4,7,46] (.cond (.s 46) .skip (pr [bC 48 .eql 7 7,mS 46 48] [2,3,4,7,46])))
(.cond (.s 46) (Zs [lT 49 10 2,fS 50 3 1,lF 51 1 50,fS 52 3 0,lF 53 1 52,bC 54 .eql 53 6,.call 55 [48,49,50,51,52,53,54,55,56] (.f v5) [.s 49,.s 51,.s 54],.ext 56 (.s 55) 0,.ext 57 (.s 55) 1,sS 10 4 56,mS 5 57] [4,5] .ret) (Zs [bC 59 .eql 7 8,mS 58 59] [2,3,4,7,58] (.cond (.s 58) (Zs [lT 60 10 2,.call 61 [57,58,59,60,61,62,63,64,65] (.f v6) [.s 60],.ext 62 (.s 61) 0,.ext 63 (.s 61) 1,sS 10 4 62,mS 5 63] [4,5] .ret) (Zs [bC 65 .eql 7 9,mS 64 65] [2,3,4,64] (.cond (.s 64) (Zs [lT 66 10 2,fS 67 3 1,lF 68 1 67,.call 69 [66,67,68,69,70,71,72,73,74] (.f v7) [.s 66,.s 68],.ext 70 (.s 69) 0,.ext 71 (.s 69) 1,sS 10 4 70,mS 5 71] [4,5] .ret) .skip))))))))))))))))))
(Zs [lT 72 10 2,.call 73 [75,76,77,78,79,80,81,82,83] (.f v8) [.s 72],sS 10 4 73,.mv 5 cF] [4,5] .ret)))
attribute [go_sem] Y40
def Mb8:MC:=Y40 Nf1 Nf2 Nez Nco Na9 Naa Ncp Ngs N5
set_option maxHeartbeats 2000000 in
theorem Cb2(a:GArchive)(e:GEvent)(hs:a.size≤16777216)(he:e.size≤16777216):Ctr Tryz.prog N4w [aS a.enc,aS e.enc] [rS (K1o a e).enc,rB (K96 a e)]:=by
 refine cA Mb8 84 74 [(.cell 4 true 10,[true,true,true,true,true,true,true,true,true,false]),(.tmp 5,[false])] Tryz.func13 rfl rfl ?_;unfold Mb8
 intro hb
 clear hb
 have hv:e.Version.size≤e.size:=by simp only[GEvent.size];omega
 simp only[go_sem]
 repeat' first
  |(refine And.intro ?_ ?_<;>intro h)
  |(apply K0 (Cnc a e.N e.Inputs (by omega));simp only[go_sem])
  |(apply K0 (Cnd a (by omega));simp only[go_sem])
  |(apply K0 (Cnb a (by omega));simp only[go_sem])
  |(apply K0 (Cm1 a e.Version (by omega) (by omega));simp only[go_sem])
  |(apply K0 (Ckx a e.Exclusion (by omega));simp only[go_sem])
  |(apply K0 (Cky a e.N _ (by omega));simp only[go_sem])
  |(apply K0 (Cm2 a (by omega));simp only[go_sem])
  |(apply K0 (Cnz a e.N (by omega));simp only[go_sem])
  |(apply K0 (C9 a (by omega));simp only[go_sem])
 all_goals (intro hx;clear hx;first|(exfalso;omega)|simp[K1o,K96, *])
def Mc3:MC:=Y40 Nfm Nfn Nfk Nde Nam Nan Ndf Nh1 Ng
set_option maxHeartbeats 2000000 in
theorem Cmi(a:GArchive)(e:GEvent)(hs:a.size≤16777216)(he:e.size≤16777216):Ctr Tryz.prog Nd7 [aS a.enc,aS e.enc] [rS (K1o a e).enc,rB (K96 a e)]:=by
 refine cA Mc3 84 74 [(.cell 4 true 10,[true,true,true,true,true,true,true,true,true,false]),(.tmp 5,[false])] Tryz.func10 rfl rfl ?_;unfold Mc3
 intro hb
 clear hb
 have hv:e.Version.size≤e.size:=by simp only[GEvent.size];omega
 simp only[go_sem]
 repeat' first
  |(refine And.intro ?_ ?_<;>intro h)
  |(apply K0 (Cnt a e.N e.Inputs (by omega));simp only[go_sem])
  |(apply K0 (Cnu a (by omega));simp only[go_sem])
  |(apply K0 (Cns a (by omega));simp only[go_sem])
  |(apply K0 (Cmp a e.Version (by omega) (by omega));simp only[go_sem])
  |(apply K0 (Cle a e.Exclusion (by omega));simp only[go_sem])
  |(apply K0 (Clf a e.N _ (by omega));simp only[go_sem])
  |(apply K0 (Cmq a (by omega));simp only[go_sem])
  |(apply K0 (Co9 a e.N (by omega));simp only[go_sem])
  |(apply K0 (Cs a (by omega));simp only[go_sem])
 all_goals (intro hx;clear hx;first|(exfalso;omega)|simp[K1o,K96, *])
def GEvent.mks(x:GEvent)(k:Int):GEvent:={x with Inputs:=mkL iMk iCt x.Inputs (k),Version:=x.Version.mks (k+(ctL iCt x.Inputs:Nat))}
def GEvent.cts(x:GEvent):Nat:=ctL iCt x.Inputs+x.Version.cts
theorem GEvent.cts_le(x:GEvent):x.cts≤16*x.size:=by
 simp only[GEvent.cts,GEvent.size]
 have hInputs:=ctL_le' (c:=iCt) (fun y=>by simp only[iCt];omega) x.Inputs
 have hVersion:=GVersion.cts_le x.Version
 omega
@[go_sem] theorem GEvent.mks_len0 (x:GEvent) (k:Int):((x.mks k).Inputs).length=x.Inputs.length:=K9
@[go_sem] theorem GEvent.mks_len1 (x:GEvent) (k:Int):((x.mks k).Version.Resource.Body).length=x.Version.Resource.Body.length:=K9
def Me9:MC:=
(Zs [.box 2 2 (.s 0),.mv 4 (ci 0)] [1,2] (Zs [fS 5 2 2,lF 6 1 5,mS 7 1,.callI 8 [] (.f N1q) [.s 6,.s 7] [0] [],mS 1 8] [1,2] (Zs [fS 9 2 3,lT 10 9 9,mS 11 1,.callI 12 [] (.f Nad) [.s 10,.s 11] [1] [],mS 1 12] [1] (Zs [mS 13 1,mS 4 13] [4] .ret))))
theorem Cnh(x:GEvent)(k:Int)(hk:0≤k)(hN:k+(x.cts:Nat)≤4611686018427387904):CtrI Tryz.prog Nf8 [oS x.enc,iI k] [some (1,(x.mks k).Inputs.map encI),some (1,(x.mks k).Version.Resource.Body.map encI)] [rI (k+(x.cts:Nat))]:=by
 refine Ky (M:=Me9) (m:=1) (n:=14) (res:=[(.tmp 4,[false])]) hmix Tryz.func17 rfl (by kernel_rfl) rfl (by kernel_rfl) (by kernel_rfl) (Nat.le_of_ble_eq_true rfl) rfl rfl ?_;unfold Me9
 intro hb
 clear hb
 simp only[GEvent.cts]at hN ⊢
 simp only[go_sem]
 refine K7 (C1n x.Inputs (k) (by omega) (by omega)) ?_
 simp only[go_sem]
 refine K7 (Cl2 x.Version (k+(ctL iCt x.Inputs:Nat)) (by omega) (by omega)) ?_
 simp only[go_sem]
 all_goals (try omega)
 repeat' (first|rfl|omega|refine And.intro ?_ ?_)
def M44:MC:=
(Zs [.box 2 0 (.s 0),.box 3 1 (.s 1),.mv 4 cF] [2,3] (Zs [.mv 5 (ci 1048576)] [2,3,5] (Zs [lT 17 10 2,mS 18 5,.call 19 [] (.f Nf9) [.s 17,.s 18],mS 5 19] [2,3,5] (.seq (Zs [mS 20 5,bC 21 .lss 20 0] [2,3,5,21] (.cond (.s 21) (Zs [.mv 4 cT] [4] .ret) .skip))
(Zs [lT 22 17 3,mS 23 5,.call 24 [] (.f Nim) [.s 22,.s 23],mS 5 24] [2,3,5] (.seq (Zs [mS 25 5,bC 26 .lss 25 0] [2,3,26] (.cond (.s 26) (Zs [.mv 4 cT] [4] .ret) .skip))
(.seq (.dreg [Zf [6,30] [22] (lT 28 10 2),{o:= .call 29 [2,3,4,5,6,7,8,9,10] (.f N2a) [.s 28],hs:=[6,30],ho:=[22],ws:=[2,3,4,5,6,7,8,9,10],bf:=[0]},Zf [6,28,29] [2,3,4,5,6,7,8,9,10,22] (lT 30 17 3),{o:= .call 31 [11,12] (.f N33) [.s 30],hs:=[6],ho:=[22],ws:=[11,12],bf:=[0,1,2]},{o:= .call 32 [13,14,15,16,17,18,19,20,21] (.f Nd7) [.s 29,.s 31],hs:=[6],ho:=[22],ws:=[13,14,15,16,17,18,19,20,21],bf:=(.range 4)},Zg [6] [22] (.range 5) (mS 27 32),Zg [6,34] [22] (.range 6) (.ext 33 (.s 27) 0),Zg [6,33] [13,14,15,16,17,18,19,20,21,22] (.range 6) (.ext 34 (.s 27) 1),{o:= .alloc 6 22 [.emp 9,.emp 4,.emp 4,.emp 6,.emp 4,.emp 5,.emp 4,.emp 1,.emp 4,pz],hs:=[27,28,29,30,31,32,33,34],ho:=[2,3,4,5,6,7,8,9,10,11,12,13,14,15,16,17,18,19,20,21],ws:=[22]},{o:=sS 10 6 33,hs:=[34],ws:=[13,14,15,16,17,18,19,20,21,22],bf:=[0,1,2,3,4,5,6,8]},Ze (.range 10) (mS 7 34)] [2,3,6,7])
(Zs [lT 35 10 2,.call 36 [23,24,25,26,27,28,29,30,31] (.f N2a) [.s 35],.alloc 8 32 [.emp 9,.emp 4,.emp 4,.emp 6,.emp 4,.emp 5,.emp 4,.emp 1,.emp 4,pz],sS 10 8 36] [2,3,6,7,8] (Zs [lT 37 17 3,.call 38 [33,34] (.f N33) [.s 37],.alloc 9 35 [pz,pz,.emp 1,pz,pz,pz,pz,pz,.emp 1,pz,pz,pz,pz,pz,pz,pz,pz],sS 17 9 38] [2,3,6,7,8,9] (Zs [lT 40 10 8,lT 41 17 9,.call 42 [36,37,38,39,40,41,42,43,44] (.f N4w) [.s 40,.s 41],mS 39 42,.ext 43 (.s 39) 0,.ext 44 (.s 39) 1,.alloc 10 45 [.emp 9,.emp 4,.emp 4,.emp 6,.emp 4,.emp 5,.emp 4,.emp 1,.emp 4,pz],sS 10 10 43,mS 11 44] [2,3,6,7,8,9,10,11] (.seq (.seq (.reg [Za (lT 45 10 10),Za (lT 46 10 6),Za (.call 47 [] (.f N28) [.s 45,.s 46]),Za (.un 48 .not (.s 47)),Za (mS 49 48),Zb 49 false (mS 50 11),Zb 49 false (mS 51 7),Zb 49 false (.bin 52 true .neq (.s 50) (.s 51)),Za (.pick 53 (.s 49) cT (.s 52))] [2,3,6,7,8,9,10,11,53])
(.cond (.s 53) (Zs [.mv 4 cF] [4] .ret) .skip))
(.seq (.seq (.dreg [Zf [55,56] [46,47,48,49,50,51,52,53,54] (lT 54 10 8),Zc [54] (lT 55 10 2),{o:= .call 56 [46,47,48,49,50,51,52,53,54] (.f N2a) [.s 55],hs:=[54],ws:=[46,47,48,49,50,51,52,53,54],bf:=[1]},Ze [0,1,2] (.call 57 [] (.f N28) [.s 54,.s 56]),Ze (.range 4) (.un 58 .not (.s 57))] [2,3,6,7,8,9,10,11,58])
(.cond (.s 58) (Zs [.mv 4 cF] [4] .ret) .skip))
(.seq (.seq (.dreg [Zf [60,61] [55,56] (lT 59 17 9),Zc [59] (lT 60 17 3),{o:= .call 61 [55,56] (.f N33) [.s 60],hs:=[59],ws:=[55,56],bf:=[1]},Ze [0,1,2] (.call 62 [] (.f Nik) [.s 59,.s 61]),Ze (.range 4) (.un 63 .not (.s 62))] [2,3,6,7,8,9,10,11,63])
(.cond (.s 63) (Zs [.mv 4 cF] [4] .ret) .skip))
(Zs [.mv 12 (ci 1)] [2,3,6,7,8,9,10,11,12] (Zs [lT 64 10 8,mS 65 12,.callI 66 [] (.f N49) [.s 64,.s 65] [23,24,25,26,27,28,29,30,31] [],mS 12 66] [2,3,6,7,9,10,11,12] (Zs [lT 67 17 9,mS 68 12,.callI 69 [] (.f Nf8) [.s 67,.s 68] [33,34] [],mS 12 69] [2,3,6,7,10,11,12] (.seq (.seq (.reg [Za (mS 70 12),Za (bC 71 .lss 70 0),Za (mS 72 71),Zb 72 false (lT 73 10 10),Zb 72 false (lT 74 10 6),Zb 72 false (.call 75 [] (.f N28) [.s 73,.s 74]),Zb 72 false (.un 76 .not (.s 75)),Za (.pick 77 (.s 72) cT (.s 76)),Za (mS 78 77),Zb 78 false (mS 79 11),Zb 78 false (mS 80 7),Zb 78 false (.bin 81 true .neq (.s 79) (.s 80)),Za (.pick 82 (.s 78) cT (.s 81))] [2,3,6,7,10,82])
(.cond (.s 82) (Zs [.mv 4 cF] [4] .ret) .skip))
(Zs [.mv 13 (ci 1)] [2,3,6,7,10,13] (Zs [lT 83 10 10,mS 84 13,.callI 85 [] (.f N49) [.s 83,.s 84] [36,37,38,39,40,41,42,43,44] [],mS 13 85] [2,3,6,7,10,13] (Zs [.mv 14 (ci 1)] [2,3,6,7,10,13,14] (Zs [lT 86 10 10,mS 87 14,.call 88 [] (.f N48) [.s 86,.s 87],mS 14 88] [2,3,6,7,10,13,14] (.seq (Zs [mS 89 14,bC 90 .lss 89 0] [2,3,6,7,10,13,14,90] (.cond (.s 90) (Zs [.mv 4 cF] [4] .ret) .skip))
(.seq (Zs [mS 91 14,mS 92 13,bS 93 .neq 91 92] [2,3,6,7,10,13,93] (.cond (.s 93) (Zs [.mv 4 cF] [4] .ret) .skip))
(.seq (.dreg [Zf [15,97] [77] (lT 95 10 2),{o:= .call 96 [57,58,59,60,61,62,63,64,65] (.f N2a) [.s 95],hs:=[15,97],ho:=[77],ws:=[57,58,59,60,61,62,63,64,65],bf:=[0]},Zf [15,95,96] [57,58,59,60,61,62,63,64,65,77] (lT 97 17 3),{o:= .call 98 [66,67] (.f N33) [.s 97],hs:=[15],ho:=[77],ws:=[66,67],bf:=[0,1,2]},{o:= .call 99 [68,69,70,71,72,73,74,75,76] (.f N4w) [.s 96,.s 98],hs:=[15],ho:=[77],ws:=[68,69,70,71,72,73,74,75,76],bf:=(.range 4)},Zg [15] [77] (.range 5) (mS 94 99),Zg [15,101] [77] (.range 6) (.ext 100 (.s 94) 0),Zg [15,100] [68,69,70,71,72,73,74,75,76,77] (.range 6) (.ext 101 (.s 94) 1),{o:= .alloc 15 77 [.emp 9,.emp 4,.emp 4,.emp 6,.emp 4,.emp 5,.emp 4,.emp 1,.emp 4,pz],hs:=[94,95,96,97,98,99,100,101],ho:=[57,58,59,60,61,62,63,64,65,66,67,68,69,70,71,72,73,74,75,76],ws:=[77]},{o:=sS 10 15 100,hs:=[101],ws:=[68,69,70,71,72,73,74,75,76,77],bf:=[0,1,2,3,4,5,6,8]},Ze (.range 10) (mS 16 101)] [6,7,10,13,15,16])
(.seq (.seq (.reg [Za (lT 102 10 15),Za (lT 103 10 6),Za (.call 104 [] (.f N28) [.s 102,.s 103]),Za (.un 105 .not (.s 104)),Za (mS 106 105),Zb 106 false (mS 107 16),Zb 106 false (mS 108 7),Zb 106 false (.bin 109 true .neq (.s 107) (.s 108)),Za (.pick 110 (.s 106) cT (.s 109))] [10,13,110])
(.cond (.s 110) (Zs [.mv 4 cF] [4] .ret) .skip))
(Zs [.mv 14 (ci 1)] [10,13,14] (Zs [lT 111 10 10,mS 112 14,.call 113 [] (.f N48) [.s 111,.s 112],mS 14 113] [13,14] (.seq (Zs [mS 114 14,bC 115 .lss 114 0] [13,14,115] (.cond (.s 115) (Zs [.mv 4 cF] [4] .ret) .skip))
(.seq (Zs [mS 116 14,mS 117 13,bS 118 .neq 116 117] [118] (.cond (.s 118) (Zs [.mv 4 cF] [4] .ret) .skip))
(Zs [.mv 4 cT] [4] .ret))))))))))))))))))))))))))))))
theorem c_laws_FnExactApplyEvent(a:GArchive)(e:GEvent):Ctr Tryz.prog Nf4 [aS a.enc,aS e.enc] [rB true]:=by
 refine cA M44 78 119 [(.tmp 4,[false])] Tryz.func3 rfl rfl ?_;unfold M44
 intro hb
 clear hb
 simp only[go_sem]
 apply K0 (Cni a _ (by omega))
 simp only[go_sem]
 intro _ hz
 obtain⟨hz1,hz2,hz3⟩:=K20 (m:=e.size) (by omega) hz
 apply K0 (Coj e _ hz1)
 rw[←hz3]
 simp only[go_sem]
 intro _ hz
 have hs:=szr_ok hz
 have hc_a:=GArchive.cts_le a
 have hc_e:=GEvent.cts_le e
 have hr0:=GArchive.cts_le (K1o a e)
 have hl_applyTo_size:=Kcx (a:=a) (e:=e) (by omega) (by omega)
 apply K0 (C37 a (by omega))
 simp only[go_sem]
 try intros
 apply K0 (C4e e (by omega))
 simp only[go_sem]
 try intros
 apply K0 (Cmi a e (by omega) (by omega))
 simp only[go_sem]
 try intros
 apply K0 (C37 a (by omega))
 simp only[go_sem]
 try intros
 apply K0 (C4e e (by omega))
 simp only[go_sem]
 try intros
 apply K0 (Cb2 a e (by omega) (by omega))
 simp only[go_sem]
 try intros
 apply K0 (C36 (K1o a e) (K1o a e))
 simp only[go_sem]
 try intros
 apply K0 (C37 a (by omega))
 simp only[go_sem]
 try intros
 apply K0 (C36 a a)
 simp only[go_sem]
 try intros
 apply K0 (C4e e (by omega))
 simp only[go_sem]
 try intros
 apply K0 (Coh e e)
 simp only[go_sem]
 try intros
 apply K7 (C94 a (1) (by omega) (by omega))
 simp only[go_sem]
 try intros
 apply K7 (Cnh e (1+((a).cts:Nat)) (by omega) (by omega))
 simp only[go_sem]
 try intros
 have hk:¬((1+((a).cts:Nat)+((e).cts:Nat):Int))<0:=by omega
 simp only[go_sem,hk]
 try intros
 apply K0 (C36 (K1o a e) (K1o a e))
 simp only[go_sem]
 try intros
 apply K7 (C94 (K1o a e) (1) (by omega) (by omega))
 simp only[go_sem]
 try intros
 apply K0 (C93 (K1o a e) (1) (by omega) (by omega))
 simp only[go_sem]
 have hq0:¬((1+((K1o a e).cts:Nat):Int))<0:=by omega
 try simp only[go_sem,hq0]
 try intros
 apply K0 (C37 a (by omega))
 simp only[go_sem]
 try intros
 apply K0 (C4e e (by omega))
 simp only[go_sem]
 try intros
 apply K0 (Cb2 a e (by omega) (by omega))
 simp only[go_sem]
 try intros
 apply K0 (C36 (K1o a e) (K1o a e))
 simp only[go_sem]
 try intros
 apply K0 (C93 (K1o a e) (1) (by omega) (by omega))
 simp only[go_sem]
 have hq0:¬((1+((K1o a e).cts:Nat):Int))<0:=by omega
 try simp only[go_sem,hq0]
 try intros
end Go.Proofs.YtjneccbpkckdfaaGreatR
