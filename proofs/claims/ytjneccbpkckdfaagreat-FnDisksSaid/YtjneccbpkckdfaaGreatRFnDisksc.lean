/- A pure semantics of the program's operations over trees, proved against the model. No condition. -/
import Derived.Deep.Slices
import Derived.SizedLaws
import Derived.ChangeOld
import Derived.WalkKit
import Derived.ProofKit
import Derived.OpenShut
import Derived.Test.YtjneccbpkckdfaaGreatRFnDisksb
set_option linter.unusedVariables false
set_option linter.unusedSimpArgs false
namespace Go.Proofs.YtjneccbpkckdfaaGreatR
open Go Go.RowKit
def objsC:List (Bool×T)→List OV
 |(true,.sl sz es)::l=>⟨1,.row true sz es⟩::objsC l
 |_::l=>objsC l
 | []=>[]
def cellsS(k:Nat):List (Bool×T)→List SC
 |(true,.sl sz es)::l=> .ref k 1 sz 0 es.length::cellsS (k+1) l
 |(_,t)::l=> .pl t::cellsS k l
 | []=>[]
def objsA:List RV→List OV
 | []=>[]
 |r::l=>objsC r.cs++objsA l
def K5q:Nat→Nat→List RV→List (Nat×SV)
 |_,_,[]=>[]
 |i,k,r::l=>(i,.val r.agg (cellsS k r.cs))::K5q (i+1) (k+(objsC r.cs).length) l
def slC:List (Bool×T)→Bool
 |(true,.sl ..)::l=>slC l
 |(true,_)::_=>false
 |(false,_)::l=>slC l
 | []=>true
def slA:List RV→Bool
 | []=>true
 |r::l=>slC r.cs&&slA l
def startI(args:List RV)(n m:Nat):St:=⟨K5q 0 0 args,n,objsA args++List.replicate m ⟨0,.none⟩⟩
def endI(σ:St)(own:List Nat):Nat→List (Option (Nat×List (List T)))→Prop
 |_,[]=>True
 |j,none::l=>endI σ own (j+1) l
 |j,some x::l=>σ.ob j=⟨1,.row true x.1 x.2⟩∧¬j∈own∧endI σ own (j+1) l
def outI(σ:St)(res:List (MR×List Bool))(outs:List (Option (Nat×List (List T))))(rs:List RV):Prop:=
 ∃x,outR σ res=some x∧neuO x.2.1=true∧distinct (owns x.2.1)=true∧x.2.2= .e∧x.1=rs∧endI σ (owns x.2.1) 0 outs
section
variable {P:Program} {base:Nat→Prop} {Z:ZZ} {w w':World} {X:Nat→Prop}
theorem fl_nd:∀ {Fs:List (List Nat)},Fs.flatten.Nodup→∀j,(Fs.getD j []).Nodup
 | [],_,j=>by simp
 |F::Fs,h,j=>by
  rw[List.flatten_cons]at h
  have h:=List.nodup_append.1 h
  cases j with
  |zero=>simpa using h.1
  |succ j=>simpa using fl_nd h.2.1 j
theorem K5g:∀ {Fs:List (List Nat)} {j b:Nat},b∈Fs.getD j []→b∈Fs.flatten
 | [],j,b,h=>by simp at h
 |F::Fs,j,b,h=>by
  rw[List.flatten_cons]
  cases j with
  |zero=>exact List.mem_append.2 (.inl (by simpa using h))
  |succ j=>exact List.mem_append.2 (.inr (K5g (by simpa using h)))
theorem fl_dj:∀ {Fs:List (List Nat)},Fs.flatten.Nodup→∀ {i j b:Nat},b∈Fs.getD i []→b∈Fs.getD j []→i=j
 | [],_,i,j,b,h,_=>by simp at h
 |F::Fs,h,i,j,b,hi,hj=>by
  rw[List.flatten_cons]at h
  have h:=List.nodup_append.1 h
  cases i with
  |zero=>
   cases j with
   |zero=>rfl
   |succ j=>exact(h.2.2 b (by simpa using hi) b (K5g (j:=j) (by simpa using hj)) rfl).elim
  |succ i=>
   cases j with
   |zero=>exact(h.2.2 b (by simpa using hj) b (K5g (j:=i) (by simpa using hi)) rfl).elim
   |succ j=>rw[fl_dj h.2.1 (i:=i) (j:=j) (by simpa using hi) (by simpa using hj)]
def Own3(w:World):List OV→List Value→List (List Nat)→Prop
 | [],[],[]=>True
 |o::os,v::vs,F::Fs=>(∃sz es,o=⟨1,.row true sz es⟩∧Ow w (.sl sz es) v F)∧Own3 w os vs Fs
 |_,_,_=>False
theorem Own3.app:∀ {os os':List OV} {vs vs':List Value} {Fs Fs':List (List Nat)},Own3 w os vs Fs→Own3 w os' vs' Fs'→Own3 w (os++os') (vs++vs') (Fs++Fs')
 | [],_,[],_,[],_,_,h=>h
 |_::_,_,_::_,_,_::_,_,h,h'=>⟨h.1,Own3.app h.2 h'⟩
 | [],_,_::_,_,_,_,h,_=>by simp[Own3]at h
 | [],_,[],_,_::_,_,h,_=>by simp[Own3]at h
 |_::_,_,[],_,_,_,h,_=>by simp[Own3]at h
 |_::_,_,_::_,_,[],_,h,_=>by simp[Own3]at h
theorem Own3.len:∀ {os:List OV} {vs:List Value} {Fs:List (List Nat)},Own3 w os vs Fs→vs.length=os.length∧Fs.length=os.length
 | [],[],[],_=>⟨rfl,rfl⟩
 |_::_,_::_,_::_,h=>by
  obtain⟨h1,h2⟩:=h.2.len
  exact⟨by simp[h1],by simp[h2]⟩
 | [],_::_,_,h=>by simp[Own3]at h
 | [],[],_::_,h=>by simp[Own3]at h
 |_::_,[],_,h=>by simp[Own3]at h
 |_::_,_::_,[],h=>by simp[Own3]at h
theorem Own3.at_:∀ {os:List OV} {vs:List Value} {Fs:List (List Nat)},Own3 w os vs Fs→∀ {j:Nat} {o:OV},os[j]? =some o→∃sz es v F,o=⟨1,.row true sz es⟩∧vs[j]? =some v∧Fs[j]? =some F∧Ow w (.sl sz es) v F
 | [],[],[],_,j,o,h=>by simp at h
 |o'::os,v::vs,F::Fs,h,j,o,hj=>by
  cases j with
  |zero=>
   simp at hj;subst hj
   obtain⟨⟨sz,es,h1,h2⟩,_⟩:=h
   exact⟨sz,es,v,F,h1,rfl,rfl,h2⟩
  |succ j=>simpa using Own3.at_ h.2 (by simpa using hj)
 | [],_::_,_,h,_,_,_=>by simp[Own3]at h
 | [],[],_::_,h,_,_,_=>by simp[Own3]at h
 |_::_,[],_,h,_,_,_=>by simp[Own3]at h
 |_::_,_::_,[],h,_,_,_=>by simp[Own3]at h
theorem startC:∀ {cs:List (Bool×T)} {vs:List Value} {G:List Nat},ResC w X cs vs G→slC cs=true→
  ∃Fs:List (List Nat),G=Fs.flatten∧Own3 w (objsC cs) (ownC cs vs) Fs∧
   ∀(V:Nat→Nat) (g:Gh) (k:Nat),(∀j v,(ownC cs vs)[j]? =some v→g.H (k+j) 1=v∧V (k+j)=1)→(∀b,X b→Xe g b)→CellsR w V g (cellsS k cs) vs
 | [],[],G,h,_=>by
  simp only[ResC]at h
  exact⟨[],by simp[h],trivial,fun _ _ _ _ _=>trivial⟩
 |(true,t)::cs,v::vs,G,h,hs=>by
  simp only[ResC]at h
  obtain⟨G1,G2,h1,h2,rfl⟩:=h
  cases t with
  |sl sz es=>
   simp only[slC]at hs
   obtain⟨Fs,e1,e2,e3⟩:=startC h2 hs
   refine⟨G1::Fs,by simp[e1],⟨⟨sz,es,rfl,h1⟩,e2⟩,fun V g k hk hX=>?_⟩
   simp only[ownC]at hk
   simp only[cellsS]
   obtain⟨k1,k2⟩:=hk 0 v rfl
   refine⟨?_,e3 V g (k+1) (fun j u hu=>?_) hX⟩
   ·simp only[CellR]
    simp only[Nat.add_zero]at k1 k2
    exact⟨by rw[k2];exact Nat.le_refl _,by rw[k1];exact K8j rfl h1⟩
   ·have:=hk (j+1) u (by simpa using hu)
    rwa [show k+1+j=k+(j+1)by omega]
  |sc u=>simp[slC]at hs
  |pb l=>simp[slC]at hs
  |fn f l=>simp[slC]at hs
 |(false,t)::cs,v::vs,G,h,hs=>by
  simp only[ResC]at h
  simp only[slC]at hs
  obtain⟨Fs,e1,e2,e3⟩:=startC h.2 hs
  refine⟨Fs,e1,by simpa only[objsC,ownC]using e2,fun V g k hk hX=>?_⟩
  simp only[ownC]at hk
  simp only[cellsS]
  exact⟨K78 h.1 hX,e3 V g k hk hX⟩
 | [],_::_,_,h,_=>by simp only[ResC]at h
 |(true,_)::_,[],_,h,_=>by simp only[ResC]at h
 |(false,_)::_,[],_,h,_=>by simp only[ResC]at h
theorem startA:∀ {args:List RV} {vs:List Value} {G:List Nat},ResVs w X args vs G→slA args=true→
  ∃Fs:List (List Nat),G=Fs.flatten∧Own3 w (objsA args) (K24 args vs) Fs∧args.length=vs.length∧
   ∀(V:Nat→Nat) (g:Gh) (i k:Nat),(∀j v,(K24 args vs)[j]? =some v→g.H (k+j) 1=v∧V (k+j)=1)→(∀b,X b→Xe g b)→
    ∀q u,vs[q]? =some u→SlotR w V g (lk (i+q) (K5q i k args)) u
 | [],[],G,h,_=>by
  simp only[ResVs]at h
  exact⟨[],by simp[h],trivial,rfl,fun _ _ _ _ _ _ _ _ h=>by simp at h⟩
 |r::args,v::vs,G,h,hs=>by
  simp only[ResVs]at h
  obtain⟨G1,G2,h1,h2,rfl⟩:=h
  simp only[slA,Bool.and_eq_true]at hs
  have hcells:∃us:List Value,ResC w X r.cs us G1∧us=cellsOf r.agg v∧(r.agg=true→v= .agg us.toArray)∧(r.agg=false→us=[v]∧∃c,r.cs=[c]):=by
   unfold ResV at h1
   unfold cellsOf
   cases hag:r.agg with
   |true=>
    simp only[hag,if_true]at h1 ⊢
    obtain⟨us,hu,hc⟩:=h1
    exact⟨us,hc,by rw[hu],fun _=>hu,by simp⟩
   |false=>
    simp only[hag,Bool.false_eq_true,if_false]at h1 ⊢
    exact⟨[v],h1.2,rfl,by simp,fun _=>⟨rfl,h1.1⟩⟩
  obtain⟨us,hc,hus,hag1,hag2⟩:=hcells
  obtain⟨Fs1,e1,e2,e3⟩:=startC hc hs.1
  obtain⟨Fs2,e4,e5,e6,e7⟩:=startA h2 hs.2
  refine⟨Fs1++Fs2,by simp[e1,e4],?_,by simp[e6],fun V g i k hk hX q u hu=>?_⟩
  ·simp only[objsA,K24]
   rw[←hus]
   exact e2.app e5
  ·simp only[K24,←hus]at hk
   have hl1:=e2.len.1
   simp only[K5q]
   cases q with
   |zero=>
    simp at hu;subst hu
    simp only[Nat.add_zero,lk,if_true,SlotR,ValR]
    have hcell:=e3 V g k (fun j u hu=>hk j u (by rw[List.getElem?_append_left (Kl hu)];exact hu)) hX
    cases hag:r.agg with
    |true=>simp only[if_true];exact⟨us,hag1 hag,hcell⟩
    |false=>
     simp only[Bool.false_eq_true,if_false]
     obtain⟨e,c,hc'⟩:=hag2 hag
     rw[e]at hcell
     cases hcs:cellsS k r.cs with
     |nil=>rw[hcs]at hcell;exact hcell.elim
     |cons c' l=>
      rw[hcs]at hcell
      cases l with
      |nil=>exact⟨c',rfl,hcell.1⟩
      |cons c2 l=>exact hcell.2.elim
   |succ q=>
    simp only[lk]
    rw[if_neg (by omega),show i+(q+1)=i+1+q by omega]
    refine e7 V g (i+1) (k+(objsC r.cs).length) (fun j u hu=>?_) hX q u (by simpa using hu)
    have:=hk ((objsC r.cs).length+j) u (by rw[←hl1,List.getElem?_append_right (by omega)];simpa using hu)
    rwa [Nat.add_assoc]
 | [],_::_,_,h,_=>by simp only[ResVs]at h
 |_::_,[],_,h,_=>by simp only[ResVs]at h
theorem K7h:∀(l:List RV) (i k q:Nat),i+l.length≤q→lk q (K5q i k l)= .undef
 | [],_,_,_,_=>rfl
 |r::l,i,k,q,h=>by
  simp only[List.length_cons]at h
  simp only[K5q,lk]
  rw[if_neg (by omega)]
  exact K7h l (i+1) _ q (by omega)
theorem startI_rel{args:List RV}{vs:List Value}{G:List Nat}{n m:Nat}(ht:∀w',Bel (fun b=>b<w.heap.size∧b∉G) w w'→TabW w')(h:ResVs w X args vs G)(hs:slA args=true)(hG:G.Nodup)(hGb:∀b∈G,b<w.heap.size∧¬X b)(hn:args.length≤n):
  ∃g,Rel (fun b=>b<w.heap.size∧b∉G) ⟨fun b=>b<w.heap.size∧b∉G∧¬X b,fun j=>(K24 args vs).getD j undef⟩ w w (startI args n m) (vs.toArray++Array.replicate (n-vs.toArray.size) undef) g:=by
 obtain⟨Fs,e1,e2,e3,e4⟩:=startA h hs
 have hlen:=e2.len
 have hob:∀id,(startI args n m).ob id=(objsA args).getD id ⟨0,.none⟩:=by
  intro id
  simp only[St.ob,startI,List.getD_eq_getElem?_getD]
  rcases Nat.lt_or_ge id (objsA args).length with h|h
  ·rw[List.getElem?_append_left h]
  ·rw[List.getElem?_append_right h,List.getElem?_replicate,List.getElem?_eq_none h]
   split<;>rfl
 have hV:∀j,j<(objsA args).length→(startI args n m).V j=1:=by
  intro j hj
  simp only[St.V,hob]
  have hj':(objsA args)[j]? =some (objsA args)[j]:=List.getElem?_eq_getElem hj
  obtain⟨sz,es,v,F,h1,_⟩:=e2.at_ hj'
  rw[List.getD_eq_getElem?_getD,hj',h1];rfl
 subst e1
 refine⟨⟨fun j _=>(K24 args vs).getD j undef,fun j=>Fs.getD j [],⟨fun b=>b<w.heap.size∧b∉Fs.flatten∧¬X b,fun j=>(K24 args vs).getD j undef⟩⟩,?_⟩
 have hX:∀b,X b→Xe (⟨fun j _=>(K24 args vs).getD j undef,fun j=>Fs.getD j [],⟨fun b=>b<w.heap.size∧b∉Fs.flatten∧¬X b,fun j=>(K24 args vs).getD j undef⟩⟩:Gh) b:=
  fun b hb=>⟨fun h=>h.2.2 hb,fun j hj=>(hGb b (K5g hj)).2 hb⟩
 refine⟨by simp[startI];omega,fun k=>?_,fun id=>?_,fun j=>fl_nd hG j,fun b i j hi hj=>fl_dj hG hi hj,fun j b hj=>⟨fun hb=>hb.2 (K5g hj),(hGb b (K5g hj)).1⟩,Bel.refl _ _,fun _ h=>h.1,rfl,fun b h=>⟨h.1,h.2.1⟩,ht,fun id _=>rfl⟩
 ·simp only[St.get,startI]
  cases hv:vs[k]? with
  |none=>
   have:args.length≤k:=by rw[e3];exact List.getElem?_eq_none_iff.1 hv
   rw[K7h args 0 0 k (by omega)]
   trivial
  |some u=>
   have hget:(vs.toArray++Array.replicate (n-vs.toArray.size) undef).getD k undef=u:=by
    have:=Kl hv
    simp only[Array.getD_eq_getD_getElem?]
    rw[Array.getElem?_append_left (by simpa using this)]
    simp[hv]
   rw[hget]
   have:=e4 (startI args n m).V _ 0 0 (fun j v hj=>⟨?_,?_⟩) hX k u hv
   ·rw[Nat.zero_add]at this;exact this
   ·simp[List.getD_eq_getElem?_getD,hj]
   ·rw[Nat.zero_add];exact hV j (by rw[←hlen.1];exact Kl hj)
 ·rw[hob]
  rcases Nat.lt_or_ge id (objsA args).length with h|h
  ·have hj':(objsA args)[id]? =some (objsA args)[id]:=List.getElem?_eq_getElem h
   obtain⟨sz,es,v,F,h1,h2,h3,h4⟩:=e2.at_ hj'
   rw[List.getD_eq_getElem?_getD,hj',h1]
   simp only[Option.getD_some,ObjR]
   unfold Ow at h4
   obtain⟨A,cap,hv,hl,h4⟩:=h4
   refine⟨A,cap,by simp[List.getD_eq_getElem?_getD,h2,hv],hl,?_⟩
   simpa[List.getD_eq_getElem?_getD,h3]using h4
  ·rw[List.getD_eq_getElem?_getD,List.getElem?_eq_none h]
   simp only[Option.getD_none,ObjR]
   rw[List.getD_eq_getElem?_getD,List.getElem?_eq_none (by omega)];rfl
def keptJ:Nat→List (Option (Nat×List (List T)))→List Nat
 |_,[]=>[]
 |j,none::l=>keptJ (j+1) l
 |j,some _::l=>j::keptJ (j+1) l
theorem K7u:∀ {l:List (Option (Nat×List (List T)))} {j k:Nat},k∈keptJ j l→j≤k
 | [],_,_,h=>by simp[keptJ]at h
 |none::l,j,k,h=>by have:=K7u (l:=l) (j:=j+1) (by simpa[keptJ]using h);omega
 |some _::l,j,k,h=>by
  simp only[keptJ,List.mem_cons]at h
  rcases h with rfl|h
  ·exact Nat.le_refl _
  ·have:=K7u h;omega
theorem K7v:∀ {l:List (Option (Nat×List (List T)))} {j:Nat},(keptJ j l).Nodup
 | [],_=>by simp[keptJ]
 |none::l,j=>by simpa[keptJ]using K7v (l:=l)
 |some _::l,j=>by
  simp only[keptJ,List.nodup_cons]
  exact⟨fun h=>by have:=K7u h;omega,K7v⟩
theorem K8v{w0:World}{σ:St}{ts:Array Value}{g:Gh}(R:Rel base Z w0 w σ ts g){own:List Nat}:∀ {outs:List (Option (Nat×List (List T)))} {j:Nat} {vals:List Value},endI σ own j outs→vals.length=outs.length→(∀i u,vals[i]? =some u→Z.h (j+i)=u)→
  ∃G,OwOut w outs vals G∧G=(keptJ j outs).flatMap g.F∧∀k∈keptJ j outs,k∉own
 | [],j,[],_,_,_=>⟨[],by simp[OwOut],by simp[keptJ],by simp[keptJ]⟩
 |none::outs,j,v::vals,h,hl,hv=>by
  simp only[endI]at h
  obtain⟨G,h1,h2,h3⟩:=K8v R (vals:=vals) h (by simpa using hl) fun i u hu=>by
   have:=hv (i+1) u (by simpa using hu)
   rwa [show j+1+i=j+(i+1)by omega]
  exact⟨G,by simpa only[OwOut]using h1,by simpa only[keptJ]using h2,by simpa only[keptJ]using h3⟩
 |some x::outs,j,v::vals,h,hl,hv=>by
  simp only[endI]at h
  obtain⟨hob,hown,h⟩:=h
  obtain⟨G,h1,h2,h3⟩:=K8v R (vals:=vals) h (by simpa using hl) fun i u hu=>by
   have:=hv (i+1) u (by simpa using hu)
   rwa [show j+1+i=j+(i+1)by omega]
  have ho:=R.obj j
  have hp:=R.pin j (by simp only[St.V,hob])
  rw[hob]at ho
  have hvj:=hv 0 v rfl
  simp only[Nat.add_zero]at hvj
  rw[R.zz,hvj]at hp
  refine⟨g.F j++G,?_,by simp[keptJ,h2],?_⟩
  ·simp only[OwOut]
   refine⟨g.F j,G,?_,h1,rfl⟩
   simp only[ObjR,if_true]at ho
   rw[hp]at ho
   unfold Ow
   exact ho
  ·intro k hk
   simp only[keptJ,List.mem_cons]at hk
   rcases hk with rfl|hk
   ·exact hown
   ·exact h3 k hk
 | [],_,_::_,_,hl,_=>by simp at hl
 |_::_,_,[],_,hl,_=>by simp at hl
def bdVA:List RV→Prop
 | []=>True
 |r::l=>bdL (r.cs.map (·.2))∧bdVA l
theorem ResC.bd_{w:World}{X:Nat→Prop}:∀ {cs:List (Bool×T)} {vs:List Value} {G:List Nat},ResC w X cs vs G→bdL (cs.map (·.2))
 | [],[],_,_=>by simp[bdL]
 |(true,t)::cs,v::vs,G,h=>by
  simp only[ResC]at h
  obtain⟨G1,G2,h1,h2,_⟩:=h
  simp only[List.map_cons,bdL]
  exact⟨Rd.bd t v (Ow.rd (X:=fun _=>True) t v G1 (fun _ _=>trivial) h1),ResC.bd_ h2⟩
 |(false,t)::cs,v::vs,G,h=>by
  simp only[ResC]at h
  simp only[List.map_cons,bdL]
  exact⟨Rd.bd t v h.1,ResC.bd_ h.2⟩
 | [],_::_,_,h=>by simp only[ResC]at h
 |(true,_)::_,[],_,h=>by simp only[ResC]at h
 |(false,_)::_,[],_,h=>by simp only[ResC]at h
theorem ResVs.bd_{w:World}{X:Nat→Prop}:∀ {rs:List RV} {vs:List Value} {G:List Nat},ResVs w X rs vs G→bdVA rs
 | [],[],_,_=>trivial
 |r::rs,v::vs,G,h=>by
  simp only[ResVs]at h
  obtain⟨G1,G2,h1,h2,_⟩:=h
  refine⟨?_,ResVs.bd_ h2⟩
  unfold ResV at h1
  split at h1
  ·obtain⟨us,_,h1⟩:=h1;exact ResC.bd_ h1
  ·exact ResC.bd_ h1.2
 | [],_::_,_,h=>by simp only[ResVs]at h
 |_::_,[],_,h=>by simp only[ResVs]at h
theorem ctrI_of{f:FuncId}{fn:Func}{c:Code}{args:List RV}{outs:List (Option (Nat×List (List T)))}{rs:List RV}{M:MC}{m:Nat}{res:List (MR×List Bool)}(hmix:P.follows .mixedOrders=true)(hf:P.funcs[f]? =some fn)(hb:fn.body=some c)
  (hname : (fn.name == "runtime.NumGoroutine") = false) (hc : chkC P c M = true) (hres : K1b P fn.results.toList (res.map (·.1)) = true) (hn : args.length ≤ fn.ntmps) (hsl : slA args = true) (hout : outs.length = (objsA args).length)
  (h:bdVA args→wpC P M (fun x σ'=>(x= .nrm∨x= .ret)∧outI σ' res outs rs) (startI args fn.ntmps m)):CtrI P f args outs rs:=by
 refine⟨⟨fn,hf,by simp[hb],hname⟩,fun w X vs G htab hargs hG hGb=>calls_of_wp hf hb ?_⟩
 obtain⟨g0,R0⟩:=startI_rel (m:=m) htab hargs hsl hG hGb hn
 have hvl:(K24 args vs).length=outs.length:=by
  obtain⟨Fs,_,e2,_⟩:=startA hargs hsl
  rw[e2.len.1,hout]
 refine K52 hmix (a:=⟨vs.toArray++Array.replicate (fn.ntmps-vs.toArray.size) undef,[]⟩) hc R0 (h hargs.bd_) fun x σ' a' w' g' hq hd R'=>?_
 obtain⟨hx,y,hy,h1,h2,h3,rfl,hend⟩:=hq
 obtain⟨us,G2,hrun,hsub,hR⟩:=R'.outR hres hy h1
 obtain⟨G1,ho1,ho2,ho3⟩:=K8v R' (vals:=K24 args vs) hend hvl fun i u hu=>by
  simp[List.getD_eq_getElem?_getD,hu]
 have hnd:(G1++G2).Nodup:=by
  have:(keptJ 0 outs++owns y.2.1).Nodup:=List.nodup_append.2 ⟨K7v,K16 h2,fun a ha b hb e=>ho3 a ha (e▸hb)⟩
  have:=R'.flat_nodup _ this
  rw[List.flatMap_append,←ho2]at this
  exact(List.Sublist.append (List.Sublist.refl _) hsub).nodup this
 have hGF:∀b∈G1++G2,∃j,b∈g'.F j:=fun b hb=>by
  rcases List.mem_append.1 hb with hb|hb
  ·rw[ho2]at hb
   obtain⟨j,_,hj⟩:=List.mem_flatMap.1 hb;exact⟨j,hj⟩
  ·obtain⟨j,_,hj⟩:=List.mem_flatMap.1 (hsub.subset hb);exact⟨j,hj⟩
 have hY:ResVs w' (fun b=>(b<w.heap.size→X b∨b∈G)∧b∉G1++G2) y.1 us G2:=by
  refine hR .e _ (by rw[h3];simp[Md.le]) fun b hb=>⟨fun hlt=>?_,fun hbG=>?_⟩
  ·have hz:=hb.1
   rw[R'.zz]at hz
   refine Classical.byContradiction fun hx=>?_
   have hx:=not_or.1 hx
   exact hz ⟨hlt,hx.2,hx.1⟩
  ·obtain⟨j,hj⟩:=hGF b hbG
   exact hb.2 j hj
 have key:a'.defers=[]∧∃v,(results fn a'.tmps).run P w'= .ok v w'∧Bel (fun b=>b<w.heap.size∧b∉G) w w'∧∃us G1 G2,v=tupV us∧OwOut w' outs (K24 args vs) G1∧
   ResVs w' (fun b=>(b<w.heap.size→X b∨b∈G)∧b∉G1++G2) y.1 us G2∧(G1++G2).Nodup∧∀b∈G1++G2,(b∈G∨w.heap.size≤b)∧b<w'.heap.size:=by
  refine⟨hd,tupV us,K3o hrun,R'.grew,us,G1,G2,rfl,ho1,hY,hnd,fun b hb=>?_⟩
  obtain⟨j,hj⟩:=hGF b hb
  obtain⟨hfr,hlt⟩:=R'.frs j b hj
  refine⟨?_,hlt⟩
  rcases Nat.lt_or_ge b w.heap.size with h|h
  ·left;exact Classical.byContradiction fun hG=>hfr ⟨h,hG⟩
  ·exact .inr h
 rcases hx with rfl|rfl
 ·exact key
 ·exact key
end
end Go.Proofs.YtjneccbpkckdfaaGreatR
namespace Go.Proofs.YtjneccbpkckdfaaGreatR
open Go Go.RowKit
def startB(cs:List T)(args:List (Bool×List T))(n m:Nat):St:=⟨(0,.adr (.bx 0 1 0))::argS 1 args,n,⟨1,.box (cs.map .pl)⟩::List.replicate m ⟨0,.none⟩⟩
def endB(σ:St)(cs':List T):Prop:=match σ.ob 0 with
 |⟨v,.box cs⟩=>v=1∧K1 (cs.map SC.frz)=some cs'
 |_=>False
def outB(σ:St)(res:List (MR×List Bool))(cs':List T)(rs:List RV):Prop:=
 ∃x,outR σ res=some x∧neuO x.2.1=true∧distinct (owns x.2.1)=true∧x.2.2= .e∧x.1=rs∧¬0∈owns x.2.1∧endB σ cs'
section
variable {P:Program}
theorem startB_rel{w:World}{X:Nat→Prop}{b:Nat}{ty:TypeId}{cs:List T}{us:List Value}{args:List (Bool×List T)}{vs:List Value}{n m:Nat}(ht:∀w',Bel (fun k=>k<w.heap.size∧k≠b) w w'→TabW w')(hb:w.heap[b]? =some (.cells us.toArray ty (0,0)))
  (hcs:RdL w X cs us) (hXb:¬X b) (h:ArgsR w X args vs) (hn:args.length+1≤n):
  Rel (fun k=>k<w.heap.size∧k≠b) ⟨fun k=>k<w.heap.size∧k≠b∧¬X k,fun _=> .pointer (some ⟨b,0,none⟩)⟩ w w (startB cs args n m) ((.pointer (some ⟨b,0,none⟩)::vs).toArray++Array.replicate (n-(.pointer (some ⟨b,0,none⟩)::vs).toArray.size) undef)
   ⟨fun _ _=> .pointer (some ⟨b,0,none⟩),fun i=>if i=0 then [b]else [],⟨fun k=>k<w.heap.size∧k≠b∧¬X k,fun _=> .pointer (some ⟨b,0,none⟩)⟩⟩:=by
 obtain⟨hl,hat⟩:=h.at_
 obtain⟨g,hg⟩:∃g:Gh,g=⟨fun _ _=> .pointer (some ⟨b,0,none⟩),fun i=>if i=0 then [b]else [],⟨fun k=>k<w.heap.size∧k≠b∧¬X k,fun _=> .pointer (some ⟨b,0,none⟩)⟩⟩:=⟨_,rfl⟩
 have hX:∀k,k<w.heap.size→X k→Xe g k:=fun k _ hk=>by
  subst hg
  refine⟨fun h=>h.2.2 hk,fun i hi=>?_⟩
  simp only at hi
  split at hi
  ·rw[List.mem_singleton.1 hi]at hk;exact hXb hk
  ·simp at hi
 have hob:∀i,(startB cs args n m).ob i=if i=0 then⟨1,.box (cs.map .pl)⟩else⟨0,.none⟩:=by
  intro i
  cases i with
  |zero=>rfl
  |succ i=>
   simp only[St.ob,startB,List.getD_eq_getElem?_getD,List.getElem?_cons_succ,List.getElem?_replicate]
   split<;>simp
 have hbl:b<w.heap.size:=K1g hb
 rw[←hg]
 refine⟨by simp[startB];omega,fun k=>?_,fun i=>?_,fun i=>?_,fun x i j hi hj=>?_,fun i x hx=>?_,Bel.refl _ _,fun _ h=>h.1,by rw[hg],fun k h=>⟨h.1,h.2.1⟩,ht,fun i hi=>by rw[hg]⟩
 ·simp only[St.get,startB,lk]
  by_cases hk:k=0
  ·subst hk
   rw[if_pos rfl]
   simp only[SlotR,AdR]
   refine⟨Nat.le_refl 1,b,by rw[hg],?_⟩
   rw[Array.getD_eq_getD_getElem?,Array.getElem?_append_left (by simp)]
   simp
  ·rw[if_neg hk,K92,if_neg (by omega)]
   split
   ·rename_i x hx
    obtain⟨v,hv,hA⟩:=hat (k-1) x hx
    have hget:((Value.pointer (some ⟨b,0,none⟩)::vs).toArray++Array.replicate (n-(Value.pointer (some ⟨b,0,none⟩)::vs).toArray.size) undef).getD k undef=v:=by
     have:=Kl hv
     simp only[Array.getD_eq_getD_getElem?]
     rw[Array.getElem?_append_left (by simp;omega)]
     have e:k=(k-1)+1:=by omega
     rw[e]
     simp[hv]
    rw[hget]
    unfold ArgR at hA
    simp only[SlotR,ValR]
    split at hA
    ·rename_i hag
     rw[if_pos hag]
     obtain⟨us,hus,hr⟩:=hA
     exact⟨us,hus,K4h (K3g hX hr)⟩
    ·rename_i hag
     rw[if_neg hag]
     obtain⟨t,ht,hr⟩:=hA
     rw[ht]
     exact⟨.pl t,rfl,Rd.keep ⟨Nat.le_refl _,fun k hk hlt=>⟨rfl,hX k hlt hk⟩⟩ _ _ hr⟩
   ·trivial
 ·rw[hob]
  by_cases hi:i=0
  ·subst hi
   rw[if_pos rfl]
   simp only[ObjR]
   exact⟨b,ty,us,by rw[hg],hb,K4h (K3g hX hcs),by rw[hg];rfl⟩
  ·rw[if_neg hi]
   simp only[ObjR]
   rw[hg];simp only[if_neg hi]
 ·rw[hg];simp only;split
  ·simp
  ·exact List.nodup_nil
 ·rw[hg]at hi hj;simp only at hi hj
  split at hi
  ·split at hj
   ·rename_i e1 e2;rw[e1,e2]
   ·simp at hj
  ·simp at hi
 ·rw[hg]at hx;simp only at hx
  split at hx
  ·rw[List.mem_singleton.1 hx];exact⟨fun h=>h.2 rfl,hbl⟩
  ·simp at hx
theorem ctrB_of{f:FuncId}{fn:Func}{c:Code}{cs:List T}{args:List (Bool×List T)}{cs':List T}{rs:List RV}{M:MC}{m:Nat}{res:List (MR×List Bool)}(hmix:P.follows .mixedOrders=true)(hf:P.funcs[f]? =some fn)(hb:fn.body=some c)
  (hname : (fn.name == "runtime.NumGoroutine") = false) (hc : chkC P c M = true) (hres : K1b P fn.results.toList (res.map (·.1)) = true) (hn : args.length + 1 ≤ fn.ntmps)
  (h:bdL cs→bdA args→wpC P M (fun x σ'=>(x= .nrm∨x= .ret)∧outB σ' res cs' rs) (startB cs args fn.ntmps m)):CtrB P f cs args cs' rs:=by
 refine⟨⟨fn,hf,by simp[hb],hname⟩,fun w X b ty us vs htab hheap hcs hXb hargs=>calls_of_wp hf hb ?_⟩
 have R0:=startB_rel (m:=m) htab hheap hcs hXb hargs hn
 refine K52 hmix (a:=⟨(.pointer (some ⟨b,0,none⟩)::vs).toArray++Array.replicate (fn.ntmps-(.pointer (some ⟨b,0,none⟩)::vs).toArray.size) undef,[]⟩) hc R0 (h (RdL.bd _ _ hcs) hargs.bd_) fun x σ' a' w' g' hq hd R'=>?_
 obtain⟨hx,y,hy,h1,h2,h3,rfl,h0,hend⟩:=hq
 obtain⟨rv,G,hrun,hsub,hR⟩:=R'.outR hres hy h1
 unfold endB at hend
 split at hend
 rotate_left
 ·exact hend.elim
 rename_i v cs2 hob
 obtain⟨rfl,hfr⟩:=hend
 have hO:=R'.obj 0
 have hpin:=R'.pin 0 (by simp only[St.V,hob])
 rw[hob]at hO
 simp only[ObjR]at hO
 obtain⟨b2,ty2,us2,hH,hcell,hcr,hF⟩:=hO
 rw[R'.zz]at hpin
 simp only at hpin
 rw[hpin]at hH
 obtain rfl:b2=b:=by simpa using hH.symm
 have hbF:b2∈g'.F 0:=by rw[hF];simp
 have hGF:∀k∈G,∃j,j∈owns y.2.1∧k∈g'.F j:=fun k hk=>by
  obtain⟨j,hj,hkj⟩:=List.mem_flatMap.1 (hsub.subset hk);exact⟨j,hj,hkj⟩
 have hbG:b2∉G:=fun hb=>by
  obtain⟨j,hj,hbj⟩:=hGF b2 hb
  exact h0 ((R'.dj b2 0 j hbF hbj)▸hj)
 have hY:∀k,k<w'.heap.size→Xe g' k→(k<w.heap.size→X k)∧k∉b2::G:=fun k _ hk=>by
  have hkb:k≠b2:=fun e=>hk.2 0 (e▸hbF)
  refine⟨fun hlt=>?_,fun hm=>?_⟩
  ·have hz:=hk.1
   rw[R'.zz]at hz
   exact Classical.byContradiction fun hx=>hz ⟨hlt,hkb,hx⟩
  ·rcases List.mem_cons.1 hm with e|hm
   ·exact hkb e
   ·obtain⟨j,_,hj⟩:=hGF k hm
    exact hk.2 j hj
 have hres':ResVs w' (fun k=>(k<w.heap.size→X k)∧k∉b2::G) y.1 rv G:=by
  refine hR .e _ (by rw[h3];simp[Md.le]) fun k hk=>?_
  have hkb:k≠b2:=fun e=>hk.2 0 (e▸hbF)
  refine⟨fun hlt=>?_,fun hm=>?_⟩
  ·have hz:=hk.1
   rw[R'.zz]at hz
   exact Classical.byContradiction fun hx=>hz ⟨hlt,hkb,hx⟩
  ·rcases List.mem_cons.1 hm with e|hm
   ·exact hkb e
   ·obtain⟨j,_,hj⟩:=hGF k hm
    exact hk.2 j hj
 have key:a'.defers=[]∧∃v,(results fn a'.tmps).run P w'= .ok v w'∧Bel (fun k=>k<w.heap.size∧k≠b2) w w'∧∃us' ty' rv G,w'.heap[b2]? =some (.cells us'.toArray ty' (0,0))∧RdL w' (fun k=>(k<w.heap.size→X k)∧k∉b2::G) cs' us'∧v=tupV rv∧
    ResVs w' (fun k=>(k<w.heap.size→X k)∧k∉b2::G) y.1 rv G∧(b2::G).Nodup∧∀k∈G,w.heap.size≤k:=by
  refine⟨hd,tupV rv,K3o hrun,R'.grew,us2,ty2,rv,G,hcell,K3g hY (K8c hcr hfr),rfl,hres',List.nodup_cons.2 ⟨hbG,hsub.nodup (R'.flat_nodup _ (K16 h2))⟩,fun k hk=>?_⟩
  obtain⟨j,_,hj⟩:=hGF k hk
  refine Nat.le_of_not_lt fun hlt=>(R'.frs j k hj).1 ⟨hlt,fun e=>hbG (e▸hk)⟩
 rcases hx with rfl|rfl
 ·exact key
 ·exact key
end
end Go.Proofs.YtjneccbpkckdfaaGreatR
namespace Go.Proofs.YtjneccbpkckdfaaGreatR
open Go Go.RowKit
def bk{α:Type}(o:Option α)(K:α→Prop):Prop:=∃a,o=some a∧K a
section
variable {α β:Type} {K:α→Prop}
@[go_sem] theorem K32 (a:α):bk (some a) K=K a:=by simp[bk]
@[go_sem] theorem bk_none:bk (none:Option α) K=False:=by simp[bk]
@[go_sem] theorem bk_bind (o:Option β) (f:β→Option α):bk (o.bind f) K=bk o fun b=>bk (f b) K:=by
 simp only[bk,Option.bind_eq_some_iff,eq_iff_iff]
 constructor
 ·rintro ⟨a,⟨b,h1,h2⟩,h3⟩;exact⟨b,h1,a,h2,h3⟩
 ·rintro ⟨b,h1,a,h2,h3⟩;exact⟨a,⟨b,h1,h2⟩,h3⟩
@[go_sem] theorem K6g (o:Option β) (f:β→α):bk (o.map f) K=bk o fun b=>K (f b):=by
 simp only[bk,Option.map_eq_some_iff,eq_iff_iff]
 constructor
 ·rintro ⟨a,⟨b,h1,h2⟩,h3⟩;exact⟨b,h1,h2▸h3⟩
 ·rintro ⟨b,h1,h3⟩;exact⟨f b,⟨b,h1,rfl⟩,h3⟩
@[go_sem] theorem bk_ite {p:Prop} [Decidable p] (o:Option α):bk (if p then o else none) K=(p∧bk o K):=by
 by_cases h:p<;>simp[bk,h]
end
def isCall:MO→Bool
 |.call ..| .callI ..| .callB ..| .callP ..| .callN ..| .loadT ..| .loadM ..| .buildO ..=>true
 |_=>false
def bkS(P:Program)(m:MOp)(σ:St)(L:Ef→Prop):Prop:=∃e,stepP P m σ e∧L e
structure callK (P:Program) (f:FuncId) (as_:List (Bool×List T)) (σ:St) (m:Md) (d:Nat) (ids:List Nat) (L:Ef→Prop):Prop where
 ex:∃rs,Ctr P f as_ rs∧bk (K66 σ m d ids rs) L
structure callIK (P:Program) (f:FuncId) (args:List RV) (idl:List Nat) (σ:St) (d:Nat) (ids bks:List Nat) (L:Ef→Prop):Prop where
 ex:∃outs rs,CtrI P f args outs rs∧bk (effI σ d ids idl outs rs) fun e1=>bk (bksE (σ.app e1) bks) fun e2=>L ⟨e1.d,e1.obs++e2⟩
def kR(P:Program)(ms:List MOp)(σ:St)(K:St→Prop)(e:Ef):Prop:=wpR P ms (σ.app e) K
def kD(P:Program)(m:MOp)(ms:List MOp)(σ:St)(K:St→Prop)(e:Ef):Prop:=inW m e=true∧wpD P ms (σ.app e) K
def kK(ms:List MOp)(keep:List Nat)(Q:Xt→St→Prop)(σ:St):Prop:=bdC σ ms→Q .nrm (σ.only keep)
def kS(P:Program)(b:MC)(Q:Xt→St→Prop)(x:Xt)(σ:St):Prop:=match x with
 |.nrm=>wpC P b Q σ
 |x=>Q x σ
def kB(id:Nat)(Q:Xt→St→Prop)(x:Xt)(σ:St):Prop:=match x with
 |.ex i=>if i=id then Q .nrm σ else Q (.ex i) σ
 |x=>Q x σ
def kF(res:List (MR×List Bool))(rs:List RV)(x:Xt)(σ:St):Prop:=(x= .nrm∨x= .ret)∧outs σ res=some rs
def kL(keep:List Nat×List Nat)(next:St→Prop)(Q:Xt→St→Prop)(x:Xt)(σ:St):Prop:=match x with
 |.nrm=>bk ((σ.lo keep).re) next
 |x=>Q x σ
def cS(P:Program)(a b:MC)(Q:Xt→St→Prop)(σ:St)(c:Bool):Prop:=(c=true→wpC P a Q σ)∧(c=false→wpC P b Q σ)
def loopK(P:Program)(keep:List Nat×List Nat)(a:MC)(Q:Xt→St→Prop)(σ:St):Prop:=wpC P (.loop keep a) Q σ
section
variable {P:Program} {σ σ':St} {Q:Xt→St→Prop} {K:St→Prop} {L:Ef→Prop} {e:Ef} {x:Xt} {i id:Nat}
@[go_sem] theorem cS_split {a b:MC} {c:Bool}:cS P a b Q σ c=if c=true then wpC P a Q σ else wpC P b Q σ:=by cases c<;>simp[cS]
@[go_sem] theorem ite_both {p A B:Prop} [Decidable p]:(if p then A else B)=((p→A)∧(¬p→B)):=by by_cases h:p<;>simp[h]
theorem Kb{o:MO}{hs ho ws bf:List Nat}(h:isCall o=false):bkS P ⟨none,o,hs,ho,ws,bf⟩ σ L=bk (eff o σ) L:=by
 unfold bkS bk
 simp only[stepP,wantedM]
 cases o<;>simp only[isCall,Bool.true_eq_false]at h<;>rfl
section
variable {hs ho ws bf:List Nat}
@[go_sem] theorem bkS_mv {d x}:bkS P ⟨none,.mv d x,hs,ho,ws,bf⟩ σ L=bk (eff (.mv d x) σ) L:=Kb rfl
@[go_sem] theorem bkS_bin {d b o x y}:bkS P ⟨none,.bin d b o x y,hs,ho,ws,bf⟩ σ L=bk (eff (.bin d b o x y) σ) L:=Kb rfl
@[go_sem] theorem bkS_eqA {d b k x y}:bkS P ⟨none,.eqA d b k x y,hs,ho,ws,bf⟩ σ L=bk (eff (.eqA d b k x y) σ) L:=Kb rfl
@[go_sem] theorem bkS_un {d o x}:bkS P ⟨none,.un d o x,hs,ho,ws,bf⟩ σ L=bk (eff (.un d o x) σ) L:=Kb rfl
@[go_sem] theorem bkS_mm {d o x y}:bkS P ⟨none,.mm d o x y,hs,ho,ws,bf⟩ σ L=bk (eff (.mm d o x y) σ) L:=Kb rfl
@[go_sem] theorem bkS_pick {d c x y}:bkS P ⟨none,.pick d c x y,hs,ho,ws,bf⟩ σ L=bk (eff (.pick d c x y) σ) L:=Kb rfl
@[go_sem] theorem bkS_len {d c x}:bkS P ⟨none,.len d c x,hs,ho,ws,bf⟩ σ L=bk (eff (.len d c x) σ) L:=Kb rfl
@[go_sem] theorem bkS_alloc {d c x}:bkS P ⟨none,.alloc d c x,hs,ho,ws,bf⟩ σ L=bk (eff (.alloc d c x) σ) L:=Kb rfl
@[go_sem] theorem bkS_box {d c x}:bkS P ⟨none,.box d c x,hs,ho,ws,bf⟩ σ L=bk (eff (.box d c x) σ) L:=Kb rfl
@[go_sem] theorem bkS_build {d c x}:bkS P ⟨none,.build d c x,hs,ho,ws,bf⟩ σ L=bk (eff (.build d c x) σ) L:=Kb rfl
@[go_sem] theorem bkS_litP {d z b x}:bkS P ⟨none,.litP d z b x,hs,ho,ws,bf⟩ σ L=bk (eff (.litP d z b x) σ) L:=Kb rfl
@[go_sem] theorem bkS_lit {d i z b x}:bkS P ⟨none,.lit d i z b x,hs,ho,ws,bf⟩ σ L=bk (eff (.lit d i z b x) σ) L:=Kb rfl
@[go_sem] theorem bkS_load {d i z b}:bkS P ⟨none,.load d i z b,hs,ho,ws,bf⟩ σ L=bk (eff (.load d i z b) σ) L:=Kb rfl
@[go_sem] theorem bkS_store {d i z}:bkS P ⟨none,.store d i z,hs,ho,ws,bf⟩ σ L=bk (eff (.store d i z) σ) L:=Kb rfl
@[go_sem] theorem bkS_fld {d i z}:bkS P ⟨none,.fld d i z,hs,ho,ws,bf⟩ σ L=bk (eff (.fld d i z) σ) L:=Kb rfl
@[go_sem] theorem bkS_idx {d i z b}:bkS P ⟨none,.idx d i z b,hs,ho,ws,bf⟩ σ L=bk (eff (.idx d i z b) σ) L:=Kb rfl
@[go_sem] theorem bkS_idxA {d i z b x}:bkS P ⟨none,.idxA d i z b x,hs,ho,ws,bf⟩ σ L=bk (eff (.idxA d i z b x) σ) L:=Kb rfl
@[go_sem] theorem bkS_fldv {d i z b x}:bkS P ⟨none,.fldv d i z b x,hs,ho,ws,bf⟩ σ L=bk (eff (.fldv d i z b x) σ) L:=Kb rfl
@[go_sem] theorem bkS_idxs {d i z}:bkS P ⟨none,.idxs d i z,hs,ho,ws,bf⟩ σ L=bk (eff (.idxs d i z) σ) L:=Kb rfl
@[go_sem] theorem bkS_mk {d i z b c x}:bkS P ⟨none,.mk d i z b c x,hs,ho,ws,bf⟩ σ L=bk (eff (.mk d i z b c x) σ) L:=Kb rfl
@[go_sem] theorem bkS_app {d i z b c x}:bkS P ⟨none,.app d i z b c x,hs,ho,ws,bf⟩ σ L=bk (eff (.app d i z b c x) σ) L:=Kb rfl
@[go_sem] theorem bkS_slc {d i z b c x}:bkS P ⟨none,.slc d i z b c x,hs,ho,ws,bf⟩ σ L=bk (eff (.slc d i z b c x) σ) L:=Kb rfl
@[go_sem] theorem bkS_slcs {d i z b}:bkS P ⟨none,.slcs d i z b,hs,ho,ws,bf⟩ σ L=bk (eff (.slcs d i z b) σ) L:=Kb rfl
@[go_sem] theorem bkS_ext {d i z}:bkS P ⟨none,.ext d i z,hs,ho,ws,bf⟩ σ L=bk (eff (.ext d i z) σ) L:=Kb rfl
@[go_sem] theorem bkS_clos {d i z}:bkS P ⟨none,.clos d i z,hs,ho,ws,bf⟩ σ L=bk (eff (.clos d i z) σ) L:=Kb rfl
@[go_sem] theorem bkS_closF {d i z}:bkS P ⟨none,.closF d i z,hs,ho,ws,bf⟩ σ L=bk (eff (.closF d i z) σ) L:=Kb rfl
@[go_sem] theorem bkS_nilo {d i z}:bkS P ⟨none,.nilo d i z,hs,ho,ws,bf⟩ σ L=bk (eff (.nilo d i z) σ) L:=Kb rfl
@[go_sem] theorem bkS_nilc {d i}:bkS P ⟨none,.nilc d i,hs,ho,ws,bf⟩ σ L=bk (eff (.nilc d i) σ) L:=Kb rfl
@[go_sem] theorem bkS_sliA {d n' x}:bkS P ⟨none,.sliA d n' x,hs,ho,ws,bf⟩ σ L=bk (eff (.sliA d n' x) σ) L:=Kb rfl
@[go_sem] theorem bkS_appA {d i b x y}:bkS P ⟨none,.appA d i b x y,hs,ho,ws,bf⟩ σ L=bk (eff (.appA d i b x y) σ) L:=Kb rfl
@[go_sem] theorem bkS_nilp {d n' x}:bkS P ⟨none,.nilp d n' x,hs,ho,ws,bf⟩ σ L=bk (eff (.nilp d n' x) σ) L:=Kb rfl
@[go_sem] theorem bkS_convS {d x}:bkS P ⟨none,.convS d x,hs,ho,ws,bf⟩ σ L=bk (eff (.convS d x) σ) L:=Kb rfl
@[go_sem] theorem bkS_convI {d k x}:bkS P ⟨none,.convI d k x,hs,ho,ws,bf⟩ σ L=bk (eff (.convI d k x) σ) L:=Kb rfl
@[go_sem] theorem bkS_buildO {d z p n'}:bkS P ⟨none,.buildO d z p n',hs,ho,ws,bf⟩ σ L=bk (effB d z p n' σ) L:=rfl
@[go_sem] theorem bkS_loadM {d n' is i x}:bkS P ⟨none,.loadM d n' is i x,hs,ho,ws,bf⟩ σ L=bk (effM σ d n' is i x) L:=rfl
@[go_sem] theorem bkS_loadT {d i x}:bkS P ⟨none,.loadT d i x,hs,ho,ws,bf⟩ σ L=bk (effT d i x σ) L:=rfl
@[go_sem] theorem bkS_callI {d:Nat} {ids ios bks:List Nat} {f:Od} {xs:List Od}:bkS P ⟨none,.callI d ids f xs ios bks,hs,ho,ws,bf⟩ σ L=bk (σ.callee f) fun c=>bk (σ.argsI ios xs) fun a=>c.2=[]∧callIK P c.1 a.1 a.2 σ d ids bks L:=by
 unfold bkS bk
 simp only[stepP,wantedM,EffP,CallIE,eq_iff_iff]
 constructor
 ·rintro ⟨e,⟨fid,args,idl,outs,rs,e1,e2,h1,h2,h3,h4,h5,rfl⟩,h6⟩
  exact⟨(fid,[]),h1,(args,idl),h2,rfl,⟨outs,rs,h3,e1,h4,e2,h5,h6⟩⟩
 ·rintro ⟨⟨fid,caps⟩,h1,⟨args,idl⟩,h2,h0,⟨outs,rs,h3,e1,h4,e2,h5,h6⟩⟩
  simp only at h0;subst h0
  exact⟨_,⟨fid,args,idl,outs,rs,e1,e2,h1,h2,h3,h4,h5,rfl⟩,h6⟩
@[go_sem] theorem bkS_call {d:Nat} {ids:List Nat} {f:Od} {xs:List Od}:bkS P ⟨none,.call d ids f xs,hs,ho,ws,bf⟩ σ L=bk (σ.callee f) fun c=>bk (σ.args xs) fun as_=>callK P c.1 (as_++c.2) σ (σ.mode (f::xs)) d ids L:=by
 unfold bkS bk
 simp only[stepP,wantedM,EffP,CallE,eq_iff_iff]
 constructor
 ·rintro ⟨e,⟨fid,caps,as_,rs,h1,h2,h3,h4⟩,h5⟩
  exact⟨(fid,caps),h1,as_,h2,⟨rs,h3,e,h4,h5⟩⟩
 ·rintro ⟨⟨fid,caps⟩,h1,as_,h2,⟨rs,h3,e,h4,h5⟩⟩
  exact⟨e,⟨fid,caps,as_,rs,h1,h2,h3,h4⟩,h5⟩
end
@[go_sem] theorem wpR_nil:wpR P [] σ K=K σ:=rfl
theorem wpR_cons'{m:MOp}{ms:List MOp}:wpR P (m::ms) σ K=bkS P m (σ.fgt m.ho) (kR P ms (σ.fgt m.ho) K):=rfl
@[go_sem] theorem wpR_cons {o:MO} {hs ws bf:List Nat} {ms:List MOp}:wpR P (⟨none,o,hs,[],ws,bf⟩::ms) σ K=bkS P ⟨none,o,hs,[],ws,bf⟩ σ (kR P ms σ K):=rfl
@[go_sem] theorem wpR_consH {o:MO} {hs ws bf l:List Nat} {id:Nat} {ms:List MOp}:wpR P (⟨none,o,hs,id::l,ws,bf⟩::ms) σ K=bkS P ⟨none,o,hs,[],ws,bf⟩ (σ.fgt (id::l)) (kR P ms (σ.fgt (id::l)) K):=rfl
@[go_sem] theorem wpD_nil:wpD P [] σ K=K σ:=rfl
theorem wpD_cons'{m:MOp}{ms:List MOp}:wpD P (m::ms) σ K=bkS P m (σ.hide m.hs m.ho) (kD P m ms σ K):=rfl
@[go_sem] theorem wpD_cons {o:MO} {hs ho ws bf:List Nat} {ms:List MOp}:wpD P (⟨none,o,hs,ho,ws,bf⟩::ms) σ K=bkS P ⟨none,o,hs,ho,ws,bf⟩ (σ.hide hs ho) (kD P ⟨none,o,hs,ho,ws,bf⟩ ms σ K):=rfl
@[go_sem] theorem kR_app {ms:List MOp}:kR P ms σ K e=wpR P ms (σ.app e) K:=rfl
@[go_sem] theorem kD_app {m:MOp} {ms:List MOp}:kD P m ms σ K e=(inW m e=true∧wpD P ms (σ.app e) K):=rfl
@[go_sem] theorem kK_app {ms:List MOp} {keep:List Nat}:kK ms keep Q σ=(bdC σ ms→Q .nrm (σ.only keep)):=rfl
@[go_sem] theorem bdC_nil:bdC σ []=True:=rfl
@[go_sem] theorem bdC_cons {g:Option (Nat×Bool)} {o:MO} {hs ho ws bf:List Nat} {ms:List MOp}:bdC σ (⟨g,o,hs,ho,ws,bf⟩::ms)=(bdM σ o∧bdC σ ms):=rfl
@[go_sem] theorem bdM_call {d ids f xs}:bdM σ (.call d ids f xs)=(bdSV (σ.get d)∧K5r σ ids):=rfl
@[go_sem] theorem bdIds_nil:K5r σ []=True:=rfl
@[go_sem] theorem bdIds_cons {k l}:K5r σ (k::l)=(bdOC (σ.ob k).oc∧K5r σ l):=rfl
@[go_sem] theorem bdSV_val {a cs}:bdSV (.val a cs)=bdCs cs:=rfl
@[go_sem] theorem bdSV_tup {vs}:bdSV (.tup vs)=bdVs vs:=rfl
@[go_sem] theorem bdSV_adr {a}:bdSV (.adr a)=True:=rfl
@[go_sem] theorem bdSV_skp:bdSV .skp=True:=rfl
@[go_sem] theorem bdSV_undef:bdSV .undef=True:=rfl
@[go_sem] theorem bdVs_nil:bdVs []=True:=rfl
@[go_sem] theorem bdVs_cons {v vs}:bdVs (v::vs)=(bdCs v.2∧bdVs vs):=rfl
@[go_sem] theorem bdCs_nil:bdCs []=True:=rfl
@[go_sem] theorem bdCs_cons {v vs}:bdCs (v::vs)=(bdSC v∧bdCs vs):=rfl
@[go_sem] theorem bdSC_pl {t}:bdSC (.pl t)=bdT t:=rfl
@[go_sem] theorem bdSC_bor {t}:bdSC (.bor t)=bdT t:=rfl
@[go_sem] theorem bdSC_emp {k}:bdSC (.emp k)=True:=rfl
@[go_sem] theorem bdSC_ref {a b c d e}:bdSC (.ref a b c d e)=True:=rfl
@[go_sem] theorem bdSC_clo {a b}:bdSC (.clo a b)=True:=rfl
@[go_sem] theorem bdOC_row {a b c}:bdOC (.row a b c)=(c.length≤roomB∧bdR c):=rfl
@[go_sem] theorem bdOC_lent {a b}:bdOC (.lent a b)=(b.length≤roomB∧bdR b):=rfl
@[go_sem] theorem bdOC_none:bdOC .none=True:=rfl
@[go_sem] theorem bdOC_box {a}:bdOC (.box a)=True:=rfl
@[go_sem] theorem bdOC_hole {a b c d e f}:bdOC (.hole a b c d e f)=True:=rfl
@[go_sem] theorem bdM_buildO {a b c d}:bdM σ (.buildO a b c d)=True:=rfl
@[go_sem] theorem bdM_loadM {a b c d e}:bdM σ (.loadM a b c d e)=True:=rfl
@[go_sem] theorem bdM_loadT {a b c}:bdM σ (.loadT a b c)=True:=rfl
@[go_sem] theorem bdM_callB {a b c d e}:bdM σ (.callB a b c d e)=True:=rfl
@[go_sem] theorem bdM_callI {a b c d e f}:bdM σ (.callI a b c d e f)=True:=rfl
@[go_sem] theorem bdM_mv {a b}:bdM σ (.mv a b)=True:=rfl
@[go_sem] theorem bdM_bin {a b c d e}:bdM σ (.bin a b c d e)=True:=rfl
@[go_sem] theorem bdM_eqA {a b c d e}:bdM σ (.eqA a b c d e)=True:=rfl
@[go_sem] theorem bdM_un {a b c}:bdM σ (.un a b c)=True:=rfl
@[go_sem] theorem bdM_mm {a b c d}:bdM σ (.mm a b c d)=True:=rfl
@[go_sem] theorem bdM_pick {a b c d}:bdM σ (.pick a b c d)=True:=rfl
@[go_sem] theorem bdM_len {a b c}:bdM σ (.len a b c)=True:=rfl
@[go_sem] theorem bdM_alloc {a b c}:bdM σ (.alloc a b c)=True:=rfl
@[go_sem] theorem bdM_box {a b c}:bdM σ (.box a b c)=True:=rfl
@[go_sem] theorem bdM_build {a b c}:bdM σ (.build a b c)=True:=rfl
@[go_sem] theorem bdM_litP {a b c d}:bdM σ (.litP a b c d)=True:=rfl
@[go_sem] theorem bdM_lit {a b c d e}:bdM σ (.lit a b c d e)=True:=rfl
@[go_sem] theorem bdM_load {a b c d}:bdM σ (.load a b c d)=True:=rfl
@[go_sem] theorem bdM_store {a b c}:bdM σ (.store a b c)=True:=rfl
@[go_sem] theorem bdM_fld {a b c}:bdM σ (.fld a b c)=True:=rfl
@[go_sem] theorem bdM_idx {a b c d}:bdM σ (.idx a b c d)=True:=rfl
@[go_sem] theorem bdM_idxA {a b c d e}:bdM σ (.idxA a b c d e)=True:=rfl
@[go_sem] theorem bdM_fldv {a b c d e}:bdM σ (.fldv a b c d e)=True:=rfl
@[go_sem] theorem bdM_idxs {a b c}:bdM σ (.idxs a b c)=True:=rfl
@[go_sem] theorem bdM_mk {a b c d e f}:bdM σ (.mk a b c d e f)=True:=rfl
@[go_sem] theorem bdM_app {a b c d e f}:bdM σ (.app a b c d e f)=True:=rfl
@[go_sem] theorem bdM_slc {a b c d e f}:bdM σ (.slc a b c d e f)=True:=rfl
@[go_sem] theorem bdM_slcs {a b c d}:bdM σ (.slcs a b c d)=True:=rfl
@[go_sem] theorem bdM_ext {a b c}:bdM σ (.ext a b c)=True:=rfl
@[go_sem] theorem bdM_clos {a b c}:bdM σ (.clos a b c)=True:=rfl
@[go_sem] theorem bdM_closF {a b c}:bdM σ (.closF a b c)=True:=rfl
@[go_sem] theorem bdM_nilo {a b c}:bdM σ (.nilo a b c)=True:=rfl
@[go_sem] theorem bdM_nilc {a b}:bdM σ (.nilc a b)=True:=rfl
@[go_sem] theorem bdM_sliA {a b c}:bdM σ (.sliA a b c)=True:=rfl
@[go_sem] theorem bdM_appA {a b c d e}:bdM σ (.appA a b c d e)=True:=rfl
@[go_sem] theorem bdM_nilp {a b c}:bdM σ (.nilp a b c)=True:=rfl
@[go_sem] theorem bdM_callN {a b c d}:bdM σ (.callN a b c d)=True:=rfl
@[go_sem] theorem bdM_callP {a b c d}:bdM σ (.callP a b c d)=True:=rfl
@[go_sem] theorem bdSV_arr {a b c d}:bdSV (.arr a b c d)=True:=rfl
@[go_sem] theorem bdM_convS {a b}:bdM σ (.convS a b)=True:=rfl
@[go_sem] theorem bdM_convI {a b c}:bdM σ (.convI a b c)=True:=rfl
@[go_sem] theorem wpC_skip:wpC P .skip Q σ=Q .nrm σ:=rfl
@[go_sem] theorem wpC_reg {ms:List MOp} {keep:List Nat}:wpC P (.reg ms keep) Q σ=wpR P ms σ (kK ms keep Q):=rfl
@[go_sem] theorem wpC_dreg {ms:List MOp} {keep:List Nat}:wpC P (.dreg ms keep) Q σ=wpD P ms σ (kK ms keep Q):=rfl
@[go_sem] theorem wpC_dregI {ms:List MOp} {keep:List Nat}:wpC P (.dregI ms keep) Q σ=(σ.noB=true∧wpD P ms σ (kK ms keep Q)):=rfl
@[go_sem] theorem K48 {a b:MC}:wpC P (.seq a b) Q σ=wpC P a (kS P b Q) σ:=by
 show wpC P a _ σ=_
 congr 1
@[go_sem] theorem kS_nrm {b:MC}:kS P b Q .nrm σ=wpC P b Q σ:=rfl
@[go_sem] theorem kS_ex {b:MC}:kS P b Q (.ex i) σ=Q (.ex i) σ:=rfl
@[go_sem] theorem kS_ret {b:MC}:kS P b Q .ret σ=Q .ret σ:=rfl
@[go_sem] theorem wpC_cond {c:Od} {a b:MC}:wpC P (.cond c a b) Q σ=bk ((σ.sca c).bind vBool) (cS P a b Q σ):=rfl
@[go_sem] theorem K38 {id:Nat} {a:MC}:wpC P (.block id a) Q σ=wpC P a (kB id Q) σ:=by
 show wpC P a _ σ=_
 congr 1
@[go_sem] theorem kB_nrm:kB id Q .nrm σ=Q .nrm σ:=rfl
@[go_sem] theorem kB_ret:kB id Q .ret σ=Q .ret σ:=rfl
@[go_sem] theorem kB_ex:kB id Q (.ex i) σ=if i=id then Q .nrm σ else Q (.ex i) σ:=rfl
@[go_sem] theorem wpC_condN {d1 d2:Nat} {x:Od} {a b:MC}:wpC P (.condN d1 d2 x a b) Q σ=(σ.get d1= .undef∧σ.get d2= .undef∧d1<σ.n∧d2<σ.n∧bk (σ.ev x).one fun c=>bk (σ.rows c) fun r=>(r.2=[]→wpC P a Q σ)∧wpC P b Q σ):=by
 simp only[wpC,bk,eq_iff_iff]
 constructor
 ·rintro ⟨h1,h2,h3,h4,c,r,h5,h6,h7,h8⟩;exact⟨h1,h2,h3,h4,c,h5,r,h6,h7,h8⟩
 ·rintro ⟨h1,h2,h3,h4,c,h5,r,h6,h7,h8⟩;exact⟨h1,h2,h3,h4,c,r,h5,h6,h7,h8⟩
@[go_sem] theorem wpC_trim {d:Nat} {a:MC}:wpC P (.trim d a) Q σ=bk (σ.trim d) fun τ=>wpC P a Q τ:=rfl
@[go_sem] theorem trim_eq {d:Nat}:σ.trim d=match σ.get d with
 |.val false [c]=>trimO σ d c
 |_=>none:=rfl
@[go_sem] theorem trimO_ref {d id ver sz n:Nat}:trimO σ d (.ref id ver sz 0 n)=match σ.ob id with
  |⟨v,.row true sz' es⟩=>if v=ver∧sz=sz'∧n≤es.length then some ⟨ins d (.val false [.ref id (σ.nw id) sz 0 n]) σ.s,σ.n,σ.o.set id ⟨σ.nw id,.row true sz (es.take n)⟩⟩else none
  |_=>none:=rfl
@[go_sem] theorem wpC_dead:wpC P .dead Q σ=False:=rfl
@[go_sem] theorem wpC_ren {ps:List (Nat×Nat)} {a:MC}:wpC P (.ren ps a) Q σ=bk (σ.renA ps) fun τ=>wpC P a Q τ:=rfl
@[go_sem] theorem renA_nil:σ.renA []=some σ:=rfl
@[go_sem] theorem renA_cons {a b:Nat} {l:List (Nat×Nat)}:σ.renA ((a,b)::l)=(σ.ren1 a b).bind fun τ=>τ.renA l:=rfl
@[go_sem] theorem ren1_eq {a b:Nat}:σ.ren1 a b=match σ.ob a with
 |⟨va,.row dp sz es⟩=>if a=b then none else if b<σ.o.length then
   some ⟨sRen a va b (σ.nw b) σ.s,σ.n,((oRen a va b (σ.nw b) σ.o).set b ⟨σ.nw b,.row dp sz es⟩).set a ⟨va,.none⟩⟩else none
 |_=>none:=rfl
@[go_sem] theorem sRen_nil {a b c d:Nat}:sRen a b c d []=[]:=rfl
@[go_sem] theorem sRen_cons {a b c d k:Nat} {v:SV} {l:List (Nat×SV)}:sRen a b c d ((k,v)::l)=(k,v.ren a b c d)::sRen a b c d l:=rfl
@[go_sem] theorem oRen_nil {a b c d:Nat}:oRen a b c d []=[]:=rfl
@[go_sem] theorem oRen_cons {a b c d v:Nat} {x:OC} {l:List OV}:oRen a b c d (⟨v,x⟩::l)=⟨v,x.ren a b c d⟩::oRen a b c d l:=rfl
@[go_sem] theorem ocren_box {a b c d:Nat} {cs:List SC}:(OC.box cs).ren a b c d= .box (K2z a b c d cs):=rfl
@[go_sem] theorem ocren_none {a b c d:Nat}:(OC.none).ren a b c d= .none:=rfl
@[go_sem] theorem ocren_row {a b c d sz:Nat} {dp:Bool} {es:List (List T)}:(OC.row dp sz es).ren a b c d= .row dp sz es:=rfl
@[go_sem] theorem ocren_lent {a b c d sz:Nat} {es:List (List T)}:(OC.lent sz es).ren a b c d= .lent sz es:=rfl
@[go_sem] theorem ocren_hole {a b c d sz i k x y:Nat} {es:List (List T)}:(OC.hole sz es i k x y).ren a b c d= .hole sz es i k x y:=rfl
@[go_sem] theorem svren_val {a b c d:Nat} {ag:Bool} {cs:List SC}:(SV.val ag cs).ren a b c d= .val ag (K2z a b c d cs):=rfl
@[go_sem] theorem svren_tup {a b c d:Nat} {vs:List (Bool×List SC)}:(SV.tup vs).ren a b c d= .tup (K6c a b c d vs):=rfl
@[go_sem] theorem svren_arr {a b c d i v k n:Nat}:(SV.arr i v k n).ren a b c d= .arr i v k n:=rfl
@[go_sem] theorem svren_adr {a b c d:Nat} {x:Ad}:(SV.adr x).ren a b c d= .adr x:=rfl
@[go_sem] theorem svren_skp {a b c d:Nat}:(SV.skp).ren a b c d= .skp:=rfl
@[go_sem] theorem svren_undef {a b c d:Nat}:(SV.undef).ren a b c d= .undef:=rfl
@[go_sem] theorem vsRen_nil {a b c d:Nat}:K6c a b c d []=[]:=rfl
@[go_sem] theorem vsRen_cons {a b c d:Nat} {v:Bool×List SC} {l:List (Bool×List SC)}:K6c a b c d (v::l)=(v.1,K2z a b c d v.2)::K6c a b c d l:=rfl
@[go_sem] theorem csRen_nil {a b c d:Nat}:K2z a b c d []=[]:=rfl
@[go_sem] theorem csRen_cons {a b c d:Nat} {v:SC} {l:List SC}:K2z a b c d (v::l)=v.ren a b c d::K2z a b c d l:=rfl
@[go_sem] theorem scren_ref {a b c d id ver sz lo n:Nat}:(SC.ref id ver sz lo n).ren a b c d=if id=a∧ver=b then .ref c d sz lo n else .ref id ver sz lo n:=rfl
@[go_sem] theorem scren_pl {a b c d:Nat} {t:T}:(SC.pl t).ren a b c d= .pl t:=rfl
@[go_sem] theorem scren_bor {a b c d:Nat} {t:T}:(SC.bor t).ren a b c d= .bor t:=rfl
@[go_sem] theorem scren_emp {a b c d sz:Nat}:(SC.emp sz).ren a b c d= .emp sz:=rfl
@[go_sem] theorem scren_clo {a b c d:Nat} {f:FuncId} {bs:List (Nat×Nat)}:(SC.clo f bs).ren a b c d= .clo f bs:=rfl
@[go_sem] theorem wpC_exit {id:Nat}:wpC P (.exit id) Q σ=Q (.ex id) σ:=rfl
@[go_sem] theorem wpC_ret:wpC P .ret Q σ=Q .ret σ:=rfl
@[go_sem] theorem wpC_loop {keep:List Nat×List Nat} {a:MC}:wpC P (.loop keep a) Q σ=loopK P keep a Q σ:=rfl
@[go_sem] theorem kF_nrm {res:List (MR×List Bool)} {rs:List RV}:kF res rs .nrm σ=(outs σ res=some rs):=by simp[kF]
@[go_sem] theorem kF_ret {res:List (MR×List Bool)} {rs:List RV}:kF res rs .ret σ=(outs σ res=some rs):=by simp[kF]
@[go_sem] theorem kL_nrm {keep:List Nat×List Nat} {next:St→Prop}:kL keep next Q .nrm σ=bk ((σ.lo keep).re) next:=rfl
@[go_sem] theorem kL_ex {keep:List Nat×List Nat} {next:St→Prop}:kL keep next Q (.ex i) σ=Q (.ex i) σ:=rfl
@[go_sem] theorem kL_ret {keep:List Nat×List Nat} {next:St→Prop}:kL keep next Q .ret σ=Q .ret σ:=rfl
theorem Kg{f:FuncId}{args:List RV}{idl:List Nat}{d:Nat}{ids bks:List Nat}{outs:List (Option (Nat×List (List T)))}{rs:List RV}(c:CtrI P f args outs rs)
  (h:bk (effI σ d ids idl outs rs) fun e1=>bk (bksE (σ.app e1) bks) fun e2=>L ⟨e1.d,e1.obs++e2⟩):callIK P f args idl σ d ids bks L:=⟨⟨outs,rs,c,h⟩⟩
theorem K0{f:FuncId}{as_:List (Bool×List T)}{m:Md}{d:Nat}{ids:List Nat}{rs:List RV}(c:Ctr P f as_ rs)(h:bk (K66 σ m d ids rs) L):callK P f as_ σ m d ids L:=⟨⟨rs,c,h⟩⟩
end
theorem Kr{P:Program}:∀ {M:MC} {Q Q':Xt→St→Prop} {σ:St},wpC P M Q σ→(∀x s,Q x s→Q' x s)→wpC P M Q' σ:=by
 have hR:∀(ms:List MOp) (σ:St) (K K':St→Prop),wpR P ms σ K→(∀s,K s→K' s)→wpR P ms σ K':=by
  intro ms
  induction ms with
  |nil=>intro σ K K' h hk;exact hk _ h
  |cons m ms ih=>rintro σ K K' ⟨e,h1,h2⟩ hk;exact⟨e,h1,ih _ _ _ h2 hk⟩
 have hD:∀(ms:List MOp) (σ:St) (K K':St→Prop),wpD P ms σ K→(∀s,K s→K' s)→wpD P ms σ K':=by
  intro ms
  induction ms with
  |nil=>intro σ K K' h hk;exact hk _ h
  |cons m ms ih=>rintro σ K K' ⟨e,h1,h2,h3⟩ hk;exact⟨e,h1,h2,ih _ _ _ h3 hk⟩
 intro M
 induction M with
 |skip=>intro Q Q' σ h hk;exact hk _ _ h
 |reg ms keep=>intro Q Q' σ h hk;exact hR _ _ _ _ h fun s hs hb=>hk _ _ (hs hb)
 |dreg ms keep=>intro Q Q' σ h hk;exact hD _ _ _ _ h fun s hs hb=>hk _ _ (hs hb)
 |dregI ms keep=>intro Q Q' σ h hk;exact⟨h.1,hD _ _ _ _ h.2 fun s hs hb=>hk _ _ (hs hb)⟩
 |seq a b iha ihb=>
  intro Q Q' σ h hk
  refine iha h fun x s hx=>?_
  cases x with
  |nrm=>exact ihb hx hk
  |ex i=>exact hk _ _ hx
  |ret=>exact hk _ _ hx
 |cond c a b iha ihb=>
  rintro Q Q' σ ⟨t,h,h1,h2⟩ hk
  exact⟨t,h,fun e=>iha (h1 e) hk,fun e=>ihb (h2 e) hk⟩
 |block id a ih=>
  intro Q Q' σ h hk
  refine ih h fun x s hx=>?_
  cases x with
  |nrm=>exact hk _ _ hx
  |ex i=>
   simp only at hx ⊢
   split
   ·rename_i he;rw[if_pos he]at hx;exact hk _ _ hx
   ·rename_i he;rw[if_neg he]at hx;exact hk _ _ hx
  |ret=>exact hk _ _ hx
 |loop keep a ih=>
  rintro Q Q' σ ⟨n,S,h0,h1,h2⟩ hk
  refine⟨n,S,h0,h1,fun k hlt=>ih (h2 k hlt) fun x s hx=>?_⟩
  cases x with
  |nrm=>exact hx
  |ex i=>exact hk _ _ hx
  |ret=>exact hk _ _ hx
 |exit id=>intro Q Q' σ h hk;exact hk _ _ h
 |ret=>intro Q Q' σ h hk;exact hk _ _ h
 |condN d1 d2 x a b iha ihb=>
  rintro Q Q' σ ⟨h1,h2,h3,h4,c,r,h5,h6,h7,h8⟩ hk
  exact⟨h1,h2,h3,h4,c,r,h5,h6,fun e=>iha (h7 e) hk,ihb h8 hk⟩
 |dead=>intro Q Q' σ h hk;exact h.elim
 |trim d a ih=>
  rintro Q Q' σ ⟨τ,h1,h2⟩ hk
  exact⟨τ,h1,ih h2 hk⟩
 |ren ps a ih=>
  rintro Q Q' σ ⟨τ,h1,h2⟩ hk
  exact⟨τ,h1,ih h2 hk⟩
theorem wpC_one{P:Program}:∀ {M:MC} {Q:Xt→St→Prop} {σ:St},M.det=true→wpC P M Q σ→(∃x s,Q x s∧wpC P M (fun y t=>y=x∧t=s) σ)∨∀Q',wpC P M Q' σ:=by
 have hR:∀(ms:List MOp) (σ:St) (K:St→Prop),wpR P ms σ K→∃s,K s∧wpR P ms σ (fun t=>t=s):=by
  intro ms
  induction ms with
  |nil=>intro σ K h;exact⟨σ,h,rfl⟩
  |cons m ms ih=>
   rintro σ K ⟨e,h1,h2⟩
   obtain⟨s,h3,h4⟩:=ih _ _ h2
   exact⟨s,h3,e,h1,h4⟩
 have hD:∀(ms:List MOp) (σ:St) (K:St→Prop),wpD P ms σ K→∃s,K s∧wpD P ms σ (fun t=>t=s):=by
  intro ms
  induction ms with
  |nil=>intro σ K h;exact⟨σ,h,rfl⟩
  |cons m ms ih=>
   rintro σ K ⟨e,h1,h2,h2'⟩
   obtain⟨s,h3,h4⟩:=ih _ _ h2'
   exact⟨s,h3,e,h1,h2,h4⟩
 have hRm:∀(ms:List MOp) (σ:St) (K K':St→Prop),wpR P ms σ K→(∀s,K s→K' s)→wpR P ms σ K':=by
  intro ms
  induction ms with
  |nil=>intro σ K K' h hk;exact hk _ h
  |cons m ms ih=>rintro σ K K' ⟨e,h1,h2⟩ hk;exact⟨e,h1,ih _ _ _ h2 hk⟩
 have hDm:∀(ms:List MOp) (σ:St) (K K':St→Prop),wpD P ms σ K→(∀s,K s→K' s)→wpD P ms σ K':=by
  intro ms
  induction ms with
  |nil=>intro σ K K' h hk;exact hk _ h
  |cons m ms ih=>rintro σ K K' ⟨e,h1,h2,h3⟩ hk;exact⟨e,h1,h2,ih _ _ _ h3 hk⟩
 intro M
 induction M with
 |skip=>intro Q σ _ h;exact .inl ⟨_,_,h,rfl,rfl⟩
 |reg ms keep=>
  intro Q σ _ h
  obtain⟨s,h1,h2⟩:=hR _ _ _ h
  by_cases hb:bdC s ms
  ·exact .inl ⟨.nrm,_,h1 hb,hRm _ _ _ _ h2 fun t ht _=>⟨rfl,by rw[ht]⟩⟩
  ·exact .inr fun Q'=>hRm _ _ _ _ h2 fun t ht hb'=>(hb (ht▸hb')).elim
 |dreg ms keep=>
  intro Q σ _ h
  obtain⟨s,h1,h2⟩:=hD _ _ _ h
  by_cases hb:bdC s ms
  ·exact .inl ⟨.nrm,_,h1 hb,hDm _ _ _ _ h2 fun t ht _=>⟨rfl,by rw[ht]⟩⟩
  ·exact .inr fun Q'=>hDm _ _ _ _ h2 fun t ht hb'=>(hb (ht▸hb')).elim
 |dregI ms keep=>
  intro Q σ _ h
  obtain⟨hn,h⟩:=h
  obtain⟨s,h1,h2⟩:=hD _ _ _ h
  by_cases hb:bdC s ms
  ·exact .inl ⟨.nrm,_,h1 hb,hn,hDm _ _ _ _ h2 fun t ht _=>⟨rfl,by rw[ht]⟩⟩
  ·exact .inr fun Q'=>⟨hn,hDm _ _ _ _ h2 fun t ht hb'=>(hb (ht▸hb')).elim⟩
 |seq a b iha ihb=>
  intro Q σ hN h
  simp only[MC.det,Bool.and_eq_true]at hN
  rw[K48]at h
  rcases iha hN.1 h with ⟨x,s,h1,h2⟩|h2
  ·cases x with
   |nrm=>
    rcases ihb hN.2 h1 with ⟨y,t,h3,h4⟩|h4
    ·refine .inl ⟨y,t,h3,?_⟩
     rw[K48]
     refine Kr h2 fun x' s' he=>?_
     obtain⟨rfl,rfl⟩:=he
     exact h4
    ·refine .inr fun Q'=>?_
     rw[K48]
     refine Kr h2 fun x' s' he=>?_
     obtain⟨rfl,rfl⟩:=he
     exact h4 _
   |ex i=>
    refine .inl ⟨_,_,h1,?_⟩
    rw[K48]
    refine Kr h2 fun x' s' he=>?_
    obtain⟨rfl,rfl⟩:=he
    exact⟨rfl,rfl⟩
   |ret=>
    refine .inl ⟨_,_,h1,?_⟩
    rw[K48]
    refine Kr h2 fun x' s' he=>?_
    obtain⟨rfl,rfl⟩:=he
    exact⟨rfl,rfl⟩
  ·refine .inr fun Q'=>?_
   rw[K48]
   exact h2 _
 |cond c a b iha ihb=>
  rintro Q σ hN ⟨t,h,h1,h2⟩
  simp only[MC.det,Bool.and_eq_true]at hN
  cases t with
  |true=>
   rcases iha hN.1 (h1 rfl)with ⟨x,s,h3,h4⟩|h4
   ·exact .inl ⟨x,s,h3,true,h,fun _=>h4,fun e=>by simp at e⟩
   ·exact .inr fun Q'=>⟨true,h,fun _=>h4 _,fun e=>by simp at e⟩
  |false=>
   rcases ihb hN.2 (h2 rfl)with ⟨x,s,h3,h4⟩|h4
   ·exact .inl ⟨x,s,h3,false,h,fun e=>by simp at e,fun _=>h4⟩
   ·exact .inr fun Q'=>⟨false,h,fun e=>by simp at e,fun _=>h4 _⟩
 |block id a ih=>
  intro Q σ hN h
  simp only[MC.det]at hN
  rw[K38]at h
  rcases ih hN h with ⟨x,s,h1,h2⟩|h2
  ·cases x with
   |nrm=>
    refine .inl ⟨_,_,h1,?_⟩
    rw[K38]
    refine Kr h2 fun x' s' he=>?_
    obtain⟨rfl,rfl⟩:=he
    exact⟨rfl,rfl⟩
   |ret=>
    refine .inl ⟨_,_,h1,?_⟩
    rw[K38]
    refine Kr h2 fun x' s' he=>?_
    obtain⟨rfl,rfl⟩:=he
    exact⟨rfl,rfl⟩
   |ex i=>
    rw[kB_ex]at h1
    by_cases hi:i=id
    ·rw[if_pos hi]at h1
     refine .inl ⟨_,_,h1,?_⟩
     rw[K38]
     refine Kr h2 fun x' s' he=>?_
     obtain⟨rfl,rfl⟩:=he
     rw[kB_ex,if_pos hi]
     exact⟨rfl,rfl⟩
    ·rw[if_neg hi]at h1
     refine .inl ⟨_,_,h1,?_⟩
     rw[K38]
     refine Kr h2 fun x' s' he=>?_
     obtain⟨rfl,rfl⟩:=he
     rw[kB_ex,if_neg hi]
     exact⟨rfl,rfl⟩
  ·refine .inr fun Q'=>?_
   rw[K38]
   exact h2 _
 |loop keep a ih=>
  rintro Q σ hN ⟨n,S,h0,h1,h2⟩
  simp only[MC.det]at hN
  have key:∀(m k:Nat),k+m=n→0<m→(∃(n':Nat) (x:Xt) (s:St),k<n'∧n'≤n∧x≠ .nrm∧Q x s∧∀j,k≤j→j<n'→wpC P a (fun y t=>match y with
    |.nrm=>j+1<n'∧(t.lo keep).re=some (S (j+1))
    |y=>y=x∧t=s) (S j))∨∃n':Nat,k<n'∧∀Q':Xt→St→Prop,∀j,k≤j→j<n'→wpC P a (fun y t=>match y with
    |.nrm=>j+1<n'∧(t.lo keep).re=some (S (j+1))
    |y=>Q' y t) (S j):=by
   intro m
   induction m with
   |zero=>intro k _ h;omega
   |succ m ihm=>
    intro k hk _
    rcases ih hN (h2 k (by omega))with ⟨x,s,hx,hw⟩|hw
    rotate_left
    ·refine .inr ⟨k+1,by omega,fun Q' j h3 h4=>?_⟩
     obtain rfl:j=k:=by omega
     exact hw _
    have hleave:x≠ .nrm→Q x s→(∃(n':Nat) (x:Xt) (s:St),k<n'∧n'≤n∧x≠ .nrm∧Q x s∧∀j,k≤j→j<n'→wpC P a (fun y t=>match y with
     |.nrm=>j+1<n'∧(t.lo keep).re=some (S (j+1))
     |y=>y=x∧t=s) (S j)):=fun hne hq=>⟨k+1,x,s,by omega,by omega,hne,hq,fun j h3 h4=>by
      obtain rfl:j=k:=by omega
      refine Kr hw fun y t he=>?_
      obtain⟨rfl,rfl⟩:=he
      cases y with
      |nrm=>exact(hne rfl).elim
      |ex i=>exact⟨rfl,rfl⟩
      |ret=>exact⟨rfl,rfl⟩⟩
    cases x with
    |nrm=>
     simp only at hx
     rcases ihm (k+1) (by omega) (by omega)with ⟨n',x,s',h5,h6,h7,h8,h9⟩|⟨n',h5,h9⟩
     ·refine .inl ⟨n',x,s',by omega,h6,h7,h8,fun j h3 h4=>?_⟩
      by_cases hj:j=k
      ·subst hj
       refine Kr hw fun y t he=>?_
       obtain⟨rfl,rfl⟩:=he
       exact⟨by omega,hx.2⟩
      ·exact h9 j (by omega) h4
     ·refine .inr ⟨n',by omega,fun Q' j h3 h4=>?_⟩
      by_cases hj:j=k
      ·subst hj
       refine Kr hw fun y t he=>?_
       obtain⟨rfl,rfl⟩:=he
       exact⟨by omega,hx.2⟩
      ·exact h9 Q' j (by omega) h4
    |ex i=>exact .inl (hleave (by simp) hx)
    |ret=>exact .inl (hleave (by simp) hx)
  rcases key n 0 (by omega) h0 with ⟨n',x,s,h5,h6,h7,h8,h9⟩|⟨n',h5,h9⟩
  ·refine .inl ⟨x,s,h8,n',S,h5,h1,fun k hk=>Kr (h9 k (by omega) hk) fun y t he=>?_⟩
   cases y with
   |nrm=>exact he
   |ex i=>exact he
   |ret=>exact he
  ·refine .inr fun Q'=>⟨n',S,h5,h1,fun k hk=>Kr (h9 Q' k (by omega) hk) fun y t he=>?_⟩
   cases y with
   |nrm=>exact he
   |ex i=>exact he
   |ret=>exact he
 |exit id=>intro Q σ _ h;exact .inl ⟨_,_,h,rfl,rfl⟩
 |ret=>intro Q σ _ h;exact .inl ⟨_,_,h,rfl,rfl⟩
 |condN d1 d2 x a b _ _=>intro Q σ hN _;simp[MC.det]at hN
 |dead=>intro Q σ _ h;exact h.elim
 |trim d a ih=>
  rintro Q σ hN ⟨τ,h1,h2⟩
  rcases ih (by simpa only[MC.det]using hN) h2 with ⟨x,s,h3,h4⟩|h3
  ·exact .inl ⟨x,s,h3,τ,h1,h4⟩
  ·exact .inr fun Q'=>⟨τ,h1,h3 Q'⟩
 |ren ps a ih=>
  rintro Q σ hN ⟨τ,h1,h2⟩
  rcases ih (by simpa only[MC.det]using hN) h2 with ⟨x,s,h3,h4⟩|h3
  ·exact .inl ⟨x,s,h3,τ,h1,h4⟩
  ·exact .inr fun Q'=>⟨τ,h1,h3 Q'⟩
theorem Kaq{P:Program}{keep:List Nat×List Nat}{a:MC}{Q:Xt→St→Prop}{σ:St}{ι:Type}(S:ι→St)(I:ι→Prop)(μ:ι→Nat)(i0:ι)(h0:bk ((σ.lo keep).re) fun s=>s=S i0)(hI:I i0)
  (step:∀i,I i→wpC P a (kL keep (fun s=>∃j,s=S j∧I j∧μ j<μ i) Q) (S i)) (hN:a.det=true:=by rfl):loopK P keep a Q σ:=by
 obtain⟨s0,hs0,rfl⟩:=h0
 have hstep:∀i,I i→(∃j,I j∧μ j<μ i∧wpC P a (fun y t=>y= .nrm∧(t.lo keep).re=some (S j)) (S i))∨wpC P a (fun y t=>y≠ .nrm∧Q y t) (S i):=by
  intro i hi
  rcases wpC_one hN (step i hi)with ⟨x,s,hx,hw⟩|hw
  rotate_left
  ·exact .inr (hw _)
  cases x with
  |nrm=>
   left
   obtain⟨s',hs',j,rfl,hj,hm⟩:=hx
   refine⟨j,hj,hm,Kr hw fun y t he=>?_⟩
   obtain⟨rfl,rfl⟩:=he
   exact⟨rfl,hs'⟩
  |ex k=>
   refine .inr (Kr hw fun y t he=>?_)
   obtain⟨rfl,rfl⟩:=he
   exact⟨by simp,hx⟩
  |ret=>
   refine .inr (Kr hw fun y t he=>?_)
   obtain⟨rfl,rfl⟩:=he
   exact⟨by simp,hx⟩
 have key:∀(m:Nat) (i:ι),μ i≤m→I i→∃(n:Nat) (f:Nat→ι),0<n∧f 0=i∧∀k,k<n→wpC P a (fun x σ'=>match x with
   |.nrm=>k+1<n∧(σ'.lo keep).re=some (S (f (k+1)))
   |x=>Q x σ') (S (f k)):=by
  intro m
  induction m with
  |zero=>
   intro i hm hi
   rcases hstep i hi with ⟨j,_,hj,_⟩|hw
   ·omega
   ·refine⟨1,fun _=>i,by omega,rfl,fun k hk=>Kr hw fun y t he=>?_⟩
    obtain⟨hne,hq⟩:=he
    cases y with
    |nrm=>exact(hne rfl).elim
    |ex k=>exact hq
    |ret=>exact hq
  |succ m ih=>
   intro i hm hi
   rcases hstep i hi with ⟨j,hIj,hj,hw⟩|hw
   ·obtain⟨n,f,hn,hf,h⟩:=ih j (by omega) hIj
    refine⟨n+1,fun k=>match k with|0=>i|k+1=>f k,by omega,rfl,fun k hk=>?_⟩
    cases k with
    |zero=>
     refine Kr hw fun y t he=>?_
     obtain⟨rfl,he⟩:=he
     exact⟨by omega,by simp only[hf];exact he⟩
    |succ k=>
     refine Kr (h k (by omega)) fun y t he=>?_
     cases y with
     |nrm=>exact⟨by omega,he.2⟩
     |ex k=>exact he
     |ret=>exact he
   ·refine⟨1,fun _=>i,by omega,rfl,fun k hk=>Kr hw fun y t he=>?_⟩
    obtain⟨hne,hq⟩:=he
    cases y with
    |nrm=>exact(hne rfl).elim
    |ex k=>exact hq
    |ret=>exact hq
 obtain⟨n,f,hn,hf,h⟩:=key (μ i0) i0 (Nat.le_refl _) hI
 exact⟨n,fun k=>S (f k),hn,by simp only[hf];exact hs0,h⟩
def putS(n:Nat):Option (Nat×SV)→List (Nat×SV)→List (Nat×SV)
 |some (k,v),s=>if k<n then ins k v s else s
 |none,s=>s
def putO:List (Nat×OV)→List OV→List OV
 | [],o=>o
 |x::l,o=>putO l (o.set x.1 x.2)
@[go_sem] theorem app_mk (s:List (Nat×SV)) (n:Nat) (o:List OV) (d:Option (Nat×SV)) (l:List (Nat×OV)):St.app ⟨s,n,o⟩ ⟨d,l⟩=⟨putS n d s,n,putO l o⟩:=by
 have h:∀(l:List (Nat×OV)) (o:List OV),l.foldl (fun o x=>o.set x.1 x.2) o=putO l o:=by
  intro l
  induction l with
  |nil=>intro o;rfl
  |cons x l ih=>intro o;exact ih _
 unfold St.app
 rw[h]
 cases d with
 |none=>rfl
 |some x=>rfl
@[go_sem] theorem putS_some (n k:Nat) (v:SV) (s:List (Nat×SV)):putS n (some (k,v)) s=if k<n then ins k v s else s:=rfl
@[go_sem] theorem putS_none (n:Nat) (s:List (Nat×SV)):putS n none s=s:=rfl
@[go_sem] theorem putO_nil (o:List OV):putO [] o=o:=rfl
@[go_sem] theorem putO_cons (k:Nat) (v:OV) (l:List (Nat×OV)) (o:List OV):putO ((k,v)::l) o=putO l (o.set k v):=rfl
@[go_sem] theorem get_mk (s:List (Nat×SV)) (n:Nat) (o:List OV) (k:Nat):St.get ⟨s,n,o⟩ k=lk k s:=rfl
@[go_sem] theorem lk_nil (k:Nat):lk k []= .undef:=rfl
@[go_sem] theorem lk_cons (k j:Nat) (v:SV) (l:List (Nat×SV)):lk k ((j,v)::l)=if k=j then v else lk k l:=rfl
@[go_sem] theorem ins_eq (k:Nat) (v:SV) (l:List (Nat×SV)):ins k v l=(k,v)::l:=rfl
def insS(k:Nat)(v:SV):List (Nat×SV)→List (Nat×SV)
 | []=>[(k,v)]
 |x::l=>if k=x.1 then(k,v)::l else if k<x.1 then(k,v)::x::l else x::insS k v l
@[go_sem] theorem insS_nil (k:Nat) (v:SV):insS k v []=[(k,v)]:=rfl
@[go_sem] theorem insS_cons (k j:Nat) (v u:SV) (l:List (Nat×SV)):insS k v ((j,u)::l)=if k=j then(k,v)::l else if k<j then(k,v)::(j,u)::l else(j,u)::insS k v l:=rfl
def hasN(k:Nat):List Nat→Bool
 | []=>false
 |j::l=>if k=j then true else hasN k l
theorem K46(k:Nat):∀l:List Nat,l.contains k=hasN k l
 | []=>rfl
 |j::l=>by
  rw[hasN,List.contains_cons,K46 k l]
  by_cases h:k=j<;>simp[h]
@[go_sem] theorem hasN_nil (k:Nat):hasN k []=false:=rfl
@[go_sem] theorem hasN_cons (k j:Nat) (l:List Nat):hasN k (j::l)=if k=j then true else hasN k l:=rfl
def selv(k:Nat)(v:SV)(r:List (Nat×SV)):List (Nat×SV):=match v with
 |.undef=>r
 |v=>(k,v)::r
@[go_sem] theorem selv_undef {k r}:selv k .undef r=r:=rfl
@[go_sem] theorem selv_val {k a c r}:selv k (.val a c) r=(k,.val a c)::r:=rfl
@[go_sem] theorem selv_adr {k a r}:selv k (.adr a) r=(k,.adr a)::r:=rfl
@[go_sem] theorem selv_arr {k i v q n r}:selv k (.arr i v q n) r=(k,.arr i v q n)::r:=rfl
@[go_sem] theorem selv_tup {k a r}:selv k (.tup a) r=(k,.tup a)::r:=rfl
@[go_sem] theorem selv_skp {k r}:selv k .skp r=(k,.skp)::r:=rfl
@[go_sem] theorem sel_nil (s:List (Nat×SV)):sel s []=[]:=rfl
@[go_sem] theorem sel_cons (s:List (Nat×SV)) (k:Nat) (ks:List Nat):sel s (k::ks)=selv k (lk k s) (sel s ks):=by
 cases h:lk k s<;>simp[sel,selv,h]
@[go_sem] theorem only_mk (s:List (Nat×SV)) (n:Nat) (o:List OV) (ks:List Nat):St.only ⟨s,n,o⟩ ks=⟨sel s ks,n,o⟩:=rfl
@[go_sem] theorem ob_mk (s:List (Nat×SV)) (n:Nat) (o:List OV) (id:Nat):St.ob ⟨s,n,o⟩ id=o.getD id ⟨0,.none⟩:=rfl
attribute [go_sem] SC.frz St.froz eff St.evd St.ev SV.def_ SV.one SV.all SC.sca St.sca vInt vBool vStr St.int St.opt binV binI binS unV K94 St.adr St.rows St.load sub vw List.getD_cons_zero List.getD_cons_succ List.set_cons_zero List.set_cons_succ
end Go.Proofs.YtjneccbpkckdfaaGreatR
namespace Go.Proofs.YtjneccbpkckdfaaGreatR
open Go Go.RowKit
section
variable {P:Program} {σ σ':St} {Q:Xt→St→Prop} {L:Ef→Prop} {n id:Nat} {s:List (Nat×SV)} {o:List OV} {α β:Type}
@[go_sem] theorem bk_allS_nil {K:List α→Prop}:bk (K1 ([]:List (Option α))) K=K []:=K32 _
@[go_sem] theorem K5c {K:List α→Prop} {x:Option α} {l:List (Option α)}:bk (K1 (x::l)) K=bk x fun a=>bk (K1 l) fun r=>K (a::r):=by
 cases x with
 |none=>simp[K1,bk]
 |some a=>simp only[K1,K6g,K32]
@[go_sem] theorem bk_at {K:β→Prop} {f:α→β} {l:List α} {i:Nat}:bk ((l.map f)[i]?) K=bk (l[i]?) fun a=>K (f a):=by
 rw[List.getElem?_map,K6g]
theorem K4{K:α→Prop}{x:Option α}{a:α}(h:x=some a):bk x K=K a:=by rw[h,K32]
def reL(σ:St)(cs:List SC):Option (List SC):=K1 (cs.map (SC.re σ))
def reS(σ:St)(s:List (Nat×SV)):Option (List (Nat×SV)):=K1 (s.map fun x=>(x.2.re σ).map fun v=>(x.1,v))
def reO(σ:St)(o:List OV):Option (List OV):=K1 (o.map (OV.re σ))
@[go_sem] theorem bk_re {K:St→Prop}:bk (St.re ⟨s,n,o⟩) K=bk (reS ⟨s,n,o⟩ s) fun s'=>bk (reO ⟨s,n,o⟩ o) fun o'=>K ⟨s',n,o'⟩:=by
 unfold St.re reS reO
 simp only[bk_bind,K6g]
@[go_sem] theorem bk_reS_nil {K}:bk (reS σ []) K=K []:=K32 _
@[go_sem] theorem bk_reS_cons {K} {k:Nat} {v:SV}:bk (reS σ ((k,v)::s)) K=bk (v.re σ) fun v'=>bk (reS σ s) fun s'=>K ((k,v')::s'):=by
 unfold reS;simp only[List.map_cons,K5c,K6g]
@[go_sem] theorem bk_reO_nil {K}:bk (reO σ []) K=K []:=K32 _
@[go_sem] theorem bk_reO_cons {K} {x:OV} {l:List OV}:bk (reO σ (x::l)) K=bk (x.re σ) fun x'=>bk (reO σ l) fun l'=>K (x'::l'):=by
 unfold reO;simp only[List.map_cons,K5c]
@[go_sem] theorem bk_reL_nil {K}:bk (reL σ []) K=K []:=K32 _
@[go_sem] theorem bk_reL_cons {K} {x:SC} {l:List SC}:bk (reL σ (x::l)) K=bk (x.re σ) fun x'=>bk (reL σ l) fun l'=>K (x'::l'):=by
 unfold reL;simp only[List.map_cons,K5c]
@[go_sem] theorem sre_undef:SV.re σ .undef=some .undef:=rfl
@[go_sem] theorem sre_skp:SV.re σ .skp=some .skp:=rfl
@[go_sem] theorem sre_val {a:Bool} {cs:List SC}:SV.re σ (.val a cs)=(reL σ cs).map (.val a):=rfl
@[go_sem] theorem sre_arr {ver k n:Nat}:SV.re σ (.arr id ver k n)=if ver=(σ.ob id).ver then some (.arr id (rv ver) k n)else none:=rfl
@[go_sem] theorem sre_adr {a:Ad}:SV.re σ (.adr a)=(a.re σ).map .adr:=rfl
@[go_sem] theorem sre_tup {vs:List (Bool×List SC)}:SV.re σ (.tup vs)=(K1 (vs.map fun v=>(reL σ v.2).map fun cs=>(v.1,cs))).map .tup:=rfl
@[go_sem] theorem sre_pl {t:T}:SC.re σ (.pl t)=some (.pl t):=rfl
@[go_sem] theorem sre_bor {t:T}:SC.re σ (.bor t)=some (.bor t):=rfl
@[go_sem] theorem sre_emp {k:Nat}:SC.re σ (.emp k)=some (.emp k):=rfl
@[go_sem] theorem sre_ref {ver sz lo k:Nat}:SC.re σ (.ref id ver sz lo k)=if ver=(σ.ob id).ver then some (.ref id (rv ver) sz lo k)else none:=rfl
@[go_sem] theorem sre_clo0 {f:FuncId}:SC.re σ (.clo f [])=some (.clo f []):=rfl
@[go_sem] theorem sre_clo {f:FuncId} {bs:List (Nat×Nat)}:SC.re σ (.clo f bs)=if (bs.all fun b=>b.2==(σ.ob b.1).ver)=true then some (.clo f (bs.map fun b=>(b.1,rv b.2)))else none:=rfl
@[go_sem] theorem sre_bx {ver k:Nat}:Ad.re σ (.bx id ver k)=if ver=(σ.ob id).ver then some (.bx id (rv ver) k)else none:=rfl
@[go_sem] theorem sre_el {ver sz i k:Nat}:Ad.re σ (.el id ver sz i k)=if ver=(σ.ob id).ver then some (.el id (rv ver) sz i k)else none:=rfl
@[go_sem] theorem sre_ex {bo:Bool} {sz:Nat} {es:List (List T)} {i k:Nat}:Ad.re σ (.ex bo sz es i k)=some (.ex bo sz es i k):=rfl
@[go_sem] theorem sre_pb {ts:List T} {k:Nat}:Ad.re σ (.pb ts k)=some (.pb ts k):=rfl
@[go_sem] theorem sre_none {v:Nat}:OV.re σ ⟨v,.none⟩=some ⟨rv v,.none⟩:=rfl
@[go_sem] theorem sre_row {v:Nat} {d:Bool} {sz:Nat} {es:List (List T)}:OV.re σ ⟨v,.row d sz es⟩=some ⟨rv v,.row d sz es⟩:=rfl
@[go_sem] theorem sre_lent {v:Nat} {sz:Nat} {es:List (List T)}:OV.re σ ⟨v,.lent sz es⟩=some ⟨rv v,.lent sz es⟩:=rfl
@[go_sem] theorem sre_box {v:Nat} {cs:List SC}:OV.re σ ⟨v,.box cs⟩=(reL σ cs).map fun cs=>⟨rv v,.box cs⟩:=rfl
def fltH(hs:List Nat):List (Nat×SV)→List (Nat×SV)
 | []=>[]
 |x::l=>if hasN x.1 hs=true then fltH hs l else x::fltH hs l
def hidO(ho:List Nat):Nat→List OV→List OV
 |_,[]=>[]
 |i,x::l=>(if hasN i ho=true then⟨x.ver,.none⟩else x)::hidO ho (i+1) l
theorem K75(ho:List Nat):∀(l:List OV) (i:Nat),hideO ho i l=hidO ho i l
 | [],_=>rfl
 |x::l,i=>by rw[hideO,hidO,K75 ho l,K46]
theorem hidO_nil':∀(l:List OV) (i:Nat),hidO [] i l=l
 | [],_=>rfl
 |x::l,i=>by rw[hidO,hidO_nil' l,hasN];simp
theorem fltH_nil':∀(l:List (Nat×SV)),fltH [] l=l
 | []=>rfl
 |x::l=>by rw[fltH,fltH_nil' l,hasN];simp
@[go_sem] theorem fgt_mk {i:Nat} {ho:List Nat}:St.fgt ⟨s,n,o⟩ (i::ho)=⟨s,n,hidO (i::ho) 0 o⟩:=by
 rw[←K75];rfl
@[go_sem] theorem hide_mk {hs ho:List Nat}:St.hide ⟨s,n,o⟩ hs ho=⟨fltH hs s,n,hidO ho 0 o⟩:=by
 have h:∀s:List (Nat×SV),s.filter (fun x=> !hs.contains x.1)=fltH hs s:=by
  intro s
  induction s with
  |nil=>rfl
  |cons x s ih=>
   rw[List.filter_cons,fltH,ih,K46]
   cases hasN x.1 hs<;>simp
 unfold St.hide
 rw[h,K75]
@[go_sem] theorem fltH_nil {hs:List Nat}:fltH hs []=[]:=rfl
@[go_sem] theorem fltH_no {s:List (Nat×SV)}:fltH [] s=s:=fltH_nil' s
@[go_sem] theorem fltH_cons {hs:List Nat} {k:Nat} {v:SV} {l:List (Nat×SV)}:fltH hs ((k,v)::l)=if hasN k hs=true then fltH hs l else(k,v)::fltH hs l:=rfl
@[go_sem] theorem hidO_no {i:Nat} {l:List OV}:hidO [] i l=l:=hidO_nil' l i
@[go_sem] theorem hidO_nil {ho:List Nat} {i:Nat}:hidO ho i []=[]:=rfl
@[go_sem] theorem hidO_cons {ho:List Nat} {i:Nat} {x:OV} {l:List OV}:hidO ho i (x::l)=(if hasN i ho=true then⟨x.ver,.none⟩else x)::hidO ho (i+1) l:=rfl
@[go_sem] theorem lo_mk {ks ho:List Nat}:St.lo ⟨s,n,o⟩ (ks,ho)=⟨sel s ks,n,hidO ho 0 o⟩:=by
 unfold St.lo
 rw[only_mk,K75]
def allW:List (Nat×OV)→List Nat→Bool
 | [],_=>true
 |x::l,ws=>if hasN x.1 ws=true then allW l ws else false
def nbW(b:Bool)(d:Option (Nat×SV))(l:List (Nat×OV)):Prop:=match b with
 |false=>True
 |true=>Ef.noB ⟨d,l⟩=true
@[go_sem] theorem inW_mk {m:MOp} {d:Option (Nat×SV)} {l:List (Nat×OV)}:(inW m ⟨d,l⟩=true)=(d.map (·.1)=K1v m.o∧allW l m.ws=true∧nbW (nbH m.hs) d l):=by
 have h:∀l:List (Nat×OV),(l.all fun x=>m.ws.contains x.1)=allW l m.ws:=by
  intro l
  induction l with
  |nil=>rfl
  |cons x l ih=>
   rw[List.all_cons,allW,ih,K46]
   cases hasN x.1 m.ws<;>simp
 unfold inW nbW
 cases nbH m.hs<;>simp only[h,Bool.and_eq_true,beq_iff_eq,Bool.not_true,Bool.not_false,Bool.true_or,Bool.false_or,and_true]
@[go_sem] theorem nbH_nil:nbH []=false:=rfl
@[go_sem] theorem nbH_cons {k:Nat} {l:List Nat}:nbH (k::l)=if k=1000000 then true else false:=by
 show(k==1000000)=_
 rw[Bool.eq_iff_iff];simp
@[go_sem] theorem nbW_no {d:Option (Nat×SV)} {l:List (Nat×OV)}:nbW false d l=True:=rfl
@[go_sem] theorem nbW_ite {p:Prop} [Decidable p] {d:Option (Nat×SV)} {l:List (Nat×OV)}:nbW (if p then true else false) d l=(p→nbW true d l):=by
 split<;>simp_all[nbW]
@[go_sem] theorem nbW_some {k:Nat} {v:SV} {l:List (Nat×OV)}:nbW true (some (k,v)) l=(v.noB=true∧oNoB (l.map (·.2))=true):=by
 simp only[nbW,Ef.noB,Bool.and_eq_true,eq_iff_iff]
 refine and_congr Iff.rfl ?_
 induction l with
 |nil=>simp[oNoB]
 |cons x l ih=>simp only[List.all_cons,Bool.and_eq_true,List.map_cons,oNoB,ih]
@[go_sem] theorem nbW_none {l:List (Nat×OV)}:nbW true none l=(oNoB (l.map (·.2))=true):=by
 simp only[nbW,Ef.noB,Bool.true_and,eq_iff_iff]
 induction l with
 |nil=>simp[oNoB]
 |cons x l ih=>simp only[List.all_cons,Bool.and_eq_true,List.map_cons,oNoB,ih]
@[go_sem] theorem allW_nil {ws:List Nat}:allW [] ws=true:=rfl
@[go_sem] theorem allW_cons {k:Nat} {x:OV} {l:List (Nat×OV)} {ws:List Nat}:allW ((k,x)::l) ws=if hasN k ws=true then allW l ws else false:=rfl
def rpl(k:Nat)(v:SV):List (Nat×SV)→List (Nat×SV)
 | []=>[]
 |x::l=>if k=x.1 then(x.1,v)::l else x::rpl k v l
theorem K80{k:Nat}{v:SV}:∀ {l:List (Nat×SV)},lk k l=v→rpl k v l=l
 | [],_=>rfl
 |x::l,h=>by
  unfold lk at h
  unfold rpl
  split at h
  ·rename_i hk;rw[if_pos hk,←h]
  ·rename_i hk;rw[if_neg hk,K80 h]
@[go_sem] theorem rpl_nil {k v}:rpl k v []=[]:=rfl
@[go_sem] theorem rpl_cons {k v j u l}:rpl k v ((j,u)::l)=if k=j then(j,v)::l else(j,u)::rpl k v l:=rfl
def gbool:SV→Option (Option Bool)
 |.skp=>some none
 |.val false [.pl (.sc (.bool b))]=>some (some b)
 |_=>none
@[go_sem] theorem gbool_skp:gbool .skp=some none:=rfl
@[go_sem] theorem gbool_val {b}:gbool (.val false [.pl (.sc (.bool b))])=some (some b):=rfl
theorem K3z{v:SV}{b:Bool}(h:gbool v=some (some b)):v= .val false [.pl (.sc (.bool b))]:=by
 unfold gbool at h
 split at h<;>simp_all
theorem K8d{v:SV}(h:gbool v=some none):v= .skp:=by
 unfold gbool at h
 split at h<;>simp_all
def gR1(P:Program)(w:Bool)(o:MO)(hs ho ws bf:List Nat)(ms:List MOp)(K:St→Prop)(t:Bool)(σ:St):Prop:=if (t==w)=true then bkS P ⟨none,o,hs,ho,ws,bf⟩ σ (kR P ms σ K)else wpR P ms (σ.app (skipE o)) K
def gR(P:Program)(s:Nat)(w:Bool)(o:MO)(hs ho ws bf:List Nat)(ms:List MOp)(σ:St)(K:St→Prop):Option Bool→Prop
 |none=>wpR P ms (σ.app (skipE o)) K
 |some b=>(b=true→gR1 P w o hs ho ws bf ms K true ⟨rpl s (.val false [.pl (.sc (.bool true))]) σ.s,σ.n,σ.o⟩)∧(b=false→gR1 P w o hs ho ws bf ms K false ⟨rpl s (.val false [.pl (.sc (.bool false))]) σ.s,σ.n,σ.o⟩)
@[go_sem] theorem wpR_guard {P:Program} {s:Nat} {w:Bool} {o:MO} {hs ws bf:List Nat} {ms:List MOp} {K:St→Prop}:wpR P (⟨some (s,w),o,hs,[],ws,bf⟩::ms) σ K=bk (gbool (σ.get s)) (gR P s w o hs [] ws bf ms σ K):=by
 rw[wpR_cons']
 simp only[St.fgt]
 unfold bkS bk
 simp only[stepP,wantedM]
 have e2:∀b,σ.get s= .val false [.pl (.sc (.bool b))]→(⟨rpl s (.val false [.pl (.sc (.bool b))]) σ.s,σ.n,σ.o⟩:St)=σ:=by
  intro b h
  rw[K80 h]
 cases hg:gbool (σ.get s)with
 |none=>
  unfold gbool at hg
  split at hg<;>simp_all
 |some c=>
  cases c with
  |none=>
   rw[K8d hg]
   simp[gR,kR]
  |some b=>
   rw[K3z hg]
   have e:=e2 b (K3z hg)
   cases b<;>cases w<;>simp[gR,gR1,e,kR,bkS,stepP,wantedM]
@[go_sem] theorem gR_split {P:Program} {s:Nat} {w:Bool} {o:MO} {hs ho ws bf:List Nat} {ms:List MOp} {K:St→Prop} {b:Bool}:gR P s w o hs ho ws bf ms σ K (some b)=if b=true then gR1 P w o hs ho ws bf ms K true ⟨rpl s (.val false [.pl (.sc (.bool true))]) σ.s,σ.n,σ.o⟩else gR1 P w o hs ho ws bf ms K false ⟨rpl s (.val false [.pl (.sc (.bool false))]) σ.s,σ.n,σ.o⟩:=by cases b<;>simp[gR]
@[go_sem] theorem gR_none {P:Program} {s:Nat} {w:Bool} {o:MO} {hs ho ws bf:List Nat} {ms:List MOp} {K:St→Prop}:gR P s w o hs ho ws bf ms σ K none=wpR P ms (σ.app (skipE o)) K:=rfl
@[go_sem] theorem gR1_tt {P:Program} {o:MO} {hs ho ws bf:List Nat} {ms:List MOp} {K:St→Prop}:gR1 P true o hs ho ws bf ms K true σ=bkS P ⟨none,o,hs,ho,ws,bf⟩ σ (kR P ms σ K):=rfl
@[go_sem] theorem gR1_ff {P:Program} {o:MO} {hs ho ws bf:List Nat} {ms:List MOp} {K:St→Prop}:gR1 P false o hs ho ws bf ms K false σ=bkS P ⟨none,o,hs,ho,ws,bf⟩ σ (kR P ms σ K):=rfl
@[go_sem] theorem gR1_tf {P:Program} {o:MO} {hs ho ws bf:List Nat} {ms:List MOp} {K:St→Prop}:gR1 P true o hs ho ws bf ms K false σ=wpR P ms (σ.app (skipE o)) K:=rfl
@[go_sem] theorem gR1_ft {P:Program} {o:MO} {hs ho ws bf:List Nat} {ms:List MOp} {K:St→Prop}:gR1 P false o hs ho ws bf ms K true σ=wpR P ms (σ.app (skipE o)) K:=rfl
def gD1(P:Program)(w:Bool)(m:MOp)(ms:List MOp)(K:St→Prop)(t:Bool)(σ:St):Prop:=if (t==w)=true then bkS P ⟨none,m.o,m.hs,m.ho,m.ws,m.bf⟩ (σ.hide m.hs m.ho) (kD P m ms σ K)else(inW m (skipE m.o)=true∧wpD P ms (σ.app (skipE m.o)) K)
def gD(P:Program)(s:Nat)(w:Bool)(m:MOp)(ms:List MOp)(σ:St)(K:St→Prop):Option Bool→Prop
 |none=>inW m (skipE m.o)=true∧wpD P ms (σ.app (skipE m.o)) K
 |some b=>(b=true→gD1 P w m ms K true ⟨rpl s (.val false [.pl (.sc (.bool true))]) σ.s,σ.n,σ.o⟩)∧(b=false→gD1 P w m ms K false ⟨rpl s (.val false [.pl (.sc (.bool false))]) σ.s,σ.n,σ.o⟩)
@[go_sem] theorem wpD_guard {P:Program} {s:Nat} {w:Bool} {o:MO} {hs ho ws bf:List Nat} {ms:List MOp} {K:St→Prop}:wpD P (⟨some (s,w),o,hs,ho,ws,bf⟩::ms) σ K=bk (gbool ((σ.hide hs ho).get s)) (gD P s w ⟨some (s,w),o,hs,ho,ws,bf⟩ ms σ K):=by
 rw[wpD_cons']
 unfold bkS bk
 simp only[stepP,wantedM]
 have e2:∀b,(σ.hide hs ho).get s= .val false [.pl (.sc (.bool b))]→(⟨rpl s (.val false [.pl (.sc (.bool b))]) σ.s,σ.n,σ.o⟩:St)=σ:=by
  intro b h
  rw[Kaj]at h
  split at h
  ·simp at h
  ·rw[K80 h]
 cases hg:gbool ((σ.hide hs ho).get s)with
 |none=>
  unfold gbool at hg
  split at hg<;>simp_all
 |some c=>
  cases c with
  |none=>
   rw[K8d hg]
   simp[gD,kD]
  |some b=>
   rw[K3z hg]
   have e:=e2 b (K3z hg)
   cases b<;>cases w<;>simp[gD,gD1,e,kD,bkS,stepP,wantedM]
section
variable {s:Nat} {m:MOp} {ms:List MOp} {K:St→Prop}
@[go_sem] theorem gD_split {w b:Bool}:gD P s w m ms σ K (some b)=if b=true then gD1 P w m ms K true ⟨rpl s (.val false [.pl (.sc (.bool true))]) σ.s,σ.n,σ.o⟩else gD1 P w m ms K false ⟨rpl s (.val false [.pl (.sc (.bool false))]) σ.s,σ.n,σ.o⟩:=by cases b<;>simp[gD]
@[go_sem] theorem gD_none {w:Bool}:gD P s w m ms σ K none=(inW m (skipE m.o)=true∧wpD P ms (σ.app (skipE m.o)) K):=rfl
@[go_sem] theorem gD1_tt:gD1 P true m ms K true σ=bkS P ⟨none,m.o,m.hs,m.ho,m.ws,m.bf⟩ (σ.hide m.hs m.ho) (kD P m ms σ K):=rfl
@[go_sem] theorem gD1_ff:gD1 P false m ms K false σ=bkS P ⟨none,m.o,m.hs,m.ho,m.ws,m.bf⟩ (σ.hide m.hs m.ho) (kD P m ms σ K):=rfl
@[go_sem] theorem gD1_tf:gD1 P true m ms K false σ=(inW m (skipE m.o)=true∧wpD P ms (σ.app (skipE m.o)) K):=rfl
@[go_sem] theorem gD1_ft:gD1 P false m ms K true σ=(inW m (skipE m.o)=true∧wpD P ms (σ.app (skipE m.o)) K):=rfl
end
@[go_sem] theorem outs_eq {res:List (MR×List Bool)} {rs:List RV}:(outs σ res=some rs)=bk (outR σ res) fun x=>neuO x.2.1=true∧distinct (owns x.2.1)=true∧(owns x.2.1=[]∨x.2.2= .e)∧x.1=rs:=by
 unfold outs bk
 simp only[Option.bind_eq_some_iff,Option.ite_none_right_eq_some,Option.some.injEq,eq_iff_iff]
 constructor
 ·rintro ⟨a,h1,⟨h2,h3,h4⟩,h5⟩;exact⟨a,h1,h2,h3,h4,h5⟩
 ·rintro ⟨a,h1,h2,h3,h4,h5⟩;exact⟨a,h1,⟨h2,h3,h4⟩,h5⟩
@[go_sem] theorem outR_nil:outR σ []=some ([],[],.e):=rfl
@[go_sem] theorem outR_cons {r:MR} {fl:List Bool} {l:List (MR×List Bool)}:outR σ ((r,fl)::l)=(σ.resv r).bind fun v=>(outC σ fl v.2).bind fun x=>(outR σ l).map fun y=>(⟨v.1,x.1⟩::y.1,x.2.1++y.2.1,x.2.2.join y.2.2):=rfl
@[go_sem] theorem outC_nil:outC σ [] []=some ([],[],.e):=rfl
@[go_sem] theorem outC_true {fl:List Bool} {c:SC} {cs:List SC}:outC σ (true::fl) (c::cs)=(σ.embR c).bind fun x=>(outC σ fl cs).map fun y=>((true,x.1)::y.1,x.2::y.2.1,y.2.2):=rfl
@[go_sem] theorem outC_false {fl:List Bool} {c:SC} {cs:List SC}:outC σ (false::fl) (c::cs)=(σ.con1 c).bind fun t=>(outC σ fl cs).map fun y=>((false,t)::y.1,y.2.1,(c.md σ).join y.2.2):=rfl
@[go_sem] theorem resv_tmp {t:Nat}:σ.resv (.tmp t)=(σ.get t).all:=rfl
@[go_sem] theorem resv_cell {a k:Nat} {agg:Bool}:σ.resv (.cell a agg k)=(σ.adr (.s a)).bind fun ad=>(σ.load k ad).bind fun cs=>if agg=true∨k=1 then some (agg,cs)else none:=rfl
@[go_sem] theorem con1_pl {t:T}:σ.con1 (.pl t)=some t:=rfl
@[go_sem] theorem con1_bor {t:T}:σ.con1 (.bor t)=some t:=rfl
@[go_sem] theorem con1_emp {sz:Nat}:σ.con1 (.emp sz)=some (.sl sz []):=rfl
@[go_sem] theorem con1_ref {ver sz lo k:Nat}:σ.con1 (.ref id ver sz lo k)=(σ.rows (.ref id ver sz lo k)).map fun x=> .sl x.1 x.2:=rfl
@[go_sem] theorem con1_clo {g:FuncId}:σ.con1 (.clo g [])=some (.fn g []):=rfl
@[go_sem] theorem con_pl {t:T}:σ.con (.pl t)=some t:=rfl
@[go_sem] theorem con_bor {t:T}:σ.con (.bor t)=some t:=rfl
@[go_sem] theorem con_emp {sz:Nat}:σ.con (.emp sz)=some (.sl sz []):=rfl
@[go_sem] theorem con_ref {ver sz lo k:Nat}:σ.con (.ref id ver sz lo k)=(σ.rows (.ref id ver sz lo k)).map fun x=> .sl x.1 x.2:=rfl
@[go_sem] theorem con_clo {g:FuncId} {bs:List (Nat×Nat)}:σ.con (.clo g bs)=(K1 (bs.map fun b=>σ.boxed b.1 b.2)).map (.fn g):=rfl
@[go_sem] theorem boxed_eq {v:Nat}:σ.boxed id v=match σ.ob id with
 |⟨w,.box cs⟩=>if w=v then(K1 (cs.map σ.con1)).map .pb else none
 |_=>none:=rfl
@[go_sem] theorem embR_pl {t:T}:σ.embR (.pl t)=σ.emb (.pl t):=rfl
@[go_sem] theorem embR_bor {t:T}:σ.embR (.bor t)=σ.emb (.bor t):=rfl
@[go_sem] theorem embR_emp {sz:Nat}:σ.embR (.emp sz)=σ.emb (.emp sz):=rfl
@[go_sem] theorem embR_ref0 {ver sz k:Nat}:σ.embR (.ref id ver sz 0 k)=σ.emb (.ref id ver sz 0 k):=rfl
@[go_sem] theorem embR_refS {ver sz lo k:Nat}:σ.embR (.ref id ver sz (lo+1) k)=match σ.ob id with
  |⟨v,.row true sz' es⟩=>if v=ver∧sz=sz'∧lo+1+k≤es.length then some (.sl sz (cut (lo+1) k es),.own id)else none
  |_=>none:=rfl
@[go_sem] theorem emb_sc {v:Value}:σ.emb (.pl (.sc v))=some (.sc v,.neu):=rfl
@[go_sem] theorem emb_bsc {v:Value}:σ.emb (.bor (.sc v))=some (.sc v,.neu):=rfl
@[go_sem] theorem emb_emp {sz:Nat}:σ.emb (.emp sz)=some (.sl sz [],.neu):=rfl
@[go_sem] theorem emb_ref {ver sz lo k:Nat}:σ.emb (.ref id ver sz lo k)=match σ.ob id with
  |⟨v,.row true sz' es⟩=>if v=ver∧sz=sz'∧lo=0∧k=es.length then some (.sl sz es,.own id)else none
  |_=>none:=rfl
@[go_sem] theorem emb_sl {sz:Nat} {es:List (List T)}:σ.emb (.pl (.sl sz es))=some (.sl sz es,.shr):=rfl
@[go_sem] theorem emb_bsl {sz:Nat} {es:List (List T)}:σ.emb (.bor (.sl sz es))=some (.sl sz es,.shr):=rfl
@[go_sem] theorem embs_eq {cs:List SC}:σ.embs cs=(K1 (cs.map σ.emb)).map fun l=>(l.map (·.1),l.map (·.2)):=by
 unfold St.embs
 congr 1
 funext l
 congr 1
 induction l with
 |nil=>rfl
 |cons x l ih=>simp[List.flatMap_cons,ih]
@[go_sem] theorem md_pl {t:T}:(SC.pl t).md σ= .e:=rfl
@[go_sem] theorem md_bsc {v:Value}:(SC.bor (.sc v)).md σ= .e:=rfl
@[go_sem] theorem md_bsl {sz:Nat} {es:List (List T)}:(SC.bor (.sl sz es)).md σ= .b:=rfl
@[go_sem] theorem md_emp {sz:Nat}:(SC.emp sz).md σ= .e:=rfl
@[go_sem] theorem md_ref {ver sz lo k:Nat}:(SC.ref id ver sz lo k).md σ=match (σ.ob id).oc with
  |.lent ..=> .b
  |_=> .a:=rfl
@[go_sem] theorem md_clo0 {f:FuncId}:(SC.clo f []).md σ= .e:=rfl
@[go_sem] theorem md_clo {f:FuncId} {b:Nat×Nat} {bs:List (Nat×Nat)}:(SC.clo f (b::bs)).md σ= .a:=rfl
@[go_sem] theorem mdAll_nil:mdAll σ []= .e:=rfl
@[go_sem] theorem mdAll_cons {c:SC} {cs:List SC}:mdAll σ (c::cs)=(c.md σ).join (mdAll σ cs):=rfl
@[go_sem] theorem svmd_val {a:Bool} {cs:List SC}:(SV.val a cs).md σ=mdAll σ cs:=rfl
@[go_sem] theorem svmd_pb {ts:List T} {k:Nat}:(SV.adr (.pb ts k)).md σ= .e:=rfl
@[go_sem] theorem svmd_bx {v k:Nat}:(SV.adr (.bx id v k)).md σ= .a:=rfl
@[go_sem] theorem mode_nil:σ.mode []= .e:=rfl
@[go_sem] theorem mode_cons {x:Od} {xs:List Od}:σ.mode (x::xs)=((σ.ev x).md σ).join (σ.mode xs):=rfl
@[go_sem] theorem join_e {m:Md}:Md.join .e m=m:=by cases m<;>rfl
@[go_sem] theorem join_e' {m:Md}:Md.join m .e=m:=by cases m<;>rfl
@[go_sem] theorem join_a {m:Md}:Md.join .a m= .a:=by cases m<;>rfl
@[go_sem] theorem join_a' {m:Md}:Md.join m .a= .a:=by cases m<;>rfl
@[go_sem] theorem join_bb:Md.join .b .b= .b:=rfl
@[go_sem] theorem args_nil:σ.args []=some []:=rfl
@[go_sem] theorem bk_args {x:Od} {xs:List Od} {K}:bk (σ.args (x::xs)) K=bk ((σ.ev x).arg σ) fun a=>bk (σ.args xs) fun l=>K (a::l):=by
 unfold St.args;simp only[List.map_cons,K5c]
def conL(σ:St)(cs:List SC):Option (List T):=K1 (cs.map σ.con)
@[go_sem] theorem conL_nil {K}:bk (conL σ []) K=K []:=K32 _
@[go_sem] theorem conL_cons {c:SC} {cs:List SC} {K}:bk (conL σ (c::cs)) K=bk (σ.con c) fun t=>bk (conL σ cs) fun l=>K (t::l):=by
 unfold conL;simp only[List.map_cons,K5c]
@[go_sem] theorem arg_val {a:Bool} {cs:List SC}:SV.arg σ (.val a cs)=(conL σ cs).map fun ts=>(a,ts):=rfl
@[go_sem] theorem arg_bx {v:Nat}:SV.arg σ (.adr (.bx id v 0))=(σ.boxed id v).map fun t=>(false,[t]):=rfl
@[go_sem] theorem arg_pb {ts:List T}:SV.arg σ (.adr (.pb ts 0))=some (false,[.pb ts]):=rfl
@[go_sem] theorem callee_f {f:FuncId}:σ.callee (.f f)=some (f,[]):=rfl
@[go_sem] theorem callee_s {k:Nat}:σ.callee (.s k)=match (σ.get k).one with
 |some (.clo g bs)=>(K1 (bs.map fun b=>σ.boxed b.1 b.2)).map fun l=>(g,l.map fun t=>(false,[t]))
 |some (.pl (.fn g cs))=>some (g,cs.map fun t=>(false,[t]))
 |some (.bor (.fn g cs))=>some (g,cs.map fun t=>(false,[t]))
 |_=>none:=rfl
@[go_sem] theorem resEf_eq {m:Md} {d:Nat} {ids:List Nat} {rs:List RV}:K66 σ m d ids rs=if distinct ids=true then(K15 σ m ids rs).map fun x=>⟨some (d,K1f x.1),x.2.1⟩else none:=by
 unfold K66;simp
@[go_sem] theorem distinct_nil:distinct []=true:=rfl
@[go_sem] theorem distinct_cons {k:Nat} {l:List Nat}:distinct (k::l)=if hasN k l=true then false else distinct l:=by
 rw[distinct,K46];cases hasN k l<;>simp
@[go_sem] theorem placeAll_nil {m:Md} {ids:List Nat}:K15 σ m ids []=some ([],[],ids):=rfl
@[go_sem] theorem placeAll_cons {m:Md} {ids:List Nat} {a:Bool} {cs:List (Bool×T)} {rs:List RV}:K15 σ m ids (⟨a,cs⟩::rs)=(place σ m ids cs).bind fun x=>(K15 σ m x.2.2 rs).map fun y=>((a,x.1)::y.1,x.2.1++y.2.1,y.2.2):=rfl
@[go_sem] theorem place_nil {m:Md} {ids:List Nat}:place σ m ids []=some ([],[],ids):=by cases ids<;>rfl
@[go_sem] theorem place_false {m:Md} {ids:List Nat} {t:T} {l:List (Bool×T)}:place σ m ids ((false,t)::l)=(extC m t).bind fun c=>(place σ m ids l).map fun x=>(c::x.1,x.2.1,x.2.2):=by cases ids<;>rfl
@[go_sem] theorem place_true {m:Md} {ids:List Nat} {k sz:Nat} {es:List (List T)} {l:List (Bool×T)}:place σ m (k::ids) ((true,.sl sz es)::l)=if k<σ.o.length then
   (place σ m ids l).map fun x=>(.ref k (σ.nw k) sz 0 es.length::x.1,(k,⟨σ.nw k,.row true sz es⟩)::x.2.1,x.2.2)else none:=rfl
@[go_sem] theorem extC_sc {m:Md} {v:Value}:extC m (.sc v)=some (.pl (.sc v)):=rfl
@[go_sem] theorem extC_sle {sz:Nat} {es:List (List T)}:extC .e (.sl sz es)=some (.pl (.sl sz es)):=rfl
@[go_sem] theorem extC_slb {sz:Nat} {es:List (List T)}:extC .b (.sl sz es)=some (.bor (.sl sz es)):=rfl
@[go_sem] theorem tupOf_one {v:Bool×List SC}:K1f [v]= .val v.1 v.2:=rfl
@[go_sem] theorem tupOf_nil:K1f []= .tup []:=rfl
@[go_sem] theorem tupOf_two {v u:Bool×List SC} {l:List (Bool×List SC)}:K1f (v::u::l)= .tup (v::u::l):=rfl
@[go_sem] theorem nw_mk:St.nw ⟨s,n,o⟩ id=(o.getD id ⟨0,.none⟩).ver+2:=rfl
@[go_sem] theorem neuO_nil:neuO []=true:=rfl
@[go_sem] theorem neuO_neu {l:List Kd}:neuO (.neu::l)=neuO l:=by simp[neuO]
@[go_sem] theorem neuO_own {l:List Kd} {k:Nat}:neuO (.own k::l)=neuO l:=by simp[neuO]
@[go_sem] theorem neuO_shr {l:List Kd}:neuO (.shr::l)=false:=by simp[neuO]
@[go_sem] theorem neuS_nil:neuS []=true:=rfl
@[go_sem] theorem neuS_neu {l:List Kd}:neuS (.neu::l)=neuS l:=by simp[neuS]
@[go_sem] theorem neuS_own {l:List Kd} {k:Nat}:neuS (.own k::l)=false:=by simp[neuS]
@[go_sem] theorem neuS_shr {l:List Kd}:neuS (.shr::l)=neuS l:=by simp[neuS]
@[go_sem] theorem owns_nil:owns []=[]:=rfl
@[go_sem] theorem owns_neu {l:List Kd}:owns (.neu::l)=owns l:=rfl
@[go_sem] theorem owns_own {l:List Kd} {k:Nat}:owns (.own k::l)=k::owns l:=rfl
@[go_sem] theorem owns_shr {l:List Kd}:owns (.shr::l)=owns l:=rfl
@[go_sem] theorem lend_nil:σ.lend []=[]:=rfl
@[go_sem] theorem lend_cons {k:Nat} {l:List Nat}:σ.lend (k::l)=(k,match σ.ob k with
 |⟨v,.row _ sz es⟩=>⟨v,.lent sz es⟩
 |o=>o)::σ.lend l:=rfl
@[go_sem] theorem drop_none:σ.drop none=[]:=rfl
@[go_sem] theorem drop_some {k:Nat}:σ.drop (some k)=[(k,⟨(σ.ob k).ver,.none⟩)]:=rfl
@[go_sem] theorem skip_mv {d x}:skipE (.mv d x)=⟨some (d,.skp),[]⟩:=rfl
@[go_sem] theorem skip_st {n a x}:skipE (.store n a x)=⟨none,[]⟩:=rfl
@[go_sem] theorem skip_bin {b c e f d}:skipE (.bin d b c e f)=⟨some (d,.skp),[]⟩:=rfl
@[go_sem] theorem skip_eqA {b c e f d}:skipE (.eqA d b c e f)=⟨some (d,.skp),[]⟩:=rfl
@[go_sem] theorem skip_un {b c d}:skipE (.un d b c)=⟨some (d,.skp),[]⟩:=rfl
@[go_sem] theorem skip_mm {b c e d}:skipE (.mm d b c e)=⟨some (d,.skp),[]⟩:=rfl
@[go_sem] theorem skip_pick {b c e d}:skipE (.pick d b c e)=⟨some (d,.skp),[]⟩:=rfl
@[go_sem] theorem skip_len {b c d}:skipE (.len d b c)=⟨some (d,.skp),[]⟩:=rfl
@[go_sem] theorem skip_alloc {b c d}:skipE (.alloc d b c)=⟨some (d,.skp),[]⟩:=rfl
@[go_sem] theorem skip_box {b c d}:skipE (.box d b c)=⟨some (d,.skp),[]⟩:=rfl
@[go_sem] theorem skip_build {b c d}:skipE (.build d b c)=⟨some (d,.skp),[]⟩:=rfl
@[go_sem] theorem skip_litP {b c e d}:skipE (.litP d b c e)=⟨some (d,.skp),[]⟩:=rfl
@[go_sem] theorem skip_lit {b c e f d}:skipE (.lit d b c e f)=⟨some (d,.skp),[]⟩:=rfl
@[go_sem] theorem skip_load {b c e d}:skipE (.load d b c e)=⟨some (d,.skp),[]⟩:=rfl
@[go_sem] theorem skip_fld {b c d}:skipE (.fld d b c)=⟨some (d,.skp),[]⟩:=rfl
@[go_sem] theorem skip_idx {b c e d}:skipE (.idx d b c e)=⟨some (d,.skp),[]⟩:=rfl
@[go_sem] theorem skip_idxA {b c e f d}:skipE (.idxA d b c e f)=⟨some (d,.skp),[]⟩:=rfl
@[go_sem] theorem skip_fldv {b c e f d}:skipE (.fldv d b c e f)=⟨some (d,.skp),[]⟩:=rfl
@[go_sem] theorem skip_idxs {b c d}:skipE (.idxs d b c)=⟨some (d,.skp),[]⟩:=rfl
@[go_sem] theorem skip_mk {b c e f g d}:skipE (.mk d b c e f g)=⟨some (d,.skp),[]⟩:=rfl
@[go_sem] theorem skip_app {b c e f g d}:skipE (.app d b c e f g)=⟨some (d,.skp),[]⟩:=rfl
@[go_sem] theorem skip_slc {b c e f g d}:skipE (.slc d b c e f g)=⟨some (d,.skp),[]⟩:=rfl
@[go_sem] theorem skip_slcs {b c e d}:skipE (.slcs d b c e)=⟨some (d,.skp),[]⟩:=rfl
@[go_sem] theorem skip_ext {b c d}:skipE (.ext d b c)=⟨some (d,.skp),[]⟩:=rfl
@[go_sem] theorem skip_clos {b c d}:skipE (.clos d b c)=⟨some (d,.skp),[]⟩:=rfl
@[go_sem] theorem skip_closF {b c d}:skipE (.closF d b c)=⟨some (d,.skp),[]⟩:=rfl
@[go_sem] theorem skip_nilo {b c d}:skipE (.nilo d b c)=⟨some (d,.skp),[]⟩:=rfl
@[go_sem] theorem skip_nilc {b d}:skipE (.nilc d b)=⟨some (d,.skp),[]⟩:=rfl
@[go_sem] theorem skip_sliA {b c d}:skipE (.sliA d b c)=⟨some (d,.skp),[]⟩:=rfl
@[go_sem] theorem skip_nilp {b c d}:skipE (.nilp d b c)=⟨some (d,.skp),[]⟩:=rfl
@[go_sem] theorem skip_appA {b c d e f}:skipE (.appA d b c e f)=⟨some (d,.skp),[]⟩:=rfl
@[go_sem] theorem skip_callN {b c e d}:skipE (.callN d b c e)=⟨some (d,.skp),[]⟩:=rfl
@[go_sem] theorem skip_callP {b c d e}:skipE (.callP d b c e)=⟨some (d,.skp),[]⟩:=rfl
@[go_sem] theorem skip_convS {b d}:skipE (.convS d b)=⟨some (d,.skp),[]⟩:=rfl
@[go_sem] theorem skip_convI {b c d}:skipE (.convI d b c)=⟨some (d,.skp),[]⟩:=rfl
@[go_sem] theorem skip_callB {b c e f d}:skipE (.callB d b c e f)=⟨some (d,.skp),[]⟩:=rfl
@[go_sem] theorem skip_callI {b c e f g d}:skipE (.callI d b c e f g)=⟨some (d,.skp),[]⟩:=rfl
@[go_sem] theorem skip_buildO {b c e d}:skipE (.buildO d b c e)=⟨some (d,.skp),[]⟩:=rfl
@[go_sem] theorem skip_loadM {b c d e f}:skipE (.loadM d b c e f)=⟨some (d,.skp),[]⟩:=rfl
@[go_sem] theorem skip_loadT {b c d}:skipE (.loadT d b c)=⟨some (d,.skp),[]⟩:=rfl
@[go_sem] theorem skip_call {b c e d}:skipE (.call d b c e)=⟨some (d,.skp),[]⟩:=rfl
end
theorem len_cons'{α:Type}{a:α}{l:List α}:(a::l).length=l.length+1:=by rw[List.length_cons]
theorem len_nil'{α:Type}:([]:List α).length=0:=by rw[List.length_nil]
def flatE:List T→Bool
 | []=>true
 |.sc _::l=>flatE l
 |_::_=>false
theorem K7q:∀e:List T,(e.all fun| .sc _=>true|_=>false)=flatE e
 | []=>rfl
 |.sc _::l=>by rw[List.all_cons,flatE,K7q l];rfl
 |.sl ..::l=>rfl
 |.pb ..::l=>rfl
 |.fn ..::l=>rfl
@[go_sem] theorem flat_n0:flat []=true:=rfl
@[go_sem] theorem flat_c0 {e:List T} {es:List (List T)}:flat (e::es)=(flatE e&&flat es):=by
 exact congrArg (fun b=>b&&flat es) (K7q e)
attribute [go_sem] flatE Bool.true_and Bool.false_and Bool.and_false
theorem K17{α:Type}{f:α→List T}(h:∀x,flatE (f x)=true)(l:List α):flat (l.map f)=true:=by
 unfold flat
 rw[List.all_eq_true]
 intro e he
 obtain⟨x,_,rfl⟩:=List.mem_map.1 he
 exact(K7q (f x)).trans (h x)
attribute [go_sem] K1v wantedM St.fill splice St.appTo St.whole unV cut
 List.map_cons List.map_nil List.getD_nil List.drop_succ_cons List.drop_zero List.take_succ_cons List.take_zero len_cons' len_nil' List.length_map
 List.cons_append List.nil_append List.append_nil List.getElem?_cons_zero List.getElem?_cons_succ Option.map_some Option.map_none Option.bind_some Option.bind_none
 Int.toNat_natCast Int.toNat_zero
theorem ctr_at{P:Program}{f:FuncId}{fn:Func}{c:Code}{args:List (Bool×List T)}{rs:List RV}{M:MC}{m n:Nat}{res:List (MR×List Bool)}(hmix:P.follows .mixedOrders=true)(hf:P.funcs[f]? =some fn)(hb:fn.body=some c)
  (hname : (fn.name == "runtime.NumGoroutine") = false) (hnt : fn.ntmps = n) (hc : chkC P c M = true) (hres : K1b P fn.results.toList (res.map (·.1)) = true) (hn : args.length ≤ n)
  (h:bdA args→wpC P M (kF res rs) (startS args n m)):Ctr P f args rs:=by
 subst hnt
 exact ctr_of hmix hf hb hname hc hres hn h
attribute [go_sem] startS argS
attribute [go_sem] Nat.zero_add true_implies false_implies implies_true not_true_eq_false not_false_eq_true Bool.not_eq_true Bool.not_eq_false List.nodup_nil List.nodup_cons List.mem_cons List.not_mem_nil List.all_cons List.all_nil Bool.and_true Nat.le_refl true_and and_true false_or or_false or_true true_or
 decide_eq_true_eq decide_eq_false_iff_not bne_iff_ne bne_eq_false_iff_eq beq_iff_eq beq_eq_false_iff_ne ne_eq Bool.not_eq_true' Bool.not_eq_false' Decidable.not_not
 St.mk.injEq List.cons.injEq Prod.mk.injEq SV.val.injEq SC.pl.injEq SC.bor.injEq SC.ref.injEq T.sc.injEq T.sl.injEq Value.int.injEq Value.bool.injEq Value.string.injEq RV.mk.injEq OV.mk.injEq OC.row.injEq OC.box.injEq OC.lent.injEq Option.some.injEq
abbrev tI(n:Int):T:= .sc (.int .i64 n)
abbrev tB(b:Bool):T:= .sc (.bool b)
abbrev tS(s:ByteArray):T:= .sc (.string s)
abbrev vI(n:Int):SV:= .val false [.pl (.sc (.int .i64 n))]
abbrev vB(b:Bool):SV:= .val false [.pl (.sc (.bool b))]
abbrev vL(sz:Nat)(es:List (List T)):SV:= .val false [.pl (.sl sz es)]
abbrev aI(n:Int):Bool×List T:=(false,[.sc (.int .i64 n)])
abbrev aB(b:Bool):Bool×List T:=(false,[.sc (.bool b)])
abbrev aL(sz:Nat)(es:List (List T)):Bool×List T:=(false,[.sl sz es])
abbrev rI(n:Int):RV:=⟨false,[(false,.sc (.int .i64 n))]⟩
abbrev rB(b:Bool):RV:=⟨false,[(false,.sc (.bool b))]⟩
def pr(l:List MO)(keep:List Nat):MC:= .reg (l.map fun o=>⟨none,o,[],[],[],[]⟩) keep
attribute [go_sem] pr
attribute [go_sem] tI tB tS vI vB vL aI aB aL rI rB
def St.up(σ:St)(l:List (Nat×SV))(o:List (Nat×OV)):St:=⟨l.foldl (fun s x=>insS x.1 x.2 s) σ.s,σ.n,putO o σ.o⟩
def upS:List (Nat×SV)→List (Nat×SV)→List (Nat×SV)
 | [],s=>s
 |x::l,s=>upS l (insS x.1 x.2 s)
@[go_sem] theorem up_mk (s:List (Nat×SV)) (n:Nat) (o:List OV) (l:List (Nat×SV)) (q:List (Nat×OV)):St.up ⟨s,n,o⟩ l q=⟨upS l s,n,putO q o⟩:=by
 have h:∀(l s:List (Nat×SV)),l.foldl (fun s x=>insS x.1 x.2 s) s=upS l s:=by
  intro l
  induction l with
  |nil=>intro s;rfl
  |cons x l ih=>intro s;exact ih _
 unfold St.up
 rw[h]
@[go_sem] theorem upS_nil (s:List (Nat×SV)):upS [] s=s:=rfl
@[go_sem] theorem upS_cons (k:Nat) (v:SV) (l s:List (Nat×SV)):upS ((k,v)::l) s=upS l (insS k v s):=rfl
structure LoopB (P:Program) (keep:List Nat×List Nat) (a:MC) (Q:Xt→St→Prop) {ι:Type} (f:ι→List (Nat×SV)) (q:ι→List (Nat×OV)) (I:ι→Prop) (μ:ι→Nat) (i0:ι) (σ:St):Prop where
 start:σ=σ.up (f i0) (q i0)
 inv:I i0
 step:∀i,I i→wpC P a (kL keep (fun s=>∃j,s=σ.up (f j) (q j)∧I j∧μ j<μ i) Q) (σ.up (f i) (q i))
theorem Ko{P:Program}{keep:List Nat×List Nat}{a:MC}{Q:Xt→St→Prop}{σ:St}{ι:Type}(f:ι→List (Nat×SV))(q:ι→List (Nat×OV))(I:ι→Prop)(μ:ι→Nat)(i0:ι)(h:bk ((σ.lo keep).re) (LoopB P keep a Q f q I μ i0))(hN:a.det=true:=by rfl):loopK P keep a Q σ:=by
 obtain⟨s,h1,h2⟩:=h
 exact Kaq (fun i=>s.up (f i) (q i)) I μ i0 ⟨s,h1,h2.start⟩ h2.inv h2.step hN
theorem wI{n:Int}(h1: -9223372036854775808≤n)(h2:n≤9223372036854775807):IntKind.i64.wrap n=n:=by rw[IntKind.wrap_i64];omega
theorem Ky{α:Type}{f:α→List T}{l:List α}:bdR (l.map f)↔∀x∈l,bdL (f x):=by
 rw[bdR_iff];simp
theorem K9c{n:Int}:wfB (.int .i64 n)=true↔ -9223372036854775808≤n∧n≤9223372036854775807:=by
 simp only[wfB,Bool.and_eq_true,K8y,K8x]
 exact and_congr decide_eq_true_iff decide_eq_true_iff
theorem wfB_bool{b:Bool}:wfB (.bool b)=true↔True:=by simp[wfB]
@[go_sem] theorem bdT_i64 {n:Int}:bdT (.sc (.int .i64 n))=(-9223372036854775808≤n∧n≤9223372036854775807):=by
 simp only[bdT];exact propext K9c
@[go_sem] theorem bdT_bool {b:Bool}:bdT (.sc (.bool b))=True:=by simp only[bdT];exact propext wfB_bool
theorem Ke{α:Type}{l:List α}{k:Nat}(h:k<l.length):∃x,l[k]? =some x:=⟨l[k],List.getElem?_eq_getElem h⟩
theorem Kt{α:Type}{l:List α}{k:Nat}{x:α}(h:l[k]? =some x):l.take (k+1)=l.take k++[x]:=by
 rw[List.take_add_one,h];rfl
theorem K2b{α:Type}{l:List α}{k:Nat}{x:α}(h:l[k]? =some x):l.drop k=x::l.drop (k+1):=by
 obtain⟨hk,rfl⟩:=List.getElem?_eq_some_iff.1 h
 exact List.drop_eq_getElem_cons hk
theorem K10{α:Type}{l:List α}{k:Nat}{x:α}(h:l[k]? =some x):x∈l:=List.mem_of_getElem? h
structure RngB (P:Program) (keep:List Nat×List Nat) (a:MC) (Q:Xt→St→Prop) {α:Type} (xs:List α) (f:Nat→List (Nat×SV)) (q:Nat→List (Nat×OV)) (I:Nat→Prop) (σ:St):Prop where
 start:σ=σ.up (f 0) (q 0)
 inv:I 0
 step:∀(k:Nat) (x:α),xs[k]? =some x→I k→(0:Int)≤k→(k:Int)<xs.length→IntKind.i64.wrap ((k:Int)+1)=((k+1:Nat):Int)→wpC P a (kL keep (fun s=>s=σ.up (f (k+1)) (q (k+1))∧I (k+1)) Q) (σ.up (f k) (q k))
 fin:I xs.length→wpC P a (kL keep (fun _=>False) Q) (σ.up (f xs.length) (q xs.length))
theorem K7{P:Program}{keep:List Nat×List Nat}{a:MC}{Q:Xt→St→Prop}{σ:St}{α:Type}(xs:List α)(f:Nat→List (Nat×SV))(q:Nat→List (Nat×OV))(I:Nat→Prop)(hl:xs.length≤roomB)(h:bk ((σ.lo keep).re) (RngB P keep a Q xs f q I))(hN:a.det=true:=by rfl):loopK P keep a Q σ:=by
 obtain⟨s,h1,h2⟩:=h
 refine Kaq (fun i=>s.up (f i) (q i)) (fun k=>k≤xs.length∧I k) (fun k=>xs.length-k) 0 ⟨s,h1,h2.start⟩ ⟨by omega,h2.inv⟩ ?_ hN
 rintro k ⟨hk,hI⟩
 simp only[roomB]at hl
 rcases Nat.lt_or_ge k xs.length with hlt|hge
 ·obtain⟨x,hx⟩:=Ke hlt
  refine Kr (h2.step k x hx hI (by omega) (by omega) (by rw[wI (by omega) (by omega)];omega)) fun y t hy=>?_
  cases y with
  |nrm=>
   obtain⟨s',e1,e2,e3⟩:=hy
   exact⟨s',e1,k+1,e2,⟨by omega,e3⟩,by omega⟩
  |ex i=>exact hy
  |ret=>exact hy
 ·obtain rfl:k=xs.length:=by omega
  refine Kr (h2.fin hI) fun y t hy=>?_
  cases y with
  |nrm=>obtain⟨_,_,e⟩:=hy;exact e.elim
  |ex i=>exact hy
  |ret=>exact hy
attribute [go_sem] List.flatMap_nil List.flatMap_cons Nat.zero_le Int.natCast_zero Int.lt_irrefl beq_true beq_false Bool.not_true Bool.not_false
end Go.Proofs.YtjneccbpkckdfaaGreatR
namespace Go.Proofs.YtjneccbpkckdfaaGreatR
open Go Go.RowKit
section
variable {P:Program} {σ σ':St} {Q:Xt→St→Prop} {L:Ef→Prop} {n id:Nat} {s:List (Nat×SV)} {o:List OV} {α β:Type}
attribute [go_sem] rv SC.noB K3x vsNoB SV.noB OC.noB sNoB oNoB
@[go_sem] theorem noB_mk:St.noB ⟨s,n,o⟩=(sNoB s&&oNoB o):=rfl
@[go_sem] theorem effT_eq {d id2:Nat} {x:Od}:effT d id2 x σ=(σ.adr x).bind fun a=>match a with
 |.el id ver sz i k=>match σ.ob id with
  |⟨v,.row true sz' es⟩=>if v=ver∧sz=sz'∧id2≠id∧id2<σ.o.length∧σ.noB=true then(es[i]?).bind fun e=>(e[k]?).bind fun t=>match t with
    |.sl sz2 es2=>some ⟨some (d,.val false [.ref id2 (σ.nw id2) sz2 0 es2.length]),[(id2,⟨σ.nw id2,.row true sz2 es2⟩),(id,⟨ver,.hole sz es i k id2 (σ.nw id2)⟩)]⟩
    |_=>none
   else none
  |_=>none
 |_=>none:=rfl
@[go_sem] theorem bkO_eq {pid:Nat}:bkO σ pid=match σ.ob pid with
 |⟨ver,.hole sz es i k id2 v2⟩=>match σ.ob id2 with
  |⟨v,.row true sz2 es2⟩=>if v=v2∧id2≠pid then some [(id2,⟨v2,.none⟩),(pid,⟨ver,.row true sz (es.set i ((es.getD i []).set k (.sl sz2 es2)))⟩)]else none
  |_=>none
 |_=>none:=rfl
@[go_sem] theorem effB_eq {d:Nat} {zs:List SC} {ps:List (Nat×Nat×Od)} {ns:List (Option Nat)}:effB d zs ps ns σ=(σ.fill zs ps).bind fun cs=>if distinct (K4g ns)=true∧d<σ.n then(promo σ cs ns).map fun x=>⟨some (d,.val true x.1),x.2⟩else none:=rfl
attribute [go_sem] K4g
@[go_sem] theorem promo_nil:promo σ [] []=some ([],[]):=rfl
@[go_sem] theorem promo_none {c:SC} {cs:List SC} {ns:List (Option Nat)}:promo σ (c::cs) (none::ns)=(promo σ cs ns).map fun x=>(c::x.1,x.2):=rfl
@[go_sem] theorem promo_some {sz id:Nat} {cs:List SC} {ns:List (Option Nat)}:promo σ (.emp sz::cs) (some id::ns)=if id<σ.o.length then(promo σ cs ns).map fun x=>(.ref id (σ.nw id) sz 0 0::x.1,(id,⟨σ.nw id,.row true sz []⟩)::x.2)else none:=rfl
@[go_sem] theorem bksE_nil:bksE σ []=some []:=rfl
@[go_sem] theorem bksE_cons {p:Nat} {l:List Nat}:bksE σ (p::l)=(bkO σ p).bind fun o=>(bksE (σ.app ⟨none,o⟩) l).map (o++ ·):=rfl
@[go_sem] theorem effI_eq {d:Nat} {ids idl:List Nat} {outs:List (Option (Nat×List (List T)))} {rs:List RV}:effI σ d ids idl outs rs=
  if distinct (idl++ids)=true∧σ.noB=true then(outsO σ idl outs).bind fun os=>(K15 σ .e ids rs).map fun x=>⟨some (d,K1f x.1),os++x.2.1⟩else none:=rfl
@[go_sem] theorem effM_eq {d k:Nat} {ids:List Nat} {i0:Nat} {x:Od}:effM σ d k ids i0 x=(σ.adr x).bind fun ad=>match ad with
 |.el id' ver sz i 0=>match σ.ob id' with
  |⟨v,.row true sz' es⟩=>if id'=i0∧v=ver∧sz=sz'∧sz=k then(es[i]?).bind fun e=>effI σ d ids [i0] [none] [⟨true,e.map fun t=>(ownT t,t)⟩]else none
  |_=>none
 |_=>none:=rfl
@[go_sem] theorem mapOw_nil:List.map (fun t=>(ownT t,t)) []=[]:=rfl
@[go_sem] theorem mapOw_sc {v:Value} {l:List T}:List.map (fun t=>(ownT t,t)) (.sc v::l)=(false,.sc v)::List.map (fun t=>(ownT t,t)) l:=rfl
@[go_sem] theorem mapOw_sl {z:Nat} {es:List (List T)} {l:List T}:List.map (fun t=>(ownT t,t)) (.sl z es::l)=(true,.sl z es)::List.map (fun t=>(ownT t,t)) l:=rfl
@[go_sem] theorem outsO_nil:outsO σ [] []=some []:=rfl
@[go_sem] theorem outsO_none {id:Nat} {ids:List Nat} {os}:outsO σ (id::ids) (none::os)=(outsO σ ids os).map ((id,⟨(σ.ob id).ver,.none⟩):: ·):=rfl
@[go_sem] theorem outsO_some {id sz:Nat} {ids:List Nat} {es} {os}:outsO σ (id::ids) (some (sz,es)::os)=(outsO σ ids os).map ((id,⟨(σ.ob id).ver,.row true sz es⟩):: ·):=rfl
@[go_sem] theorem cellI_ref {ios:List Nat} {id ver sz lo n:Nat}:σ.cellI ios (.ref id ver sz lo n)=match σ.ob id with
  |⟨v,.row true sz' es⟩=>if v=ver∧sz=sz'∧lo=0∧n=es.length∧ios.contains id=true then some ((true,.sl sz es),[id])else none
  |_=>none:=rfl
attribute [go_sem] K46
@[go_sem] theorem cellI_pl {ios:List Nat} {t:T}:σ.cellI ios (.pl t)=some ((false,t),[]):=rfl
@[go_sem] theorem cellI_bsc {ios:List Nat} {v:Value}:σ.cellI ios (.bor (.sc v))=some ((false,.sc v),[]):=rfl
@[go_sem] theorem cellI_emp {ios:List Nat} {sz:Nat}:σ.cellI ios (.emp sz)=some ((false,.sl sz []),[]):=rfl
@[go_sem] theorem cellI_clo {ios:List Nat} {g:FuncId}:σ.cellI ios (.clo g [])=some ((false,.fn g []),[]):=rfl
@[go_sem] theorem cellsI_nil {ios:List Nat}:σ.cellsI ios []=some ([],[]):=rfl
@[go_sem] theorem cellsI_cons {ios:List Nat} {c:SC} {cs:List SC}:σ.cellsI ios (c::cs)=(σ.cellI ios c).bind fun x=>(σ.cellsI ios cs).map fun y=>(x.1::y.1,x.2++y.2):=rfl
@[go_sem] theorem argsI_nil {ios:List Nat}:σ.argsI ios []=some ([],[]):=rfl
@[go_sem] theorem argsI_cons {ios:List Nat} {x:Od} {xs:List Od}:σ.argsI ios (x::xs)=(σ.ev x).all.bind fun v=>(σ.cellsI ios v.2).bind fun c=>(σ.argsI ios xs).map fun y=>(⟨v.1,c.1⟩::y.1,c.2++y.2):=rfl
def kI(res:List (MR×List Bool))(outs:List (Option (Nat×List (List T))))(rs:List RV)(x:Xt)(σ:St):Prop:=(x= .nrm∨x= .ret)∧outI σ res outs rs
variable {res:List (MR×List Bool)} {outs:List (Option (Nat×List (List T)))} {rs:List RV}
@[go_sem] theorem kI_nrm:kI res outs rs .nrm σ=outI σ res outs rs:=by simp[kI]
@[go_sem] theorem kI_ret:kI res outs rs .ret σ=outI σ res outs rs:=by simp[kI]
@[go_sem] theorem outI_eq:outI σ res outs rs=bk (outR σ res) fun x=>neuO x.2.1=true∧distinct (owns x.2.1)=true∧x.2.2= .e∧x.1=rs∧endI σ (owns x.2.1) 0 outs:=rfl
@[go_sem] theorem endI_nil {own:List Nat} {j:Nat}:endI σ own j []=True:=rfl
@[go_sem] theorem endI_none {own:List Nat} {j:Nat} {l}:endI σ own j (none::l)=endI σ own (j+1) l:=rfl
@[go_sem] theorem endI_some {own:List Nat} {j sz:Nat} {es l}:endI σ own j (some (sz,es)::l)=(σ.ob j=⟨1,.row true sz es⟩∧¬j∈own∧endI σ own (j+1) l):=rfl
theorem K44{f:FuncId}{fn:Func}{c:Code}{args:List RV}{M:MC}{m n:Nat}(hmix:P.follows .mixedOrders=true)(hf:P.funcs[f]? =some fn)(hb:fn.body=some c)
  (hname : (fn.name == "runtime.NumGoroutine") = false) (hnt : fn.ntmps = n) (hc : chkC P c M = true) (hres : K1b P fn.results.toList (res.map (·.1)) = true) (hn : args.length ≤ n) (hsl : slA args = true) (hout : outs.length = (objsA args).length)
  (h:bdVA args→wpC P M (kI res outs rs) (startI args n m)):CtrI P f args outs rs:=by
 subst hnt
 exact ctrI_of hmix hf hb hname hc hres hn hsl hout h
attribute [go_sem] startI K5q objsA objsC cellsS List.replicate_succ List.replicate_zero
end
abbrev oL(sz:Nat)(es:List (List T)):RV:=⟨false,[(true,.sl sz es)]⟩
abbrev iI(n:Int):RV:=⟨false,[(false,.sc (.int .i64 n))]⟩
attribute [go_sem] oL iI
end Go.Proofs.YtjneccbpkckdfaaGreatR
namespace Go.Proofs.YtjneccbpkckdfaaGreatR
open Go Go.RowKit
structure callBK (P:Program) (f:FuncId) (cs:List T) (args:List (Bool×List T)) (σ:St) (d id ver:Nat) (ids:List Nat) (L:Ef→Prop):Prop where
 ex:∃cs' rs,CtrB P f cs args cs' rs∧distinct (id::ids)=true∧bk (K15 σ .e ids rs) fun x=>L ⟨some (d,K1f x.1),(id,⟨ver,.box (cs'.map .pl)⟩)::x.2.1⟩
section
variable {P:Program} {σ σ':St} {Q:Xt→St→Prop} {L:Ef→Prop} {n id:Nat} {s:List (Nat×SV)} {o:List OV} {hs ho ws bf:List Nat}
theorem K2{f:FuncId}{cs:List T}{args:List (Bool×List T)}{d id ver:Nat}{ids:List Nat}{cs':List T}{rs:List RV}(c:CtrB P f cs args cs' rs)
  (h:distinct (id::ids)=true∧bk (K15 σ .e ids rs) fun x=>L ⟨some (d,K1f x.1),(id,⟨ver,.box (cs'.map .pl)⟩)::x.2.1⟩):callBK P f cs args σ d id ver ids L:=⟨⟨cs',rs,c,h.1,h.2⟩⟩
def frzL:List SC→Option (List T)
 | []=>some []
 |c::cs=>c.frz.bind fun t=>(frzL cs).map (t:: ·)
theorem K45:∀ {cs:List SC},frzL cs=K1 (cs.map SC.frz)
 | []=>rfl
 |c::cs=>by
  simp only[frzL,List.map_cons]
  cases h:c.frz with
  |none=>simp[K1]
  |some t=>simp[K1,K45 (cs:=cs)]
def St.bxAt(σ:St):SV→Option (Nat×Nat×List T)
 |.adr (.bx id ver k)=>match σ.ob id with
  |⟨v,.box cs⟩=>if k=0∧v=ver then(frzL cs).map fun ts=>(id,ver,ts)else none
  |_=>none
 |_=>none
@[go_sem] theorem frzL_nil:frzL []=some []:=rfl
@[go_sem] theorem frzL_cons {c:SC} {cs:List SC}:frzL (c::cs)=c.frz.bind fun t=>(frzL cs).map (t:: ·):=rfl
@[go_sem] theorem bxAt_bx {id ver k:Nat}:σ.bxAt (.adr (.bx id ver k))=match σ.ob id with
  |⟨v,.box cs⟩=>if k=0∧v=ver then(frzL cs).map fun ts=>(id,ver,ts)else none
  |_=>none:=rfl
theorem bxAt_some{v:SV}{x:Nat×Nat×List T}(h:σ.bxAt v=some x):v= .adr (.bx x.1 x.2.1 0)∧∃cs,σ.ob x.1=⟨x.2.1,.box cs⟩∧K1 (cs.map SC.frz)=some x.2.2:=by
 unfold St.bxAt at h
 split at h
 rotate_left
 ·simp at h
 rename_i id ver k
 split at h
 rotate_left
 ·simp at h
 rename_i v cs hob
 obtain⟨⟨rfl,rfl⟩,h2⟩:=Option.ite_none_right_eq_some.1 h
 obtain⟨ts,hts,rfl⟩:=Option.map_eq_some_iff.1 h2
 exact⟨rfl,cs,hob,by rw[←K45];exact hts⟩
theorem Kaa{d:Nat}{ids:List Nat}{f p:Od}{xs:List Od}
  (h:bk (σ.callee f) fun c=>bk (σ.bxAt (σ.ev p)) fun b=>bk (σ.args xs) fun as_=>c.2=[]∧σ.mode xs= .e∧callBK P c.1 b.2.2 as_ σ d b.1 b.2.1 ids L):bkS P ⟨none,.callB d ids f p xs,hs,ho,ws,bf⟩ σ L:=by
 obtain⟨⟨fid,caps⟩,h1,b,h2,as_,h3,h4,h5,⟨cs',rs,h6,h7,x,h8,h9⟩⟩:=h
 simp only at h4
 subst h4
 obtain⟨k1,cs,k2,k3⟩:=bxAt_some h2
 exact⟨_,⟨fid,as_,b.1,b.2.1,cs,b.2.2,cs',rs,x,h1,k1,k2,k3,h3,h5,h6,h7,h8,rfl⟩,h9⟩
theorem Kab{d:Nat}{ids:List Nat}{f p:Od}{xs:List Od}(h:bkS P ⟨none,.callB d ids f p xs,hs,ho,ws,bf⟩ σ L):
  bk (σ.callee f) fun c=>bk (σ.bxAt (σ.ev p)) fun b=>bk (σ.args xs) fun as_=>c.2=[]∧σ.mode xs= .e∧callBK P c.1 b.2.2 as_ σ d b.1 b.2.1 ids L:=by
 obtain⟨e,⟨fid,as_,id,ver,cs,ts,ts',rs,x,h1,h2,h3,h4,h5,h6,h7,h8,h9,rfl⟩,hL⟩:=h
 refine⟨_,h1,(id,ver,ts),?_,as_,h5,rfl,h6,⟨ts',rs,h7,h8,x,h9,hL⟩⟩
 rw[h2,bxAt_bx,h3]
 simp[K45,h4]
@[go_sem] theorem bkS_callB {d:Nat} {ids:List Nat} {f p:Od} {xs:List Od}:bkS P ⟨none,.callB d ids f p xs,hs,ho,ws,bf⟩ σ L=bk (σ.callee f) fun c=>bk (σ.bxAt (σ.ev p)) fun b=>bk (σ.args xs) fun as_=>c.2=[]∧σ.mode xs= .e∧callBK P c.1 b.2.2 as_ σ d b.1 b.2.1 ids L:=
 propext ⟨Kab,Kaa⟩
structure callNK (P:Program) (f:FuncId) (args:List (Bool×List T)) (d id nv:Nat) (L:Ef→Prop):Prop where
 ex:∃cs',CtrN P f args cs'∧L ⟨some (d,.adr (.bx id nv 0)),[(id,⟨nv,.box (cs'.map .pl)⟩)]⟩
theorem K6h{f:FuncId}{args:List (Bool×List T)}{d id nv:Nat}{cs':List T}(c:CtrN P f args cs')(h:L ⟨some (d,.adr (.bx id nv 0)),[(id,⟨nv,.box (cs'.map .pl)⟩)]⟩):callNK P f args d id nv L:=⟨⟨cs',c,h⟩⟩
@[go_sem] theorem bkS_callN {d id:Nat} {f:Od} {xs:List Od}:bkS P ⟨none,.callN d id f xs,hs,ho,ws,bf⟩ σ L=bk (σ.callee f) fun c=>bk (σ.args xs) fun as_=>c.2=[]∧σ.mode xs= .e∧id<σ.o.length∧callNK P c.1 as_ d id (σ.nw id) L:=by
 refine propext ⟨?_,?_⟩
 ·rintro ⟨e,⟨fid,as_,cs',h1,h2,h3,h4,h5,rfl⟩,hL⟩
  exact⟨_,h1,_,h2,rfl,h3,h4,⟨⟨_,h5,hL⟩⟩⟩
 ·rintro ⟨⟨fid,caps⟩,h1,as_,h2,h3,h4,h5,⟨cs',h6,h7⟩⟩
  simp only at h3
  subst h3
  exact⟨_,⟨fid,as_,cs',h1,h2,h4,h5,h6,rfl⟩,h7⟩
structure callPK (P:Program) (f:FuncId) (args:List (Bool×List T)) (d id ver:Nat) (L:Ef→Prop):Prop where
 ex:∃k,CtrP P f args k∧L ⟨some (d,adrOf id ver k),[]⟩
def bxA:SV→Option (Nat×Nat)
 |.adr (.bx id ver 0)=>some (id,ver)
 |_=>none
theorem bxA_some{v:SV}{x:Nat×Nat}(h:bxA v=some x):v= .adr (.bx x.1 x.2 0):=by
 unfold bxA at h
 split at h
 ·obtain rfl:=Option.some.inj h;rfl
 ·simp at h
@[go_sem] theorem bxA_bx {id ver:Nat}:bxA (.adr (.bx id ver 0))=some (id,ver):=rfl
@[go_sem] theorem adrOf_some {id ver k:Nat}:adrOf id ver (some k)= .adr (.bx id ver k):=rfl
@[go_sem] theorem adrOf_none {id ver:Nat}:adrOf id ver none= .val false [.pl (.sc (.pointer none))]:=rfl
@[go_sem] theorem bkS_callP {d:Nat} {f p:Od} {xs:List Od}:bkS P ⟨none,.callP d f p xs,hs,ho,ws,bf⟩ σ L=bk (σ.callee f) fun c=>bk (bxA (σ.ev p)) fun b=>bk (σ.args xs) fun as_=>c.2=[]∧callPK P c.1 as_ d b.1 b.2 L:=by
 refine propext ⟨?_,?_⟩
 ·rintro ⟨e,⟨fid,as_,id,ver,k,h1,h2,h3,h4,rfl⟩,hL⟩
  exact⟨_,h1,(id,ver),by rw[h2];rfl,as_,h3,rfl,⟨⟨k,h4,hL⟩⟩⟩
 ·rintro ⟨⟨fid,caps⟩,h1,b,h2,as_,h3,h4,⟨k,h5,h6⟩⟩
  simp only at h4
  subst h4
  exact⟨_,⟨fid,as_,b.1,b.2,k,h1,bxA_some h2,h3,h5,rfl⟩,h6⟩
def kV(res:List (MR×List Bool))(cs':List T)(rs:List RV)(x:Xt)(σ:St):Prop:=(x= .nrm∨x= .ret)∧outB σ res cs' rs
variable {res:List (MR×List Bool)} {cs':List T} {rs:List RV}
@[go_sem] theorem kV_nrm:kV res cs' rs .nrm σ=outB σ res cs' rs:=by simp[kV]
@[go_sem] theorem kV_ret:kV res cs' rs .ret σ=outB σ res cs' rs:=by simp[kV]
@[go_sem] theorem outB_eq:outB σ res cs' rs=bk (outR σ res) fun x=>neuO x.2.1=true∧distinct (owns x.2.1)=true∧x.2.2= .e∧x.1=rs∧¬0∈owns x.2.1∧endB σ cs':=rfl
theorem endB_of{σ:St}{cs':List T}:endB σ cs'=match σ.ob 0 with
 |⟨v,.box cs⟩=>v=1∧frzL cs=some cs'
 |_=>False:=by
 unfold endB
 split
 ·rename_i h;first|(rw[h];simp only[K45])|simp only[K45]
 ·rename_i h
  first
   |rfl
   |(split<;>first|rfl|(rename_i h2;exact(h _ _ h2).elim))
attribute [go_sem] endB_of
theorem ctrB_at{f:FuncId}{fn:Func}{c:Code}{cs:List T}{args:List (Bool×List T)}{M:MC}{m n:Nat}(hmix:P.follows .mixedOrders=true)(hf:P.funcs[f]? =some fn)(hb:fn.body=some c)
  (hname : (fn.name == "runtime.NumGoroutine") = false) (hnt : fn.ntmps = n) (hc : chkC P c M = true) (hres : K1b P fn.results.toList (res.map (·.1)) = true) (hn : args.length + 1 ≤ n)
  (h:bdL cs→bdA args→wpC P M (kV res cs' rs) (startB cs args n m)):CtrB P f cs args cs' rs:=by
 subst hnt
 exact ctrB_of hmix hf hb hname hc hres hn h
attribute [go_sem] startB
end
end Go.Proofs.YtjneccbpkckdfaaGreatR
namespace Go.Proofs.YtjneccbpkckdfaaGreatR
open Go Go.RowKit Go.ChangeShapes
inductive DT where
 |int
 |u8
 |bool
 |str
 |sl (t:DT)
 |st (f:DT)
 |fn
 |fc (t f:DT)
def szT:DT→Nat
 |.int=>1
 |.u8=>1
 |.bool=>1
 |.str=>1
 |.sl _=>1
 |.st f=>szT f
 |.fn=>0
 |.fc t f=>szT t+szT f
mutual
def tyOk(P:Program):DT→TypeId→Bool
 |.int,t=>(match P.underlying t with|some (.int .i64)=>true|_=>false)
 |.u8,t=>(match P.underlying t with|some (.int .u8)=>true|_=>false)
 |.bool,t=>(match P.underlying t with|some .bool=>true|_=>false)
 |.str,t=>(match P.underlying t with|some .string=>true|_=>false)
 |.sl e,t=>(match P.underlying t with|some (.slice e')=>tyOk P e e'&&szT e==P.cellsOf e'&&decide (1≤P.bytesOf e')&&decide (0<szT e)|_=>false)
 |.st f,t=>(match P.underlying t with|some (.struct fs)=>K2t P f fs.toList 0&&szT f==P.cellsOf t|_=>false)
 |.fn,_=>false
 |.fc _ _,_=>false
def K2t(P:Program):DT→List Field→Nat→Bool
 |.fn,[],_=>true
 |.fc a f,fd::fs,off=>fd.offset==off&&tyOk P a fd.type&&szT a==P.cellsOf fd.type&&K2t P f fs (off+szT a)
 |_,_,_=>false
end
def IsT:DT→List T→Prop
 |.int,ts=>∃n,ts=[tI n]
 |.u8,ts=>∃n,ts=[.sc (.int .u8 n)]
 |.bool,ts=>∃b,ts=[tB b]
 |.str,ts=>∃s,ts=[tS s]
 |.sl e,ts=>∃es,ts=[.sl (szT e) es]∧∀x∈es,IsT e x
 |.st f,ts=>IsT f ts
 |.fn,ts=>ts=[]
 |.fc a f,ts=>∃u v,ts=u++v∧IsT a u∧IsT f v
theorem K3f:∀ {ty:DT} {ts:List T},IsT ty ts→ts.length=szT ty
 |.int,_,h=>by obtain⟨n,rfl⟩:=h;rfl
 |.u8,_,h=>by obtain⟨n,rfl⟩:=h;rfl
 |.bool,_,h=>by obtain⟨n,rfl⟩:=h;rfl
 |.str,_,h=>by obtain⟨n,rfl⟩:=h;rfl
 |.sl e,_,h=>by obtain⟨n,rfl,_⟩:=h;rfl
 |.st f,_,h=>K3f (ty:=f) h
 |.fn,_,h=>by simp only[IsT]at h;subst h;rfl
 |.fc a f,_,h=>by
  obtain⟨u,v,rfl,h1,h2⟩:=h
  simp[szT,K3f h1,K3f h2]
theorem K4v{α β:Type}{f g:α→Option β}:∀ {l:List α},(∀a∈l,f a=g a)→l.mapM f=l.mapM g
 | [],_=>rfl
 |a::l,h=>by
  rw[List.mapM_cons,List.mapM_cons,h a (by simp),K4v fun x hx=>h x (by simp[hx])]
section
variable {H:Type} {enc:TypeId×Value→H} {P:Program} {w w':World}
theorem K3h{e:TypeId}:∀ {ds:List (DataW H)} {d:DataW H},d∈ds→∀n∈d.weights P e,n∈DataW.weightsAll P e ds
 |x::ds,d,h,n,hn=>by
  simp only[DataW.weightsAll,List.mem_append]
  rcases List.mem_cons.1 h with rfl|h
  ·exact .inl hn
  ·exact .inr (K3h h n hn)
 | [],_,h,_,_=>by simp at h
def Got(enc:TypeId×Value→H)(P:Program)(w w':World)(ty:DT)(fuel:Nat)(t:TypeId)(cs:List Value)(x:DataW H×List MemPlace):Prop:=
 (∃ts,IsT ty ts∧RdL w (fun _=>True) ts cs)∧DataW.trod enc P w' 0 (fun b=>decide (b<w.heap.size)) true fuel t cs=some x
theorem rdL_app{X:Nat→Prop}:∀ {a b:List T} {u v:List Value},RdL w X a u→RdL w X b v→RdL w X (a++b) (u++v)
 | [],_,[],_,_,h=>by simpa using h
 |_::_,_,_::_,_,h,k=>by
  simp only[RdL]at h
  simp only[List.cons_append,RdL]
  exact⟨h.1,rdL_app h.2 k⟩
 | [],_,_::_,_,h,_=>by simp only[RdL]at h
 |_::_,_,[],_,h,_=>by simp only[RdL]at h
theorem rdL_len{X:Nat→Prop}:∀ {a:List T} {u:List Value},RdL w X a u→a.length=u.length
 | [],[],_=>rfl
 |_::_,_::_,h=>by simp only[RdL]at h;simp[rdL_len h.2]
 | [],_::_,h=>by simp only[RdL]at h
 |_::_,[],h=>by simp only[RdL]at h
theorem rdEl_of{X:Nat→Prop}{b:Nat}:∀ {ts:List T} {cs:List Value} {off:Nat},RdL w X ts cs→(∀i,i<cs.length→w.cell? ⟨b,off+i,none⟩=cs[i]?)→RdEl w X b off ts
 | [],_,_,_,_=>by simp only[RdEl]
 |t::ts,v::cs,off,h,hc=>by
  simp only[RdL]at h
  simp only[RdEl]
  refine⟨⟨v,by simpa using hc 0 (by simp),h.1⟩,rdEl_of h.2 fun i hi=>?_⟩
  have:=hc (i+1) (by simpa using hi)
  rw[show off+1+i=off+(i+1)by omega]
  simpa using this
 |_::_,[],_,h,_=>by simp only[RdL]at h
mutual
theorem entry(hw:∀b,b<w.heap.size→w'.heap[b]? =w.heap[b]?):∀(ty:DT) (t:TypeId) (fuel:Nat) (cs:List Value) (x:DataW H×List MemPlace),tyOk P ty t=true→DataW.trod enc P w 0 (fun _=>true) true fuel t cs=some x→
  (∀n∈x.1.weights P t,n≤reachBytes)→Got enc P w w' ty fuel t cs x
 |.int,t,fuel,cs,x,ht,h,_=>by
  have hu:P.underlying t=some (.int .i64):=by
   unfold tyOk at ht;split at ht<;>simp_all
  cases fuel with
  |zero=>simp[DataW.trod]at h
  |succ m=>
  obtain⟨n,rfl,rfl,hwf⟩:=DataW.trod_int hu h
  refine⟨⟨[tI n],⟨n,rfl⟩,?_⟩,?_⟩
  ·simp only[RdL,Rd,and_true,true_and]
   exact K1n (K3r (k:= .i64) hwf)
  ·unfold DataW.trod
   simp only[hu]
   rw[if_pos ⟨trivial,hwf⟩]
 |.u8,t,fuel,cs,x,ht,h,_=>by
  have hu:P.underlying t=some (.int .u8):=by
   unfold tyOk at ht;split at ht<;>simp_all
  cases fuel with
  |zero=>simp[DataW.trod]at h
  |succ m=>
  obtain⟨n,rfl,rfl,hwf⟩:=DataW.trod_int hu h
  refine⟨⟨[.sc (.int .u8 n)],⟨n,rfl⟩,?_⟩,?_⟩
  ·simp only[RdL,Rd,and_true,true_and]
   exact K1n (K3r (k:= .u8) hwf)
  ·unfold DataW.trod
   simp only[hu]
   rw[if_pos ⟨trivial,hwf⟩]
 |.bool,t,fuel,cs,x,ht,h,_=>by
  have hu:P.underlying t=some .bool:=by
   unfold tyOk at ht;split at ht<;>simp_all
  cases fuel with
  |zero=>simp[DataW.trod]at h
  |succ m=>
  unfold DataW.trod at h
  simp only[hu]at h
  split at h
  all_goals first
   |(simp at h;done)
   |(rename_i hq;cases hq;done)
   |skip
  rename_i b hb
  simp only[Option.some.injEq]at h
  subst h
  refine⟨⟨[tB b],⟨b,rfl⟩,?_⟩,?_⟩
  ·simp only[RdL,Rd,and_true,true_and]
   exact K6x _
  ·unfold DataW.trod
   simp only[hu]
 |.str,t,fuel,cs,x,ht,h,_=>by
  have hu:P.underlying t=some .string:=by
   unfold tyOk at ht;split at ht<;>simp_all
  cases fuel with
  |zero=>simp[DataW.trod]at h
  |succ m=>
  unfold DataW.trod at h
  simp only[hu]at h
  split at h
  all_goals first
   |(simp at h;done)
   |(rename_i hq;cases hq;done)
   |skip
  rename_i s hb
  obtain⟨hs,h⟩:=Option.ite_none_right_eq_some.1 h
  simp only[Option.some.injEq]at h
  subst h
  refine⟨⟨[tS s],⟨s,rfl⟩,?_⟩,?_⟩
  ·simp only[RdL,Rd,and_true,true_and]
   exact K64 (by unfold Go.maxLen at hs;omega)
  ·unfold DataW.trod
   simp only[hu]
   rw[if_pos hs]
 |.sl e,t,fuel,cs,x,ht,h,hwt=>by
  obtain⟨e',hu,ht⟩:∃e',P.underlying t=some (.slice e')∧(tyOk P e e'&&szT e==P.cellsOf e'&&decide (1≤P.bytesOf e')&&decide (0<szT e))=true:=by
   unfold tyOk at ht
   split at ht
   ·rename_i e' hu;exact⟨e',hu,ht⟩
   ·simp at ht
  simp only[Bool.and_eq_true,beq_iff_eq,decide_eq_true_eq]at ht
  obtain⟨⟨⟨he,hsz⟩,hby⟩,hpz⟩:=ht
  cases fuel with
  |zero=>simp[DataW.trod]at h
  |succ m=>
  rcases DataW.trod_slice hu h with ⟨rfl,rfl⟩|⟨a,len,cap,elems,rest,n,hfn,rfl,hx,_,hlc,hcm,hel,hget,hsp,_⟩
  ·refine⟨⟨[.sl (szT e) []],⟨[],rfl,by simp⟩,?_⟩,?_⟩
   ·simp only[RdL,and_true]
    unfold Rd
    exact⟨none,0,rfl,Ln.z _,.inl rfl⟩
   ·unfold DataW.trod
    simp only[hu]
  ·obtain rfl:n=m:=by omega
   subst hx
   simp only[DataW.weights,hu]at hwt
   have hlen:(elems.length+rest.length)*P.bytesOf e'≤reachBytes:=by simpa using hwt _ (List.mem_cons_self ..)
   have hlb:len≤roomB:=by
    have h1:len*1≤(elems.length+rest.length)*P.bytesOf e':=Nat.mul_le_mul (by omega) hby
    have h2:reachBytes≤roomB:=by decide
    omega
   have hone:∀i,i<cap→∃y:DataW H×List MemPlace,(w.cells? 0 (a.add (i*P.cellsOf e')) (P.cellsOf e')).bind (DataW.trod enc P w 0 (fun _=>true) true n e')=some y∧∀k∈y.1.weights P e',k≤reachBytes:=by
    intro i hi
    by_cases hil:i<len
    ·rw[hget i hil]
     have hie:i<elems.length:=by omega
     refine⟨elems[i],List.getElem?_eq_getElem hie,fun k hk=>hwt k ?_⟩
     refine List.mem_cons_of_mem _ (List.mem_append.2 (.inl (K3h (d:=elems[i].1) ?_ k hk)))
     exact List.mem_map.2 ⟨elems[i],List.getElem_mem hie,rfl⟩
    ·obtain⟨hr1,hr2⟩:=hsp rfl
     have hj:=hr2 (i-len) (by omega)
     rw[show len+(i-len)=i by omega]at hj
     rw[hj]
     have hir:i-len<rest.length:=by omega
     refine⟨rest[i-len],List.getElem?_eq_getElem hir,fun k hk=>hwt k ?_⟩
     refine List.mem_cons_of_mem _ (List.mem_append.2 (.inr (K3h (d:=rest[i-len].1) ?_ k hk)))
     exact List.mem_map.2 ⟨rest[i-len],List.getElem_mem hir,rfl⟩
   have hgot:∀i,i<cap→∃cs' y,w.cells? 0 (a.add (i*P.cellsOf e')) (P.cellsOf e')=some cs'∧DataW.trod enc P w 0 (fun _=>true) true n e' cs'=some y∧Got enc P w w' e n e' cs' y:=by
    intro i hi
    obtain⟨y,h1,h2⟩:=hone i hi
    obtain⟨cs',h3,h4⟩:=Option.bind_eq_some_iff.1 h1
    exact⟨cs',y,h3,h4,entry hw e e' n cs' y he h4 h2⟩
   have hspot:0<cap→0<P.cellsOf e'→a.spot=none:=by
    intro hi hp
    obtain⟨cs',y,h3,_,_⟩:=hgot 0 hi
    obtain⟨_,hcl,hc⟩:=World.cells?_some h3
    have h0:=hc 0 hp
    rw[List.getElem?_eq_getElem (by omega)]at h0
    obtain⟨ab,ao,asp⟩:=a
    cases asp with
    |none=>rfl
    |some s=>
     exfalso
     have e1:(Addr.add (Addr.add ⟨ab,ao,some s⟩ (0*P.cellsOf e')) 0)=⟨ab,ao,some s⟩:=by simp[Addr.add]
     rw[e1]at h0
     unfold World.cell? at h0
     simp only at h0
     split at h0<;>simp at h0
   have hadd:∀n,0<cap→0<P.cellsOf e'→a.add n=⟨a.block,a.off+n,none⟩:=by
    intro n h1 h2
    have hs:=hspot h1 h2
    obtain⟨ab,ao,asp⟩:=a
    simp only at hs
    subst hs
    exact K19 _ _ _
   have hcell:∀i,i<cap→0<P.cellsOf e'→a.spot=none∧a.block<w.heap.size:=by
    intro i hi hp
    refine⟨hspot (by omega) hp,?_⟩
    obtain⟨cs',y,h3,_,_⟩:=hgot i hi
    obtain⟨_,hcl,hc⟩:=World.cells?_some h3
    have h0:=hc 0 hp
    rw[List.getElem?_eq_getElem (by omega),hadd _ (by omega) hp,K19]at h0
    simp only[World.cell?]at h0
    cases hb:w.heap[a.block]? with
    |none=>rw[hb]at h0;simp at h0
    |some o=>exact(Array.getElem?_eq_some_iff.1 hb).1
   have htrees:∀(m s:Nat),s+m≤cap→∃es:List (List T),es.length=m∧(∀x∈es,IsT e x)∧(0<m→0<P.cellsOf e'→RdRow w (fun _=>True) (szT e) a.block (a.off+s*szT e) es)∧(P.cellsOf e'=0→RdRow w (fun _=>True) (szT e) a.block (a.off+s*szT e) es):=by
    intro m
    induction m with
    |zero=>intro s _;exact⟨[],rfl,by simp,by simp,fun _=>by simp only[RdRow]⟩
    |succ m ih=>
     intro s hs
     obtain⟨es,h1,h2,h3,h4⟩:=ih (s+1) (by omega)
     obtain⟨cs',y,h5,_,⟨ts,h6,h7⟩,_⟩:=hgot s (by omega)
     obtain⟨_,hcl,hc⟩:=World.cells?_some h5
     have hoff:a.off+(s+1)*szT e=a.off+s*szT e+szT e:=by rw[Nat.add_mul];omega
     refine⟨ts::es,by simp[h1],by simpa using ⟨h6,h2⟩,fun _ hp=>?_,fun hz=>?_⟩
     ·obtain⟨hsp0,_⟩:=hcell s (by omega) hp
      simp only[RdRow]
      refine⟨K3f h6,rdEl_of h7 fun i hi=>?_,?_⟩
      ·have:=hc i (by omega)
       rw[hadd _ (by omega) hp,K19]at this
       rw[hsz,←this]
      ·rw[←hoff]
       cases m with
       |zero=>
        have:es=[]:=List.length_eq_zero_iff.1 h1
        rw[this];simp only[RdRow]
       |succ m=>exact h3 (by omega) hp
     ·simp only[RdRow]
      refine⟨K3f h6,?_,by rw[←hoff];exact h4 hz⟩
      have:ts=[]:=List.length_eq_zero_iff.1 (by rw[K3f h6];omega)
      rw[this];simp only[RdEl]
   obtain⟨es,h1,h2,h3,h4⟩:=htrees len 0 (by omega)
   refine⟨⟨[.sl (szT e) es],⟨es,rfl,h2⟩,?_⟩,?_⟩
   ·simp only[RdL,and_true]
    unfold Rd
    refine⟨some a,cap,by rw[h1],by rw[h1];exact⟨hlc,hlb,hcm⟩,?_⟩
    by_cases h0:es=[]
    ·exact .inl h0
    ·right
     have hl0:0<len:=by rw[←h1];exact List.length_pos_iff.2 h0
     have hpos:0<P.cellsOf e':=by
      rw[←hsz]
      exact hpz
     obtain⟨hs0,hb0⟩:=hcell 0 (by omega) hpos
     obtain⟨ab,ao,asp⟩:=a
     simp only at hs0
     subst hs0
     exact⟨ab,ao,rfl,trivial,hb0,by simpa using h3 hl0 hpos⟩
   ·-- read anew
    have hnew:∀i,i<cap→(w'.cells? 0 (a.add (i*P.cellsOf e')) (P.cellsOf e')).bind (DataW.trod enc P w' 0 (fun b=>decide (b<w.heap.size)) true n e')=(w.cells? 0 (a.add (i*P.cellsOf e')) (P.cellsOf e')).bind (DataW.trod enc P w 0 (fun _=>true) true n e'):=by
     intro i hi
     obtain⟨cs',y,h5,h6,_,h7⟩:=hgot i hi
     have hc:w'.cells? 0 (a.add (i*P.cellsOf e')) (P.cellsOf e')=w.cells? 0 (a.add (i*P.cellsOf e')) (P.cellsOf e'):=by
      unfold World.cells?
      have e0:(0:Nat)≤(a.add (i*P.cellsOf e')).block:=Nat.zero_le _
      rw[if_pos e0,if_pos e0]
      refine K4v fun j hj=>?_
      have hj':0<P.cellsOf e':=by have:=List.mem_range.1 hj;omega
      have hb:=(hcell i hi hj').2
      unfold World.cell?
      rw[hadd _ (by omega) hj',K19]
      simp only
      rw[hw a.block hb]
     rw[hc,h5,Option.bind_some,Option.bind_some,h6,h7]
    have hsp':rest≠[]→decide (a.block<w.heap.size)=true:=by
     intro hne
     obtain⟨hr1,_⟩:=hsp rfl
     have:0<rest.length:=List.length_pos_iff.2 hne
     have hpos:0<P.cellsOf e':=by rw[←hsz];exact hpz
     exact decide_eq_true (hcell 0 (by omega) hpos).2
    unfold DataW.trod at h ⊢
    simp only[hu]at h ⊢
    split at h
    rotate_left
    ·simp at h
    rename_i hcond
    rw[if_pos hcond]
    rw[←h]
    have e1:(List.range len).mapM (fun i=>(w'.cells? 0 (a.add (i*P.cellsOf e')) (P.cellsOf e')).bind (DataW.trod enc P w' 0 (fun b=>decide (b<w.heap.size)) true n e'))=(List.range len).mapM (fun i=>(w.cells? 0 (a.add (i*P.cellsOf e')) (P.cellsOf e')).bind (DataW.trod enc P w 0 (fun _=>true) true n e')):=
     K4v fun i hi=>hnew i (by have:=List.mem_range.1 hi;omega)
    have e2:(List.range (cap-len)).mapM (fun j=>(w'.cells? 0 (a.add ((len+j)*P.cellsOf e')) (P.cellsOf e')).bind (DataW.trod enc P w' 0 (fun b=>decide (b<w.heap.size)) true n e'))=(List.range (cap-len)).mapM (fun j=>(w.cells? 0 (a.add ((len+j)*P.cellsOf e')) (P.cellsOf e')).bind (DataW.trod enc P w 0 (fun _=>true) true n e')):=
     K4v fun i hi=>hnew (len+i) (by have:=List.mem_range.1 hi;omega)
    rw[e1,e2]
    congr 1
    funext es'
    congr 1
    by_cases hcl:cap=len
    ·subst hcl
     simp
    ·have hne:rest≠[]:=by
      obtain⟨hr1,_⟩:=hsp rfl
      intro h0
      rw[h0]at hr1
      simp at hr1
      omega
     rw[if_pos (hsp' hne)]
     simp
 |.st f,t,fuel,cs,x,ht,h,hwt=>by
  obtain⟨fs,hu,ht⟩:∃fs,P.underlying t=some (.struct fs)∧(K2t P f fs.toList 0&&szT f==P.cellsOf t)=true:=by
   unfold tyOk at ht
   split at ht
   ·rename_i fs hu;exact⟨fs,hu,ht⟩
   ·simp at ht
  simp only[Bool.and_eq_true,beq_iff_eq]at ht
  obtain⟨hf,hsz⟩:=ht
  cases fuel with
  |zero=>simp[DataW.trod]at h
  |succ n=>
  unfold DataW.trod at h
  simp only[hu]at h
  obtain⟨hlen,h⟩:=Option.ite_none_right_eq_some.1 h
  obtain⟨xs,hxs,rfl⟩:=Option.map_eq_some_iff.1 h
  simp only[DataW.weights,hu]at hwt
  obtain⟨⟨ts,h1,h2⟩,h3⟩:=entryF hw f fs.toList 0 n cs xs hf hxs hwt
  refine⟨⟨ts,h1,?_⟩,?_⟩
  ·rw[List.drop_zero,hsz,←hlen,List.take_length]at h2
   exact h2
  ·unfold DataW.trod
   simp only[hu]
   rw[if_pos hlen,h3]
   rfl
 |.fn,_,_,_,_,ht,_,_=>by simp[tyOk]at ht
 |.fc _ _,_,_,_,_,ht,_,_=>by simp[tyOk]at ht
theorem entryF(hw:∀b,b<w.heap.size→w'.heap[b]? =w.heap[b]?):∀(f:DT) (fs:List Field) (off n:Nat) (cs:List Value) (xs:List (DataW H×List MemPlace)),K2t P f fs off=true→
  fs.mapM (fun fd=>DataW.trod enc P w 0 (fun _=>true) true n fd.type ((cs.drop fd.offset).take (P.cellsOf fd.type)))=some xs→(∀k∈DataW.weightsEach P (fs.map (·.type)) (xs.map (·.1)),k≤reachBytes)→
  (∃ts,IsT f ts∧RdL w (fun _=>True) ts ((cs.drop off).take (szT f)))∧fs.mapM (fun fd=>DataW.trod enc P w' 0 (fun b=>decide (b<w.heap.size)) true n fd.type ((cs.drop fd.offset).take (P.cellsOf fd.type)))=some xs
 |.fn,[],off,n,cs,xs,_,h,_=>by
  simp at h
  subst h
  refine⟨⟨[],rfl,?_⟩,by simp⟩
  simp[szT,RdL]
 |.fc a f,fd::fs,off,n,cs,xs,ht,h,hwt=>by
  simp only[K2t,Bool.and_eq_true,beq_iff_eq]at ht
  obtain⟨⟨⟨ho,ha⟩,hsz⟩,hf⟩:=ht
  rw[List.mapM_cons]at h
  simp only[Option.bind_eq_bind,Option.bind_eq_some_iff,Option.pure_def,Option.some.injEq]at h
  obtain⟨y,h1,ys,h2,rfl⟩:=h
  simp only[List.map_cons,DataW.weightsEach,List.mem_append]at hwt
  obtain⟨⟨t1,i1,r1⟩,g1⟩:=entry hw a fd.type n _ y ha h1 fun k hk=>hwt k (.inl hk)
  obtain⟨⟨t2,i2,r2⟩,g2⟩:=entryF hw f fs (off+szT a) n cs ys hf h2 fun k hk=>hwt k (.inr hk)
  refine⟨⟨t1++t2,⟨t1,t2,rfl,i1,i2⟩,?_⟩,?_⟩
  ·rw[ho,←hsz]at r1
   have hl:=rdL_len r1
   rw[K3f i1]at hl
   have e:(cs.drop off).take (szT a+szT f)=(cs.drop off).take (szT a)++(cs.drop (off+szT a)).take (szT f):=by
    rw[List.take_add,List.drop_drop]
   rw[szT,e]
   exact rdL_app r1 r2
  ·rw[List.mapM_cons,g1,g2]
   rfl
 |.fn,_::_,_,_,_,_,ht,_,_=>by simp[K2t]at ht
 |.fc _ _,[],_,_,_,_,ht,_,_=>by simp[K2t]at ht
 |.int,_,_,_,_,_,ht,_,_=>by simp[K2t]at ht
 |.u8,_,_,_,_,_,ht,_,_=>by simp[K2t]at ht
 |.bool,_,_,_,_,_,ht,_,_=>by simp[K2t]at ht
 |.str,_,_,_,_,_,ht,_,_=>by simp[K2t]at ht
 |.sl _,_,_,_,_,_,ht,_,_=>by simp[K2t]at ht
 |.st _,_,_,_,_,_,ht,_,_=>by simp[K2t]at ht
end
def isSt:DT→Bool
 |.st _=>true
 |_=>false
def IsA:List DT→List (Bool×List T)→Prop
 | [],[]=>True
 |ty::tys,x::xs=>x.1=isSt ty∧IsT ty x.2∧IsA tys xs
 |_,_=>False
def K6b(P:Program):List DT→List TypeId→Bool
 | [],[]=>true
 |ty::tys,t::ts=>tyOk P ty t&&K6b P tys ts
 |_,_=>false
theorem ok_cells{ty:DT}{t:TypeId}{r:Reach}{base:Nat}{v:Value}(h:tyOk P ty t=true)(hv:Value.okWide P w r base t v):if isSt ty then ∃cs:List Value,v= .agg cs.toArray∧v.cells.toList=cs else v.cells.toList=[v]:=by
 have one:∀k,P.underlying t=some k→(match k with| .struct _| .array ..| .interface _| .map ..| .func ..| .chan ..| .unsafePointer=>False|_=>True)→v.cells.toList=[v]:=by
  intro k hk hn
  unfold Value.okWide at hv
  rw[hk]at hv
  cases v<;>try rfl
  exfalso
  cases k<;>simp only at hn<;>simp[Cell.okWide,Cell.ok,hk]at hv
 cases ty<;>simp only[isSt,if_true,Bool.false_eq_true,if_false]
 case st f=>
  unfold tyOk at h
  split at h
  ·rename_i fs hu
   unfold Value.okWide at hv
   rw[hu]at hv
   obtain⟨cs,rfl,_⟩:=hv
   exact⟨cs.toList,by simp,by simp[Value.cells]⟩
  ·simp at h
 case int=>
  unfold tyOk at h
  split at h
  ·rename_i hu;exact one _ hu trivial
  ·simp at h
 case u8=>
  unfold tyOk at h
  split at h
  ·rename_i hu;exact one _ hu trivial
  ·simp at h
 case bool=>
  unfold tyOk at h
  split at h
  ·rename_i hu;exact one _ hu trivial
  ·simp at h
 case str=>
  unfold tyOk at h
  split at h
  ·rename_i hu;exact one _ hu trivial
  ·simp at h
 case sl e=>
  unfold tyOk at h
  split at h
  ·rename_i hu;exact one _ hu trivial
  ·simp at h
 all_goals simp[tyOk]at h
theorem entryA(hw:∀b,b<w.heap.size→w'.heap[b]? =w.heap[b]?){r:Reach}{base:Nat}:∀(tys:List DT) (ts:List TypeId) (vs:List Value) (ds:List (DataW H)) (p:List MemPlace),K6b P tys ts=true→
  (∀(j:Nat) t v,ts[j]? =some t→vs[j]? =some v→Value.okWide P w r base t v)→DataW.TrodAll enc P w 0 (fun _=>true) true ts vs ds p→(∀n∈DataW.weightsEach P ts ds,n≤reachBytes)→
  ∃as_,IsA tys as_∧ArgsR w (fun _=>True) as_ vs∧DataW.TrodAll enc P w' 0 (fun b=>decide (b<w.heap.size)) true ts vs ds p∧ds.length=tys.length
 | [],[],vs,ds,p,_,_,hA,_=>by
  obtain⟨rfl,rfl,rfl⟩:=trodAll_nil hA
  exact⟨[],trivial,trivial,rfl,rfl⟩
 |ty::tys,t::ts,vs,ds,p,ht,hok,hA,hwt=>by
  simp only[K6b,Bool.and_eq_true]at ht
  obtain⟨v,vs',d,ds',p0,q0,rfl,rfl,rfl,⟨fuel,h0⟩,h1⟩:=trodAll_cons hA
  simp only[DataW.weightsEach,List.mem_append]at hwt
  obtain⟨⟨ts0,i0,r0⟩,g0⟩:=entry hw ty t fuel _ _ ht.1 h0 fun n hn=>hwt n (.inl hn)
  obtain⟨as_,i1,r1,g1,hl⟩:=entryA hw tys ts vs' ds' q0 ht.2 (fun j t v h2 h3=>hok (j+1) t v (by simpa using h2) (by simpa using h3)) h1 fun n hn=>hwt n (.inr hn)
  have hc:=ok_cells ht.1 (hok 0 t v rfl rfl)
  refine⟨(isSt ty,ts0)::as_,⟨rfl,i0,i1⟩,⟨?_,r1⟩,⟨p0,q0,⟨fuel,g0⟩,g1,rfl⟩,by simp[hl]⟩
  unfold ArgR
  simp only
  split at hc
  ·rename_i hs
   rw[if_pos hs]
   obtain⟨cs,rfl,hcs⟩:=hc
   rw[hcs]at r0
   exact⟨cs,rfl,r0⟩
  ·rename_i hs
   rw[if_neg hs]
   rw[hc]at r0
   cases ts0 with
   |nil=>simp only[RdL]at r0
   |cons t0 l=>
    cases l with
    |nil=>simp only[RdL,and_true]at r0;exact⟨t0,rfl,r0⟩
    |cons _ _=>simp only[RdL]at r0;exact r0.2.elim
 | [],_::_,_,_,_,ht,_,_,_=>by simp[K6b]at ht
 |_::_,[],_,_,_,ht,_,_,_=>by simp[K6b]at ht
theorem K90{X:World→Prop}(hT:∀W,X W→∀w,Below W.heap.size W w→TabW w){f:FuncId}{fn:Func}{s:ChangeSpec}{conds:List PathCond}{a:Assume}{tys:List DT}{tb:TypeId}(hty:K6b P tys fn.params.toList=true)(hvars:s.vars=[])(hres:fn.resultTypes= #[tb])(hb:P.underlying tb=some .bool)
  (hspec:∀ds:List (DataW H),ds.length=tys.length→s.fn H ds={results:=[.lit (.bool true)],args:=ds}) (main:∀as_,IsA tys as_→Ctr P f as_ [rB true]):
  ∀(W:World) (base:Nat) (args:Array Value) (ds gs:List (DataW H)) (before:List MemPlace),
   (∀(j:Nat) t v,fn.params[j]? =some t→args[j]? =some v→Value.okWide P W .any base t v)→
   DataW.Whole enc P fn.params.toList s.vars false W args.toList ds gs before→
   conds.all (PathCond.test P ⟨fn.params.toList,ds,s.plain.varTypes P,gs⟩)=true→
   (DataW.weightsEach P (fn.params.toList++s.plain.varTypes P) (ds++gs)).all (· ≤reachBytes)=true→X W→
   a.holds P (lone (Frame.enter P f args .normal) [] W)→
   Calls P f args W fun e W'=>∃v,e= .returned v∧s.post enc P fn false true false false W args v W':=by
 intro W base args ds gs before hval hW _ hsz hX _
 have hW':=hW
 obtain⟨p,q,hA,hV,rfl,hfz,hnd⟩:=hW
 have hgs:gs=[]:=by
  rw[hvars]at hV
  obtain⟨rfl,_⟩:=trodVars_none hV
  rfl
 subst hgs
 have hvt:s.plain.varTypes P=[]:=by simp[ChangeSpec.plain,DataSpec.varTypes,hvars]
 rw[hvt,List.append_nil,List.append_nil]at hsz
 have hsz':∀n∈DataW.weightsEach P fn.params.toList ds,n≤reachBytes:=by
  intro n hn
  simpa using List.all_eq_true.1 hsz n hn
 have key:=fun (W':World) (hw:∀b,b<W.heap.size→W'.heap[b]? =W.heap[b]?)=>entryA hw tys fn.params.toList args.toList ds p hty (fun j t v h1 h2=>hval j t v (by simpa using h1) (by simpa using h2)) hA hsz'
 obtain⟨as_,i,r,_,_⟩:=key W fun _ _=>rfl
 have hc:=(main as_ i).2 W (fun _=>True) args.toList (hT W hX) r
 rw[show args.toList.toArray=args by simp]at hc
 refine Calls.mono hc fun e W' he=>?_
 cases e with
 |outgrown=>exact he.elim
 |panicked c=>exact he.elim
 |returned v=>
  obtain⟨hbel,us,G,rfl,hG,hGw,hrs⟩:=he
  obtain⟨_,_,_,hA',hlen⟩:=key W' fun b hb=>hbel.block b hb
  refine⟨_,rfl,?_⟩
  have hu:us=[.bool true]:=by
   cases us with
   |nil=>exact hrs.elim
   |cons u us=>
    obtain⟨G1,G2,h1,h2,_⟩:=hrs
    cases us with
    |cons _ _=>exact h2.elim
    |nil=>
     unfold ResV at h1
     simp only[Bool.false_eq_true,if_false,ResC,Rd]at h1
     rw[h1.2.1.1]
  subst hu
  have hsp:=hspec ds hlen
  refine⟨ds,[],p++q,[],p,[],hW',?_,?_,?_,hbel.frame _,fun h=>by cases h⟩
  ·rw[List.append_nil,hsp,hres]
   exact trodAll_mk1 (shut_bool hb _)
  ·rw[List.append_nil,hsp]
   exact hA'
  ·rw[List.append_nil,hsp,hvars]
   rfl
theorem law_contract(hT:∀w,TabW w){f:FuncId}{fn:Func}{s:ChangeSpec}{conds:List PathCond}{a:Assume}{tys:List DT}{tb:TypeId}(hty:K6b P tys fn.params.toList=true)(hvars:s.vars=[])(hres:fn.resultTypes= #[tb])(hb:P.underlying tb=some .bool)
  (hspec:∀ds:List (DataW H),ds.length=tys.length→s.fn H ds={results:=[.lit (.bool true)],args:=ds}) (main:∀as_,IsA tys as_→Ctr P f as_ [rB true]):
  ∀(W:World) (base:Nat) (args:Array Value) (ds gs:List (DataW H)) (before:List MemPlace),
   (∀(j:Nat) t v,fn.params[j]? =some t→args[j]? =some v→Value.okWide P W .any base t v)→
   DataW.Whole enc P fn.params.toList s.vars false W args.toList ds gs before→
   conds.all (PathCond.test P ⟨fn.params.toList,ds,s.plain.varTypes P,gs⟩)=true→
   (DataW.weightsEach P (fn.params.toList++s.plain.varTypes P) (ds++gs)).all (· ≤reachBytes)=true→
   a.holds P (lone (Frame.enter P f args .normal) [] W)→
   Calls P f args W fun e W'=>∃v,e= .returned v∧s.post enc P fn false true false false W args v W':=by
 exact fun W base args ds gs before hval hW hc hsz ha=>K90 (X:=fun _=>True) (fun _ _ w _=>hT w) hty hvars hres hb hspec main W base args ds gs before hval hW hc hsz trivial ha
end
end Go.Proofs.YtjneccbpkckdfaaGreatR
namespace Go.Proofs.YtjneccbpkckdfaaGreatR
open Go Go.RowKit Go.Proofs
theorem tlw_finals : "finals".toList = ['f', 'i', 'n', 'a', 'l', 's'] := String.toList_ofList
theorem K8q : "reflectrows".toList = ['r', 'e', 'f', 'l', 'e', 'c', 't', 'r', 'o', 'w', 's'] := String.toList_ofList
theorem Kb2 : "leanrows".toList = ['l', 'e', 'a', 'n', 'r', 'o', 'w', 's'] := String.toList_ofList
theorem Kb3 : "onebuild".toList = ['o', 'n', 'e', 'b', 'u', 'i', 'l', 'd'] := String.toList_ofList
theorem K98 : "publicsums".toList = ['p', 'u', 'b', 'l', 'i', 'c', 's', 'u', 'm', 's'] := String.toList_ofList
theorem Kbj : "eqguard".toList = ['e', 'q', 'g', 'u', 'a', 'r', 'd'] := String.toList_ofList
theorem Ka9 : "ownunsafe".toList = ['o', 'w', 'n', 'u', 'n', 's', 'a', 'f', 'e'] := String.toList_ofList
theorem Ka7 : "libbeside".toList = ['l', 'i', 'b', 'b', 'e', 's', 'i', 'd', 'e'] := String.toList_ofList
theorem Ka8 : "ownbeside".toList = ['o', 'w', 'n', 'b', 'e', 's', 'i', 'd', 'e'] := String.toList_ofList
theorem K99 : "reflbeside".toList = ['r', 'e', 'f', 'l', 'b', 'e', 's', 'i', 'd', 'e'] := String.toList_ofList
theorem Kbi : "aliases".toList = ['a', 'l', 'i', 'a', 's', 'e', 's'] := String.toList_ofList
theorem Ka5 : "afterinit".toList = ['a', 'f', 't', 'e', 'r', 'i', 'n', 'i', 't'] := String.toList_ofList
theorem Kb1 : "crcplain".toList = ['c', 'r', 'c', 'p', 'l', 'a', 'i', 'n'] := String.toList_ofList
theorem K9a : "roadunsafe".toList = ['r', 'o', 'a', 'd', 'u', 'n', 's', 'a', 'f', 'e'] := String.toList_ofList
theorem Ka6 : "fmthandon".toList = ['f', 'm', 't', 'h', 'a', 'n', 'd', 'o', 'n'] := String.toList_ofList
theorem tlw_gc : "gc".toList = ['g', 'c'] := String.toList_ofList
theorem Kb4 : "spec".toList = ['s', 'p', 'e', 'c'] := String.toList_ofList
theorem K7m : "carried".toList = ['c', 'a', 'r', 'r', 'i', 'e', 'd'] := String.toList_ofList
theorem K7a : "cut".toList = ['c', 'u', 't'] := String.toList_ofList
theorem tlw_stop : "stop".toList = ['s', 't', 'o', 'p'] := String.toList_ofList
theorem Kbk : "harness".toList = ['h', 'a', 'r', 'n', 'e', 's', 's'] := String.toList_ofList
def Cut(P:Program):Prop:=∃r,behindMainWord (wordsSigns P.initOrder.toList)=['c','u','t']::r
theorem K9x(r:List (List Char)):stripLifts liftWords (['c','u','t']::r)=([],['c','u','t']::r):=by
 simp only[liftWords,stripLifts,tlw_finals,K8q,Kb2,Kb3,K98,Kbj,Ka9,Ka7,Ka8,K99,Kbi,Ka5,Kb1,K9a,Ka6]
 rfl
theorem behind_of(s:List Char)(hs:isSumSigns s=true)(r:List (List Char)):behindMainWord (['h','a','r','n','e','s','s']::s::r)=r:=by
 unfold behindMainWord
 simp[hs,Kbk]
theorem may_of{P:Program}(h:Cut P)(h1:P.laysLater=false)(h2:P.bearsReflect=false)(h3:P.doorRows=[]):P.mayEnter=true:=by
 obtain⟨r,h⟩:=h
 have h4:P.doorFits []=true:=by
  unfold Program.doorFits
  rw[h3]
  rfl
 unfold Program.mayEnter
 rw[h]
 simp only[K9x,tlw_gc,Kb4,K7m,K7a,tlw_stop,h1,h2,h4]
 rfl
theorem hea_of{P:Program}(h:Cut P):P.headLifts=[]:=by
 obtain⟨r,h⟩:=h
 unfold Program.headLifts
 rw[h]
 simp only[K9x,K7a]
 rfl
theorem lif_of{P:Program}(h:Cut P):P.liftsFinal=false:=by
 have hh:=hea_of h
 obtain⟨r,h⟩:=h
 unfold Program.liftsFinal
 rw[h,hh]
 simp only[K7m,tlw_gc,K7a]
 rfl
theorem mak_of{P:Program}(h:Cut P):P.make=some .cut:=by
 obtain⟨r,h⟩:=h
 unfold Program.make
 rw[h]
 simp only[tlw_gc,Kb4,K7a]
 rfl
theorem cut_of{P:Program}(s a b:List Char)(h:P.initOrder=String.ofList (a++b))(h2:∀r,wordsSigns (a++r)=['h','a','r','n','e','s','s']::s::['c','u','t']::wordsSigns r)(hs:isSumSigns s=true):Cut P:=
 ⟨wordsSigns b,by rw[h,String.toList_ofList,h2,behind_of s hs]⟩
end Go.Proofs.YtjneccbpkckdfaaGreatR
namespace Go.Proofs.YtjneccbpkckdfaaGreatR
open Go Go.RowKit
section
variable {P:Program}
theorem wpR_run{L:St→Prop}:∀ {ms:List MOp} {σ:St},wpR P ms σ L→∃τ,L τ∧∀L':St→Prop,L' τ→wpR P ms σ L'
 | [],σ,h=>⟨σ,h,fun _ h=>h⟩
 |m::ms,σ,h=>by
  obtain⟨e,h1,h2⟩:=h
  obtain⟨τ,h3,h4⟩:=wpR_run h2
  exact⟨τ,h3,fun L' h=>⟨e,h1,h4 L' h⟩⟩
theorem K9d{L:St→Prop}:∀ {ms:List MOp} {σ:St},wpD P ms σ L→∃τ,L τ∧∀L':St→Prop,L' τ→wpD P ms σ L'
 | [],σ,h=>⟨σ,h,fun _ h=>h⟩
 |m::ms,σ,h=>by
  obtain⟨e,h1,h2,h3⟩:=h
  obtain⟨τ,h4,h5⟩:=K9d h3
  exact⟨τ,h4,fun L' h=>⟨e,h1,h2,h5 L' h⟩⟩
theorem wpC_run:∀ {M:MC} {Q:Xt→St→Prop} {σ:St},M.det=true→wpC P M Q σ→(∃x τ,Q x τ∧∀Q':Xt→St→Prop,Q' x τ→wpC P M Q' σ)∨∀Q':Xt→St→Prop,wpC P M Q' σ:=by
 intro M
 induction M with
 |skip=>intro Q σ _ h;exact .inl ⟨.nrm,σ,h,fun _ h=>h⟩
 |reg ms keep=>
  intro Q σ _ h
  obtain⟨τ,h1,h2⟩:=wpR_run h
  by_cases hb:bdC τ ms
  ·exact .inl ⟨.nrm,τ.only keep,h1 hb,fun Q' h=>h2 _ fun _=>h⟩
  ·exact .inr fun Q'=>h2 _ fun h=>(hb h).elim
 |dreg ms keep=>
  intro Q σ _ h
  obtain⟨τ,h1,h2⟩:=K9d h
  by_cases hb:bdC τ ms
  ·exact .inl ⟨.nrm,τ.only keep,h1 hb,fun Q' h=>h2 _ fun _=>h⟩
  ·exact .inr fun Q'=>h2 _ fun h=>(hb h).elim
 |dregI ms keep=>
  intro Q σ _ h
  obtain⟨h0,h⟩:=h
  obtain⟨τ,h1,h2⟩:=K9d h
  by_cases hb:bdC τ ms
  ·exact .inl ⟨.nrm,τ.only keep,h1 hb,fun Q' h=>⟨h0,h2 _ fun _=>h⟩⟩
  ·exact .inr fun Q'=>⟨h0,h2 _ fun h=>(hb h).elim⟩
 |seq a b iha ihb=>
  intro Q σ hd h
  simp only[MC.det,Bool.and_eq_true]at hd
  rcases iha hd.1 h with ⟨x,τ,h1,h2⟩|h2
  rotate_left
  ·exact .inr fun Q'=>h2 _
  cases x with
  |nrm=>
   rcases ihb hd.2 h1 with ⟨x,τ',h3,h4⟩|h4
   ·exact .inl ⟨x,τ',h3,fun Q' h=>h2 _ (h4 Q' h)⟩
   ·exact .inr fun Q'=>h2 _ (h4 Q')
  |ex id=>exact .inl ⟨.ex id,τ,h1,fun Q' h=>h2 _ h⟩
  |ret=>exact .inl ⟨.ret,τ,h1,fun Q' h=>h2 _ h⟩
 |cond c a b iha ihb=>
  intro Q σ hd h
  simp only[MC.det,Bool.and_eq_true]at hd
  obtain⟨t,ht,h1,h2⟩:=h
  cases t with
  |true=>
   rcases iha hd.1 (h1 rfl)with ⟨x,τ,h3,h4⟩|h4
   ·exact .inl ⟨x,τ,h3,fun Q' h=>⟨true,ht,fun _=>h4 Q' h,fun e=>(Bool.noConfusion e)⟩⟩
   ·exact .inr fun Q'=>⟨true,ht,fun _=>h4 Q',fun e=>(Bool.noConfusion e)⟩
  |false=>
   rcases ihb hd.2 (h2 rfl)with ⟨x,τ,h3,h4⟩|h4
   ·exact .inl ⟨x,τ,h3,fun Q' h=>⟨false,ht,fun e=>(Bool.noConfusion e),fun _=>h4 Q' h⟩⟩
   ·exact .inr fun Q'=>⟨false,ht,fun e=>(Bool.noConfusion e),fun _=>h4 Q'⟩
 |block id a ih=>
  intro Q σ hd h
  rcases ih hd h with ⟨x,τ,h1,h2⟩|h2
  rotate_left
  ·exact .inr fun Q'=>h2 _
  cases x with
  |nrm=>exact .inl ⟨.nrm,τ,h1,fun Q' h=>h2 _ h⟩
  |ret=>exact .inl ⟨.ret,τ,h1,fun Q' h=>h2 _ h⟩
  |ex i=>
   simp only at h1
   by_cases hi:i=id
   ·rw[if_pos hi]at h1
    exact .inl ⟨.nrm,τ,h1,fun Q' h=>h2 _ (by simp only;rw[if_pos hi];exact h)⟩
   ·rw[if_neg hi]at h1
    exact .inl ⟨.ex i,τ,h1,fun Q' h=>h2 _ (by simp only;rw[if_neg hi];exact h)⟩
 |loop keep a ih=>
  intro Q σ hd h
  obtain⟨n,S,hn,h0,hS⟩:=h
  have key:∀i,i≤n→(∃k,k<i∧(∀j,j<k→∃τ,(τ.lo keep).re=some (S (j+1))∧∀Q':Xt→St→Prop,Q' .nrm τ→wpC P a Q' (S j))∧
    ((∃x τ,x≠ .nrm∧Q x τ∧∀Q':Xt→St→Prop,Q' x τ→wpC P a Q' (S k))∨∀Q':Xt→St→Prop,wpC P a Q' (S k)))∨
    (∀j,j<i→j+1<n∧∃τ,(τ.lo keep).re=some (S (j+1))∧∀Q':Xt→St→Prop,Q' .nrm τ→wpC P a Q' (S j)):=by
   intro i
   induction i with
   |zero=>intro _;exact .inr fun j hj=>by omega
   |succ i ihi=>
    intro hi
    rcases ihi (by omega)with ⟨k,hk,h1,h2⟩|hall
    ·exact .inl ⟨k,by omega,h1,h2⟩
    ·have hnr:∀j,j<i→∃τ,(τ.lo keep).re=some (S (j+1))∧∀Q':Xt→St→Prop,Q' .nrm τ→wpC P a Q' (S j):=fun j hj=>(hall j hj).2
     rcases ih hd (hS i (by omega))with ⟨x,τ,h1,h2⟩|h2
     ·cases x with
      |nrm=>
       right
       intro j hj
       by_cases hji:j=i
       ·subst hji;exact⟨h1.1,τ,h1.2,h2⟩
       ·exact hall j (by omega)
      |ex id=>exact .inl ⟨i,by omega,hnr,.inl ⟨.ex id,τ,by simp,h1,h2⟩⟩
      |ret=>exact .inl ⟨i,by omega,hnr,.inl ⟨.ret,τ,by simp,h1,h2⟩⟩
     ·exact .inl ⟨i,by omega,hnr,.inr h2⟩
  rcases key n (Nat.le_refl _)with ⟨k,hk,h1,h2⟩|hall
  ·rcases h2 with ⟨x,τ,hx,h3,h4⟩|h4
   ·refine .inl ⟨x,τ,h3,fun Q' h=>⟨k+1,S,by omega,h0,fun j hj=>?_⟩⟩
    by_cases hjk:j=k
    ·subst hjk
     refine h4 _ ?_
     cases x with
     |nrm=>exact(hx rfl).elim
     |ex id=>exact h
     |ret=>exact h
    ·obtain⟨τ',e1,e2⟩:=h1 j (by omega)
     exact e2 _ ⟨by omega,e1⟩
   ·refine .inr fun Q'=>⟨k+1,S,by omega,h0,fun j hj=>?_⟩
    by_cases hjk:j=k
    ·subst hjk;exact h4 _
    ·obtain⟨τ',e1,e2⟩:=h1 j (by omega)
     exact e2 _ ⟨by omega,e1⟩
  ·have:=(hall (n-1) (by omega)).1
   omega
 |exit id=>intro Q σ _ h;exact .inl ⟨.ex id,σ,h,fun _ h=>h⟩
 |ret=>intro Q σ _ h;exact .inl ⟨.ret,σ,h,fun _ h=>h⟩
 |condN d1 d2 x a b iha ihb=>intro Q σ hd;simp[MC.det]at hd
 |ren ps a ih=>
  intro Q σ hd h
  obtain⟨τ,h1,h2⟩:=h
  rcases ih hd h2 with ⟨x,τ',h3,h4⟩|h4
  ·exact .inl ⟨x,τ',h3,fun Q' h=>⟨τ,h1,h4 Q' h⟩⟩
  ·exact .inr fun Q'=>⟨τ,h1,h4 Q'⟩
 |trim d a ih=>
  intro Q σ hd h
  obtain⟨τ,h1,h2⟩:=h
  rcases ih hd h2 with ⟨x,τ',h3,h4⟩|h4
  ·exact .inl ⟨x,τ',h3,fun Q' h=>⟨τ,h1,h4 Q' h⟩⟩
  ·exact .inr fun Q'=>⟨τ,h1,h4 Q'⟩
 |dead=>intro Q σ _ h;exact h.elim
structure ExK {Y:Type} (Q:Y→Prop) (K:Y→Xt→St→Prop) (x:Xt) (σ:St):Prop where
 ex:∃y,Q y∧K y x σ
theorem K8{Y:Type}{Q:Y→Prop}{K:Y→Xt→St→Prop}{x:Xt}{σ:St}(y:Y)(h:Q y)(k:K y x σ):ExK Q K x σ:=⟨⟨y,h,k⟩⟩
theorem wpC_ex{Y:Type}{Q:Y→Prop}{K:Y→Xt→St→Prop}{M:MC}{σ:St}(hd:M.det=true)(y0:Y)(h0:Q y0)(h:wpC P M (ExK Q K) σ):∃y,Q y∧wpC P M (K y) σ:=by
 rcases wpC_run hd h with ⟨x,τ,⟨⟨y,h1,h2⟩⟩,h3⟩|h3
 ·exact⟨y,h1,h3 _ h2⟩
 ·exact⟨y0,h0,h3 _⟩
variable {res:List (MR×List Bool)}
theorem K8u{Y:Type}{Q:Y→Prop}{rs:Y→List RV}{f:FuncId}{fn:Func}{c:Code}{args:List (Bool×List T)}{M:MC}{m n:Nat}(hd:M.det=true)(hmix:P.follows .mixedOrders=true)(hf:P.funcs[f]? =some fn)(hb:fn.body=some c)
  (hname : (fn.name == "runtime.NumGoroutine") = false) (hnt : fn.ntmps = n) (hc : chkC P c M = true) (hres : K1b P fn.results.toList (res.map (·.1)) = true) (hn : args.length ≤ n) (y0 : Y) (h0 : Q y0)
  (h:bdA args→wpC P M (ExK Q fun y=>kF res (rs y)) (startS args n m)):∃y,Q y∧Ctr P f args (rs y):=by
 by_cases hbd:bdA args
 ·obtain⟨y,h1,h2⟩:=wpC_ex hd y0 h0 (h hbd)
  exact⟨y,h1,ctr_at hmix hf hb hname hnt hc hres hn fun _=>h2⟩
 ·exact⟨y0,h0,ctr_at (m:=m) hmix hf hb hname hnt hc hres hn fun h=>(hbd h).elim⟩
theorem K13{Y:Type}{Q:Y→Prop}{cs':Y→List T}{rs:Y→List RV}{f:FuncId}{fn:Func}{c:Code}{cs:List T}{args:List (Bool×List T)}{M:MC}{m n:Nat}(hd:M.det=true)(hmix:P.follows .mixedOrders=true)(hf:P.funcs[f]? =some fn)(hb:fn.body=some c)
  (hname : (fn.name == "runtime.NumGoroutine") = false) (hnt : fn.ntmps = n) (hc : chkC P c M = true) (hres : K1b P fn.results.toList (res.map (·.1)) = true) (hn : args.length + 1 ≤ n) (y0 : Y) (h0 : Q y0)
  (h:bdL cs→bdA args→wpC P M (ExK Q fun y=>kV res (cs' y) (rs y)) (startB cs args n m)):∃y,Q y∧CtrB P f cs args (cs' y) (rs y):=by
 by_cases hbd:bdL cs∧bdA args
 ·obtain⟨y,h1,h2⟩:=wpC_ex hd y0 h0 (h hbd.1 hbd.2)
  exact⟨y,h1,ctrB_at hmix hf hb hname hnt hc hres hn fun _ _=>h2⟩
 ·exact⟨y0,h0,ctrB_at (m:=m) hmix hf hb hname hnt hc hres hn fun h1 h2=>(hbd ⟨h1,h2⟩).elim⟩
def endN(σ:St)(k:Nat)(cs':List T):Prop:=match σ.get k with
 |.adr (.bx id ver 0)=>match σ.ob id with
  |⟨v,.box cs⟩=>v=ver∧frzL cs=some cs'
  |_=>False
 |_=>False
def kN(k:Nat)(cs':List T)(x:Xt)(σ:St):Prop:=(x= .nrm∨x= .ret)∧endN σ k cs'
@[go_sem] theorem kN_nrm {k:Nat} {cs':List T} {σ:St}:kN k cs' .nrm σ=endN σ k cs':=by simp[kN]
@[go_sem] theorem kN_ret {k:Nat} {cs':List T} {σ:St}:kN k cs' .ret σ=endN σ k cs':=by simp[kN]
attribute [go_sem] endN
theorem ctrN_of{f:FuncId}{fn:Func}{c:Code}{args:List (Bool×List T)}{cs':List T}{M:MC}{m k:Nat}(hmix:P.follows .mixedOrders=true)(hf:P.funcs[f]? =some fn)(hb:fn.body=some c)
  (hname : (fn.name == "runtime.NumGoroutine") = false) (hc : chkC P c M = true) (hres : fn.results.toList = [.tmp k]) (hn : args.length ≤ fn.ntmps)
  (h:bdA args→wpC P M (kN k cs') (startS args fn.ntmps m)):CtrN P f args cs':=by
 refine⟨⟨fn,hf,by simp[hb],hname⟩,fun w X vs htab hargs=>calls_of_wp hf hb ?_⟩
 refine K52 hmix (a:=⟨vs.toArray++Array.replicate (fn.ntmps-vs.toArray.size) undef,[]⟩) hc (K9w htab hargs hn) (h hargs.bd_) fun x σ' a' w' g' hq hd R'=>?_
 obtain⟨hx,hend⟩:=hq
 unfold endN at hend
 split at hend
 rotate_left
 ·exact hend.elim
 rename_i id ver hslot
 split at hend
 rotate_left
 ·exact hend.elim
 rename_i v cs hob
 obtain⟨rfl,hfr⟩:=hend
 rw[K45]at hfr
 have hS:=R'.slot k
 rw[hslot]at hS
 simp only[SlotR,AdR]at hS
 obtain⟨_,b,hH,hv⟩:=hS
 have hO:=R'.obj id
 rw[hob]at hO
 simp only[ObjR]at hO
 obtain⟨b2,ty2,us2,hH2,hcell,hcr,hF⟩:=hO
 rw[hH]at hH2
 obtain rfl:b2=b:=by simpa using hH2.symm
 have hbF:b2∈g'.F id:=by rw[hF];simp
 have hnew:w.heap.size≤b2:=Nat.le_of_not_lt (R'.frs id b2 hbF).1
 have hrun:(fn.results.toList.mapM (resF a'.tmps)).run P w'= .ok [.pointer (some ⟨b2,0,none⟩)] w':=by
  rw[hres]
  simp only[List.mapM_cons,List.mapM_nil,resF,hv]
  rfl
 have hY:∀j,j<w'.heap.size→Xe g' j→(j<w.heap.size→X j)∧j≠b2:=fun j _ hj=>by
  refine⟨fun hlt=>?_,fun e=>hj.2 id (e▸hbF)⟩
  have hz:=hj.1
  rw[R'.zz]at hz
  exact Classical.not_not.1 fun hx=>hz ⟨hlt,hx⟩
 have key:a'.defers=[]∧∃v,(results fn a'.tmps).run P w'= .ok v w'∧Below w.heap.size w w'∧∃nb us ty,w.heap.size≤nb∧w'.heap[nb]? =some (.cells us.toArray ty (0,0))∧RdL w' (fun k=>(k<w.heap.size→X k)∧k≠nb) cs' us∧v= .pointer (some ⟨nb,0,none⟩):=
  ⟨hd,_,K3o hrun,R'.grew.below,b2,us2,ty2,hnew,hcell,K3g hY (K8c hcr hfr),rfl⟩
 rcases hx with rfl|rfl
 ·exact key
 ·exact key
theorem ctrN_at{f:FuncId}{fn:Func}{c:Code}{args:List (Bool×List T)}{cs':List T}{M:MC}{m k n:Nat}(hmix:P.follows .mixedOrders=true)(hf:P.funcs[f]? =some fn)(hb:fn.body=some c)
  (hname : (fn.name == "runtime.NumGoroutine") = false) (hnt : fn.ntmps = n) (hc : chkC P c M = true) (hres : fn.results.toList = [.tmp k]) (hn : args.length ≤ n)
  (h:bdA args→wpC P M (kN k cs') (startS args n m)):CtrN P f args cs':=by
 subst hnt
 exact ctrN_of hmix hf hb hname hc hres hn h
theorem ctrNX_at{Y:Type}{Q:Y→Prop}{cs':Y→List T}{f:FuncId}{fn:Func}{c:Code}{args:List (Bool×List T)}{M:MC}{m k n:Nat}(hd:M.det=true)(hmix:P.follows .mixedOrders=true)(hf:P.funcs[f]? =some fn)(hb:fn.body=some c)
  (hname : (fn.name == "runtime.NumGoroutine") = false) (hnt : fn.ntmps = n) (hc : chkC P c M = true) (hres : fn.results.toList = [.tmp k]) (hn : args.length ≤ n) (y0 : Y) (h0 : Q y0)
  (h:bdA args→wpC P M (ExK Q fun y=>kN k (cs' y)) (startS args n m)):∃y,Q y∧CtrN P f args (cs' y):=by
 by_cases hbd:bdA args
 ·obtain⟨y,h1,h2⟩:=wpC_ex hd y0 h0 (h hbd)
  exact⟨y,h1,ctrN_at hmix hf hb hname hnt hc hres hn fun _=>h2⟩
 ·exact⟨y0,h0,ctrN_at (m:=m) hmix hf hb hname hnt hc hres hn fun h=>(hbd h).elim⟩
end
end Go.Proofs.YtjneccbpkckdfaaGreatR
