/- A pure semantics of the program's operations over trees, proved against the model. No condition. -/
import Derived.DeepKeys
import Derived.Laws.StructEq
import Derived.Orders
import Derived.LoopN
import Derived.Test.YtjneccbpkckdfaaGreatRFnDisksa
set_option linter.unusedVariables false
set_option linter.unusedSimpArgs false
namespace Go.Proofs.YtjneccbpkckdfaaGreatR
open Go Go.RowKit
def isD(d:Option Tmp)(k:Nat):Bool:=match d with
 |some t=>t==k
 |none=>false
theorem Kc{d:Option Tmp}{k:Nat}(h:isD d k=true):d=some k:=by
 unfold isD at h
 split at h
 ·rw[beq_iff_eq.1 h]
 ·simp at h
def tyB(P:Program)(t:TypeId)(agg:Bool)(n:Nat):Bool:=match P.info? t,P.underlying t with
 |some i,some d=>aggD d==agg&&i.size==n
 |_,_=>false
theorem K4n{P:Program}{t:TypeId}{agg:Bool}{n:Nat}(h:tyB P t agg n=true):Ty P t agg n:=by
 unfold tyB at h
 split at h
 ·rename_i i d h1 h2
  simp only[Bool.and_eq_true,beq_iff_eq]at h
  exact⟨i,d,h1,h2,h.1,h.2⟩
 ·simp at h
def K2u(P:Program)(t:TypeId):Option TypeId:=match P.underlying t with
 |some (.slice e)=>some e
 |_=>none
theorem K2c{P:Program}{t e:TypeId}(h:K2u P t=some e):P.underlying t=some (.slice e):=by
 unfold K2u at h
 split at h<;>simp at h
 subst h;assumption
def slB(P:Program)(t:TypeId)(sz:Nat):Bool:=match (K2u P t).bind P.info? with
 |some i=>i.size==sz
 |none=>false
theorem slB_ok{P:Program}{t:TypeId}{sz:Nat}(h:slB P t sz=true):∃e i,P.underlying t=some (.slice e)∧P.info? e=some i∧i.size=sz:=by
 unfold slB at h
 split at h
 ·rename_i i hi
  obtain⟨e,h1,h2⟩:=Option.bind_eq_some_iff.1 hi
  exact⟨e,i,K2c h1,h2,beq_iff_eq.1 h⟩
 ·simp at h
def elB(P:Program)(t:TypeId)(sz bytes:Nat):Bool:=match (K2u P t).bind P.info? with
 |some i=>i.size==sz&&i.bytes==bytes&&decide (1≤bytes)&&(match i.zero with|some z=>z.cells.size==sz|none=>false)
 |none=>false
theorem elB_ok{P:Program}{t:TypeId}{sz bytes:Nat}(h:elB P t sz bytes=true):∃e,El P t e sz bytes:=by
 unfold elB at h
 split at h
 ·rename_i i hi
  obtain⟨e,h1,h2⟩:=Option.bind_eq_some_iff.1 hi
  simp only[Bool.and_eq_true,beq_iff_eq,decide_eq_true_eq]at h
  obtain⟨⟨⟨a1,a2⟩,a3⟩,a4⟩:=h
  split at a4
  ·rename_i z hz
   exact⟨e,i,z,K2c h1,h2,a1,a2,a3,hz,beq_iff_eq.1 a4⟩
  ·simp at a4
 ·simp at h
def K8z:Option TypeDesc→Bool
 |some .bool=>true
 |_=>false
theorem isBoolT_ok{d:Option TypeDesc}(h:K8z d=true):d=some .bool:=by
 unfold K8z at h
 split at h<;>simp_all
def K5l:Option TypeDesc→Bool
 |some .string=>true
 |_=>false
theorem K4t{d:Option TypeDesc}(h:K5l d=true):d=some .string:=by
 unfold K5l at h
 split at h<;>simp_all
def K8h(k:IntKind):Option TypeDesc→Bool
 |some (.int k')=>k'==k
 |_=>false
theorem K9q{k:IntKind}{d:Option TypeDesc}(h:K8h k d=true):d=some (.int k):=by
 unfold K8h at h
 split at h
 ·rw[beq_iff_eq.1 h]
 ·simp at h
def K2g:List Operand→List Nat→Bool
 | [],[]=>true
 |.tmp t::l,k::m=>t==k&&K2g l m
 |_,_=>false
theorem K5x:∀ {l:List Operand} {m:List Nat},K2g l m=true→l=m.map .tmp
 | [],[],_=>rfl
 |.tmp t::l,k::m,h=>by
  simp only[K2g,Bool.and_eq_true,beq_iff_eq]at h
  simp[h.1,K5x h.2]
 | [],_::_,h=>by simp[K2g]at h
 |.const _::_,_,h=>by simp[K2g]at h
 |.global _::_,_,h=>by simp[K2g]at h
 |.func _::_,_,h=>by simp[K2g]at h
 |.tmp _::_,[],h=>by simp[K2g]at h
def K8g:Option TypeDesc→Bool
 |some (.struct _)=>true
 |some (.array _ _)=>true
 |_=>false
def flatF(P:Program)(K:TypeId→Option (List KK)):List Field→Nat→Option (List KK)
 | [],_=>some []
 |f::fs,off=>if f.offset=off then(K f.type).bind fun l=>if l.length=P.cellsOf f.type then(flatF P K fs (off+l.length)).map (l++ ·)else none else none
def repK(l:List KK):Nat→List KK
 |0=>[]
 |n+1=>l++repK l n
def flatK(P:Program):Nat→TypeId→Option (List KK)
 |0,_=>none
 |d+1,t=>match P.underlying t with
  |some .bool=>some [.b]
  |some (.int k)=>some [.i k]
  |some .string=>some [.s]
  | some (.struct fs) => if fs.all (·.name != "_") = true then (flatF P (flatK P d) fs.toList 0).bind fun l => if l.length = P.cellsOf t then some l else none else none
  |some (.array n e)=>(flatK P d e).bind fun l=>if l.length=P.cellsOf e∧(repK l n).length=P.cellsOf t then some (repK l n)else none
  |_=>none
def K41:Value→Lit
 |.int k n=> .int k n
 |.bool b=> .bool b
 |.string s=> .string s.data.toList
 |_=> .bool false
def confK:KK→Value→Prop
 |.i k,.int k' _=>k'=k
 |.b,.bool _=>True
 |.s,.string _=>True
 |_,_=>False
def conf:List KK→List Value→Prop
 | [],[]=>True
 |k::ks,v::vs=>(confK k v∧wfB v=true)∧conf ks vs
 |_,_=>False
theorem K3e:∀ {ks:List KK} {vs:List Value},conf ks vs→ks.length=vs.length
 | [],[],_=>rfl
 |_::_,_::_,h=>by simp[K3e h.2]
 | [],_::_,h=>h.elim
 |_::_,[],h=>h.elim
theorem K7p:∀ {k1 k2:List KK} {vs:List Value},conf (k1++k2) vs→conf k1 (vs.take k1.length)∧conf k2 (vs.drop k1.length)
 | [],_,_,h=>⟨by simp[conf],by simpa using h⟩
 |k::k1,k2,v::vs,h=>by
  obtain⟨h1,h2⟩:=K7p (k1:=k1) h.2
  exact⟨⟨h.1,h1⟩,by simpa using h2⟩
 |_::_,_,[],h=>h.elim
theorem K4u{P:Program}:∀(D:Nat) (t:TypeId) (ks:List KK) (vs:List Value),flatK P D t=some ks→conf ks vs→P.keyLits D t vs=some (vs.map K41)
 |0,_,_,_,h,_=>by simp[flatK]at h
 |D+1,t,ks,vs,h,hc=>by
  have one:∀k,ks=[k]→conf ks vs→∃v,vs=[v]∧confK k v∧wfB v=true:=by
   intro k e hc
   subst e
   cases vs with
   |nil=>exact hc.elim
   |cons v vs=>
    cases vs with
    |nil=>exact⟨v,rfl,hc.1⟩
    |cons _ _=>exact hc.2.elim
  unfold flatK at h
  unfold Program.keyLits
  cases hu:P.underlying t with
  |none=>simp[hu]at h
  |some kd=>
   cases kd<;>simp only[hu]at h<;>(try (simp at h;done))
   case bool=>
    simp only[Option.some.injEq]at h
    obtain⟨v,rfl,h1,h2⟩:=one .b h.symm hc
    cases v<;>simp only[confK]at h1
    rfl
   case int k=>
    simp only[Option.some.injEq]at h
    obtain⟨v,rfl,h1,h2⟩:=one (.i k) h.symm hc
    cases v<;>simp only[confK]at h1
    subst h1
    simp only[K41,List.map_cons,List.map_nil,true_and]
    rw[if_pos (show(Lit.int _ _).wf=true from h2)]
   case string=>
    simp only[Option.some.injEq]at h
    obtain⟨v,rfl,h1,h2⟩:=one .s h.symm hc
    cases v<;>simp only[confK]at h1
    simp only[wfB,decide_eq_true_eq]at h2
    simp only
    rw[if_pos (by unfold Go.maxLen;omega)]
    rfl
   case array n e=>
    obtain⟨l,hl,h⟩:=Option.bind_eq_some_iff.1 h
    obtain⟨⟨h1,h2⟩,h⟩:=Option.ite_none_right_eq_some.1 h
    simp only[Option.some.injEq]at h
    subst h
    have hlen:=K3e hc
    simp only
    rw[if_pos (by omega)]
    have key:∀(m:Nat) (s:Nat) (us:List Value),conf (repK l m) us→(∀i,i<m*l.length→us[i]? =vs[s*l.length+i]?)→
      ((List.range' s m).mapM fun i=>P.keyLits D e ((vs.drop (i*P.cellsOf e)).take (P.cellsOf e))).map List.flatten=some (us.map K41):=by
     intro m
     induction m with
     |zero=>
      intro s us hc _
      cases us with
      |nil=>simp
      |cons _ _=>exact hc.elim
     |succ m ih=>
      intro s us hc hv
      obtain⟨c1,c2⟩:=K7p hc
      have hlen:=K3e hc
      simp only[repK,List.length_append]at hlen
      have e1:(vs.drop (s*P.cellsOf e)).take (P.cellsOf e)=us.take l.length:=by
       rw[←h1]
       apply List.ext_getElem?
       intro i
       rw[List.getElem?_take,List.getElem?_take]
       split
       ·rename_i hi
        rw[List.getElem?_drop,hv i (by rw[Nat.add_mul];omega)]
       ·rfl
      have ih':=ih (s+1) (us.drop l.length) c2 (fun i hi=>by
       rw[List.getElem?_drop,hv (l.length+i) (by rw[Nat.add_mul];omega)]
       congr 1
       rw[Nat.add_mul];omega)
      rw[List.range'_succ,List.mapM_cons]
      have hd:=K4u D e l _ hl c1
      rw[e1,hd]
      simp only[Option.bind_eq_bind,Option.bind_some]
      obtain⟨as_,ha1,ha2⟩:=Option.map_eq_some_iff.1 ih'
      rw[ha1]
      simp only[Option.bind_some,Option.pure_def,Option.map_some,List.flatten_cons,ha2]
      rw[←List.map_append,List.take_append_drop]
    have:=key n 0 vs hc (fun i _=>by simp)
    rw[List.range_eq_range']
    exact this
   case struct fs=>
    obtain⟨hn,h⟩:=Option.ite_none_right_eq_some.1 h
    obtain⟨l,hl,h⟩:=Option.bind_eq_some_iff.1 h
    obtain⟨h1,h⟩:=Option.ite_none_right_eq_some.1 h
    simp only[Option.some.injEq]at h
    subst h
    have hlen:=K3e hc
    simp only
    rw[if_pos ⟨by omega,hn⟩]
    have key:∀(fl:List Field) (off:Nat) (ks:List KK) (us:List Value),flatF P (flatK P D) fl off=some ks→conf ks us→(∀i,i<ks.length→us[i]? =vs[off+i]?)→
      (fl.mapM fun f=>P.keyLits D f.type ((vs.drop f.offset).take (P.cellsOf f.type))).map List.flatten=some (us.map K41):=by
     intro fl
     induction fl with
     |nil=>
      intro off ks us h hc _
      simp only[flatF,Option.some.injEq]at h
      subst h
      cases us with
      |nil=>simp
      |cons _ _=>exact hc.elim
     |cons f fl ih=>
      intro off ks us h hc hv
      simp only[flatF]at h
      obtain⟨ho,h⟩:=Option.ite_none_right_eq_some.1 h
      obtain⟨l1,hl1,h⟩:=Option.bind_eq_some_iff.1 h
      obtain⟨hle,h⟩:=Option.ite_none_right_eq_some.1 h
      obtain⟨l2,hl2,rfl⟩:=Option.map_eq_some_iff.1 h
      obtain⟨c1,c2⟩:=K7p hc
      have hlen:=K3e hc
      simp only[List.length_append]at hlen hv
      have e1:(vs.drop f.offset).take (P.cellsOf f.type)=us.take l1.length:=by
       rw[←hle,ho]
       apply List.ext_getElem?
       intro i
       rw[List.getElem?_take,List.getElem?_take]
       split
       ·rename_i hi
        rw[List.getElem?_drop,hv i (by omega)]
       ·rfl
      have ih':=ih (off+l1.length) l2 (us.drop l1.length) hl2 c2 (fun i hi=>by
       rw[List.getElem?_drop,hv (l1.length+i) (by omega)]
       congr 1
       omega)
      rw[List.mapM_cons]
      have hd:=K4u D f.type l1 _ hl1 c1
      rw[e1,hd]
      simp only[Option.bind_eq_bind,Option.bind_some]
      obtain⟨as_,ha1,ha2⟩:=Option.map_eq_some_iff.1 ih'
      rw[ha1]
      simp only[Option.bind_some,Option.pure_def,Option.map_some,List.flatten_cons,ha2]
      rw[←List.map_append,List.take_append_drop]
    exact key fs.toList 0 l vs hl hc (fun i _=>by simp)
theorem K5y:∀ {ks:List KK} {us vs:List Value} {r:Bool},eqB ks us vs=some r→(∀u∈us,wfB u=true)→(∀v∈vs,wfB v=true)→conf ks us∧conf ks vs∧(r=true↔us.map K41=vs.map K41)
 |ks,us,vs,r,h,hu,hv=>by
  unfold eqB at h
  split at h
  ·simp only[Option.some.injEq]at h
   subst h;exact⟨trivial,trivial,by simp⟩
  ·obtain⟨⟨k1,k2⟩,h2⟩:=Option.ite_none_right_eq_some.1 h
   obtain⟨r',h',rfl⟩:=Option.map_eq_some_iff.1 h2
   obtain⟨c1,c2,c3⟩:=K5y h' (fun u hu'=>hu u (by simp[hu'])) (fun v hv'=>hv v (by simp[hv']))
   exact⟨⟨⟨k1,hu _ (by simp)⟩,c1⟩,⟨⟨k2,hv _ (by simp)⟩,c2⟩,by simp_all[K41]⟩
  ·obtain⟨r',h',rfl⟩:=Option.map_eq_some_iff.1 h
   obtain⟨c1,c2,c3⟩:=K5y h' (fun u hu'=>hu u (by simp[hu'])) (fun v hv'=>hv v (by simp[hv']))
   exact⟨⟨⟨trivial,hu _ (by simp)⟩,c1⟩,⟨⟨trivial,hv _ (by simp)⟩,c2⟩,by simp_all[K41]⟩
  ·obtain⟨r',h',rfl⟩:=Option.map_eq_some_iff.1 h
   obtain⟨c1,c2,c3⟩:=K5y h' (fun u hu'=>hu u (by simp[hu'])) (fun v hv'=>hv v (by simp[hv']))
   exact⟨⟨⟨trivial,hu _ (by simp)⟩,c1⟩,⟨⟨trivial,hv _ (by simp)⟩,c2⟩,by simp_all[K41,ByteArray.toList_eq]⟩
  ·simp at h
section
variable {P:Program} {base:Nat→Prop} {Z:ZZ} {w0 w:World} {σ:St} {g:Gh} {o:Oper} {a:Act}
theorem scas{V:Nat→Nat}:∀ {cs:List SC} {vs us:List Value},CellsR w V g cs vs→K1 (cs.map SC.sca)=some us→vs=us∧∀u∈us,wfB u=true
 | [],[],us,_,h=>by simp[K1]at h;subst h;exact⟨rfl,by simp⟩
 |c::cs,v::vs,us,hr,h=>by
  cases hs:c.sca with
  |none=>simp[K1,hs]at h
  |some u=>
   simp only[List.map_cons,hs,K1]at h
   obtain⟨l,hl,rfl⟩:=Option.map_eq_some_iff.1 h
   obtain⟨h1,h2⟩:=K67 hr.1 hs
   obtain⟨h3,h4⟩:=scas hr.2 hl
   refine⟨by rw[h1,h3],fun x hx=>?_⟩
   rcases List.mem_cons.1 hx with rfl|hx
   ·rw[←h1];exact K29 h2
   ·exact h4 x hx
 | [],_::_,_,hr,_=>hr.elim
 |_::_,[],_,hr,_=>hr.elim
theorem good_eqA(R:Rel base Z w0 w σ a.tmps g){d:Nat}{ne:Bool}{ks:List KK}{op:BinOp}{x y:Od}{x' y':Operand}{t u:TypeId}(hd:o.dst=some d)(ho:o.op= .binOp op t x' y' u)(hop:op=if ne then .neq else .eql)(hx:K3 x' x=true)(hy:K3 y' y=true)
  (hg:P.eqGuardType P.depth t=false) (hk:P.keyTypeAt 50 t=true) (hf:flatK P 50 t=some ks) (hag:K8g (P.underlying t)=true) {e:Ef} (he:eff (.eqA d ne ks x y) σ=some e):Good P o a base Z w0 w (σ.app e):=by
 simp only[eff]at he
 obtain⟨va,ha,he⟩:=Option.bind_eq_some_iff.1 he
 obtain⟨vb,hb,he⟩:=Option.bind_eq_some_iff.1 he
 obtain⟨us,hus,he⟩:=Option.bind_eq_some_iff.1 he
 obtain⟨vs,hvs,he⟩:=Option.bind_eq_some_iff.1 he
 obtain⟨⟨g1,g2⟩,he⟩:=Option.ite_none_right_eq_some.1 he
 obtain⟨r,hr,rfl⟩:=Option.map_eq_some_iff.1 he
 have h1:=R.ev hx
 have h2:=R.ev hy
 rw[K25 ha]at h1
 rw[K25 hb]at h2
 simp only[SlotR,ValR,g1,g2,if_true]at h1 h2
 obtain⟨ws,e1,h1⟩:=h1
 obtain⟨zs,e2,h2⟩:=h2
 obtain⟨rfl,w1⟩:=scas h1 hus
 obtain⟨rfl,w2⟩:=scas h2 hvs
 obtain⟨c1,c2,c3⟩:=K5y hr w1 w2
 have l1:=K4u 50 t ks ws hf c1
 have l2:=K4u 50 t ks zs hf c2
 have hlen:ks.length=P.cellsOf t:=by
  unfold flatK at hf
  unfold K8g at hag
  split at hag<;>simp only[*]at hf
  ·obtain⟨_,hf⟩:=Option.ite_none_right_eq_some.1 hf
   obtain⟨l,_,hf⟩:=Option.bind_eq_some_iff.1 hf
   obtain⟨h,hf⟩:=Option.ite_none_right_eq_some.1 hf
   simp only[Option.some.injEq]at hf
   rw[←hf];exact h
  ·obtain⟨l,_,hf⟩:=Option.bind_eq_some_iff.1 hf
   obtain⟨h,hf⟩:=Option.ite_none_right_eq_some.1 hf
   simp only[Option.some.injEq]at hf
   rw[←hf];exact h.2
  ·simp at hag
 have fm:∀vs:List Value,conf ks vs→Value.formed P t (.agg vs.toArray)=true:=by
  intro vs hc
  have:=K3e hc
  unfold K8g at hag
  unfold Value.formed
  split at hag<;>simp_all
 obtain⟨r',hrun,hiff⟩:=run_equalIn_deep 9950 50 t hk w 50 50 (.agg ws.toArray) (.agg zs.toArray) _ _ (fm ws c1) (fm zs c2) (by simpa[Value.cells]using l1) (by simpa[Value.cells]using l2)
 have hrr:r'=r:=by
  have:=hiff.trans c3.symm
  cases r<;>cases r'<;>simp_all
 subst hrr
 refine K18 R hd (v:= .bool (ne != r')) ?_ (K1s (K6x _))
 cases ne
 ·simp only[Bool.false_eq_true,if_false]at hop
  subst hop
  simp only[execOp,ho,e1,e2,Sem.run_bind,run_eqGuard_agg _ _ _ _ _ _ _ hg,Result.andThen_ok,run_eql_struct,hrun,Sem.run_pure]
  simp
 ·simp only[if_true]at hop
  subst hop
  simp only[execOp,ho,e1,e2,Sem.run_bind,run_eqGuard_agg _ _ _ _ _ _ _ hg,Result.andThen_ok,run_neq_struct,hrun,Sem.run_pure]
  simp
end
theorem good_sliA{base:Nat→Prop}{Z:ZZ}{w0 w:World}{σ:St}{g:Gh}{o:Oper}{a:Act}{P:Program}(R:Rel base Z w0 w σ a.tmps g){d n:Nat}{x:Od}{x':Operand}{t et:TypeId}{inf:TypeInfo}(hd:o.dst=some d)(ho:o.op= .slice t x' none none none)(hx:K3 x' x=true)
  (hu:P.underlying t=some (.array n et)) (hinf:P.info? et=some inf) (hsize:inf.size=1) {e:Ef} (he:eff (.sliA d n x) σ=some e):Good P o a base Z w0 w (σ.app e):=by
 simp only[eff]at he
 obtain⟨ad,had,he⟩:=Option.bind_eq_some_iff.1 he
 have hA:=R.adr hx had
 split at he
 rotate_left
 ·simp at he
 rename_i idb vb kb
 simp at he;subst he
 have hA0:=hA
 simp only[AdR]at hA
 obtain⟨h1,b,hH,hv⟩:=hA
 refine Ks R hd (s:=Instr.sliceAt t (a.eval x') none none none) (v:= .slice (some ⟨b,kb,none⟩) n n) (by simp[execOp,ho]) ?_ ?_
 ·simp[Instr.sliceAt,run_underlying hu,hv,Instr.sureAddr,Instr.sliceBounds,sizeOf,typeInfo,hinf,hsize,K19]
 ·simp only[SlotR]
  rw[hv]at hA0
  exact⟨b,hA0,rfl⟩
theorem K7k{P:Program}{w:World}{t el:TypeId}(hu:P.underlying t=some (.pointer el))(A:Option Addr)(d:Nat):(Op.equalIn (d+1) t (.pointer A) (.pointer none)).run P w= .ok A.isNone w:=by
 cases A<;>simp[Op.equalIn,run_underlying hu]
theorem good_nilp{base:Nat→Prop}{Z:ZZ}{w0 w:World}{σ:St}{g:Gh}{o:Oper}{a:Act}{P:Program}(R:Rel base Z w0 w σ a.tmps g){d:Nat}{ne:Bool}{x:Od}{x':Operand}{op:BinOp}{t el u:TypeId}(hd:o.dst=some d)(ho:o.op= .binOp op t x' (.const (.pointer none)) u)(hop:op=if ne then .neq else .eql)(hx:K3 x' x=true)
  (hu:P.underlying t=some (.pointer el)) {e:Ef} (he:eff (.nilp d ne x) σ=some e):Good P o a base Z w0 w (σ.app e):=by
 simp only[eff]at he
 have hE:=R.ev hx
 have key:∀A:Option Addr,a.eval x'= .pointer A→e=⟨some (d,.val false [.pl (.sc (.bool (A.isNone != ne)))]),[]⟩→Good P o a base Z w0 w (σ.app e):=by
  intro A hv hee
  subst hee
  have hn:a.eval (.const (.pointer none))= .pointer none:=rfl
  refine K18 R hd (v:= .bool (A.isNone != ne)) ?_ (K1s (K6x _))
  cases ne with
  |true=>
   simp only[if_true]at hop
   subst hop
   simp[execOp,ho,hv,hn,eqGuard,binOp,Op.equal,Op.maxDepth,K7k hu A 9999]
  |false=>
   simp only[Bool.false_eq_true,if_false]at hop
   subst hop
   simp[execOp,ho,hv,hn,eqGuard,binOp,Op.equal,Op.maxDepth,K7k hu A 9999]
 split at he
 ·rename_i i v k hs
  rw[hs]at hE
  simp only[SlotR,AdR]at hE
  obtain⟨_,b,_,hv⟩:=hE
  refine key _ hv ?_
  simp at he
  rw[←he]
  cases ne<;>rfl
 ·rename_i hs
  rw[hs]at hE
  simp only[SlotR,ValR,Bool.false_eq_true,if_false]at hE
  obtain⟨c,hc,hr⟩:=hE
  obtain rfl:=(List.cons.inj hc).1
  simp only[CellR,Rd]at hr
  refine key none hr.1 ?_
  simp at he
  rw[←he]
  cases ne<;>rfl
 ·simp at he
def Ki(P:Program)(o:Oper):MO→Bool
 |.mv d x=>isD o.dst d&&match o.op with
  |.move y=>K3 y x
  |.assign y=>K3 y x
  |_=>false
 |.bin d bt op x y=>isD o.dst d&&match o.op with
  |.binOp op' t x' y' _=>decide (op'=op)&&K3 x' x&&K3 y' y&&(!bt||K8z (P.underlying t))
  |_=>false
 |.un d op x=>isD o.dst d&&match o.op with
  |.unOp op' _ x'=>decide (op'=op)&&K3 x' x
  |_=>false
 |.mm d mx x y=>isD o.dst d&&match o.op with
  |.call ⟨.builtin .max,args,_⟩=>mx&&(match args.toList with|[x',y']=>K3 x' x&&K3 y' y|_=>false)
  |.call ⟨.builtin .min,args,_⟩=> !mx&&(match args.toList with|[x',y']=>K3 x' x&&K3 y' y|_=>false)
  |_=>false
 |.pick d c a b=>isD o.dst d&&match o.op with
  |.pick c' a' b'=>K3 c' c&&K3 a' a&&K3 b' b
  |_=>false
 |.len d str x=>isD o.dst d&&match o.op with
  |.call ⟨.builtin .len,args,ts⟩=>(match args.toList,ts.toList with
   | [x'],[t]=>K3 x' x&&(if str then K5l (P.underlying t)else(K2u P t).isSome)
   |_,_=>false)
  |_=>false
 |.alloc d _ zs=>isD o.dst d&&match o.op with
  |.alloc t=>(match (P.info? t).bind (·.zero)with|some z=>chkZ zs z.cells.toList|none=>false)
  |_=>false
 |.box d _ x=>isD o.dst d&&match o.op with
  |.box _ x'=>K3 x' x
  |_=>false
 |.build d zs ps=>isD o.dst d&&match o.op with
  |.build t parts=>(match placed P t with|some (pl,z)=>chkZ zs z.toList&&K31 pl parts.toList ps|none=>false)
  |_=>false
 |.lit d _ sz _ xs=>isD o.dst d&&match o.op with
  |.buildSlice t len parts=>len==xs.length&&K28 0 parts.toList xs&&decide (0<sz)&&decide (len*sz≤16777216)&&(match (K2u P t).bind P.info? with|some i=>i.size==sz&&i.zero.isSome|none=>false)
  |_=>false
 |.litP d sz _ xs=>isD o.dst d&&match o.op with
  |.buildSlice t len parts=>len==xs.length&&K28 0 parts.toList xs&&decide (0<sz)&&decide (len*sz≤16777216)&&(match (K2u P t).bind P.info? with|some i=>i.size==sz&&i.zero.isSome|none=>false)
  |_=>false
 |.load d agg n x=>isD o.dst d&&match o.op with
  |.load t x'=>K3 x' x&&tyB P t agg n
  |_=>false
 |.store n x y=>o.dst.isNone&&match o.op with
  |.store t x' y'=>K3 x' x&&K3 y' y&&(tyB P t true n||tyB P t false n)
  |_=>false
 |.fld d x off=>isD o.dst d&&match o.op with
  |.fieldAddr t x' f=>K3 x' x&&(match P.underlying t with
   |some (.struct fs)=>(match fs[f]? with
    |some fd=>fd.offset==off&&(match P.info? fd.type with|some i=>decide (i.size≠0)|none=>false)
    |none=>false)
   |_=>false)
  |_=>false
 |.idx d sz x i=>isD o.dst d&&match o.op with
  |.indexAddr t x' i'=>K3 x' x&&K3 i' i&&slB P t sz
  |_=>false
 |.idxA d sz n x i=>isD o.dst d&&match o.op with
  |.indexAddr t x' i'=>K3 x' x&&K3 i' i&&(match P.underlying t with
   |some (.array n' e)=>n'==n&&(match P.info? e with|some i=>i.size==sz|none=>false)
   |_=>false)
  |_=>false
 |.fldv d x off n agg=>isD o.dst d&&match o.op with
  |.field t x' f=>K3 x' x&&(match P.underlying t with
   |some (.struct fs)=>(match fs[f]? with
    |some fd=>fd.offset==off&&tyB P fd.type agg n
    |none=>false)
   |_=>false)
  |_=>false
 |.idxs d x i=>isD o.dst d&&match o.op with
  |.index t x' i'=>K3 x' x&&K3 i' i&&K5l (P.underlying t)
  |_=>false
 |.mk d _ sz bytes z x=>isD o.dst d&&match o.op with
  |.makeSlice t x' y'=>K3 x' x&&K3 y' x&&(match (K2u P t).bind P.info? with
   |some i=>i.size==sz&&i.bytes==bytes&&decide (1≤bytes)&&(match i.zero with|some zv=>chkT z zv.cells.toList|none=>false)
   |none=>false)
  |_=>false
 |.app d _ sz bytes x y=>isD o.dst d&&match o.op with
  |.call ⟨.builtin .append,args,ts⟩=>(match args.toList,ts.toList with
   | [x',y'],[t,u]=>K3 x' x&&K3 y' y&&elB P t sz bytes&&(K2u P u).isSome
   |_,_=>false)
  |_=>false
 |.slc d sz x lo hi mx=>isD o.dst d&&match o.op with
  |.slice t x' lo' hi' mx'=>K3 x' x&&K1c lo' lo&&K1c hi' hi&&K1c mx' mx&&(!mx.isSome||hi.isSome)&&slB P t sz
  |_=>false
 |.slcs d x lo hi=>isD o.dst d&&match o.op with
  |.slice t x' lo' hi' none=>K3 x' x&&K1c lo' lo&&K1c hi' hi&&K5l (P.underlying t)
  |_=>false
 |.ext d x i=>isD o.dst d&&match o.op with
  |.extract x' i'=>K3 x' x&&i'==i
  |_=>false
 |.closF d f k=>isD o.dst d&&match o.op with
  |.makeFunc (.func f') first captured=>f'==f&&first.toList.isEmpty&&K2g captured.toList [k]
  |_=>false
 |.clos d f bs=>isD o.dst d&&match o.op with
  |.makeFunc (.func f') first captured=>f'==f&&first.toList.isEmpty&&K2g captured.toList bs
  |_=>false
 |.nilc d x=>isD o.dst d&&match o.op with
  |.nilCheck x'=>K3 x' x
  |_=>false
 |.convS d x=>isD o.dst d&&match o.op with
  |.convert t u x'=>K3 x' x&&(match P.underlying t with|some (.slice e)=>K8h .u8 (P.underlying e)|_=>false)&&K5l (P.underlying u)
  |_=>false
 |.convI d k x=>isD o.dst d&&match o.op with
  |.convert t u x'=>K3 x' x&&(P.underlying t).isSome&&K8h k (P.underlying u)
  |_=>false
 |.nilo d _ sz=>isD o.dst d&&match o.op with
  |.move y=>K3 y (.nil sz)
  |.assign y=>K3 y (.nil sz)
  |_=>false
 |.eqA d ne ks x y=>isD o.dst d&&match o.op with
  |.binOp op' t x' y' _=>decide (op'=if ne then .neq else .eql)&&K3 x' x&&K3 y' y&& !(P.eqGuardType P.depth t)&&P.keyTypeAt 50 t&&(flatK P 50 t==some ks)&&K8g (P.underlying t)
  |_=>false
 |.call ..=>false
 |.loadT ..=>false
 |.loadM ..=>false
 |.buildO ..=>false
 |.callI ..=>false
 |.callB ..=>false
 |.callP ..=>false
 |.callN ..=>false
 |.sliA d n x=>isD o.dst d&&match o.op with
  |.slice t x' none none none=>K3 x' x&&(match P.underlying t with
   |some (.array n' e)=>n'==n&&(match P.info? e with|some i=>i.size==1|none=>false)
   |_=>false)
  |_=>false
 |.appA d _ bytes x y=>isD o.dst d&&match o.op with
  |.call ⟨.builtin .append,args,ts⟩=>(match args.toList,ts.toList with
   | [x',y'],[t,u]=>K3 x' x&&K3 y' y&&elB P t 1 bytes&&(K2u P u).isSome
   |_,_=>false)
  |_=>false
 |.nilp d ne x=>isD o.dst d&&match o.op with
  |.binOp op' t x' (.const (.pointer none)) _=>decide (op'=if ne then .neq else .eql)&&K3 x' x&&(match P.underlying t with|some (.pointer _)=>true|_=>false)
  |_=>false
section
variable {P:Program} {base:Nat→Prop} {Z:ZZ} {w0 w:World} {σ:St} {g:Gh} {o:Oper} {a:Act}
theorem K8r{α:Type}{x:Array α}{u:α}(h:x.toList=[u]):x= #[u]:=Array.ext' h
theorem K2s{α:Type}{x:Array α}{u v:α}(h:x.toList=[u,v]):x= #[u,v]:=Array.ext' h
theorem good_op{m:MO}{e:Ef}(hc:Ki P o m=true)(R:Rel base Z w0 w σ a.tmps g)(he:eff m σ=some e):Good P o a base Z w0 w (σ.app e):=by
 cases m with
 |mv d x=>
  simp only[Ki,Bool.and_eq_true]at hc
  obtain⟨h1,hc⟩:=hc
  split at hc
  ·rename_i y ho;exact good_mv R (Kc h1) (.inl ho) hc he
  ·rename_i y ho;exact good_mv R (Kc h1) (.inr ho) hc he
  ·simp at hc
 |bin d bt op x y=>
  simp only[Ki,Bool.and_eq_true]at hc
  obtain⟨h1,hc⟩:=hc
  split at hc
  ·rename_i ho
   simp only[Bool.and_eq_true,decide_eq_true_eq]at hc
   obtain⟨⟨⟨rfl,h2⟩,h3⟩,h4⟩:=hc
   exact good_bin R (Kc h1) ho h2 h3 (fun hb=>isBoolT_ok (by simpa[hb]using h4)) he
  ·simp at hc
 |un d op x=>
  simp only[Ki,Bool.and_eq_true]at hc
  obtain⟨h1,hc⟩:=hc
  split at hc
  ·rename_i ho
   simp only[Bool.and_eq_true,decide_eq_true_eq]at hc
   obtain⟨rfl,h2⟩:=hc
   exact good_un R (Kc h1) ho h2 he
  ·simp at hc
 |mm d mx x y=>
  simp only[Ki,Bool.and_eq_true]at hc
  obtain⟨h1,hc⟩:=hc
  split at hc
  ·rename_i args ts ho
   simp only[Bool.and_eq_true]at hc
   obtain⟨rfl,hc⟩:=hc
   split at hc
   ·rename_i x' y' ha
    simp only[Bool.and_eq_true]at hc
    exact good_mm R (Kc h1) ho rfl (K2s ha) hc.1 hc.2 he
   ·simp at hc
  ·rename_i args ts ho
   simp only[Bool.and_eq_true,Bool.not_eq_true']at hc
   obtain⟨rfl,hc⟩:=hc
   split at hc
   ·rename_i x' y' ha
    simp only[Bool.and_eq_true]at hc
    exact good_mm R (Kc h1) ho rfl (K2s ha) hc.1 hc.2 he
   ·simp at hc
  ·simp at hc
 |pick d c x y=>
  simp only[Ki,Bool.and_eq_true]at hc
  obtain⟨h1,hc⟩:=hc
  split at hc
  ·rename_i ho
   simp only[Bool.and_eq_true]at hc
   exact good_pick R (Kc h1) ho hc.1.1 hc.1.2 hc.2 he
  ·simp at hc
 |len d str x=>
  simp only[Ki,Bool.and_eq_true]at hc
  obtain⟨h1,hc⟩:=hc
  split at hc
  ·rename_i args ts ho
   split at hc
   ·rename_i x' t ha hts
    simp only[Bool.and_eq_true]at hc
    refine good_len R (Kc h1) ho rfl (K8r ha) (K8r hts) ?_ hc.1 he
    cases str with
    |true=>simp only[if_true]at hc ⊢;exact K4t hc.2
    |false=>
     simp only[Bool.false_eq_true,if_false]at hc ⊢
     obtain⟨e,he⟩:=Option.isSome_iff_exists.1 hc.2
     exact⟨e,K2c he⟩
   ·simp at hc
  ·simp at hc
 |alloc d id zs=>
  simp only[Ki,Bool.and_eq_true]at hc
  obtain⟨h1,hc⟩:=hc
  split at hc
  ·rename_i ho
   split at hc
   ·rename_i z hz;exact good_alloc R (Kc h1) ho hz hc he
   ·simp at hc
  ·simp at hc
 |box d id x=>
  simp only[Ki,Bool.and_eq_true]at hc
  obtain⟨h1,hc⟩:=hc
  split at hc
  ·rename_i ho;exact good_box R (Kc h1) ho hc he
  ·simp at hc
 |build d zs ps=>
  simp only[Ki,Bool.and_eq_true]at hc
  obtain⟨h1,hc⟩:=hc
  split at hc
  ·rename_i ho
   split at hc
   ·rename_i pl z hp
    simp only[Bool.and_eq_true]at hc
    exact good_build R (Kc h1) ho hp hc.1 hc.2 he
   ·simp at hc
  ·simp at hc
 |lit d id sz bytes xs=>
  simp only[Ki,Bool.and_eq_true]at hc
  obtain⟨h1,hc⟩:=hc
  split at hc
  ·rename_i t len parts ho
   simp only[Bool.and_eq_true,decide_eq_true_eq,beq_iff_eq]at hc
   obtain⟨⟨⟨⟨h2,h3⟩,h4⟩,h5⟩,h6⟩:=hc
   split at h6
   ·rename_i i hi
    obtain⟨et,h7,h8⟩:=Option.bind_eq_some_iff.1 hi
    simp only[Bool.and_eq_true,beq_iff_eq]at h6
    obtain⟨z,hz⟩:=Option.isSome_iff_exists.1 h6.2
    exact good_lit R (Kc h1) ho h2 h3 (K2c h7) h8 hz h6.1 h4 h5 he
   ·simp at h6
  ·simp at hc
 |litP d sz bytes xs=>
  simp only[Ki,Bool.and_eq_true]at hc
  obtain⟨h1,hc⟩:=hc
  split at hc
  ·rename_i t len parts ho
   simp only[Bool.and_eq_true,decide_eq_true_eq,beq_iff_eq]at hc
   obtain⟨⟨⟨⟨h2,h3⟩,h4⟩,h5⟩,h6⟩:=hc
   split at h6
   ·rename_i i hi
    obtain⟨et,h7,h8⟩:=Option.bind_eq_some_iff.1 hi
    simp only[Bool.and_eq_true,beq_iff_eq]at h6
    obtain⟨z,hz⟩:=Option.isSome_iff_exists.1 h6.2
    exact good_litP R (Kc h1) ho h2 h3 (K2c h7) h8 hz h6.1 h4 h5 he
   ·simp at h6
  ·simp at hc
 |load d agg n x=>
  simp only[Ki,Bool.and_eq_true]at hc
  obtain⟨h1,hc⟩:=hc
  split at hc
  ·rename_i ho
   simp only[Bool.and_eq_true]at hc
   exact good_load R (Kc h1) ho hc.1 (K4n hc.2) he
  ·simp at hc
 |store n x y=>
  simp only[Ki,Bool.and_eq_true]at hc
  obtain⟨h1,hc⟩:=hc
  split at hc
  ·rename_i ho
   simp only[Bool.and_eq_true,Bool.or_eq_true]at hc
   have hd:o.dst=none:=by simpa using h1
   rcases hc.2 with h|h
   ·exact K8e R hd ho hc.1.1 hc.1.2 (K4n h) he
   ·exact K8e R hd ho hc.1.1 hc.1.2 (K4n h) he
  ·simp at hc
 |fld d x off=>
  simp only[Ki,Bool.and_eq_true]at hc
  obtain⟨h1,hc⟩:=hc
  split at hc
  ·rename_i ho
   simp only[Bool.and_eq_true]at hc
   obtain⟨h2,hc⟩:=hc
   split at hc
   ·rename_i fs hu
    split at hc
    ·rename_i fd hf
     simp only[Bool.and_eq_true,beq_iff_eq]at hc
     obtain⟨h3,h4⟩:=hc
     split at h4
     ·rename_i i hi
      exact good_fld R (Kc h1) ho h2 hu hf hi (by simpa using h4) h3 he
     ·simp at h4
    ·simp at hc
   ·simp at hc
  ·simp at hc
 |idx d sz x i=>
  simp only[Ki,Bool.and_eq_true]at hc
  obtain⟨h1,hc⟩:=hc
  split at hc
  ·rename_i ho
   simp only[Bool.and_eq_true]at hc
   obtain⟨e,inf,h2,h3,h4⟩:=slB_ok hc.2
   exact good_idx R (bytes:=inf.bytes) (Kc h1) ho hc.1.1 hc.1.2 ⟨inf,h2,h3,h4,rfl⟩ he
  ·simp at hc
 |idxA d sz n x i=>
  simp only[Ki,Bool.and_eq_true]at hc
  obtain⟨h1,hc⟩:=hc
  split at hc
  ·rename_i ho
   simp only[Bool.and_eq_true]at hc
   obtain⟨h2,hc⟩:=hc
   split at hc
   ·rename_i n' e hu
    simp only[Bool.and_eq_true,beq_iff_eq]at hc
    obtain⟨rfl,h3⟩:=hc
    split at h3
    ·rename_i inf hi
     exact good_idxA R (Kc h1) ho h2.1 h2.2 hu hi (beq_iff_eq.1 h3) he
    ·simp at h3
   ·simp at hc
  ·simp at hc
 |fldv d x off n agg=>
  simp only[Ki,Bool.and_eq_true]at hc
  obtain⟨h1,hc⟩:=hc
  split at hc
  ·rename_i ho
   simp only[Bool.and_eq_true]at hc
   obtain⟨h2,hc⟩:=hc
   split at hc
   ·rename_i fs hu
    split at hc
    ·rename_i fd hf
     simp only[Bool.and_eq_true,beq_iff_eq]at hc
     exact good_fldv R (Kc h1) ho h2 hu hf (K4n hc.2) hc.1 he
    ·simp at hc
   ·simp at hc
  ·simp at hc
 |idxs d x i=>
  simp only[Ki,Bool.and_eq_true]at hc
  obtain⟨h1,hc⟩:=hc
  split at hc
  ·rename_i ho
   simp only[Bool.and_eq_true]at hc
   exact good_idxs R (Kc h1) ho hc.1.1 hc.1.2 (K4t hc.2) he
  ·simp at hc
 |mk d id sz bytes z x=>
  simp only[Ki,Bool.and_eq_true]at hc
  obtain⟨h1,hc⟩:=hc
  split at hc
  ·rename_i ho
   simp only[Bool.and_eq_true]at hc
   obtain⟨⟨h2,h3⟩,hc⟩:=hc
   split at hc
   ·rename_i i hi
    obtain⟨et,h7,h8⟩:=Option.bind_eq_some_iff.1 hi
    simp only[Bool.and_eq_true,beq_iff_eq,decide_eq_true_eq]at hc
    obtain⟨⟨⟨a1,a2⟩,a3⟩,a4⟩:=hc
    split at a4
    ·rename_i zv hz
     exact good_mk R (Kc h1) ho h2 h3 (K2c h7) h8 a1 a2 a3 hz a4 he
    ·simp at a4
   ·simp at hc
  ·simp at hc
 |app d id sz bytes x y=>
  simp only[Ki,Bool.and_eq_true]at hc
  obtain⟨h1,hc⟩:=hc
  split at hc
  ·rename_i args ts ho
   split at hc
   ·rename_i x' y' t u ha hts
    simp only[Bool.and_eq_true]at hc
    obtain⟨⟨⟨h2,h3⟩,h4⟩,h5⟩:=hc
    obtain⟨et,hel⟩:=elB_ok h4
    obtain⟨e',he'⟩:=Option.isSome_iff_exists.1 h5
    exact good_app R (Kc h1) ho rfl (K2s ha) (K2s hts) h2 h3 hel (K2c he') he
   ·simp at hc
  ·simp at hc
 |slc d sz x lo hi mx=>
  simp only[Ki,Bool.and_eq_true]at hc
  obtain⟨h1,hc⟩:=hc
  split at hc
  ·rename_i ho
   simp only[Bool.and_eq_true]at hc
   obtain⟨⟨⟨⟨⟨h2,h3⟩,h4⟩,h5⟩,h6⟩,h7⟩:=hc
   obtain⟨e,inf,h8,h9,h10⟩:=slB_ok h7
   exact good_slc R (bytes:=inf.bytes) (Kc h1) ho h2 h3 h4 h5 (fun hm=>by simpa[hm]using h6) ⟨inf,h8,h9,h10,rfl⟩ he
  ·simp at hc
 |slcs d x lo hi=>
  simp only[Ki,Bool.and_eq_true]at hc
  obtain⟨h1,hc⟩:=hc
  split at hc
  ·rename_i ho
   simp only[Bool.and_eq_true]at hc
   exact good_slcs R (Kc h1) ho hc.1.1.1 hc.1.1.2 hc.1.2 (K4t hc.2) he
  ·simp at hc
 |ext d x i=>
  simp only[Ki,Bool.and_eq_true]at hc
  obtain⟨h1,hc⟩:=hc
  split at hc
  ·rename_i ho
   simp only[Bool.and_eq_true,beq_iff_eq]at hc
   obtain⟨h2,rfl⟩:=hc
   exact good_ext R (Kc h1) ho h2 he
  ·simp at hc
 |closF d f k=>
  simp only[Ki,Bool.and_eq_true]at hc
  obtain⟨h1,hc⟩:=hc
  split at hc
  ·rename_i ho
   simp only[Bool.and_eq_true,beq_iff_eq]at hc
   obtain⟨⟨rfl,h2⟩,h3⟩:=hc
   exact good_closF R (Kc h1) ho (by apply Array.ext';simpa using h2) (K5x h3) he
  ·simp at hc
 |clos d f bs=>
  simp only[Ki,Bool.and_eq_true]at hc
  obtain⟨h1,hc⟩:=hc
  split at hc
  ·rename_i ho
   simp only[Bool.and_eq_true,beq_iff_eq]at hc
   obtain⟨⟨rfl,h2⟩,h3⟩:=hc
   exact good_clos R (Kc h1) ho (by apply Array.ext';simpa using h2) (K5x h3) he
  ·simp at hc
 |nilc d x=>
  simp only[Ki,Bool.and_eq_true]at hc
  obtain⟨h1,hc⟩:=hc
  split at hc
  ·rename_i ho;exact good_nilc R (Kc h1) ho hc he
  ·simp at hc
 |convS d x=>
  simp only[Ki,Bool.and_eq_true]at hc
  obtain⟨h1,hc⟩:=hc
  split at hc
  ·rename_i ho
   simp only[Bool.and_eq_true]at hc
   obtain⟨⟨c1,c2⟩,c3⟩:=hc
   split at c2
   ·rename_i et hs
    exact good_convS R (Kc h1) ho c1 hs (K9q c2) (K4t c3) he
   ·simp at c2
  ·simp at hc
 |convI d k x=>
  simp only[Ki,Bool.and_eq_true]at hc
  obtain⟨h1,hc⟩:=hc
  split at hc
  ·rename_i ho
   simp only[Bool.and_eq_true]at hc
   obtain⟨ds,hds⟩:=Option.isSome_iff_exists.1 hc.1.2
   exact good_convI R (Kc h1) ho hc.1.1 hds (K9q hc.2) he
  ·simp at hc
 |nilo d id sz=>
  simp only[Ki,Bool.and_eq_true]at hc
  obtain⟨h1,hc⟩:=hc
  split at hc
  ·rename_i y ho
   exact K9m R (Kc h1) (.inl ho) hc he
  ·rename_i y ho
   exact K9m R (Kc h1) (.inr ho) hc he
  ·simp at hc
 |eqA d ne ks x y=>
  simp only[Ki,Bool.and_eq_true]at hc
  obtain⟨h1,hc⟩:=hc
  split at hc
  ·rename_i op t x' y' u ho
   simp only[Bool.and_eq_true,decide_eq_true_eq,beq_iff_eq,Bool.not_eq_true']at hc
   obtain⟨⟨⟨⟨⟨⟨c1,c2⟩,c3⟩,c4⟩,c5⟩,c6⟩,c7⟩:=hc
   exact good_eqA R (Kc h1) ho c1 c2 c3 c4 c5 c6 c7 he
  ·simp at hc
 |call d ids f xs=>simp[Ki]at hc
 |loadT d i x=>simp[Ki]at hc
 |loadM d n is i x=>simp[Ki]at hc
 |buildO d zs ps ns=>simp[Ki]at hc
 |callI d ids f xs ios bks=>simp[Ki]at hc
 |callB d ids f p xs=>simp[Ki]at hc
 |callP d f p xs=>simp[Ki]at hc
 |callN d id f xs=>simp[Ki]at hc
 |appA d id bytes x y=>
  simp only[Ki,Bool.and_eq_true]at hc
  obtain⟨h1,hc⟩:=hc
  split at hc
  ·rename_i args ts ho
   split at hc
   ·rename_i x' y' t u ha hts
    simp only[Bool.and_eq_true]at hc
    obtain⟨⟨⟨h2,h3⟩,h4⟩,h5⟩:=hc
    obtain⟨et,hel⟩:=elB_ok h4
    obtain⟨e',he'⟩:=Option.isSome_iff_exists.1 h5
    exact good_appA R (Kc h1) ho rfl (K2s ha) (K2s hts) h2 h3 hel (K2c he') he
   ·simp at hc
  ·simp at hc
 |sliA d n x=>
  simp only[Ki,Bool.and_eq_true]at hc
  obtain⟨h1,hc⟩:=hc
  split at hc
  ·rename_i ho
   simp only[Bool.and_eq_true]at hc
   obtain⟨h2,hc⟩:=hc
   split at hc
   ·rename_i n' e hu
    simp only[Bool.and_eq_true,beq_iff_eq]at hc
    obtain⟨rfl,h3⟩:=hc
    split at h3
    ·rename_i inf hi
     exact good_sliA R (Kc h1) ho h2 hu hi (beq_iff_eq.1 h3) he
    ·simp at h3
   ·simp at hc
  ·simp at hc
 |nilp d ne x=>
  simp only[Ki,Bool.and_eq_true]at hc
  obtain⟨h1,hc⟩:=hc
  split at hc
  ·rename_i op t x' u ho
   simp only[Bool.and_eq_true,decide_eq_true_eq]at hc
   obtain⟨⟨c1,c2⟩,c3⟩:=hc
   split at c3
   ·rename_i el hu
    exact good_nilp R (Kc h1) ho c1 c2 hu he
   ·simp at c3
  ·simp at hc
end
end Go.Proofs.YtjneccbpkckdfaaGreatR
namespace Go.Proofs.YtjneccbpkckdfaaGreatR
open Go Go.RowKit
def ArgR(w:World)(X:Nat→Prop)(x:Bool×List T)(v:Value):Prop:=
 if x.1 then ∃vs:List Value,v= .agg vs.toArray∧RdL w X x.2 vs else ∃t,x.2=[t]∧Rd w X t v
def ArgsR(w:World)(X:Nat→Prop):List (Bool×List T)→List Value→Prop
 | [],[]=>True
 |x::xs,v::vs=>ArgR w X x v∧ArgsR w X xs vs
 |_,_=>False
def ResC(w:World)(Y:Nat→Prop):List (Bool×T)→List Value→List Nat→Prop
 | [],[],G=>G=[]
 |(true,t)::l,v::vs,G=>∃G1 G2,Ow w t v G1∧ResC w Y l vs G2∧G=G1++G2
 |(false,t)::l,v::vs,G=>Rd w Y t v∧ResC w Y l vs G
 |_,_,_=>False
def ResV(w:World)(Y:Nat→Prop)(r:RV)(v:Value)(G:List Nat):Prop:=
 if r.agg then ∃vs:List Value,v= .agg vs.toArray∧ResC w Y r.cs vs G else(∃c,r.cs=[c])∧ResC w Y r.cs [v] G
def ResVs(w:World)(Y:Nat→Prop):List RV→List Value→List Nat→Prop
 | [],[],G=>G=[]
 |r::rs,v::vs,G=>∃G1 G2,ResV w Y r v G1∧ResVs w Y rs vs G2∧G=G1++G2
 |_,_,_=>False
def tupV:List Value→Value
 | [u]=>u
 |us=> .tuple us.toArray
def Ctr(P:Program)(f:FuncId)(args:List (Bool×List T))(rs:List RV):Prop:=
 (∃ fn, P.funcs[f]? = some fn ∧ fn.body.isNone = false ∧ (fn.name == "runtime.NumGoroutine") = false) ∧
 ∀(w:World) (X:Nat→Prop) (vs:List Value),(∀w',Below w.heap.size w w'→TabW w')→ArgsR w X args vs→Calls P f vs.toArray w fun
  |.returned v,w'=>Below w.heap.size w w'∧∃us G,v=tupV us∧G.Nodup∧(∀b∈G,w.heap.size≤b)∧ResVs w' (fun b=>(b<w.heap.size→X b)∧b∉G) rs us G
  |_,_=>False
section
variable {P:Program} {base:Nat→Prop} {Z:ZZ} {w0 w:World} {σ:St} {g:Gh} {o:Oper} {a:Act} {V:Nat→Nat} {ts:Array Value}
def Xm(g:Gh):Md→Nat→Prop
 |.e=>Xe g
 |.b=>Xb g
 |.a=>fun b=>¬g.Z b
def Md.le:Md→Md→Prop
 |.e,_=>True
 |.b,.e=>False
 |.b,_=>True
 |.a,.a=>True
 |.a,_=>False
theorem K36(m n:Md):m.le (m.join n):=by cases m<;>cases n<;>simp[Md.join,Md.le]
theorem K3c(m n:Md):n.le (m.join n):=by cases m<;>cases n<;>simp[Md.join,Md.le]
theorem Md.le_trans{x y z:Md}(h:x.le y)(k:y.le z):x.le z:=by cases x<;>cases y<;>cases z<;>simp_all[Md.le]
theorem K5a{m n:Md}(h:m.le n){b:Nat}(hb:Xm g m b):Xm g n b:=by
 cases m<;>cases n<;>simp only[Md.le]at h
 ·exact hb
 ·exact Xe.xb hb
 ·exact hb.1
 ·exact hb
 ·exact hb.1
 ·exact hb
theorem Rel.notZ(R:Rel base Z w0 w σ ts g){id b:Nat}(h:b∈g.F id):¬g.Z b:=by
 intro hz
 rw[R.zz]at hz
 exact(R.frs id b h).1 (R.zb b hz)
theorem K78{X X':Nat→Prop}{t:T}{v:Value}(h:Rd w X t v)(hx:∀b,X b→X' b):Rd w X' t v:=Rd.keep ⟨Nat.le_refl _,fun b hb _=>⟨rfl,hx b hb⟩⟩ t v h
theorem rd_m{m n:Md}(hm:m.le n){t:T}{v:Value}(h:Rd w (Xm g m) t v):Rd w (Xm g n) t v:=K78 h fun _=>K5a hm
theorem Rel.rd_ref(R:Rel base Z w0 w σ ts g){id ver sz lo n:Nat}{v:Value}(h:CellR w σ.V g (.ref id ver sz lo n) v){r:Nat×List (List T)}(hr:σ.rows (.ref id ver sz lo n)=some r){m:Md}(hm:((SC.ref id ver sz lo n).md σ).le m):
  Rd w (Xm g m) (.sl r.1 r.2) v:=by
 obtain⟨A,cap,hv,hl,hrow⟩:=R.rows h hr
 by_cases hne:r.2=[]
 ·unfold Rd
  exact⟨A,cap,hv,hl,.inl hne⟩
 ·obtain⟨b,off,hA,hb,hrow⟩:=hrow.resolve_left hne
  have key:Xm g ((SC.ref id ver sz lo n).md σ) b:=by
   simp only[SC.md]
   split
   ·rename_i sz' es hob
    have ho:=R.obj id
    rw[hob]at ho
    simp only[ObjR]at ho
    simp only[CellR]at h
    obtain⟨_,A1,len,cap1,A',c',hH,hv1,hn,hnc,hcc,hA',_⟩:=h
    have hver:ver=(σ.ob id).ver:=by
     simp only[St.rows]at hr
     cases hoo:σ.ob id with
     |mk v0 oc=>
      rw[hoo]at hr hob
      simp only at hob
      subst hob
      simp only at hr
      split at hr<;>simp at hr
      rename_i hh;exact hh.1.symm
    subst hver
    have hRd:=ho.2
    unfold Rd at hRd
    rw[hH]at hRd
    obtain⟨A3,cap3,hv3,_,hRd⟩:=hRd
    simp only[Value.slice.injEq]at hv3
    obtain⟨rfl,hlen,rfl⟩:=hv3
    have hnz:n≠0:=by
     intro h0
     rw[hv]at hv1
     simp only[Value.slice.injEq]at hv1
     exact hne (List.length_eq_zero_iff.1 (by omega))
    rcases hRd with h0|⟨b2,off2,hA2,hx,_⟩
    ·rw[h0]at hlen;simp at hlen;omega
    ·have hA3:=hA'.resolve_left (by omega)
     rw[hv]at hv1
     simp only[Value.slice.injEq]at hv1
     rw[hA2]at hA3
     rw[←hv1.1,hA]at hA3
     simp at hA3
     rw[hA3.1]
     exact hx
   ·rename_i hnl
    simp only[St.rows]at hr
    cases hoo:σ.ob id with
    |mk v0 oc=>
     rw[hoo]at hr hnl
     cases oc with
     |none=>simp at hr
     |box cs=>simp at hr
     |hole=>simp at hr
     |lent s2 es=>exact(hnl _ _ rfl).elim
     |row dp s2 es=>
      simp only at hr
      split at hr<;>simp at hr
      rename_i hh
      obtain⟨rfl,rfl,hle⟩:=hh
      have ho:=R.obj id
      rw[hoo]at ho
      simp only[ObjR]at ho
      simp only[CellR]at h
      obtain⟨_,A1,len,cap1,A',c',hH,hv1,hn,hnc,hcc,hA',_⟩:=h
      obtain⟨A3,cap3,hH3,hl3,ho⟩:=ho
      rw[hH3]at hH
      simp only[Value.slice.injEq]at hH
      obtain⟨rfl,rfl,rfl⟩:=hH
      have hnz:n≠0:=by
       intro h0
       rw[hv]at hv1
       simp only[Value.slice.injEq]at hv1
       exact hne (List.length_eq_zero_iff.1 (by omega))
      rcases ho with h0|⟨b2,off2,row,ty,G,hA2,_,_,_,hF⟩
      ·omega
      ·have hA3:=hA'.resolve_left (by omega)
       rw[hv]at hv1
       simp only[Value.slice.injEq]at hv1
       rw[hA2,←hv1.1,hA]at hA3
       simp at hA3
       rw[hA3.1]
       exact R.notZ (id:=id) (by rw[hF];simp)
  have hX:Xm g m b:=K5a hm key
  have hx':∀b,Xb g b→Xm g m b:=by
   intro b' hb'
   cases m with
   |e=>
    exfalso
    simp only[SC.md]at hm
    split at hm<;>simp[Md.le]at hm
   |b=>exact hb'
   |a=>exact hb'.1
  unfold Rd
  exact⟨A,cap,hv,hl,.inr ⟨b,off,hA,hX,hb,RdRow.move ⟨Nat.le_refl _,fun b hb _=>⟨rfl,hx' b hb⟩⟩ _ off off (fun _ _=>rfl) hrow⟩⟩
theorem Rel.rd_con1(R:Rel base Z w0 w σ ts g){c:SC}{v:Value}(h:CellR w σ.V g c v){t:T}(ht:σ.con1 c=some t){m:Md}(hm:(c.md σ).le m):Rd w (Xm g m) t v:=by
 cases c with
 |pl t'=>simp[St.con1]at ht;subst ht;exact rd_m (m:= .e) (by simp[Md.le]) h
 |bor t'=>
  simp[St.con1]at ht;subst ht
  cases t' with
  |sc u=>simp only[CellR,Rd]at h ⊢;exact h
  |_=>exact rd_m (m:= .b) (by simpa[SC.md]using hm) h
 |emp sz=>
  simp[St.con1]at ht;subst ht
  simp only[CellR]at h
  obtain⟨A,rfl⟩:=h
  unfold Rd
  exact⟨A,0,rfl,Ln.z _,.inl rfl⟩
 |ref id ver sz lo n=>
  simp only[St.con1]at ht
  obtain⟨r,hr,rfl⟩:=Option.map_eq_some_iff.1 ht
  exact R.rd_ref h hr hm
 |clo f bs=>
  cases bs with
  |nil=>
   simp[St.con1]at ht;subst ht
   simp only[CellR]at h
   unfold Rd
   exact⟨[],by simpa using h.1,by simp[RdL]⟩
  |cons b bs=>simp[St.con1]at ht
theorem K1h{α:Type}{x:Option α}{l:List (Option α)}{r:List α}(h:K1 (x::l)=some r):∃a r',x=some a∧K1 l=some r'∧r=a::r':=by
 cases x with
 |none=>simp[K1]at h
 |some a=>
  simp only[K1]at h
  obtain⟨r',h1,rfl⟩:=Option.map_eq_some_iff.1 h
  exact⟨a,r',rfl,h1,rfl⟩
theorem Rel.rd_boxed(R:Rel base Z w0 w σ ts g){id ver:Nat}{t:T}(ht:σ.boxed id ver=some t):Rd w (Xm g .a) t (g.H id ver):=by
 unfold St.boxed at ht
 split at ht
 rotate_left
 ·simp at ht
 rename_i v cs hob
 split at ht
 rotate_left
 ·simp at ht
 rename_i hv
 subst hv
 obtain⟨l,hl,rfl⟩:=Option.map_eq_some_iff.1 ht
 have ho:=R.obj id
 rw[hob]at ho
 simp only[ObjR]at ho
 obtain⟨b,ty,vs,hH,hc,hr,hF⟩:=ho
 unfold Rd
 refine⟨b,hH,R.notZ (id:=id) (by rw[hF];simp),K1g hc,?_⟩
 have key:∀(cs:List SC) (us:List Value) (l:List T) (off:Nat),CellsR w σ.V g cs us→K1 (cs.map σ.con1)=some l→(∀j u,us[j]? =some u→vs[off+j]? =some u)→RdEl w (Xm g .a) b off l:=by
  intro cs
  induction cs with
  |nil=>intro us l off _ h _;simp[K1]at h;subst h;simp only[RdEl]
  |cons c cs ih=>
   intro us l off hr h hu
   cases us with
   |nil=>exact hr.elim
   |cons u us=>
    obtain⟨t,l',h1,h2,rfl⟩:=K1h h
    simp only[RdEl]
    refine⟨⟨u,?_,R.rd_con1 (m:= .a) hr.1 h1 (by cases (c.md σ)<;>simp[Md.le])⟩,ih us l' (off+1) hr.2 h2 (fun j u' hj=>?_)⟩
    ·have:=hu 0 u rfl
     simpa[World.cell?,hc]using this
    ·rw[show off+1+j=off+(j+1)by omega]
     exact hu (j+1) u' (by simpa using hj)
 exact key cs vs l 0 hr hl (fun j u h=>by simpa using h)
theorem Rel.rd_con(R:Rel base Z w0 w σ ts g){c:SC}{v:Value}(h:CellR w σ.V g c v){t:T}(ht:σ.con c=some t){m:Md}(hm:(c.md σ).le m):Rd w (Xm g m) t v:=by
 cases c with
 |clo f bs=>
  cases bs with
  |nil=>simp[St.con,K1]at ht;subst ht;exact R.rd_con1 h (by simp[St.con1]) hm
  |cons b bs=>
   have hma:m= .a:=by cases m<;>simp_all[SC.md,Md.le]
   subst hma
   simp only[St.con]at ht
   obtain⟨l,hl,rfl⟩:=Option.map_eq_some_iff.1 ht
   simp only[CellR]at h
   unfold Rd
   refine⟨_,h.1,?_⟩
   have key:∀(bs:List (Nat×Nat)) (l:List T),K1 (bs.map fun b=>σ.boxed b.1 b.2)=some l→RdL w (Xm g .a) l (bs.map fun b=>g.H b.1 b.2):=by
    intro bs
    induction bs with
    |nil=>intro l h;simp[K1]at h;subst h;simp[RdL]
    |cons b bs ih=>
     intro l h
     obtain⟨t,l',h1,h2,rfl⟩:=K1h h
     simp only[List.map_cons,RdL]
     exact⟨R.rd_boxed h1,ih l' h2⟩
   exact key (b::bs) l hl
 |pl t'=>exact R.rd_con1 h (c:= .pl t') ht hm
 |bor t'=>exact R.rd_con1 h (c:= .bor t') ht hm
 |emp sz=>exact R.rd_con1 h (c:= .emp sz) ht hm
 |ref id ver sz lo n=>exact R.rd_con1 h (c:= .ref id ver sz lo n) ht hm
theorem Rel.rd_cons(R:Rel base Z w0 w σ ts g){m:Md}:∀ {cs:List SC} {vs:List Value} {l:List T},CellsR w σ.V g cs vs→K1 (cs.map σ.con)=some l→(mdAll σ cs).le m→RdL w (Xm g m) l vs
 | [],[],l,_,h,_=>by simp[K1]at h;subst h;simp[RdL]
 |c::cs,v::vs,l,hr,h,hm=>by
  obtain⟨t,l',h1,h2,rfl⟩:=K1h h
  simp only[RdL]
  exact⟨R.rd_con hr.1 h1 (Md.le_trans (K36 _ _) hm),R.rd_cons hr.2 h2 (Md.le_trans (K3c _ _) hm)⟩
 | [],_::_,_,hr,_,_=>hr.elim
 |_::_,[],_,hr,_,_=>hr.elim
theorem Rel.arg(R:Rel base Z w0 w σ ts g){s:SV}{v:Value}(h:SlotR w σ.V g s v){x:Bool×List T}(hx:s.arg σ=some x){m:Md}(hm:(s.md σ).le m):ArgR w (Xm g m) x v:=by
 unfold SV.arg at hx
 split at hx
 ·rename_i ag cs
  obtain⟨l,hl,rfl⟩:=Option.map_eq_some_iff.1 hx
  simp only[SlotR,ValR]at h
  simp only[ArgR]
  cases ag with
  |true=>
   simp only[if_true]at h ⊢
   obtain⟨vs,hv,h⟩:=h
   exact⟨vs,hv,R.rd_cons h hl hm⟩
  |false=>
   simp only[Bool.false_eq_true,if_false]at h ⊢
   obtain⟨c,rfl,h⟩:=h
   obtain⟨t,l',h1,h2,rfl⟩:=K1h hl
   simp[K1]at h2;subst h2
   exact⟨t,rfl,R.rd_con h h1 (Md.le_trans (K36 _ _) hm)⟩
 ·rename_i id ver
  obtain⟨t,ht,rfl⟩:=Option.map_eq_some_iff.1 hx
  have hma:m= .a:=by cases m<;>simp_all[SV.md,Md.le]
  subst hma
  simp only[SlotR,AdR]at h
  obtain⟨_,b,hH,hv⟩:=h
  simp only[ArgR,Bool.false_eq_true,if_false]
  refine⟨t,rfl,?_⟩
  have:=R.rd_boxed ht
  rw[hH]at this
  rw[hv]
  exact this
 ·rename_i ts'
  simp at hx;subst hx
  simp only[SlotR,AdR]at h
  obtain⟨b,hv,hx,hb,hr⟩:=h
  simp only[ArgR,Bool.false_eq_true,if_false]
  refine⟨_,rfl,rd_m (m:= .e) (by simp[Md.le]) ?_⟩
  unfold Rd
  exact⟨b,hv,hx,hb,hr⟩
 ·simp at hx
def K22:List Operand→List Od→Bool
 | [],[]=>true
 |x::l,y::m=>K3 x y&&K22 l m
 |_,_=>false
theorem Rel.args(R:Rel base Z w0 w σ a.tmps g){m:Md}:∀ {l:List Operand} {xs:List Od} {as_:List (Bool×List T)},K22 l xs=true→σ.args xs=some as_→(σ.mode xs).le m→ArgsR w (Xm g m) as_ (l.map a.eval)
 | [],[],as_,_,h,_=>by simp[St.args,K1]at h;subst h;trivial
 |x::l,y::xs,as_,hc,h,hm=>by
  simp only[K22,Bool.and_eq_true]at hc
  unfold St.args at h
  obtain⟨t,l',h1,h2,rfl⟩:=K1h h
  exact⟨R.arg (R.ev hc.1) h1 (Md.le_trans (K36 _ _) hm),Rel.args R hc.2 h2 (Md.le_trans (K3c _ _) hm)⟩
 | [],_::_,_,hc,_,_=>by simp[K22]at hc
 |_::_,[],_,hc,_,_=>by simp[K22]at hc
end
end Go.Proofs.YtjneccbpkckdfaaGreatR
namespace Go.Proofs.YtjneccbpkckdfaaGreatR
open Go Go.RowKit
section
variable {P:Program} {base:Nat→Prop} {Z:ZZ} {w0 w w':World} {σ:St} {g:Gh} {o:Oper} {a:Act} {V:Nat→Nat} {ts:Array Value} {Y:Nat→Prop} {m:Md}
structure Pl where
 id:Nat
 v:Value
 F:List Nat
 sz:Nat
 es:List (List T)
def Pl.ok(w:World)(p:Pl):Prop:=Ow w (.sl p.sz p.es) p.v p.F
def Knows(σ:St)(g':Gh)(V':Nat→Nat)(ps:List Pl):Prop:=∀p∈ps,g'.H p.id (σ.nw p.id)=p.v∧σ.nw p.id≤V' p.id
def pobs(σ:St)(ps:List Pl):List (Nat×OV):=ps.map fun p=>(p.id,⟨σ.nw p.id,.row true p.sz p.es⟩)
theorem K8j{t:T}{sz:Nat}{es:List (List T)}{v:Value}{F:List Nat}(_:t= .sl sz es)(h:Ow w (.sl sz es) v F):Win sz 0 es.length v v:=by
 unfold Ow at h
 obtain⟨A,cap,hv,hl,h⟩:=h
 refine⟨A,es.length,cap,A,cap,hv,hv,by omega,hl.1,by omega,?_,?_⟩
 ·rcases h with h|⟨b,off,_,_,_,hA,_⟩
  ·exact .inl h.1
  ·right;rw[hA];simp
 ·rcases h with h|⟨b,off,_,_,_,hA,_⟩
  ·exact .inl h.1
  ·right;rw[hA];intro a ha;simp at ha;rw[←ha]
theorem extC_cell{t:T}{c:SC}{v:Value}(h:Rd w' Y t v)(hc:extC m t=some c){V':Nat→Nat}{g':Gh}(hY:∀b,b<w'.heap.size→Y b→Xm g' m b):CellR w' V' g' c v:=by
 cases t with
 |sc u=>simp only[extC,Option.some.injEq]at hc;subst hc;simp only[CellR,Rd]at *;exact h
 |sl sz es=>
  cases m<;>simp[extC]at hc<;>subst hc
  ·exact Rd.keep ⟨Nat.le_refl _,fun b hb hlt=>⟨rfl,hY b hlt hb⟩⟩ _ _ h
  ·exact Rd.keep ⟨Nat.le_refl _,fun b hb hlt=>⟨rfl,hY b hlt hb⟩⟩ _ _ h
 |pb ts=>
  cases m<;>simp[extC]at hc<;>subst hc
  ·exact Rd.keep ⟨Nat.le_refl _,fun b hb hlt=>⟨rfl,hY b hlt hb⟩⟩ _ _ h
  ·exact Rd.keep ⟨Nat.le_refl _,fun b hb hlt=>⟨rfl,hY b hlt hb⟩⟩ _ _ h
 |fn f cs=>
  cases m<;>simp[extC]at hc<;>subst hc
  ·exact Rd.keep ⟨Nat.le_refl _,fun b hb hlt=>⟨rfl,hY b hlt hb⟩⟩ _ _ h
  ·exact Rd.keep ⟨Nat.le_refl _,fun b hb hlt=>⟨rfl,hY b hlt hb⟩⟩ _ _ h
theorem K7x:∀ {cs:List (Bool×T)} {ids:List Nat} {vs:List Value} {G:List Nat} {x:List SC×List (Nat×OV)×List Nat},place σ m ids cs=some x→ResC w' Y cs vs G→
  ∃ps:List Pl,x.2.1=pobs σ ps∧ids=ps.map (·.id)++x.2.2∧(∀p∈ps,p.id<σ.o.length∧p.ok w')∧G=ps.flatMap (·.F)∧
   ∀(g':Gh) (V':Nat→Nat),Knows σ g' V' ps→(∀b,b<w'.heap.size→Y b→Xm g' m b)→CellsR w' V' g' x.1 vs
 | [],ids,[],G,x,h,hr=>by
  have:place σ m ids []=some ([],[],ids):=by cases ids<;>rfl
  rw[this]at h
  simp at h;subst h
  simp only[ResC]at hr
  exact⟨[],rfl,rfl,by simp,hr,fun _ _ _ _=>trivial⟩
 |(false,t)::cs,ids,v::vs,G,x,h,hr=>by
  have e:place σ m ids ((false,t)::cs)=(extC m t).bind fun c=>(place σ m ids cs).map fun x=>(c::x.1,x.2.1,x.2.2):=by cases ids<;>rfl
  rw[e]at h
  obtain⟨c,hc,h⟩:=Option.bind_eq_some_iff.1 h
  obtain⟨y,hy,rfl⟩:=Option.map_eq_some_iff.1 h
  simp only[ResC]at hr
  obtain⟨ps,h1,h2,h3,h4,h5⟩:=K7x hy hr.2
  exact⟨ps,h1,h2,h3,h4,fun g' V' hk hY=>⟨extC_cell hr.1 hc hY,h5 g' V' hk hY⟩⟩
 |(true,t)::cs,ids,v::vs,G,x,h,hr=>by
  cases ids with
  |nil=>simp[place]at h
  |cons id ids=>
   cases t with
   |sl sz es=>
    simp only[place]at h
    split at h
    rotate_left
    ·simp at h
    rename_i hid
    obtain⟨y,hy,rfl⟩:=Option.map_eq_some_iff.1 h
    simp only[ResC]at hr
    obtain⟨G1,G2,ho,hr,rfl⟩:=hr
    obtain⟨ps,h1,h2,h3,h4,h5⟩:=K7x hy hr
    refine⟨⟨id,v,G1,sz,es⟩::ps,by simp[pobs,h1],by simp[h2],?_,by simp[h4],?_⟩
    ·intro p hp
     rcases List.mem_cons.1 hp with rfl|hp
     ·exact⟨hid,ho⟩
     ·exact h3 p hp
    ·intro g' V' hk hY
     obtain⟨k1,k2⟩:=hk _ (List.mem_cons_self ..)
     refine⟨?_,h5 g' V' (fun p hp=>hk p (List.mem_cons_of_mem _ hp)) hY⟩
     simp only[CellR]
     exact⟨k2,by rw[k1];exact K8j rfl ho⟩
   |sc u=>simp[place]at h
   |pb ts=>simp[place]at h
   |fn f cs=>simp[place]at h
 | [],_,_::_,_,_,_,hr=>by simp only[ResC]at hr
 |(true,_)::_,_,[],_,_,_,hr=>by simp only[ResC]at hr
 |(false,_)::_,_,[],_,_,_,hr=>by simp only[ResC]at hr
theorem K3m:∀ {rs:List RV} {ids:List Nat} {us:List Value} {G:List Nat} {x:List (Bool×List SC)×List (Nat×OV)×List Nat},K15 σ m ids rs=some x→ResVs w' Y rs us G→
  ∃ps:List Pl,x.2.1=pobs σ ps∧ids=ps.map (·.id)++x.2.2∧(∀p∈ps,p.id<σ.o.length∧p.ok w')∧G=ps.flatMap (·.F)∧
   ∀(g':Gh) (V':Nat→Nat),Knows σ g' V' ps→(∀b,b<w'.heap.size→Y b→Xm g' m b)→ValsR w' V' g' x.1 us
 | [],ids,[],G,x,h,hr=>by
  simp[K15]at h;subst h
  simp only[ResVs]at hr
  exact⟨[],rfl,rfl,by simp,hr,fun _ _ _ _=>trivial⟩
 |r::rs,ids,u::us,G,x,h,hr=>by
  simp only[K15]at h
  obtain⟨y,hy,h⟩:=Option.bind_eq_some_iff.1 h
  obtain⟨z,hz,rfl⟩:=Option.map_eq_some_iff.1 h
  simp only[ResVs]at hr
  obtain⟨G1,G2,h1,h2,rfl⟩:=hr
  obtain⟨ps2,a1,a2,a3,a4,a5⟩:=K3m hz h2
  have hv:∃vs:List Value,ResC w' Y r.cs vs G1∧∀V' g',CellsR w' V' g' y.1 vs→ValR w' V' g' r.agg y.1 u:=by
   unfold ResV at h1
   unfold ValR
   cases hag:r.agg with
   |true=>
    simp only[hag,if_true]at h1 ⊢
    obtain⟨vs,hv,h1⟩:=h1
    exact⟨vs,h1,fun V' g' hc=>⟨vs,hv,hc⟩⟩
   |false=>
    simp only[hag,Bool.false_eq_true,if_false]at h1 ⊢
    refine⟨[u],h1.2,fun V' g' hc=>?_⟩
    cases hy1:y.1 with
    |nil=>rw[hy1]at hc;exact hc.elim
    |cons c cs=>
     rw[hy1]at hc
     cases cs with
     |nil=>exact⟨c,rfl,hc.1⟩
     |cons c' cs=>exact hc.2.elim
  obtain⟨vs,hrc,hval⟩:=hv
  obtain⟨ps1,b1,b2,b3,b4,b5⟩:=K7x hy hrc
  refine⟨ps1++ps2,by simp[pobs,a1,b1],by rw[b2,a2];simp,?_,by rw[a4,b4];simp,?_⟩
  ·intro p hp
   rcases List.mem_append.1 hp with hp|hp
   ·exact b3 p hp
   ·exact a3 p hp
  ·intro g' V' hk hY
   exact⟨hval V' g' (b5 g' V' (fun p hp=>hk p (List.mem_append_left _ hp)) hY),a5 g' V' (fun p hp=>hk p (List.mem_append_right _ hp)) hY⟩
 | [],_,_::_,_,_,_,hr=>by simp only[ResVs]at hr
 |_::_,_,[],_,_,_,hr=>by simp only[ResVs]at hr
theorem K16:∀ {l:List Nat},distinct l=true→l.Nodup
 | [],_=>List.nodup_nil
 |k::l,h=>by
  simp only[distinct,Bool.and_eq_true,Bool.not_eq_true']at h
  refine List.nodup_cons.2 ⟨fun hk=>?_,K16 h.2⟩
  have:=h.1
  simp[hk]at this
def Gh.got(g:Gh)(σ:St)(ps:List Pl):Gh:=
  ⟨fun i v=>match ps.find? (fun p=>p.id==i)with
    |some p=>if v=σ.nw i then p.v else g.H i v
    |none=>g.H i v,
   fun i=>match ps.find? (fun p=>p.id==i)with
    |some p=>p.F
    |none=>g.F i,g.Z⟩
theorem K2n{ps:List Pl}(hn:(ps.map (·.id)).Nodup){p:Pl}(hp:p∈ps):ps.find? (fun q=>q.id==p.id)=some p:=by
 induction ps with
 |nil=>simp at hp
 |cons q ps ih=>
  simp only[List.map_cons,List.nodup_cons]at hn
  rcases List.mem_cons.1 hp with rfl|hp
  ·simp
  ·have:q.id≠p.id:=fun e=>hn.1 (e▸List.mem_map.2 ⟨p,hp,rfl⟩)
   rw[List.find?_cons_of_neg (by simpa using this)]
   exact ih hn.2 hp
theorem K5f{ps:List Pl}{i:Nat}(h:∀p∈ps,p.id≠i):ps.find? (fun q=>q.id==i)=none:=by
 rw[List.find?_eq_none]
 intro p hp
 simpa using h p hp
theorem K6n{ps:List Pl}(hn:(ps.flatMap (·.F)).Nodup){p q:Pl}(hp:p∈ps)(hq:q∈ps){b:Nat}(h1:b∈p.F)(h2:b∈q.F)(hid:(ps.map (·.id)).Nodup):p=q:=by
 induction ps with
 |nil=>simp at hp
 |cons r ps ih=>
  rw[List.flatMap_cons,List.nodup_append]at hn
  simp only[List.map_cons,List.nodup_cons]at hid
  rcases List.mem_cons.1 hp with rfl|hp'<;>rcases List.mem_cons.1 hq with rfl|hq'
  ·rfl
  ·exact(hn.2.2 b h1 b (List.mem_flatMap.2 ⟨q,hq',h2⟩) rfl).elim
  ·exact(hn.2.2 b h2 b (List.mem_flatMap.2 ⟨p,hp',h1⟩) rfl).elim
  ·exact ih hn.2.1 hp' hq' hid.2
theorem K8w{ps:List Pl}(hn:(ps.flatMap (·.F)).Nodup){p:Pl}(hp:p∈ps):p.F.Nodup:=by
 induction ps with
 |nil=>simp at hp
 |cons r ps ih=>
  rw[List.flatMap_cons,List.nodup_append]at hn
  rcases List.mem_cons.1 hp with rfl|hp
  ·exact hn.1
  ·exact ih hn.2.1 hp
theorem pobs_at{ps:List Pl}(hn:(ps.map (·.id)).Nodup)(hl:∀p∈ps,p.id<σ.o.length)(i:Nat)(acc:OV):(pobs σ ps).foldl (fun acc x=>if x.1=i∧i<σ.o.length then x.2 else acc) acc=
  match ps.find? (fun p=>p.id==i)with
  |some p=>⟨σ.nw p.id,.row true p.sz p.es⟩
  |none=>acc:=by
 induction ps generalizing acc with
 |nil=>rfl
 |cons q ps ih=>
  simp only[List.map_cons,List.nodup_cons]at hn
  simp only[pobs,List.map_cons,List.foldl_cons]
  have:=ih hn.2 (fun p hp=>hl p (List.mem_cons_of_mem _ hp))
  simp only[pobs]at this
  rw[this]
  by_cases hq:q.id=i
  ·subst hq
   rw[List.find?_cons_of_pos (by simp),K5f (fun p hp e=>hn.1 (by rw[←e];exact List.mem_map.2 ⟨p,hp,rfl⟩))]
   simp[hl q (by simp)]
  ·rw[List.find?_cons_of_neg (by simpa using hq)]
   split
   ·rfl
   ·simp[hq]
theorem Rel.got(R:Rel base Z w0 w σ a.tmps g){d:Nat}{s:SV}{v:Value}{ps:List Pl}(hsz:w.heap.size≤w'.heap.size)(hother:∀b,b<w.heap.size→w'.heap[b]? =w.heap[b]?)(gr:Bel base w0 w')
  (hid:(ps.map (·.id)).Nodup) (hok:∀p∈ps,p.id<σ.o.length∧p.ok w') (hnd:(ps.flatMap (·.F)).Nodup) (hnew:∀b∈ps.flatMap (·.F),w.heap.size≤b)
  (hs:∀V',Knows σ (g.got σ ps) V' ps→Tr w w' σ.V V' g (g.got σ ps)→SlotR w' V' (g.got σ ps) s v):
  Rel base Z w0 w' (σ.app ⟨some (d,s),pobs σ ps⟩) (a.put (some d) v).tmps (g.got σ ps):=by
 have hob:∀i,(σ.app ⟨some (d,s),pobs σ ps⟩).ob i=match ps.find? (fun p=>p.id==i)with|some p=>⟨σ.nw p.id,.row true p.sz p.es⟩|none=>σ.ob i:=by
  intro i
  rw[K20,pobs_at hid (fun p hp=>(hok p hp).1)]
 have hfF:∀i,(∃p∈ps,p.id=i∧(g.got σ ps).F i=p.F∧ps.find? (fun p=>p.id==i)=some p)∨((g.got σ ps).F i=g.F i∧ps.find? (fun p=>p.id==i)=none):=by
  intro i
  by_cases h:∃p∈ps,p.id=i
  ·obtain⟨p,hp,rfl⟩:=h
   left
   exact⟨p,hp,rfl,by simp[Gh.got,K2n hid hp],K2n hid hp⟩
  ·right
   have:=K5f (fun p hp e=>h ⟨p,hp,e⟩)
   exact⟨by simp[Gh.got,this],this⟩
 have hV:∀i,σ.V i≤(σ.app ⟨some (d,s),pobs σ ps⟩).V i:=by
  intro i
  simp only[St.V,hob]
  rcases hfF i with ⟨p,hp,rfl,_,hf⟩|⟨_,hf⟩<;>rw[hf]
  ·simp[St.nw]
  ·exact Nat.le_refl _
 have hH:∀i v,v≤σ.V i→(g.got σ ps).H i v=g.H i v:=by
  intro i v hv
  simp only[Gh.got]
  split
  ·rw[if_neg]
   simp only[St.nw,St.V]at*
   omega
  ·rfl
 have hlt:∀p∈ps,∀b∈p.F,b<w'.heap.size∧w.heap.size≤b:=fun p hp b hb=>
  ⟨Ow.lt _ _ _ (hok p hp).2 b hb,hnew b (List.mem_flatMap.2 ⟨p,hp,hb⟩)⟩
 have hx:∀b,b<w.heap.size→Xb g b→Xb (g.got σ ps) b:=by
  intro b hb hx
  refine⟨hx.1,fun i hi=>?_⟩
  rcases hfF i with ⟨p,hp,rfl,hF,_⟩|⟨hF,_⟩<;>rw[hF]at hi
  ·have:=(hlt p hp b (List.mem_of_mem_head? hi)).2;omega
  ·exact hx.2 i hi
 have hxe:∀b,b<w.heap.size→Xe g b→Xe (g.got σ ps) b:=by
  intro b hb hx
  refine⟨hx.1,fun i hi=>?_⟩
  rcases hfF i with ⟨p,hp,rfl,hF,_⟩|⟨hF,_⟩<;>rw[hF]at hi
  ·have:=(hlt p hp b hi).2;omega
  ·exact hx.2 i hi
 have tr:Tr w w' σ.V (σ.app ⟨some (d,s),pobs σ ps⟩).V g (g.got σ ps):=⟨hsz,hV,hH,fun b hb hxb=>⟨hother b hb,hx b hb hxb⟩,hxe,rfl⟩
 have hv1:∀i,(σ.app ⟨some (d,s),pobs σ ps⟩).V i=1→σ.V i=1:=by
  intro i
  simp only[St.V,hob]
  rcases hfF i with ⟨p,hp,rfl,_,hf⟩|⟨_,hf⟩<;>rw[hf]
  ·simp[St.nw]
  ·exact fun h=>h
 have hk:Knows σ (g.got σ ps) (σ.app ⟨some (d,s),pobs σ ps⟩).V ps:=by
  intro p hp
  refine⟨by simp[Gh.got,K2n hid hp],?_⟩
  simp only[St.V,hob,K2n hid hp]
  exact Nat.le_refl _
 refine R.turn (some (d,s)) (pobs σ ps) w' (g.got σ ps) (some d) v tr ⟨rfl,hs _ hk tr⟩ hv1 ?_ ?_ ?_ ?_ gr
 ·intro i
  rw[hob]
  rcases hfF i with ⟨p,hp,rfl,hF,hf⟩|⟨hF,hf⟩<;>rw[hf]
  ·right
   simp only[ObjR]
   have ho:=(hok p hp).2
   unfold Pl.ok Ow at ho
   obtain⟨A,cap,hv,hl,ho⟩:=ho
   refine⟨A,cap,by rw[(hk p hp).1];exact hv,hl,?_⟩
   rw[hF]
   simpa using ho
  ·left
   exact⟨rfl,hF,fun b hb=>hother b (R.frs i b hb).2⟩
 ·intro i
  rcases hfF i with ⟨p,hp,rfl,hF,_⟩|⟨hF,_⟩<;>rw[hF]
  ·exact K8w hnd hp
  ·exact R.nd i
 ·intro b i j hi hj
  rcases hfF i with ⟨p,hp,rfl,hF,_⟩|⟨hF,_⟩<;>rw[hF]at hi<;>rcases hfF j with ⟨q,hq,rfl,hF',_⟩|⟨hF',_⟩<;>rw[hF']at hj
  ·rw[K6n hnd hp hq hi hj hid]
  ·have:=(hlt p hp b hi).2;have:=(R.frs j b hj).2;omega
  ·have:=(hlt q hq b hj).2;have:=(R.frs i b hi).2;omega
  ·exact R.dj b i j hi hj
 ·intro i b hi
  rcases hfF i with ⟨p,hp,rfl,hF,_⟩|⟨hF,_⟩<;>rw[hF]at hi
  ·have:=hlt p hp b hi;exact⟨fun hb=>by have:=R.bs b hb;omega,by omega⟩
  ·have:=R.frs i b hi;exact⟨this.1,by omega⟩
end
end Go.Proofs.YtjneccbpkckdfaaGreatR
namespace Go.Proofs.YtjneccbpkckdfaaGreatR
open Go Go.RowKit
def SC.noB:SC→Bool
 |.bor (.sc _)=>true
 |.bor _=>false
 |_=>true
def K3x:List SC→Bool
 | []=>true
 |c::cs=>c.noB&&K3x cs
def vsNoB:List (Bool×List SC)→Bool
 | []=>true
 |v::vs=>K3x v.2&&vsNoB vs
def SV.noB:SV→Bool
 |.val _ cs=>K3x cs
 |.adr (.ex true ..)=>false
 |.tup vs=>vsNoB vs
 |.arr ..=>true
 |_=>true
def OC.noB:OC→Bool
 |.none=>true
 |.row dp _ _=>dp
 |.box cs=>K3x cs
 |.lent ..=>false
 |.hole ..=>true
def sNoB:List (Nat×SV)→Bool
 | []=>true
 |x::l=>x.2.noB&&sNoB l
def oNoB:List OV→Bool
 | []=>true
 |x::l=>x.oc.noB&&oNoB l
def St.noB(σ:St):Bool:=sNoB σ.s&&oNoB σ.o
section
variable {P:Program} {base:Nat→Prop} {Z:ZZ} {w0 w w':World} {σ:St} {g g':Gh} {o:Oper} {a:Act} {V V':Nat→Nat} {ts:Array Value}
theorem noB_get(h:σ.noB=true)(k:Nat):(σ.get k).noB=true:=by
 simp only[St.noB,Bool.and_eq_true]at h
 have key:∀l:List (Nat×SV),sNoB l=true→(lk k l).noB=true:=by
  intro l
  induction l with
  |nil=>intro _;rfl
  |cons x l ih=>
   intro h
   simp only[sNoB,Bool.and_eq_true]at h
   simp only[lk]
   split
   ·exact h.1
   ·exact ih h.2
 exact key σ.s h.1
theorem noB_ob(h:σ.noB=true)(id:Nat):(σ.ob id).oc.noB=true:=by
 simp only[St.noB,Bool.and_eq_true]at h
 have key:∀(l:List OV) (i:Nat),oNoB l=true→((l.getD i ⟨0,.none⟩).oc).noB=true:=by
  intro l
  induction l with
  |nil=>intro i _;simp[OC.noB]
  |cons x l ih=>
   intro i h
   simp only[oNoB,Bool.and_eq_true]at h
   cases i with
   |zero=>simpa using h.1
   |succ i=>simpa using ih i h.2
 exact key σ.o id h.2
structure TrE (w w':World) (V V':Nat→Nat) (g g':Gh):Prop where
 size:w.heap.size≤w'.heap.size
 ver:∀id,V id≤V' id
 hd:∀id v,v≤V id→g'.H id v=g.H id v
 xe:∀b,b<w.heap.size→Xe g b→w'.heap[b]? =w.heap[b]? ∧Xe g' b
 z:g'.Z=g.Z
theorem TrE.ke(h:TrE w w' V V' g g'):Kp w w' (Xe g) (Xe g'):=⟨h.size,fun b hx hb=>h.xe b hb hx⟩
theorem TrE.cell(h:TrE w w' V V' g g'):∀(c:SC) (v:Value),c.noB=true→CellR w V g c v→CellR w' V' g' c v
 |.pl t,v,_,hc=>Rd.keep h.ke t v hc
 |.bor t,v,hn,hc=>by
  cases t with
  |sc u=>simp only[CellR,Rd]at hc ⊢;exact hc
  |_=>simp[SC.noB]at hn
 |.emp _,_,_,hc=>hc
 |.ref id ver sz lo n,v,_,hc=>by
  simp only[CellR]at hc ⊢
  exact⟨Nat.le_trans hc.1 (h.ver id),(h.hd id ver hc.1).symm▸hc.2⟩
 |.clo f bs,v,_,hc=>by
  simp only[CellR]at hc ⊢
  refine⟨?_,fun b hb=>Nat.le_trans (hc.2 b hb) (h.ver b.1)⟩
  rw[hc.1]
  congr 2
  exact List.map_congr_left fun b hb=>(h.hd b.1 b.2 (hc.2 b hb)).symm
theorem TrE.cells(h:TrE w w' V V' g g'):∀(cs:List SC) (vs:List Value),K3x cs=true→CellsR w V g cs vs→CellsR w' V' g' cs vs
 | [],[],_,_=>trivial
 |c::cs,v::vs,hn,hc=>by
  simp only[K3x,Bool.and_eq_true]at hn
  exact⟨h.cell c v hn.1 hc.1,h.cells cs vs hn.2 hc.2⟩
 | [],_::_,_,hc=>hc.elim
 |_::_,[],_,hc=>hc.elim
theorem TrE.adr(h:TrE w w' V V' g g'):∀(a:Ad) (v:Value),SV.noB (.adr a)=true→AdR w V g a v→AdR w' V' g' a v
 |.bx id ver k,v,_,ha=>by
  simp only[AdR]at ha ⊢
  exact⟨Nat.le_trans ha.1 (h.ver id),(h.hd id ver ha.1).symm▸ha.2⟩
 |.el id ver sz i k,v,_,ha=>by
  simp only[AdR]at ha ⊢
  exact⟨Nat.le_trans ha.1 (h.ver id),(h.hd id ver ha.1).symm▸ha.2⟩
 |.ex bo sz es i k,v,hn,ha=>by
  simp only[AdR]at ha ⊢
  obtain⟨b,off,hv,hr,hb⟩:=ha
  refine⟨b,off,hv,?_,Nat.lt_of_lt_of_le hb h.size⟩
  cases bo with
  |true=>simp[SV.noB]at hn
  |false=>
   simp only[Bool.false_eq_true,if_false]at hr ⊢
   exact⟨(h.xe b hb hr.1).2,RdRow.move h.ke es off off (fun j _=>Kf (h.xe b hb hr.1).1 _) hr.2⟩
 |.pb ts k,v,_,ha=>by
  simp only[AdR]at ha ⊢
  obtain⟨b,hv,hx,hb,hr⟩:=ha
  exact⟨b,hv,(h.xe b hb hx).2,Nat.lt_of_lt_of_le hb h.size,RdEl.move h.ke ts 0 0 (fun j _=>Kf (h.xe b hb hx).1 _) hr⟩
theorem TrE.val(h:TrE w w' V V' g g')(agg:Bool)(cs:List SC)(v:Value)(hn:K3x cs=true)(hc:ValR w V g agg cs v):ValR w' V' g' agg cs v:=by
 unfold ValR at hc ⊢
 cases agg with
 |true=>simp only[if_true]at hc ⊢;obtain⟨vs,hv,hc⟩:=hc;exact⟨vs,hv,h.cells cs vs hn hc⟩
 |false=>
  simp only[Bool.false_eq_true,if_false]at hc ⊢
  obtain⟨c,rfl,hc⟩:=hc
  simp only[K3x,Bool.and_true]at hn
  exact⟨c,rfl,h.cell c v hn hc⟩
theorem TrE.vals(h:TrE w w' V V' g g'):∀(xs:List (Bool×List SC)) (vs:List Value),vsNoB xs=true→ValsR w V g xs vs→ValsR w' V' g' xs vs
 | [],[],_,_=>trivial
 |x::xs,v::vs,hn,hc=>by
  simp only[vsNoB,Bool.and_eq_true]at hn
  exact⟨h.val x.1 x.2 v hn.1 hc.1,h.vals xs vs hn.2 hc.2⟩
 | [],_::_,_,hc=>hc.elim
 |_::_,[],_,hc=>hc.elim
theorem TrE.slot(h:TrE w w' V V' g g'):∀(s:SV) (v:Value),s.noB=true→SlotR w V g s v→SlotR w' V' g' s v
 |.undef,_,_,_=>trivial
 |.skp,_,_,hs=>hs
 |.val agg cs,v,hn,hs=>h.val agg cs v hn hs
 |.adr a,v,hn,hs=>h.adr a v hn hs
 |.tup xs,v,hn,hs=>by
  obtain⟨vs,hv,hs⟩:=hs
  exact⟨vs,hv,h.vals xs vs hn hs⟩
 |.arr id ver k n,v,hn,hs=>by
  obtain⟨b,hb,hv⟩:=hs
  exact⟨b,h.adr (.bx id ver k) _ rfl hb,hv⟩
theorem TrE.obj(h:TrE w w' V V' g g')(id v:Nat)(hv:v≤V id)(hF:g'.F id=g.F id)(hb:∀b∈g.F id,w'.heap[b]? =w.heap[b]?):∀(o:OC),o.noB=true→ObjR w V g id v o→ObjR w' V' g' id v o
 |.none,_,ho=>by simp only[ObjR]at ho ⊢;rw[hF];exact ho
 |.row dp sz es,hn,ho=>by
  simp only[OC.noB]at hn
  subst hn
  simp only[ObjR]at ho ⊢
  obtain⟨A,cap,hH,hl,ho⟩:=ho
  refine⟨A,cap,(h.hd id v hv).trans hH,hl,?_⟩
  rcases ho with ho|⟨b,off,row,ty,G,hA,hc,hs,hr,hG⟩
  ·exact .inl ⟨ho.1,ho.2.1,hF.trans ho.2.2⟩
  ·have hb':=hb b (by rw[hG];simp)
   refine .inr ⟨b,off,row,ty,G,hA,hb'.trans hc,hs,?_,hF.trans hG⟩
   simp only[if_true]at hr ⊢
   exact OwRow.move es off off G (fun j _=>Kf hb' _) (fun b' hb''=>hb b' (by rw[hG];simp[hb''])) hr
 |.box cs,hn,ho=>by
  simp only[ObjR]at ho ⊢
  obtain⟨b,ty,vs,hH,hc,hr,hG⟩:=ho
  exact⟨b,ty,vs,(h.hd id v hv).trans hH,(hb b (by rw[hG];simp)).trans hc,h.cells cs vs hn hr,hF.trans hG⟩
 |.lent _ _,hn,_=>by simp[OC.noB]at hn
 |.hole sz es i k id2 v2,_,ho=>by
  simp only[ObjR]at ho ⊢
  obtain⟨A,cap,b,off,row,ty,e,Ga,Gb,Gc,Gd,hH,hl,hA,hc,hs,he,hel,hk,h1,h2,h3,h4,h5,hv2,hG⟩:=ho
  have hb':=hb b (by rw[hG];simp)
  refine⟨A,cap,b,off,row,ty,e,Ga,Gb,Gc,Gd,(h.hd id v hv).trans hH,hl,hA,hb'.trans hc,hs,he,hel,hk,?_,?_,?_,?_,?_,Nat.le_trans hv2 (h.ver id2),hF.trans hG⟩
  ·exact OwRow.move _ _ _ _ (fun j _=>Kf hb' _) (fun b' h'=>hb b' (by rw[hG];simp[h'])) h1
  ·exact OwEl.move _ _ _ _ (fun j _=>Kf hb' _) (fun b' h'=>hb b' (by rw[hG];simp[h'])) h2
  ·rw[h.hd id2 v2 hv2];exact(Kf hb' _).trans h3
  ·exact OwEl.move _ _ _ _ (fun j _=>Kf hb' _) (fun b' h'=>hb b' (by rw[hG];simp[h'])) h4
  ·exact OwRow.move _ _ _ _ (fun j _=>Kf hb' _) (fun b' h'=>hb b' (by rw[hG];simp[h'])) h5
theorem Rel.turnE(R:Rel base Z w0 w σ a.tmps g)(nb:σ.noB=true)(d:Option (Nat×SV))(obs:List (Nat×OV))(w':World)(g':Gh)(dst:Option Tmp)(v:Value)
  (tr:TrE w w' σ.V (σ.app ⟨d,obs⟩).V g g')
  (hs:match d with|some (d,s)=>dst=some d∧SlotR w' (σ.app ⟨some (d,s),obs⟩).V g' s v|none=>dst=none)
  (hv1:∀id,(σ.app ⟨d,obs⟩).V id=1→σ.V id=1)
  (hob:∀id,((σ.app ⟨d,obs⟩).ob id=σ.ob id∧g'.F id=g.F id∧∀b∈g.F id,w'.heap[b]? =w.heap[b]?)∨ObjR w' (σ.app ⟨d,obs⟩).V g' id ((σ.app ⟨d,obs⟩).ob id).ver ((σ.app ⟨d,obs⟩).ob id).oc)
  (nd:∀id,(g'.F id).Nodup) (dj:∀b i j,b∈g'.F i→b∈g'.F j→i=j) (frs:∀i b,b∈g'.F i→¬base b∧b<w'.heap.size) (gr:Bel base w0 w'):
  Rel base Z w0 w' (σ.app ⟨d,obs⟩) (a.put dst v).tmps g':=by
 refine⟨?_,?_,?_,nd,dj,frs,gr,fun b hb=>Nat.lt_of_lt_of_le (R.bs b hb) tr.size,tr.z.trans R.zz,R.zb,R.tb,fun id h=>by rw[tr.hd id 1 (by rw[hv1 id h];exact Nat.le_refl _),tr.z];exact R.pin id (hv1 id h)⟩
 ·rw[K91,R.len,K27]
  cases dst<;>simp
 ·intro k
  cases d with
  |none=>
   simp only at hs
   subst hs
   exact tr.slot _ _ (noB_get nb k) (R.slot k)
  |some x=>
   obtain⟨d,s⟩:=x
   obtain⟨rfl,hs⟩:=hs
   rw[K2o,K27,K4e,R.len]
   by_cases hk:d=k∧k<a.tmps.size
   ·rw[if_pos hk,if_pos hk];exact hs
   ·rw[if_neg hk,if_neg hk];exact tr.slot _ _ (noB_get nb k) (R.slot k)
 ·intro id
  rcases hob id with ⟨h1,h2,h3⟩|h
  ·rw[h1]
   exact tr.obj id _ (Nat.le_refl _) h2 h3 _ (noB_ob nb id) (R.obj id)
  ·exact h
theorem OwRow.open_{sz b off:Nat}{es:List (List T)}{G:List Nat}(h:OwRow w sz b off es G){i k:Nat}{e:List T}{t:T}(hi:es[i]? =some e)(hk:e[k]? =some t):
  ∃v Ga Gb Gt Gc Gd,e.length=sz∧OwRow w sz b off (es.take i) Ga∧OwEl w b (off+i*sz) (e.take k) Gb∧w.cell? ⟨b,off+i*sz+k,none⟩=some v∧Ow w t v Gt∧
   OwEl w b (off+i*sz+k+1) (e.drop (k+1)) Gc∧OwRow w sz b (off+(i+1)*sz) (es.drop (i+1)) Gd∧G=Ga++(Gb++(Gt++Gc))++Gd:=by
 rw[K21 hi]at h
 obtain⟨Ga,G',h1,h2,rfl⟩:=(K11 _ _ _ _).1 h
 rw[List.length_take,Nat.min_eq_left (Nat.le_of_lt (Kl hi))]at h2
 simp only[OwRow]at h2
 obtain⟨hl,Ge,Gd,h3,h4,rfl⟩:=h2
 rw[K21 hk]at h3
 obtain⟨Gb,G'',h5,h6,rfl⟩:=(K1w _ _ _ _).1 h3
 rw[List.length_take,Nat.min_eq_left (Nat.le_of_lt (Kl hk))]at h6
 simp only[OwEl]at h6
 obtain⟨v,Gt,Gc,hv,h7,h8,rfl⟩:=h6
 exact⟨v,Ga,Gb,Gt,Gc,Gd,hl,h1,h5,hv,h7,h8,by rw[show off+(i+1)*sz=off+i*sz+sz by rw[Nat.add_mul];omega];exact h4,by simp⟩
theorem OwRow.close_{sz b off:Nat}{es:List (List T)}{i k:Nat}{e:List T}{t:T}(hi:es[i]? =some e)(hk:k<e.length){v:Value}{Ga Gb Gt Gc Gd:List Nat}(hl:e.length=sz)(h1:OwRow w sz b off (es.take i) Ga)
  (h2:OwEl w b (off+i*sz) (e.take k) Gb) (h3:w.cell? ⟨b,off+i*sz+k,none⟩=some v) (h4:Ow w t v Gt) (h5:OwEl w b (off+i*sz+k+1) (e.drop (k+1)) Gc) (h6:OwRow w sz b (off+(i+1)*sz) (es.drop (i+1)) Gd):
  OwRow w sz b off (es.set i (e.set k t)) (Ga++(Gb++(Gt++Gc))++Gd):=by
 have hi':=Kl hi
 rw[K4z _ hi']
 refine(K11 _ _ _ _).2 ⟨Ga,_,h1,?_,List.append_assoc _ _ _⟩
 rw[List.length_take,Nat.min_eq_left (Nat.le_of_lt hi')]
 simp only[OwRow]
 refine⟨by simp[hl],Gb++(Gt++Gc),Gd,?_,by rw[show off+i*sz+sz=off+(i+1)*sz by rw[Nat.add_mul];omega];exact h6,rfl⟩
 rw[K4z _ hk]
 refine(K1w _ _ _ _).2 ⟨Gb,_,h2,?_,rfl⟩
 rw[List.length_take,Nat.min_eq_left (Nat.le_of_lt hk)]
 simp only[OwEl]
 exact⟨v,Gt,Gc,h3,h4,h5,rfl⟩
def effT(d id2:Nat)(x:Od)(σ:St):Option Ef:=(σ.adr x).bind fun a=>match a with
 |.el id ver sz i k=>match σ.ob id with
  |⟨v,.row true sz' es⟩=>if v=ver∧sz=sz'∧id2≠id∧id2<σ.o.length∧σ.noB=true then(es[i]?).bind fun e=>(e[k]?).bind fun t=>match t with
    |.sl sz2 es2=>some ⟨some (d,.val false [.ref id2 (σ.nw id2) sz2 0 es2.length]),[(id2,⟨σ.nw id2,.row true sz2 es2⟩),(id,⟨ver,.hole sz es i k id2 (σ.nw id2)⟩)]⟩
    |_=>none
   else none
  |_=>none
 |_=>none
theorem good_loadT(R:Rel base Z w0 w σ a.tmps g){d id2:Nat}{x:Od}{x':Operand}{t:TypeId}(hd:o.dst=some d)(ho:o.op= .load t x')(hx:K3 x' x=true)(ht:Ty P t false 1){e:Ef}(he:effT d id2 x σ=some e):
  Good P o a base Z w0 w (σ.app e):=by
 unfold effT at he
 obtain⟨ad,hae,he⟩:=Option.bind_eq_some_iff.1 he
 have hA:=R.adr hx hae
 split at he
 rotate_left
 ·simp at he
 rename_i id ver sz i k
 split at he
 rotate_left
 ·simp at he
 rename_i v sz' es hob
 obtain⟨⟨rfl,rfl,hne,hlt,nb⟩,he2⟩:=Option.ite_none_right_eq_some.1 he
 clear he
 obtain⟨el,hel,he3⟩:=Option.bind_eq_some_iff.1 he2
 clear he2
 obtain⟨tt,htt,he4⟩:=Option.bind_eq_some_iff.1 he3
 clear he3
 split at he4
 rotate_left
 ·simp at he4
 rename_i sz2 es2
 simp only[Option.some.injEq]at he4
 subst he4
 have hor:=R.obj id
 rw[hob]at hor
 simp only[ObjR]at hor
 obtain⟨A,cap,hH,hl,hor⟩:=hor
 have hi:=Kl hel
 have hk:=Kl htt
 rcases hor with ⟨_,h0,_⟩|⟨b,off,row,ty,G,hAe,hcell,hcap,hrow,hG⟩
 ·rw[h0]at hi;simp at hi
 simp only[if_true]at hrow
 obtain⟨u,Ga,Gb,Gt,Gc,Gd,hlen,h1,h2,h3,h4,h5,h6,hGs⟩:=hrow.open_ hel htt
 simp only[AdR]at hA
 obtain⟨_,b',off',len',cap',hH',hv⟩:=hA
 rw[hH,hAe]at hH'
 simp only[Value.slice.injEq,Option.some.injEq,Addr.mk.injEq,and_true]at hH'
 obtain⟨⟨rfl,rfl⟩,_,_⟩:=hH'
 have hrun:(execOp a.eval o).run P w= .ok (.value u) w:=by
  have:=K3n (P:=P) (w:=w) ht (b:=b) (o:=off+i*sz+k) (vs:=[u]) rfl (fun j y hj=>by
   cases j with
   |zero=>simp at hj;subst hj;exact h3
   |succ j=>simp at hj) (.inr rfl)
  simp only[execOp,ho]
  refine K2d ?_
  simpa[hv,Instr.loadAt,Instr.sureAddr]using this
 have hidl:id<σ.o.length:=by
  rcases Nat.lt_or_ge id σ.o.length with h|h
  ·exact h
  ·rw[K3s h]at hob;simp at hob
 have hob':∀j,(σ.app ⟨some (d,.val false [.ref id2 (σ.nw id2) sz2 0 es2.length]),[(id2,⟨σ.nw id2,.row true sz2 es2⟩),(id,⟨v,.hole sz es i k id2 (σ.nw id2)⟩)]⟩).ob j=
   if j=id then⟨v,.hole sz es i k id2 (σ.nw id2)⟩else if j=id2 then⟨σ.nw id2,.row true sz2 es2⟩else σ.ob j:=by
  intro j
  rw[K20]
  simp only[List.foldl_cons,List.foldl_nil]
  by_cases h1:id=j
  ·subst h1;simp[hidl]
  ·have h1':¬j=id:=fun e=>h1 e.symm
   by_cases h2:id2=j
   ·subst h2;simp[h1,h1',hlt]
   ·have h2':¬j=id2:=fun e=>h2 e.symm
    simp[h1,h2,h1',h2']
 have hV:∀j,(σ.app ⟨some (d,.val false [.ref id2 (σ.nw id2) sz2 0 es2.length]),[(id2,⟨σ.nw id2,.row true sz2 es2⟩),(id,⟨v,.hole sz es i k id2 (σ.nw id2)⟩)]⟩).V j=if j=id2 then σ.nw id2 else σ.V j:=by
  intro j
  simp only[St.V,hob']
  by_cases h1:j=id
  ·subst h1
   rw[if_pos rfl,if_neg (fun e=>hne e.symm),hob]
  ·rw[if_neg h1]
   by_cases h2:j=id2
   ·subst h2;simp
   ·simp[h2]
 generalize hsig:σ.app ⟨some (d,.val false [.ref id2 (σ.nw id2) sz2 0 es2.length]),[(id2,⟨σ.nw id2,.row true sz2 es2⟩),(id,⟨v,.hole sz es i k id2 (σ.nw id2)⟩)]⟩=σ' at hob' hV ⊢
 have hnv:σ.V id2<σ.nw id2:=by simp[St.V,St.nw]
 have hVle:∀j,σ.V j≤σ'.V j:=by
  intro j
  rw[hV]
  split
  ·rename_i h;subst h;exact Nat.le_of_lt hnv
  ·exact Nat.le_refl _
 have hg:∃g':Gh,g'.Z=g.Z∧(∀i v,v≤σ.V i→g'.H i v=g.H i v)∧g'.H id2 (σ.nw id2)=u∧g'.F id2=Gt∧g'.F id=b::(Ga++Gb++Gc++Gd)∧∀j,j≠id→j≠id2→g'.F j=g.F j:=by
  refine⟨⟨fun i v=>if i=id2∧v=σ.nw id2 then u else g.H i v,fun i=>if i=id2 then Gt else if i=id then b::(Ga++Gb++Gc++Gd)else g.F i,g.Z⟩,rfl,?_,by simp,by simp,by simp[hne.symm],fun j h1 h2=>by simp[h1,h2]⟩
  intro i v hv'
  simp only
  rw[if_neg]
  rintro ⟨rfl,rfl⟩
  omega
 obtain⟨g',hgZ,hgH,hgH2,hgF2,hgF1,hgF⟩:=hg
 have hsub:∀j b',b'∈g'.F j→(j=id∨j=id2)∧b'∈g.F id∨j≠id∧j≠id2∧b'∈g.F j:=by
  intro j b' hb'
  by_cases h1:j=id
  ·subst h1;rw[hgF1]at hb'
   left;refine⟨.inl rfl,?_⟩
   rw[hG,hGs];simp at hb' ⊢
   rcases hb' with h|h|h|h|h<;>simp[h]
  ·by_cases h2:j=id2
   ·subst h2;rw[hgF2]at hb'
    left;refine⟨.inr rfl,?_⟩
    rw[hG,hGs];simp[hb']
   ·rw[hgF j h1 h2]at hb'
    exact .inr ⟨h1,h2,hb'⟩
 have hnd:=R.nd id
 rw[hG,hGs]at hnd
 have hnd1:(b::(Ga++Gb++Gc++Gd)).Nodup:=hnd.sublist (List.Sublist.cons_cons _ (by
  rw[List.append_assoc Ga Gb,]
  refine List.Sublist.append ?_ (List.Sublist.refl _)
  refine List.Sublist.append (List.Sublist.refl _) ?_
  exact List.Sublist.append (List.Sublist.refl _) (List.sublist_append_right _ _)))
 have hnd2:Gt.Nodup:=by
  refine hnd.sublist ?_
  refine List.Sublist.cons _ ?_
  refine List.Sublist.trans ?_ (List.sublist_append_left _ _)
  refine List.Sublist.trans ?_ (List.sublist_append_right _ _)
  refine List.Sublist.trans ?_ (List.sublist_append_right _ _)
  exact List.sublist_append_left _ _
 have hdis:∀b',b'∈Gt→b'∈b::(Ga++Gb++Gc++Gd)→False:=by
  intro b' q1 q2
  simp only[List.nodup_cons,List.nodup_append,List.mem_append,List.mem_cons]at hnd q2
  obtain⟨n1,⟨-,⟨-,⟨-,-,n4⟩,n3⟩,n2⟩,-,n5⟩:=hnd
  rcases q2 with rfl|((h|h)|h)|h
  ·exact n1 (.inl (.inr (.inr (.inl q1))))
  ·exact n2 b' h b' (.inr (.inl q1)) rfl
  ·exact n3 b' h b' (.inl q1) rfl
  ·exact n4 b' q1 b' h rfl
  ·exact n5 b' (.inr (.inr (.inl q1))) b' h rfl
 have tr:TrE w w σ.V σ'.V g g':=by
  refine⟨Nat.le_refl _,hVle,hgH,fun b' _ hx=>⟨rfl,?_,fun j hj=>?_⟩,hgZ⟩
  ·rw[hgZ];exact hx.1
  ·rcases hsub j b' hj with ⟨_,h⟩|⟨_,_,h⟩
   ·exact hx.2 id h
   ·exact hx.2 j h
 refine⟨_,w,hrun,g',?_⟩
 simp only[hd]
 subst hsig
 refine R.turnE nb _ _ w g' (some d) u tr ⟨rfl,?_⟩ (fun j h=>?_) (fun j=>?_) (fun j=>?_) (fun b' p q hp hq=>?_) (fun j b' hj=>?_) R.grew
 ·simp only[SlotR,ValR,Bool.false_eq_true,if_false]
  refine⟨_,rfl,?_⟩
  simp only[CellR]
  exact⟨by rw[hV,if_pos rfl];exact Nat.le_refl _,by rw[hgH2];exact K8j rfl h4⟩
 ·rw[hV]at h
  split at h
  ·simp[St.nw]at h
  ·exact h
 ·by_cases h1:j=id
  ·right
   subst h1
   rw[hob',if_pos rfl]
   simp only[ObjR]
   have hvV:v≤σ.V j:=by simp only[St.V,hob];exact Nat.le_refl _
   exact⟨A,cap,b,off,row,ty,el,Ga,Gb,Gc,Gd,(hgH _ _ hvV).trans hH,hl,hAe,hcell,hcap,hel,hlen,by omega,h1,h2,by rw[hgH2];exact h3,h5,h6,by rw[hV,if_pos rfl];exact Nat.le_refl _,hgF1⟩
  ·by_cases h2:j=id2
   ·right
    subst h2
    rw[hob',if_neg h1,if_pos rfl]
    simp only[ObjR]
    unfold Ow at h4
    obtain⟨A2,cap2,hu,hl2,h4⟩:=h4
    refine⟨A2,cap2,by rw[hgH2];exact hu,hl2,?_⟩
    rw[hgF2]
    simpa using h4
   ·left
    rw[hob',if_neg h1,if_neg h2]
    exact⟨rfl,hgF j h1 h2,fun _ _=>rfl⟩
 ·by_cases h1:j=id
  ·subst h1;rw[hgF1];exact hnd1
  ·by_cases h2:j=id2
   ·subst h2;rw[hgF2];exact hnd2
   ·rw[hgF j h1 h2];exact R.nd j
 ·rcases hsub p b' hp with ⟨h1,h2⟩|⟨h1,h2,h3⟩<;>rcases hsub q b' hq with ⟨k1,k2⟩|⟨k1,k2',k3⟩
  ·rcases h1 with rfl|rfl<;>rcases k1 with rfl|rfl
   ·rfl
   ·rw[hgF1]at hp;rw[hgF2]at hq;exact(hdis b' hq hp).elim
   ·rw[hgF2]at hp;rw[hgF1]at hq;exact(hdis b' hp hq).elim
   ·rfl
  ·exact(k1 (R.dj b' q id k3 h2)).elim
  ·exact(h1 (R.dj b' p id h3 k2)).elim
  ·exact R.dj b' p q h3 k3
 ·rcases hsub j b' hj with ⟨_,h⟩|⟨_,_,h⟩
  ·exact R.frs id b' h
  ·exact R.frs j b' h
def bkO(σ:St)(pid:Nat):Option (List (Nat×OV)):=match σ.ob pid with
 |⟨ver,.hole sz es i k id2 v2⟩=>match σ.ob id2 with
  |⟨v,.row true sz2 es2⟩=>if v=v2∧id2≠pid then some [(id2,⟨v2,.none⟩),(pid,⟨ver,.row true sz (es.set i ((es.getD i []).set k (.sl sz2 es2)))⟩)]else none
  |_=>none
 |_=>none
def bksE(σ:St):List Nat→Option (List (Nat×OV))
 | []=>some []
 |p::l=>(bkO σ p).bind fun o=>(bksE (σ.app ⟨none,o⟩) l).map (o++ ·)
theorem app_app(σ:St)(d:Option (Nat×SV))(o o':List (Nat×OV)):σ.app ⟨d,o++o'⟩=(σ.app ⟨d,o⟩).app ⟨none,o'⟩:=by
 simp only[St.app,List.foldl_append]
theorem Rel.bk1(R:Rel base Z w0 w σ a.tmps g){pid:Nat}{obs:List (Nat×OV)}(h:bkO σ pid=some obs):∃g',Rel base Z w0 w (σ.app ⟨none,obs⟩) a.tmps g':=by
 unfold bkO at h
 split at h
 rotate_left
 ·simp at h
 rename_i ver sz es i k id2 v2 hob
 split at h
 rotate_left
 ·simp at h
 rename_i v sz2 es2 hob2
 obtain⟨⟨rfl,hne⟩,h2⟩:=Option.ite_none_right_eq_some.1 h
 clear h
 simp only[Option.some.injEq]at h2
 subst h2
 have ho:=R.obj pid
 rw[hob]at ho
 simp only[ObjR]at ho
 obtain⟨A,cap,b,off,row,ty,e,Ga,Gb,Gc,Gd,hH,hl,hA,hc,hs,he,hel,hk,h1,h2,h3,h4,h5,hv2,hG⟩:=ho
 have ho2:=R.obj id2
 rw[hob2]at ho2
 have hOw:Ow w (.sl sz2 es2) (g.H id2 v) (g.F id2):=by
  simp only[ObjR,if_true]at ho2
  unfold Ow
  exact ho2
 have hidl:∀ {j:Nat} {x:OV},σ.ob j=x→x.oc≠ .none→j<σ.o.length:=by
  intro j x hx hn
  rcases Nat.lt_or_ge j σ.o.length with h|h
  ·exact h
  ·rw[K3s h]at hx;subst hx;exact(hn rfl).elim
 have hl1:=hidl hob (by simp)
 have hl2:=hidl hob2 (by simp)
 have hgd:es.getD i []=e:=by simp[List.getD_eq_getElem?_getD,he]
 have hrow:=OwRow.close_ (sz:=sz) (t:= .sl sz2 es2) he (by omega) hel h1 h2 h3 hOw h4 h5
 generalize hes:es.set i ((es.getD i []).set k (.sl sz2 es2))=es'
 rw[hgd]at hes
 rw[hes]at hrow
 have hlen:es'.length=es.length:=by rw[←hes];simp
 have hob':∀j,(σ.app ⟨none,[(id2,⟨v,.none⟩),(pid,⟨ver,.row true sz es'⟩)]⟩).ob j=if j=pid then⟨ver,.row true sz es'⟩else if j=id2 then⟨v,.none⟩else σ.ob j:=by
  intro j
  rw[K20]
  simp only[List.foldl_cons,List.foldl_nil]
  by_cases h1:pid=j
  ·subst h1;simp[hl1]
  ·have h1':¬j=pid:=fun e=>h1 e.symm
   by_cases h2:id2=j
   ·subst h2;simp[h1,h1',hl2]
   ·have h2':¬j=id2:=fun e=>h2 e.symm
    simp[h1,h2,h1',h2']
 have hV:(σ.app ⟨none,[(id2,⟨v,.none⟩),(pid,⟨ver,.row true sz es'⟩)]⟩).V=σ.V:=by
  funext j
  simp only[St.V,hob']
  split
  ·rename_i h;subst h;rw[hob]
  ·split
   ·rename_i h;subst h;rw[hob2]
   ·rfl
 have hg:∃g':Gh,g'.Z=g.Z∧g'.H=g.H∧g'.F id2=[]∧g'.F pid=b::(Ga++(Gb++(g.F id2++Gc))++Gd)∧∀j,j≠pid→j≠id2→g'.F j=g.F j:=
  ⟨⟨g.H,fun i=>if i=id2 then []else if i=pid then b::(Ga++(Gb++(g.F id2++Gc))++Gd)else g.F i,g.Z⟩,rfl,rfl,by simp,by simp[hne.symm],fun j h1 h2=>by simp[h1,h2]⟩
 obtain⟨g',hgZ,hgH,hgF2,hgF1,hgF⟩:=hg
 have hmem:∀b',b'∈g'.F pid↔b'∈g.F pid∨b'∈g.F id2:=by
  intro b'
  rw[hgF1,hG]
  simp only[List.mem_cons,List.mem_append]
  constructor
  ·rintro (h|((h|h|h|h)|h))<;>simp[h]
  ·rintro ((h|((h|h)|h)|h)|h)<;>simp[h]
 have hsub:∀j b',b'∈g'.F j→∃j',b'∈g.F j'∧(j'=j∨j=pid∧j'=id2):=by
  intro j b' hb'
  by_cases h1:j=pid
  ·subst h1
   rcases(hmem b').1 hb' with h|h
   ·exact⟨j,h,.inl rfl⟩
   ·exact⟨id2,h,.inr ⟨rfl,rfl⟩⟩
  ·by_cases h2:j=id2
   ·subst h2;rw[hgF2]at hb';simp at hb'
   ·rw[hgF j h1 h2]at hb';exact⟨j,hb',.inl rfl⟩
 have tr:Tr w w σ.V (σ.app ⟨none,[(id2,⟨v,.none⟩),(pid,⟨ver,.row true sz es'⟩)]⟩).V g g':=by
  refine⟨Nat.le_refl _,fun j=>by rw[hV];exact Nat.le_refl _,fun _ _ _=>by rw[hgH],fun b' _ hx=>⟨rfl,by rw[hgZ];exact hx.1,fun j hj=>?_⟩,fun b' _ hx=>⟨by rw[hgZ];exact hx.1,fun j hj=>?_⟩,hgZ⟩
  ·by_cases h1:j=pid
   ·subst h1;rw[hgF1]at hj;simp at hj;subst hj
    exact hx.2 j (by rw[hG];rfl)
   ·by_cases h2:j=id2
    ·subst h2;rw[hgF2]at hj;simp at hj
    ·rw[hgF j h1 h2]at hj;exact hx.2 j hj
  ·obtain⟨j',h,_⟩:=hsub j b' hj
   exact hx.2 j' h
 refine⟨g',?_⟩
 have:=R.turn none _ w g' none undef tr rfl (fun j h=>by rw[hV]at h;exact h) (fun j=>?_) (fun j=>?_) (fun b' p q hp hq=>?_) (fun j b' hj=>?_) R.grew
 ·simpa[K27]using this
 ·by_cases h1:j=pid
  ·right
   subst h1
   rw[hob',if_pos rfl]
   simp only[ObjR]
   refine⟨A,cap,by rw[hgH,hlen];exact hH,by rw[hlen];exact hl,.inr ⟨b,off,row,ty,_,hA,hc,hs,?_,hgF1⟩⟩
   simpa using hrow
  ·by_cases h2:j=id2
   ·right
    subst h2
    rw[hob',if_neg h1,if_pos rfl]
    simp only[ObjR]
    exact hgF2
   ·left
    rw[hob',if_neg h1,if_neg h2]
    exact⟨rfl,hgF j h1 h2,fun _ _=>rfl⟩
 ·by_cases h1:j=pid
  ·subst h1
   rw[hgF1]
   have n1:=R.nd j
   have n2:=R.nd id2
   have hd:∀b',b'∈g.F j→b'∈g.F id2→False:=fun b' p q=>hne (R.dj b' id2 j q p)
   rw[hG]at n1 hd
   simp only[List.nodup_cons,List.nodup_append,List.mem_append,List.mem_cons]at n1 hd ⊢
   obtain⟨m1,⟨⟨m2,m3,m4⟩,m5,m6⟩,m7,m8⟩:=n1
   refine⟨?_,⟨m2,⟨m3,⟨n2,m5,?_⟩,?_⟩,?_⟩,m7,?_⟩
   ·rintro ((h|h|h|h)|h)
    ·exact m1 (by simp[h])
    ·exact m1 (by simp[h])
    ·exact hd b (.inl rfl) h
    ·exact m1 (by simp[h])
    ·exact m1 (by simp[h])
   ·intro x hx y hy e;subst e;exact hd x (by simp[hy]) hx
   ·rintro x hx y (hy|hy) e
    ·subst e;exact hd x (by simp[hx]) hy
    ·exact m6 x (.inr hx) y hy e
   ·rintro x hx y (hy|hy|hy) e
    ·exact m4 x hx y hy e
    ·subst e;exact hd x (by simp[hx]) hy
    ·exact m6 x (.inl hx) y hy e
   ·rintro x (hx|hx|hx|hx) y hy e
    ·exact m8 x (.inl (.inl hx)) y hy e
    ·exact m8 x (.inl (.inr hx)) y hy e
    ·subst e;exact hd x (by simp[hy]) hx
    ·exact m8 x (.inr hx) y hy e
  ·by_cases h2:j=id2
   ·subst h2;rw[hgF2];exact List.nodup_nil
   ·rw[hgF j h1 h2];exact R.nd j
 ·obtain⟨p',k1,k2⟩:=hsub p b' hp
  obtain⟨q',k3,k4⟩:=hsub q b' hq
  obtain rfl:=R.dj b' p' q' k1 k3
  rcases k2 with rfl|⟨rfl,rfl⟩<;>rcases k4 with rfl|⟨rfl,h⟩
  ·rfl
  ·subst h;rw[hgF2]at hp;simp at hp
  ·rw[hgF2]at hq;simp at hq
  ·rfl
 ·obtain⟨j',h,_⟩:=hsub j b' hj
  exact R.frs j' b' h
theorem Rel.bks:∀ {l:List Nat} {σ:St} {g:Gh} {obs:List (Nat×OV)},Rel base Z w0 w σ a.tmps g→bksE σ l=some obs→∃g',Rel base Z w0 w (σ.app ⟨none,obs⟩) a.tmps g'
 | [],σ,g,obs,R,h=>by simp[bksE]at h;subst h;exact⟨g,R⟩
 |p::l,σ,g,obs,R,h=>by
  simp only[bksE]at h
  obtain⟨o,ho,h⟩:=Option.bind_eq_some_iff.1 h
  obtain⟨o',ho',rfl⟩:=Option.map_eq_some_iff.1 h
  obtain⟨g1,R1⟩:=R.bk1 ho
  rw[app_app]
  exact Rel.bks R1 ho'
def Same(σ σ':St):Prop:=(∀k,σ.get k=σ'.get k)∧(∀id,σ.ob id=σ'.ob id)∧σ.n=σ'.n
theorem Rel.same{σ':St}(R:Rel base Z w0 w σ ts g)(h:Same σ σ'):Rel base Z w0 w σ' ts g:=by
 have hV:σ'.V=σ.V:=funext fun id=>by simp only[St.V,h.2.1]
 refine⟨by rw[←h.2.2];exact R.len,fun k=>?_,fun id=>?_,R.nd,R.dj,R.frs,R.grew,R.bs,R.zz,R.zb,R.tb,fun id h=>R.pin id (by rw[←hV];exact h)⟩
 ·rw[hV,←h.1];exact R.slot k
 ·rw[hV,←h.2.1];exact R.obj id
end
end Go.Proofs.YtjneccbpkckdfaaGreatR
namespace Go.Proofs.YtjneccbpkckdfaaGreatR
open Go Go.RowKit
def ownC:List (Bool×T)→List Value→List Value
 |(true,_)::l,v::vs=>v::ownC l vs
 |(false,_)::l,_::vs=>ownC l vs
 |_,_=>[]
def cellsOf(agg:Bool)(v:Value):List Value:=if agg then(match v with| .agg a=>a.toList|_=>[])else [v]
def K24:List RV→List Value→List Value
 |r::rs,v::vs=>ownC r.cs (cellsOf r.agg v)++K24 rs vs
 |_,_=>[]
def OwOut(w:World):List (Option (Nat×List (List T)))→List Value→List Nat→Prop
 | [],[],G=>G=[]
 |none::os,_::vs,G=>OwOut w os vs G
 |some x::os,v::vs,G=>∃G1 G2,Ow w (.sl x.1 x.2) v G1∧OwOut w os vs G2∧G=G1++G2
 |_,_,_=>False
def CtrI(P:Program)(f:FuncId)(args:List RV)(outs:List (Option (Nat×List (List T))))(rs:List RV):Prop:=
 (∃ fn, P.funcs[f]? = some fn ∧ fn.body.isNone = false ∧ (fn.name == "runtime.NumGoroutine") = false) ∧
 ∀(w:World) (X:Nat→Prop) (vs:List Value) (G:List Nat),(∀w',Bel (fun b=>b<w.heap.size∧b∉G) w w'→TabW w')→ResVs w X args vs G→G.Nodup→(∀b∈G,b<w.heap.size∧¬X b)→Calls P f vs.toArray w fun
  |.returned v,w'=>Bel (fun b=>b<w.heap.size∧b∉G) w w'∧∃us G1 G2,v=tupV us∧OwOut w' outs (K24 args vs) G1∧
    ResVs w' (fun b=>(b<w.heap.size→X b∨b∈G)∧b∉G1++G2) rs us G2∧(G1++G2).Nodup∧∀b∈G1++G2,(b∈G∨w.heap.size≤b)∧b<w'.heap.size
  |_,_=>False
def St.cellI(σ:St)(ios:List Nat):SC→Option ((Bool×T)×List Nat)
 |.ref id ver sz lo n=>match σ.ob id with
  |⟨v,.row true sz' es⟩=>if v=ver∧sz=sz'∧lo=0∧n=es.length∧ios.contains id=true then some ((true,.sl sz es),[id])else none
  |_=>none
 |.pl t=>some ((false,t),[])
 |.bor (.sc v)=>some ((false,.sc v),[])
 |.emp sz=>some ((false,.sl sz []),[])
 |.clo g []=>some ((false,.fn g []),[])
 |_=>none
def St.cellsI(σ:St)(ios:List Nat):List SC→Option (List (Bool×T)×List Nat)
 | []=>some ([],[])
 |c::cs=>(σ.cellI ios c).bind fun x=>(σ.cellsI ios cs).map fun y=>(x.1::y.1,x.2++y.2)
def St.argsI(σ:St)(ios:List Nat):List Od→Option (List RV×List Nat)
 | []=>some ([],[])
 |x::xs=>(σ.ev x).all.bind fun v=>(σ.cellsI ios v.2).bind fun c=>(σ.argsI ios xs).map fun y=>(⟨v.1,c.1⟩::y.1,c.2++y.2)
def outsO(σ:St):List Nat→List (Option (Nat×List (List T)))→Option (List (Nat×OV))
 | [],[]=>some []
 |id::ids,none::os=>(outsO σ ids os).map ((id,⟨(σ.ob id).ver,.none⟩):: ·)
 |id::ids,some x::os=>(outsO σ ids os).map ((id,⟨(σ.ob id).ver,.row true x.1 x.2⟩):: ·)
 |_,_=>none
def effI(σ:St)(d:Nat)(ids idl:List Nat)(outs:List (Option (Nat×List (List T))))(rs:List RV):Option Ef:=
 if distinct (idl++ids)=true∧σ.noB=true then(outsO σ idl outs).bind fun os=>(K15 σ .e ids rs).map fun x=>⟨some (d,K1f x.1),os++x.2.1⟩else none
def ownT:T→Bool
 |.sl _ _=>true
 |_=>false
def effM(σ:St)(d n:Nat)(ids:List Nat)(id:Nat)(a:Od):Option Ef:=(σ.adr a).bind fun ad=>match ad with
 |.el id' ver sz i 0=>match σ.ob id' with
  |⟨v,.row true sz' es⟩=>if id'=id∧v=ver∧sz=sz'∧sz=n then(es[i]?).bind fun e=>effI σ d ids [id] [none] [⟨true,e.map fun t=>(ownT t,t)⟩]else none
  |_=>none
 |_=>none
theorem Kat{w:World}{b:Nat}:∀ {e:List T} {o:Nat} {G:List Nat},OwEl w b o e G→∃vs:List Value,vs.length=e.length∧(∀j u,vs[j]? =some u→w.cell? ⟨b,o+j,none⟩=some u)∧∀Y,ResC w Y (e.map fun t=>(ownT t,t)) vs G
 | [],o,G,h=>⟨[],rfl,by simp,fun Y=>h⟩
 |t::e,o,G,h=>by
  obtain⟨v,G1,G2,hc,ht,he,rfl⟩:=h
  obtain⟨vs,h1,h2,h3⟩:=Kat he
  refine⟨v::vs,by simp[h1],fun j u hj=>?_,fun Y=>?_⟩
  ·cases j with
   |zero=>simp only[List.getElem?_cons_zero,Option.some.injEq]at hj;subst hj;exact hc
   |succ j=>
    have:=h2 j u (by simpa using hj)
    rw[Nat.add_assoc,Nat.add_comm 1 j]at this
    exact this
  ·cases t with
   |sl sz es=>exact⟨G1,G2,ht,h3 Y,rfl⟩
   |sc v0=>
    unfold Ow at ht
    obtain⟨rfl,hw,rfl⟩:=ht
    exact⟨by unfold Rd;exact⟨rfl,hw⟩,by simpa using h3 Y⟩
   |pb ts=>unfold Ow at ht;exact ht.elim
   |fn f cs=>unfold Ow at ht;exact ht.elim
theorem Kau{w:World}{sz b:Nat}:∀ {es:List (List T)} {off:Nat} {G:List Nat} {i:Nat} {e:List T},OwRow w sz b off es G→es[i]? =some e→e.length=sz∧∃Gi,OwEl w b (off+i*sz) e Gi∧Gi.Sublist G
 | [],off,G,i,e,h,he=>by simp at he
 |x::es,off,G,i,e,h,he=>by
  obtain⟨hl,G1,G2,h1,h2,rfl⟩:=h
  cases i with
  |zero=>
   simp only[List.getElem?_cons_zero,Option.some.injEq]at he
   subst he
   exact⟨hl,G1,by simpa using h1,List.sublist_append_left _ _⟩
  |succ i=>
   obtain⟨h3,Gi,h4,h5⟩:=Kau h2 (by simpa using he)
   refine⟨h3,Gi,?_,h5.trans (List.sublist_append_right _ _)⟩
   rw[Nat.succ_mul,Nat.add_comm (i*sz) sz,←Nat.add_assoc]
   exact h4
section
variable {P:Program} {base:Nat→Prop} {Z:ZZ} {w0 w w':World} {σ:St} {g g':Gh} {o:Oper} {a:Act} {V V':Nat→Nat} {ts:Array Value} {ios:List Nat}
theorem Rel.cellI(R:Rel base Z w0 w σ ts g){c:SC}{v:Value}(h:CellR w σ.V g c v){x:(Bool×T)×List Nat}(he:σ.cellI ios c=some x):
  (x.1.1=false∧x.2=[]∧Rd w (Xe g) x.1.2 v)∨(∃id sz es A A2 cap,x=((true,.sl sz es),[id])∧(σ.ob id).oc= .row true sz es∧v= .slice A es.length cap∧g.H id (σ.ob id).ver= .slice A2 es.length cap∧(cap=0∨A=A2)∧
   ∃F',Ow w (.sl sz es) v F'∧F'.Sublist (g.F id)∧(F'=g.F id∨cap=0∧F'=[])):=by
 unfold St.cellI at he
 split at he
 ·rename_i id ver sz lo n
  split at he
  rotate_left
  ·simp at he
  rename_i v' sz' es hob
  obtain⟨⟨rfl,rfl,rfl,rfl,_⟩,he2⟩:=Option.ite_none_right_eq_some.1 he
  clear he
  simp only[Option.some.injEq]at he2
  subst he2
  right
  have ho:=R.obj id
  rw[hob]at ho
  simp only[ObjR]at ho
  simp only[CellR]at h
  obtain⟨_,A,len,cap,A',c',hH,hv,hn,hnc,hcc,hA',hsp⟩:=h
  obtain⟨A2,cap2,hH2,hl2,ho⟩:=ho
  have hH0:=hH
  rw[hH2]at hH
  simp only[Value.slice.injEq]at hH
  obtain⟨rfl,rfl,rfl⟩:=hH
  obtain rfl:c'=cap2:=by omega
  refine⟨id,sz,es,A',A2,c',rfl,by rw[hob],hv,by rw[hob];exact hH2,?_,?_⟩
  ·by_cases hc0:c'=0
   ·exact .inl hc0
   ·right
    have h:=hA'.resolve_left hc0
    rcases ho with ho|⟨b,off,row,ty,G,hA,_⟩
    ·exact(hc0 ho.1).elim
    ·rw[h,hA];simp
  ·by_cases hc0:c'=0
   ·refine⟨[],?_,List.nil_sublist _,.inr ⟨hc0,rfl⟩⟩
    have:es=[]:=List.length_eq_zero_iff.1 (by omega)
    unfold Ow
    exact⟨A',c',hv,⟨hnc,hl2.2⟩,.inl ⟨hc0,this,rfl⟩⟩
   ·refine⟨g.F id,?_,List.Sublist.refl _,.inl rfl⟩
    unfold Ow
    refine⟨A',c',hv,⟨hnc,hl2.2⟩,?_⟩
    rcases ho with ho|⟨b,off,row,ty,G,hA,hc,hs,hr,hG⟩
    ·omega
    ·subst hA
     right
     have hA3:=hA'.resolve_left hc0
     exact⟨b,off,row,ty,G,by simpa using hA3,hc,hs,by simpa using hr,hG⟩
 ·simp at he;subst he
  exact .inl ⟨rfl,rfl,h⟩
 ·simp at he;subst he
  left
  simp only[CellR,Rd]at h
  exact⟨rfl,rfl,by simp only[Rd];exact h⟩
 ·simp at he;subst he
  left
  simp only[CellR]at h
  obtain⟨A,rfl⟩:=h
  exact⟨rfl,rfl,by unfold Rd;exact⟨A,0,rfl,Ln.z _,.inl rfl⟩⟩
 ·simp at he;subst he
  left
  simp only[CellR]at h
  exact⟨rfl,rfl,by unfold Rd;exact⟨[],by simpa using h.1,by simp[RdL]⟩⟩
 ·simp at he
def OwI(w:World)(σ:St)(g:Gh):List Nat→List Value→List Nat→Prop
 | [],[],G=>G=[]
 |id::l,v::vs,G=>∃G1 G2 sz es A A2 cap,(σ.ob id).oc= .row true sz es∧v= .slice A es.length cap∧g.H id (σ.ob id).ver= .slice A2 es.length cap∧(cap=0∨A=A2)∧G1.Sublist (g.F id)∧OwI w σ g l vs G2∧G=G1++G2
 |_,_,_=>False
theorem OwI.app{l m:List Nat}{us vs:List Value}{G G':List Nat}(h:OwI w σ g l us G)(k:OwI w σ g m vs G'):OwI w σ g (l++m) (us++vs) (G++G'):=by
 induction l generalizing us G with
 |nil=>
  cases us with
  |nil=>simp only[OwI]at h;subst h;simpa using k
  |cons u us=>simp only[OwI]at h
 |cons id l ih=>
  cases us with
  |nil=>simp only[OwI]at h
  |cons u us=>
   simp only[OwI]at h
   obtain⟨G1,G2,sz,es,A,A2,cap,h1,h2,h3,h4,h5,h6,rfl⟩:=h
   simp only[List.cons_append,OwI]
   exact⟨G1,G2++G',sz,es,A,A2,cap,h1,h2,h3,h4,h5,ih h6,List.append_assoc _ _ _⟩
theorem OwI.sub{l:List Nat}{vs:List Value}{G:List Nat}(h:OwI w σ g l vs G):G.Sublist (l.flatMap g.F):=by
 induction l generalizing vs G with
 |nil=>
  cases vs with
  |nil=>simp only[OwI]at h;subst h;simp
  |cons u us=>simp only[OwI]at h
 |cons id l ih=>
  cases vs with
  |nil=>simp only[OwI]at h
  |cons u us=>
   simp only[OwI]at h
   obtain⟨G1,G2,sz,es,A,A2,cap,h1,h2,h3,h4,h5,h6,rfl⟩:=h
   rw[List.flatMap_cons]
   exact h5.append (ih h6)
theorem Rel.cellsI(R:Rel base Z w0 w σ ts g):∀ {cs:List SC} {vs:List Value} {x:List (Bool×T)×List Nat},CellsR w σ.V g cs vs→σ.cellsI ios cs=some x→
  ∃G,ResC w (Xe g) x.1 vs G∧OwI w σ g x.2 (ownC x.1 vs) G
 | [],[],x,_,h=>by simp[St.cellsI]at h;subst h;exact⟨[],by simp[ResC],by simp[ownC,OwI]⟩
 |c::cs,v::vs,x,hr,h=>by
  simp only[St.cellsI]at h
  obtain⟨y,hy,h⟩:=Option.bind_eq_some_iff.1 h
  obtain⟨z,hz,rfl⟩:=Option.map_eq_some_iff.1 h
  obtain⟨G,h1,h2⟩:=Rel.cellsI R hr.2 hz
  rcases R.cellI hr.1 hy with ⟨e1,e2,h3⟩|⟨id,sz,es,A,A2,cap,rfl,h3,h4,h5,h6,F',h7,h8,_⟩
  ·obtain⟨⟨b,t⟩,il⟩:=y
   simp only at e1 e2 h3;subst e1 e2
   exact⟨G,by simp only[ResC];exact⟨h3,h1⟩,by simpa only[ownC,List.nil_append]using h2⟩
  ·refine⟨F'++G,by simp only[ResC];exact⟨F',G,h7,h1,rfl⟩,?_⟩
   simp only[ownC,List.cons_append,List.nil_append,OwI]
   exact⟨F',G,sz,es,A,A2,cap,h3,h4,h5,h6,h8,h2,rfl⟩
 | [],_::_,_,hr,_=>hr.elim
 |_::_,[],_,hr,_=>hr.elim
theorem Rel.argsI(R:Rel base Z w0 w σ a.tmps g):∀ {l:List Operand} {xs:List Od} {x:List RV×List Nat},K22 l xs=true→σ.argsI ios xs=some x→
  ∃G,ResVs w (Xe g) x.1 (l.map a.eval) G∧OwI w σ g x.2 (K24 x.1 (l.map a.eval)) G
 | [],[],x,_,h=>by simp[St.argsI]at h;subst h;exact⟨[],by simp[ResVs],by simp[K24,OwI]⟩
 |y::l,x::xs,r,hc,h=>by
  simp only[K22,Bool.and_eq_true]at hc
  simp only[St.argsI]at h
  obtain⟨v,hv,h⟩:=Option.bind_eq_some_iff.1 h
  obtain⟨c,hcs,h⟩:=Option.bind_eq_some_iff.1 h
  obtain⟨z,hz,rfl⟩:=Option.map_eq_some_iff.1 h
  obtain⟨G2,h1,h2⟩:=Rel.argsI R hc.2 hz
  have hS:=R.ev hc.1
  rw[K25 hv]at hS
  simp only[SlotR]at hS
  have hcells:∃vs:List Value,CellsR w σ.V g v.2 vs∧vs=cellsOf v.1 (a.eval y)∧∀(cs:List (Bool×T)) (G:List Nat),cs.length=v.2.length→ResC w (Xe g) cs vs G→ResV w (Xe g) ⟨v.1,cs⟩ (a.eval y) G:=by
   unfold ValR at hS
   unfold ResV cellsOf
   cases hag:v.1 with
   |true=>
    simp only[hag,if_true]at hS ⊢
    obtain⟨vs,hvs,hr⟩:=hS
    exact⟨vs,hr,by rw[hvs],fun cs G _ h=>⟨vs,hvs,h⟩⟩
   |false=>
    simp only[hag,Bool.false_eq_true,if_false]at hS ⊢
    obtain⟨c',hcs',hr⟩:=hS
    refine⟨[a.eval y],by rw[hcs'];exact⟨hr,trivial⟩,rfl,fun cs G hl h=>⟨?_,h⟩⟩
    rw[hcs']at hl
    exact List.length_eq_one_iff.1 hl
  obtain⟨vs,hcr,hvs,hres⟩:=hcells
  obtain⟨G1,h3,h4⟩:=R.cellsI hcr hcs
  have hlen:c.1.length=v.2.length:=by
   have key:∀(cs:List SC) (x:List (Bool×T)×List Nat),σ.cellsI ios cs=some x→x.1.length=cs.length:=by
    intro cs
    induction cs with
    |nil=>intro x h;simp[St.cellsI]at h;subst h;rfl
    |cons c cs ih=>
     intro x h
     simp only[St.cellsI]at h
     obtain⟨y,hy,h⟩:=Option.bind_eq_some_iff.1 h
     obtain⟨z,hz,rfl⟩:=Option.map_eq_some_iff.1 h
     simp[ih z hz]
   exact key _ _ hcs
  refine⟨G1++G2,?_,?_⟩
  ·simp only[List.map_cons,ResVs]
   exact⟨G1,G2,hres _ _ hlen h3,h1,rfl⟩
  ·simp only[List.map_cons,K24]
   rw[←hvs]
   exact h4.app h2
 | [],_::_,_,hc,_=>by simp[K22]at hc
 |_::_,[],_,hc,_=>by simp[K22]at hc
theorem K7r{f g:Nat→List Nat}:∀ {l:List Nat},(∀i∈l,f i=g i)→l.flatMap f=l.flatMap g
 | [],_=>rfl
 |k::l,h=>by rw[List.flatMap_cons,List.flatMap_cons,h k (by simp),K7r fun i hi=>h i (by simp[hi])]
theorem K96{hsz:∀id,(σ.ob id).oc≠ .none→id<σ.o.length}:∀ {idl:List Nat} {vals:List Value} {G G1:List Nat} {outs:List (Option (Nat×List (List T)))} {os:List (Nat×OV)},OwI w σ g idl vals G→OwOut w' outs vals G1→outsO σ idl outs=some os→idl.Nodup→
  ∃Fn:Nat→List Nat,(idl.flatMap Fn).Sublist G1∧os.map (·.1)=idl∧∀x∈os,x.1<σ.o.length∧x.2.ver=(σ.ob x.1).ver∧
   ((x.2.oc= .none∧Fn x.1=[])∨∃sz es A cap,x.2.oc= .row true sz es∧g.H x.1 (σ.ob x.1).ver= .slice A es.length cap∧Ln es.length cap∧
    ((cap=0∧es=[]∧Fn x.1=[])∨∃b off row ty G,A=some ⟨b,off,none⟩∧w'.heap[b]? =some (.cells row ty (0,0))∧off+cap*sz≤row.size∧OwRow w' sz b off es G∧Fn x.1=b::G))
 | [],[],G,G1,outs,os,_,ho,h,_=>by
  cases outs with
  |nil=>simp[outsO]at h;subst h;exact⟨fun _=>[],by simp,rfl,by simp⟩
  |cons o outs=>cases o<;>simp[OwOut]at ho
 |id::idl,v::vals,G,G1,outs,os,hI,ho,h,hnd=>by
  simp only[OwI]at hI
  obtain⟨Ga,Gb,sz0,es0,A,A2,cap,h1,h2,h3,h4,h5,h6,rfl⟩:=hI
  simp only[List.nodup_cons]at hnd
  have hlt:id<σ.o.length:=hsz id (by rw[h1];simp)
  cases outs with
  |nil=>simp[outsO]at h
  |cons o outs=>
   cases o with
   |none=>
    simp only[outsO]at h
    obtain⟨os',hos,rfl⟩:=Option.map_eq_some_iff.1 h
    simp only[OwOut]at ho
    obtain⟨Fn,k1,k2,k3⟩:=K96 (hsz:=hsz) h6 ho hos hnd.2
    refine⟨fun i=>if i=id then []else Fn i,?_,by simp[k2],?_⟩
    ·rw[List.flatMap_cons,if_pos rfl,List.nil_append]
     rw[show idl.flatMap (fun i=>if i=id then []else Fn i)=idl.flatMap Fn from K7r fun i hi=>if_neg (fun e=>hnd.1 (by rw[←e];exact hi))]
     exact k1
    ·intro x hx
     rcases List.mem_cons.1 hx with rfl|hx
     ·exact⟨hlt,rfl,.inl ⟨rfl,by simp⟩⟩
     ·have hne:x.1≠id:=by
       intro e;apply hnd.1;rw[←k2,←e];exact List.mem_map.2 ⟨x,hx,rfl⟩
      obtain⟨m1,m2,m3⟩:=k3 x hx
      exact⟨m1,m2,by simpa[hne]using m3⟩
   |some y=>
    simp only[outsO]at h
    obtain⟨os',hos,rfl⟩:=Option.map_eq_some_iff.1 h
    simp only[OwOut]at ho
    obtain⟨G3,G4,ho1,ho2,rfl⟩:=ho
    obtain⟨Fn,k1,k2,k3⟩:=K96 (hsz:=hsz) h6 ho2 hos hnd.2
    unfold Ow at ho1
    obtain⟨A',cap',hv',hl',ho1⟩:=ho1
    rw[h2]at hv'
    simp only[Value.slice.injEq]at hv'
    obtain⟨rfl,hlen,rfl⟩:=hv'
    have hF:∃F:List Nat,F.Sublist G3∧((cap=0∧y.2=[]∧F=[])∨∃b off row ty G,A2=some ⟨b,off,none⟩∧w'.heap[b]? =some (.cells row ty (0,0))∧off+cap*y.1≤row.size∧OwRow w' y.1 b off y.2 G∧F=b::G):=by
     by_cases hc:cap=0
     ·exact⟨[],List.nil_sublist _,.inl ⟨hc,List.length_eq_zero_iff.1 (by have:=hl'.1;omega),rfl⟩⟩
     ·obtain rfl:=h4.resolve_left hc
      exact⟨G3,List.Sublist.refl _,ho1⟩
    obtain⟨F,hFs,hF⟩:=hF
    refine⟨fun i=>if i=id then F else Fn i,?_,by simp[k2],?_⟩
    ·rw[List.flatMap_cons,if_pos rfl]
     rw[show idl.flatMap (fun i=>if i=id then F else Fn i)=idl.flatMap Fn from K7r fun i hi=>if_neg (fun e=>hnd.1 (by rw[←e];exact hi))]
     exact hFs.append k1
    ·intro x hx
     rcases List.mem_cons.1 hx with rfl|hx
     ·exact⟨hlt,rfl,.inr ⟨y.1,y.2,A2,cap,rfl,by rw[h3,hlen],hl',by simpa using hF⟩⟩
     ·have hne:x.1≠id:=by
       intro e;apply hnd.1;rw[←k2,←e];exact List.mem_map.2 ⟨x,hx,rfl⟩
      obtain⟨m1,m2,m3⟩:=k3 x hx
      exact⟨m1,m2,by simpa[hne]using m3⟩
 | [],_::_,_,_,_,_,h,_,_,_=>by simp only[OwI]at h
 |_::_,[],_,_,_,_,h,_,_,_=>by simp only[OwI]at h
theorem ob_find{d:Option (Nat×SV)}{obs:List (Nat×OV)}(hn:(obs.map (·.1)).Nodup)(hl:∀x∈obs,x.1<σ.o.length)(i:Nat):
  (σ.app ⟨d,obs⟩).ob i=match obs.find? (fun x=>x.1==i)with|some x=>x.2|none=>σ.ob i:=by
 rw[K20]
 have key:∀(obs:List (Nat×OV)) (acc:OV),(obs.map (·.1)).Nodup→(∀x∈obs,x.1<σ.o.length)→obs.foldl (fun acc x=>if x.1=i∧i<σ.o.length then x.2 else acc) acc=match obs.find? (fun x=>x.1==i)with|some x=>x.2|none=>acc:=by
  intro obs
  induction obs with
  |nil=>intro acc _ _;rfl
  |cons q obs ih=>
   intro acc hn hl
   simp only[List.map_cons,List.nodup_cons]at hn
   simp only[List.foldl_cons]
   rw[ih _ hn.2 fun x hx=>hl x (List.mem_cons_of_mem _ hx)]
   by_cases hq:q.1=i
   ·subst hq
    rw[List.find?_cons_of_pos (by simp),if_pos ⟨rfl,hl q (by simp)⟩]
    have:obs.find? (fun x=>x.1==q.1)=none:=by
     rw[List.find?_eq_none]
     intro x hx e
     exact hn.1 (by rw[←beq_iff_eq.1 e];exact List.mem_map.2 ⟨x,hx,rfl⟩)
    rw[this]
   ·rw[List.find?_cons_of_neg (by simpa using hq)]
    split
    ·rfl
    ·simp[hq]
 exact key obs _ hn hl
theorem K9j{obs:List (Nat×OV)}(hn:(obs.map (·.1)).Nodup){x:Nat×OV}(hx:x∈obs):obs.find? (fun z=>z.1==x.1)=some x:=by
 induction obs with
 |nil=>simp at hx
 |cons q obs ih=>
  simp only[List.map_cons,List.nodup_cons]at hn
  rcases List.mem_cons.1 hx with rfl|hx
  ·rw[List.find?_cons_of_pos (by simp)]
  ·rw[List.find?_cons_of_neg,ih hn.2 hx]
   intro e
   exact hn.1 (by rw[beq_iff_eq.1 e];exact List.mem_map.2 ⟨x,hx,rfl⟩)
theorem flat_nd'{F:Nat→List Nat}{l:List Nat}(h:(l.flatMap F).Nodup){i:Nat}(hi:i∈l):(F i).Nodup:=by
 induction l with
 |nil=>simp at hi
 |cons k l ih=>
  rw[List.flatMap_cons]at h
  have h:=List.nodup_append.1 h
  rcases List.mem_cons.1 hi with rfl|hi
  ·exact h.1
  ·exact ih h.2.1 hi
theorem flat_disj'{F:Nat→List Nat}{l:List Nat}(h:(l.flatMap F).Nodup)(hl:l.Nodup){i j b:Nat}(hi:i∈l)(hj:j∈l)(q1:b∈F i)(q2:b∈F j):i=j:=by
 induction l with
 |nil=>simp at hi
 |cons k l ih=>
  rw[List.flatMap_cons]at h
  have h:=List.nodup_append.1 h
  simp only[List.nodup_cons]at hl
  rcases List.mem_cons.1 hi with e1|e1<;>rcases List.mem_cons.1 hj with e2|e2
  ·rw[e1,e2]
  ·subst e1;exact(h.2.2 b q1 b (List.mem_flatMap.2 ⟨_,e2,q2⟩) rfl).elim
  ·subst e2;exact(h.2.2 b q2 b (List.mem_flatMap.2 ⟨_,e1,q1⟩) rfl).elim
  ·exact ih h.2.1 hl.2 e1 e2
def K4g:List (Option Nat)→List Nat
 | []=>[]
 |none::l=>K4g l
 |some k::l=>k::K4g l
def promo(σ:St):List SC→List (Option Nat)→Option (List SC×List (Nat×OV))
 | [],[]=>some ([],[])
 |c::cs,none::ns=>(promo σ cs ns).map fun x=>(c::x.1,x.2)
 |.emp sz::cs,some id::ns=>if id<σ.o.length then(promo σ cs ns).map fun x=>(.ref id (σ.nw id) sz 0 0::x.1,(id,⟨σ.nw id,.row true sz []⟩)::x.2)else none
 |_,_=>none
def effB(d:Nat)(zs:List SC)(ps:List (Nat×Nat×Od))(ns:List (Option Nat))(σ:St):Option Ef:=
 (σ.fill zs ps).bind fun cs=>if distinct (K4g ns)=true∧d<σ.n then(promo σ cs ns).map fun x=>⟨some (d,.val true x.1),x.2⟩else none
theorem K7y:∀ {cs:List SC} {ns:List (Option Nat)} {vs:List Value} {x:List SC×List (Nat×OV)},promo σ cs ns=some x→CellsR w σ.V g cs vs→
  ∃ps:List Pl,x.2=pobs σ ps∧ps.map (·.id)=K4g ns∧(∀p∈ps,p.id<σ.o.length∧p.ok w∧p.F=[])∧
   ∀(g':Gh) (V':Nat→Nat),Knows σ g' V' ps→Tr w w σ.V V' g g'→CellsR w V' g' x.1 vs
 | [],[],[],x,h,_=>by
  simp[promo]at h;subst h
  exact⟨[],rfl,rfl,by simp,fun _ _ _ _=>trivial⟩
 |c::cs,none::ns,v::vs,x,h,hr=>by
  simp only[promo]at h
  obtain⟨y,hy,rfl⟩:=Option.map_eq_some_iff.1 h
  obtain⟨ps,h1,h2,h3,h4⟩:=K7y hy hr.2
  exact⟨ps,h1,h2,h3,fun g' V' hk tr=>⟨tr.cell _ _ hr.1,h4 g' V' hk tr⟩⟩
 |c::cs,some id::ns,v::vs,x,h,hr=>by
  cases c with
  |emp sz=>
   simp only[promo]at h
   obtain⟨hid,h⟩:=Option.ite_none_right_eq_some.1 h
   obtain⟨y,hy,rfl⟩:=Option.map_eq_some_iff.1 h
   obtain⟨ps,h1,h2,h3,h4⟩:=K7y hy hr.2
   have hc:=hr.1
   simp only[CellR]at hc
   obtain⟨A,rfl⟩:=hc
   have hOw:Ow w (.sl sz []) (.slice A 0 0) []:=by unfold Ow;exact⟨A,0,rfl,Ln.z _,.inl ⟨rfl,rfl,rfl⟩⟩
   refine⟨⟨id,.slice A 0 0,[],sz,[]⟩::ps,by simp[pobs,h1],by simp[K4g,h2],?_,fun g' V' hk tr=>?_⟩
   ·intro p hp
    rcases List.mem_cons.1 hp with rfl|hp
    ·exact⟨hid,hOw,rfl⟩
    ·exact h3 p hp
   ·obtain⟨k1,k2⟩:=hk _ (List.mem_cons_self ..)
    refine⟨?_,h4 g' V' (fun p hp=>hk p (List.mem_cons_of_mem _ hp)) tr⟩
    simp only[CellR]
    exact⟨k2,by rw[k1];exact K8j rfl hOw⟩
  |pl t=>simp[promo]at h
  |bor t=>simp[promo]at h
  |ref a b c d e=>simp[promo]at h
  |clo f bs=>simp[promo]at h
 | [],_::_,_,_,h,_=>by simp[promo]at h
 |_::_,[],_,_,h,_=>by simp[promo]at h
 | [],[],_::_,_,_,hr=>hr.elim
 |_::_,none::_,[],_,_,hr=>hr.elim
 |_::_,some _::_,[],_,_,hr=>hr.elim
theorem Kbf{o:Oper}{d:Nat}{zs:List SC}{qs:List (Nat×Nat×Od)}{ns:List (Option Nat)}{e:Ef}(hc:Ki P o (.build d zs qs)=true)(R:Rel base Z w0 w σ a.tmps g)(he:effB d zs qs ns σ=some e):Good P o a base Z w0 w (σ.app e):=by
 unfold effB at he
 obtain⟨cs,hcs,he⟩:=Option.bind_eq_some_iff.1 he
 obtain⟨⟨hdis,hdn⟩,he⟩:=Option.ite_none_right_eq_some.1 he
 obtain⟨x,hx,rfl⟩:=Option.map_eq_some_iff.1 he
 have hd:o.dst=some d:=by
  simp only[Ki,Bool.and_eq_true]at hc
  exact Kc hc.1
 obtain⟨nx,w',hrun,g1,hR⟩:=good_op hc R (e:=⟨some (d,.val true cs),[]⟩) (by simp only[eff];rw[hcs];rfl)
 have key:∀v:Value,Rel base Z w0 w' (σ.app ⟨some (d,.val true cs),[]⟩) (a.put o.dst v).tmps g1→∃g',Rel base Z w0 w' (σ.app ⟨some (d,.val true x.1),x.2⟩) (a.put o.dst v).tmps g':=by
  intro v R1
  have hS:=R1.slot d
  rw[K2o,if_pos ⟨rfl,hdn⟩]at hS
  simp only[SlotR,ValR,if_true]at hS
  obtain⟨vs,hv,hr⟩:=hS
  have hp:promo (σ.app ⟨some (d,.val true cs),[]⟩) cs ns=some x:=by
   rw[←hx]
   have:∀(cs0:List SC) (ns:List (Option Nat)),promo (σ.app ⟨some (d,.val true cs),[]⟩) cs0 ns=promo σ cs0 ns:=by
    intro cs0
    induction cs0 with
    |nil=>intro ns;cases ns<;>simp[promo]
    |cons c cs0 ih=>
     intro ns
     cases ns with
     |nil=>simp[promo]
     |cons n ns=>
      cases n with
      |none=>simp only[promo,ih]
      |some id=>
       cases c with
       |emp sz=>simp only[promo,ih];rfl
       |_=>simp[promo]
   exact this cs ns
  obtain⟨ps,h1,h2,h3,h4⟩:=K7y (w:=w') hp hr
  have hF:ps.flatMap (·.F)=[]:=by
   rw[List.flatMap_eq_nil_iff]
   intro p hp;exact(h3 p hp).2.2
  have R2:=R1.got (a:=a.put o.dst v) (d:=d) (s:= .val true x.1) (v:=(a.put o.dst v).tmps.getD d undef) (ps:=ps) (Nat.le_refl _) (fun _ _=>rfl) R1.grew (by rw[h2];exact K16 hdis) (fun p hp=>⟨(h3 p hp).1,(h3 p hp).2.1⟩)
   (by rw[hF];exact List.nodup_nil) (by rw[hF];simp) (fun V' hk tr=>by
    simp only[SlotR,ValR,if_true]
    exact⟨vs,hv,h4 _ V' hk tr⟩)
  refine⟨g1.got (σ.app ⟨some (d,.val true cs),[]⟩) ps,?_⟩
  rw[←h1]at R2
  have ht:((a.put o.dst v).put (some d) ((a.put o.dst v).tmps.getD d undef)).tmps=(a.put o.dst v).tmps:=by
   rw[K27]
   simp only
   apply Array.ext
   ·simp
   ·intro i hi1 hi2
    rw[Array.getElem_setIfInBounds]
    split
    ·rename_i e;subst e;rw[Array.getD_eq_getD_getElem?,Array.getElem?_eq_getElem hi2];rfl
    ·rfl
  rw[ht]at R2
  refine R2.same ⟨fun k=>?_,fun id=>?_,rfl⟩
  ·have e1:((σ.app ⟨some (d,.val true cs),[]⟩).app ⟨some (d,.val true x.1),x.2⟩).get k=if d=k∧k<σ.n then .val true x.1 else(σ.app ⟨some (d,.val true cs),[]⟩).get k:=K2o _ _ _ _ _
   have e2:(σ.app ⟨some (d,.val true cs),[]⟩).get k=if d=k∧k<σ.n then .val true cs else σ.get k:=K2o _ _ _ _ _
   have e3:(σ.app ⟨some (d,.val true x.1),x.2⟩).get k=if d=k∧k<σ.n then .val true x.1 else σ.get k:=K2o _ _ _ _ _
   rw[e1,e2,e3]
   by_cases hk:d=k∧k<σ.n
   ·rw[if_pos hk,if_pos hk]
   ·rw[if_neg hk,if_neg hk,if_neg hk]
  ·have o1:=K20 (σ.app ⟨some (d,.val true cs),[]⟩) (some (d,.val true x.1)) x.2 id
   have o2:=K20 σ (some (d,.val true x.1)) x.2 id
   rw[o1,o2];rfl
 refine⟨nx,w',hrun,?_⟩
 cases nx with
 |value v=>exact key v hR
 |skip=>exact key undef hR
 |_=>exact hR.elim
end
end Go.Proofs.YtjneccbpkckdfaaGreatR
namespace Go.Proofs.YtjneccbpkckdfaaGreatR
open Go Go.RowKit
def CtrB(P:Program)(f:FuncId)(cs:List T)(args:List (Bool×List T))(cs':List T)(rs:List RV):Prop:=
 (∃ fn, P.funcs[f]? = some fn ∧ fn.body.isNone = false ∧ (fn.name == "runtime.NumGoroutine") = false) ∧
 ∀(w:World) (X:Nat→Prop) (b:Nat) (ty:TypeId) (us vs:List Value),(∀w',Bel (fun k=>k<w.heap.size∧k≠b) w w'→TabW w')→w.heap[b]? =some (.cells us.toArray ty (0,0))→RdL w X cs us→¬X b→ArgsR w X args vs→
  Calls P f (.pointer (some ⟨b,0,none⟩)::vs).toArray w fun
  |.returned v,w'=>Bel (fun k=>k<w.heap.size∧k≠b) w w'∧∃us' ty' rv G,w'.heap[b]? =some (.cells us'.toArray ty' (0,0))∧RdL w' (fun k=>(k<w.heap.size→X k)∧k∉b::G) cs' us'∧v=tupV rv∧
    ResVs w' (fun k=>(k<w.heap.size→X k)∧k∉b::G) rs rv G∧(b::G).Nodup∧∀k∈G,w.heap.size≤k
  |_,_=>False
def CtrN(P:Program)(f:FuncId)(args:List (Bool×List T))(cs':List T):Prop:=
 (∃ fn, P.funcs[f]? = some fn ∧ fn.body.isNone = false ∧ (fn.name == "runtime.NumGoroutine") = false) ∧
 ∀(w:World) (X:Nat→Prop) (vs:List Value),(∀w',Below w.heap.size w w'→TabW w')→ArgsR w X args vs→
  Calls P f vs.toArray w fun
  |.returned v,w'=>Below w.heap.size w w'∧∃nb us ty,w.heap.size≤nb∧w'.heap[nb]? =some (.cells us.toArray ty (0,0))∧RdL w' (fun k=>(k<w.heap.size→X k)∧k≠nb) cs' us∧v= .pointer (some ⟨nb,0,none⟩)
  |_,_=>False
def CtrP(P:Program)(f:FuncId)(args:List (Bool×List T))(k:Option Nat):Prop:=
 (∃ fn, P.funcs[f]? = some fn ∧ fn.body.isNone = false ∧ (fn.name == "runtime.NumGoroutine") = false) ∧
 ∀(w:World) (X:Nat→Prop) (b:Nat) (vs:List Value),(∀w',Below w.heap.size w w'→TabW w')→ArgsR w X args vs→
  Calls P f (.pointer (some ⟨b,0,none⟩)::vs).toArray w fun
  |.returned v,w'=>Below w.heap.size w w'∧v= .pointer (k.map fun k=>⟨b,k,none⟩)
  |_,_=>False
section
variable {P:Program} {base:Nat→Prop} {Z:ZZ} {w0 w w':World} {σ:St} {g:Gh} {o:Oper} {a:Act} {V:Nat→Nat} {ts:Array Value} {m:Md}
theorem Rel.gotB(R:Rel base Z w0 w σ a.tmps g){d:Nat}{s:SV}{v:Value}{ps:List Pl}{id bk:Nat}{ty:TypeId}{us':List Value}{cs cs':List SC}(hoc:(σ.ob id).oc= .box cs)(hFb:g.F id=[bk])(hptr:g.H id (σ.ob id).ver= .pointer (some ⟨bk,0,none⟩))
  (hsz:w.heap.size≤w'.heap.size) (hother:∀b,b<w.heap.size→b≠bk→w'.heap[b]? =w.heap[b]?) (hbk:w'.heap[bk]? =some (.cells us'.toArray ty (0,0))) (gr:Bel base w0 w')
  (hid:(ps.map (·.id)).Nodup) (hidn:∀p∈ps,p.id≠id) (hok:∀p∈ps,p.id<σ.o.length∧p.ok w') (hnd:(ps.flatMap (·.F)).Nodup) (hnew:∀b∈ps.flatMap (·.F),w.heap.size≤b)
  (hcs:∀V',Knows σ (g.got σ ps) V' ps→Tr w w' σ.V V' g (g.got σ ps)→CellsR w' V' (g.got σ ps) cs' us')
  (hs:∀V',Knows σ (g.got σ ps) V' ps→Tr w w' σ.V V' g (g.got σ ps)→SlotR w' V' (g.got σ ps) s v):
  Rel base Z w0 w' (σ.app ⟨some (d,s),(id,⟨(σ.ob id).ver,.box cs'⟩)::pobs σ ps⟩) (a.put (some d) v).tmps (g.got σ ps):=by
 have hidl:id<σ.o.length:=by
  refine Nat.lt_of_not_le fun hle=>?_
  have:σ.ob id=⟨0,.none⟩:=by
   simp only[St.ob,List.getD_eq_getElem?_getD]
   rw[List.getElem?_eq_none hle];rfl
  rw[this]at hoc
  cases hoc
 have hob:∀i,(σ.app ⟨some (d,s),(id,⟨(σ.ob id).ver,.box cs'⟩)::pobs σ ps⟩).ob i=match ps.find? (fun p=>p.id==i)with|some p=>⟨σ.nw p.id,.row true p.sz p.es⟩|none=>if id=i then⟨(σ.ob id).ver,.box cs'⟩else σ.ob i:=by
  intro i
  rw[K20,List.foldl_cons,pobs_at hid (fun p hp=>(hok p hp).1)]
  cases hf:ps.find? (fun p=>p.id==i)with
  |some p=>rfl
  |none=>
   by_cases hi:id=i
   ·subst hi;simp[hidl]
   ·simp[hi]
 have hfF:∀i,(∃p∈ps,p.id=i∧(g.got σ ps).F i=p.F∧ps.find? (fun p=>p.id==i)=some p)∨((g.got σ ps).F i=g.F i∧ps.find? (fun p=>p.id==i)=none):=by
  intro i
  by_cases h:∃p∈ps,p.id=i
  ·obtain⟨p,hp,rfl⟩:=h
   left
   exact⟨p,hp,rfl,by simp[Gh.got,K2n hid hp],K2n hid hp⟩
  ·right
   have:=K5f (fun p hp e=>h ⟨p,hp,e⟩)
   exact⟨by simp[Gh.got,this],this⟩
 have hV:∀i,σ.V i≤(σ.app ⟨some (d,s),(id,⟨(σ.ob id).ver,.box cs'⟩)::pobs σ ps⟩).V i:=by
  intro i
  simp only[St.V,hob]
  rcases hfF i with ⟨p,hp,rfl,_,hf⟩|⟨_,hf⟩<;>rw[hf]
  ·simp[St.nw]
  ·by_cases hi:id=i
   ·subst hi;simp
   ·simp[hi]
 have hH:∀i v,v≤σ.V i→(g.got σ ps).H i v=g.H i v:=by
  intro i v hv
  simp only[Gh.got]
  split
  ·rw[if_neg]
   simp only[St.nw,St.V]at*
   omega
  ·rfl
 have hlt:∀p∈ps,∀b∈p.F,b<w'.heap.size∧w.heap.size≤b:=fun p hp b hb=>
  ⟨Ow.lt _ _ _ (hok p hp).2 b hb,hnew b (List.mem_flatMap.2 ⟨p,hp,hb⟩)⟩
 have hbkl:bk<w.heap.size:=(R.frs id bk (by rw[hFb];simp)).2
 have hx:∀b,b<w.heap.size→Xb g b→Xb (g.got σ ps) b:=by
  intro b hb hx
  refine⟨hx.1,fun i hi=>?_⟩
  rcases hfF i with ⟨p,hp,rfl,hF,_⟩|⟨hF,_⟩<;>rw[hF]at hi
  ·have:=(hlt p hp b (List.mem_of_mem_head? hi)).2;omega
  ·exact hx.2 i hi
 have hxe:∀b,b<w.heap.size→Xe g b→Xe (g.got σ ps) b:=by
  intro b hb hx
  refine⟨hx.1,fun i hi=>?_⟩
  rcases hfF i with ⟨p,hp,rfl,hF,_⟩|⟨hF,_⟩<;>rw[hF]at hi
  ·have:=(hlt p hp b hi).2;omega
  ·exact hx.2 i hi
 have hnb:∀b,Xb g b→b≠bk:=fun b hxb e=>hxb.2 id (by rw[hFb,e];rfl)
 have tr:Tr w w' σ.V (σ.app ⟨some (d,s),(id,⟨(σ.ob id).ver,.box cs'⟩)::pobs σ ps⟩).V g (g.got σ ps):=⟨hsz,hV,hH,fun b hb hxb=>⟨hother b hb (hnb b hxb),hx b hb hxb⟩,hxe,rfl⟩
 have hv1:∀i,(σ.app ⟨some (d,s),(id,⟨(σ.ob id).ver,.box cs'⟩)::pobs σ ps⟩).V i=1→σ.V i=1:=by
  intro i
  simp only[St.V,hob]
  rcases hfF i with ⟨p,hp,rfl,_,hf⟩|⟨_,hf⟩<;>rw[hf]
  ·simp[St.nw]
  ·by_cases hi:id=i
   ·subst hi;simp
   ·simp[hi]
 have hk:Knows σ (g.got σ ps) (σ.app ⟨some (d,s),(id,⟨(σ.ob id).ver,.box cs'⟩)::pobs σ ps⟩).V ps:=by
  intro p hp
  refine⟨by simp[Gh.got,K2n hid hp],?_⟩
  simp only[St.V,hob,K2n hid hp]
  exact Nat.le_refl _
 have hbkF:∀i,bk∈g.F i→i=id:=fun i hi=>R.dj bk i id hi (by rw[hFb];simp)
 refine R.turn (some (d,s)) ((id,⟨(σ.ob id).ver,.box cs'⟩)::pobs σ ps) w' (g.got σ ps) (some d) v tr ⟨rfl,hs _ hk tr⟩ hv1 ?_ ?_ ?_ ?_ gr
 ·intro i
  rw[hob]
  rcases hfF i with ⟨p,hp,rfl,hF,hf⟩|⟨hF,hf⟩<;>rw[hf]
  ·right
   simp only[ObjR]
   have ho:=(hok p hp).2
   unfold Pl.ok Ow at ho
   obtain⟨A,cap,hv,hl,ho⟩:=ho
   refine⟨A,cap,by rw[(hk p hp).1];exact hv,hl,?_⟩
   rw[hF]
   simpa using ho
  ·by_cases hi:id=i
   ·subst hi
    right
    simp only[↓reduceIte]
    simp only[ObjR]
    refine⟨bk,ty,us',?_,hbk,hcs _ hk tr,by rw[hF,hFb]⟩
    exact(hH id (σ.ob id).ver (Nat.le_refl _)).trans hptr
   ·left
    rw[if_neg hi]
    exact⟨rfl,hF,fun b hb=>hother b (R.frs i b hb).2 fun e=>hi (hbkF i (e▸hb)).symm⟩
 ·intro i
  rcases hfF i with ⟨p,hp,rfl,hF,_⟩|⟨hF,_⟩<;>rw[hF]
  ·exact K8w hnd hp
  ·exact R.nd i
 ·intro b i j hi hj
  rcases hfF i with ⟨p,hp,rfl,hF,_⟩|⟨hF,_⟩<;>rw[hF]at hi<;>rcases hfF j with ⟨q,hq,rfl,hF',_⟩|⟨hF',_⟩<;>rw[hF']at hj
  ·rw[K6n hnd hp hq hi hj hid]
  ·have:=(hlt p hp b hi).2;have:=(R.frs j b hj).2;omega
  ·have:=(hlt q hq b hj).2;have:=(R.frs i b hi).2;omega
  ·exact R.dj b i j hi hj
 ·intro i b hi
  rcases hfF i with ⟨p,hp,rfl,hF,_⟩|⟨hF,_⟩<;>rw[hF]at hi
  ·have:=hlt p hp b hi;exact⟨fun hb=>by have:=R.bs b hb;omega,by omega⟩
  ·have:=R.frs i b hi;exact⟨this.1,by omega⟩
end
end Go.Proofs.YtjneccbpkckdfaaGreatR
namespace Go.Proofs.YtjneccbpkckdfaaGreatR
open Go Go.RowKit
def CallE(P:Program)(σ:St)(d:Nat)(ids:List Nat)(f:Od)(xs:List Od)(e:Ef):Prop:=
 ∃fid caps as_ rs,σ.callee f=some (fid,caps)∧σ.args xs=some as_∧Ctr P fid (as_++caps) rs∧K66 σ (σ.mode (f::xs)) d ids rs=some e
def CallIE(P:Program)(σ:St)(d:Nat)(ids:List Nat)(f:Od)(xs:List Od)(ios bks:List Nat)(e:Ef):Prop:=
 ∃fid args idl outs rs e1 e2,σ.callee f=some (fid,[])∧σ.argsI ios xs=some (args,idl)∧CtrI P fid args outs rs∧effI σ d ids idl outs rs=some e1∧bksE (σ.app e1) bks=some e2∧e=⟨e1.d,e1.obs++e2⟩
def CallBE(P:Program)(σ:St)(d:Nat)(ids:List Nat)(f p:Od)(xs:List Od)(e:Ef):Prop:=
 ∃fid as_ id ver cs ts ts' rs x,σ.callee f=some (fid,[])∧σ.ev p= .adr (.bx id ver 0)∧σ.ob id=⟨ver,.box cs⟩∧K1 (cs.map SC.frz)=some ts∧σ.args xs=some as_∧σ.mode xs= .e∧CtrB P fid ts as_ ts' rs∧
  distinct (id::ids)=true∧K15 σ .e ids rs=some x∧e=⟨some (d,K1f x.1),(id,⟨ver,.box (ts'.map .pl)⟩)::x.2.1⟩
def adrOf(id ver:Nat):Option Nat→SV
 |some k=> .adr (.bx id ver k)
 |none=> .val false [.pl (.sc (.pointer none))]
def CallPE(P:Program)(σ:St)(d:Nat)(f p:Od)(xs:List Od)(e:Ef):Prop:=
 ∃fid as_ id ver k,σ.callee f=some (fid,[])∧σ.ev p= .adr (.bx id ver 0)∧σ.args xs=some as_∧CtrP P fid as_ k∧e=⟨some (d,adrOf id ver k),[]⟩
def CallNE(P:Program)(σ:St)(d id:Nat)(f:Od)(xs:List Od)(e:Ef):Prop:=
 ∃fid as_ cs',σ.callee f=some (fid,[])∧σ.args xs=some as_∧σ.mode xs= .e∧id<σ.o.length∧CtrN P fid as_ cs'∧e=⟨some (d,.adr (.bx id (σ.nw id) 0)),[(id,⟨σ.nw id,.box (cs'.map .pl)⟩)]⟩
def EffP(P:Program)(o:MO)(σ:St)(e:Ef):Prop:=match o with
 |.call d ids f xs=>CallE P σ d ids f xs e
 |.callI d ids f xs ios bks=>CallIE P σ d ids f xs ios bks e
 |.callB d ids f p xs=>CallBE P σ d ids f p xs e
 |.callP d f p xs=>CallPE P σ d f p xs e
 |.callN d id f xs=>CallNE P σ d id f xs e
 |.loadT d id2 x=>effT d id2 x σ=some e
 |.loadM d n ids id x=>effM σ d n ids id x=some e
 |.buildO d zs ps ns=>effB d zs ps ns σ=some e
 |o=>eff o σ=some e
def K1i(o:Oper)(d:Nat)(f:Od)(xs:List Od):Bool:=isD o.dst d&&match o.op with
 |.call ⟨.value f',args,_⟩=>K3 f' f&&K22 args.toList xs
 |_=>false
def chkM(P:Program)(o:Oper):MO→Bool
 |.call d _ f xs=>K1i o d f xs
 |.callI d _ f xs _ _=>K1i o d f xs
 |.callB d _ f p xs=>K1i o d f (p::xs)
 |.callP d f p xs=>K1i o d f (p::xs)
 |.callN d _ f xs=>K1i o d f xs
 |.buildO d zs ps _=>Ki P o (.build d zs ps)
 |.loadT d _ x=>isD o.dst d&&(match o.op with
  |.load t x'=>K3 x' x&&tyB P t false 1
  |_=>false)
 |.loadM d n _ _ x=>isD o.dst d&&(match o.op with
  |.load t x'=>K3 x' x&&tyB P t true n
  |_=>false)
 |m=>Ki P o m
def isI:MO→Bool
 |.callI ..| .loadT ..| .loadM ..| .buildO ..=>true
 |_=>false
section
variable {P:Program} {base:Nat→Prop} {Z:ZZ} {w0 w w':World} {σ σ':St} {g:Gh} {o:Oper} {a:Act} {V:Nat→Nat} {ts:Array Value} {m:Md}
def Does(P:Program)(o:Oper)(a:Act)(base:Nat→Prop)(Z:ZZ)(w0 w:World)(σ':St):Prop:=
 ∀(K:Act→World→Prop) (Q:Exit→Act→World→Prop),(∀a' w' g',a'.defers=a.defers→Rel base Z w0 w' σ' a'.tmps g'→K a' w')→o.wp P a w K Q
theorem K1p(a:Act)(d:Option Tmp)(v:Value):(a.put d v).defers=a.defers:=by cases d<;>rfl
theorem Good.does(h:Good P o a base Z w0 w σ'):Does P o a base Z w0 w σ':=by
 intro K Q hK
 obtain⟨nx,w',hr,g',hg⟩:=h
 unfold Oper.wp
 rw[hr]
 cases nx with
 |value v=>exact hK _ _ g' (K1p _ _ _) hg
 |skip=>exact hK _ _ g' (K1p _ _ _) hg
 |_=>exact hg.elim
theorem K2l {f : FuncId} {fn : Func} {args : Array Value} (hf : P.funcs[f]? = some fn) (hb : fn.body.isNone = false) (hn : (fn.name == "runtime.NumGoroutine") = false) : (callFunc f args).run P w = .ok (.enter f args) w := by
 have hb':¬fn.body=none:=by intro e;rw[e]at hb;simp at hb
 have hn' : ¬ fn.name = "runtime.NumGoroutine" := by simpa using hn
 unfold callFunc
 simp[hf,hb',hn']
theorem K72{V':Nat→Nat}{g':Gh}{xs:List (Bool×List SC)}{us:List Value}(h:ValsR w' V' g' xs us):SlotR w' V' g' (K1f xs) (tupV us):=by
 cases xs with
 |nil=>
  cases us with
  |nil=>simp only[K1f,tupV,SlotR];exact⟨[],rfl,trivial⟩
  |cons u us=>exact h.elim
 |cons x xs=>
  cases us with
  |nil=>exact h.elim
  |cons u us=>
   cases xs with
   |nil=>
    cases us with
    |nil=>simp only[K1f,tupV,SlotR];exact h.1
    |cons u' us=>exact h.2.elim
   |cons x' xs=>
    cases us with
    |nil=>exact h.2.elim
    |cons u' us=>simp only[K1f,tupV,SlotR];exact⟨_,rfl,h⟩
theorem ArgsR.app{X:Nat→Prop}:∀ {xs ys:List (Bool×List T)} {us vs:List Value},ArgsR w X xs us→ArgsR w X ys vs→ArgsR w X (xs++ys) (us++vs)
 | [],_,[],_,_,h=>h
 |_::_,_,_::_,_,h,h'=>⟨h.1,ArgsR.app h.2 h'⟩
 | [],_,_::_,_,h,_=>h.elim
 |_::_,_,[],_,h,_=>h.elim
theorem K74{X:Nat→Prop}:∀ {l:List T} {vs:List Value},RdL w X l vs→ArgsR w X (l.map fun t=>(false,[t])) vs
 | [],[],_=>trivial
 |t::l,v::vs,h=>by
  simp only[RdL]at h
  exact⟨by simp only[ArgR,Bool.false_eq_true,if_false];exact⟨t,rfl,h.1⟩,K74 h.2⟩
 | [],_::_,h=>by simp only[RdL]at h
 |_::_,[],h=>by simp only[RdL]at h
theorem Rel.callee(R:Rel base Z w0 w σ a.tmps g){f':Operand}{f:Od}(hc:K3 f' f=true){fid:FuncId}{caps:List (Bool×List T)}(h:σ.callee f=some (fid,caps))(hm:((σ.ev f).md σ).le m):
  ∃cvs:List Value,a.eval f'= .func (.func fid) #[] cvs.toArray∧ArgsR w (Xm g m) caps cvs:=by
 unfold St.callee at h
 have hE:=R.ev hc
 split at h
 ·rename_i g0 bs hone
  obtain⟨l,hl,h⟩:=Option.map_eq_some_iff.1 h
  simp only[Prod.mk.injEq]at h
  obtain⟨rfl,rfl⟩:=h
  have hC:=hE.one_ hone
  have hs:=K2f hone
  simp only[CellR]at hC
  refine⟨_,hC.1,K74 ?_⟩
  cases bs with
  |nil=>simp[K1]at hl;subst hl;simp[RdL]
  |cons b bs=>
   have hma:m= .a:=by
    rw[hs]at hm
    simp only[SV.md,mdAll,SC.md]at hm
    cases m<;>simp_all[Md.join,Md.le]
   subst hma
   have key:∀(bs:List (Nat×Nat)) (l:List T),K1 (bs.map fun b=>σ.boxed b.1 b.2)=some l→RdL w (Xm g .a) l (bs.map fun b=>g.H b.1 b.2):=by
    intro bs
    induction bs with
    |nil=>intro l h;simp[K1]at h;subst h;simp[RdL]
    |cons b bs ih=>
     intro l h
     obtain⟨t,l',h1,h2,rfl⟩:=K1h h
     simp only[List.map_cons,RdL]
     exact⟨R.rd_boxed h1,ih l' h2⟩
   exact key _ l hl
 ·rename_i g0 cs hone
  simp only[Option.some.injEq,Prod.mk.injEq]at h
  obtain⟨rfl,rfl⟩:=h
  have hC:=hE.one_ hone
  simp only[CellR,Rd]at hC
  obtain⟨cvs,hv,hr⟩:=hC
  exact⟨cvs,hv,K74 (RdL.keep ⟨Nat.le_refl _,fun b hb _=>⟨rfl,K5a (m:= .e) (by simp[Md.le]) hb⟩⟩ _ _ hr)⟩
 ·rename_i g0 cs hone
  simp only[Option.some.injEq,Prod.mk.injEq]at h
  obtain⟨rfl,rfl⟩:=h
  have hC:=hE.one_ hone
  have hs:=K2f hone
  simp only[CellR,Rd]at hC
  obtain⟨cvs,hv,hr⟩:=hC
  refine⟨cvs,hv,K74 (RdL.keep ⟨Nat.le_refl _,fun b hb _=>⟨rfl,K5a (m:= .b) ?_ hb⟩⟩ _ _ hr)⟩
  rw[hs]at hm
  simp only[SV.md,mdAll,SC.md]at hm
  cases m<;>simp_all[Md.join,Md.le]
 ·simp at h
theorem does_call(R:Rel base Z w0 w σ a.tmps g){d:Nat}{ids:List Nat}{f:Od}{xs:List Od}(hc:K1i o d f xs=true){e:Ef}(he:CallE P σ d ids f xs e):Does P o a base Z w0 w (σ.app e):=by
 intro K Q hK
 simp only[K1i,Bool.and_eq_true]at hc
 obtain⟨hd,hc⟩:=hc
 have hd:=Kc hd
 split at hc
 rotate_left
 ·simp at hc
 rename_i f' args ats ho
 simp only[Bool.and_eq_true]at hc
 obtain⟨fid,caps,as_,rs,hcal,has,⟨⟨fn,hf,hb,hn⟩,hctr⟩,hres⟩:=he
 obtain⟨cvs,hfv,hcaps⟩:=R.callee (m:=σ.mode (f::xs)) hc.1 hcal (K36 _ _)
 have hargs:=R.args (m:=σ.mode (f::xs)) hc.2 has (K3c _ _)
 have hrun:(execOp a.eval o).run P w= .ok (.enter fid ((args.toList.map a.eval)++cvs).toArray) w:=by
  simp only[execOp,ho,resolve,hfv,Deferred.ofValue,pure_bind,invoke]
  rw[K2l hf hb hn]
  congr 2
  apply Array.ext'
  simp
 unfold Oper.wp
 rw[hrun,Oper.upon_enter]
 refine Calls.mono (hctr w (Xm g (σ.mode (f::xs))) _ (fun w' h'=>R.tb w' (R.grew.trans ((K5b h').mono R.bs))) (hargs.app hcaps)) fun en w' hen=>?_
 cases en with
 |outgrown=>exact hen.elim
 |panicked c=>exact hen.elim
 |returned v=>
  simp only at hen ⊢
  obtain⟨hbelow,us,G,rfl,hGn,hGw,hrs⟩:=hen
  unfold K66 at hres
  obtain⟨hdis,hres⟩:=Option.ite_none_right_eq_some.1 hres
  obtain⟨x,hx,rfl⟩:=Option.map_eq_some_iff.1 hres
  obtain⟨ps,h1,h2,h3,h4,h5⟩:=K3m hx hrs
  have hidn:(ps.map (·.id)).Nodup:=by
   have:=K16 hdis
   rw[h2]at this
   exact(List.nodup_append.1 this).1
  rw[h1]at hK
  refine hK _ w' (g.got σ ps) (K1p _ _ _) ?_
  rw[hd]
  refine R.got hbelow.size (fun b hb=>hbelow.block b hb) (R.grew.trans ((K5b hbelow).mono R.bs)) hidn h3 (by rw[←h4];exact hGn) (by rw[←h4];exact hGw) ?_
  intro V' hk tr
  refine K72 (h5 _ V' hk fun b hb hY=>?_)
  obtain⟨hYX,hYG⟩:=hY
  have hcase:b<w.heap.size∨w.heap.size≤b:=Nat.lt_or_ge _ _
  have hnew:w.heap.size≤b→Xe (g.got σ ps) b:=by
   intro hge
   refine⟨fun hz=>?_,fun i hi=>?_⟩
   ·have hz':g.Z b:=hz
    rw[R.zz]at hz'
    have:=R.bs b (R.zb b hz');omega
   ·simp only[Gh.got]at hi
    split at hi
    ·rename_i p hp
     refine hYG ?_
     rw[h4]
     exact List.mem_flatMap.2 ⟨p,List.mem_of_find?_eq_some hp,hi⟩
    ·have:=(R.frs i b hi).2;omega
  rcases hcase with hlt|hge
  ·have:=hYX hlt
   cases hm:σ.mode (f::xs)with
   |e=>rw[hm]at this;exact tr.xe b hlt this
   |b=>rw[hm]at this;exact(tr.xb b hlt this).2
   |a=>rw[hm]at this;exact this
  ·exact K5a (m:= .e) (by simp[Md.le]) (hnew hge)
theorem after_I{d:Nat}{ids idl bks:List Nat}{outs:List (Option (Nat×List (List T)))}{rs:List RV}{ovs:List Value}{G:List Nat}{e1:Ef}{e2:List (Nat×OV)}(R:Rel base Z w0 w σ a.tmps g)(hown:OwI w σ g idl ovs G)(heff:effI σ d ids idl outs rs=some e1)(hbk:bksE (σ.app e1) bks=some e2)
  {us:List Value} {G1 G2:List Nat} (hbel:Bel (fun b=>b<w.heap.size∧b∉G) w w') (hout:OwOut w' outs ovs G1) (hrs:ResVs w' (fun b=>(b<w.heap.size→Xe g b∨b∈G)∧b∉G1++G2) rs us G2) (hnd:(G1++G2).Nodup) (hin:∀b∈G1++G2,(b∈G∨w.heap.size≤b)∧b<w'.heap.size):
  ∃g3,Rel base Z w0 w' (σ.app ⟨e1.d,e1.obs++e2⟩) (a.put (some d) (tupV us)).tmps g3:=by
 unfold effI at heff
 obtain⟨⟨hdis,nb⟩,heff⟩:=Option.ite_none_right_eq_some.1 heff
 obtain⟨os,hos,heff⟩:=Option.bind_eq_some_iff.1 heff
 obtain⟨x,hx,rfl⟩:=Option.map_eq_some_iff.1 heff
 have hdn:=K16 hdis
 have hidn:idl.Nodup:=(List.nodup_append.1 hdn).1
 have hGs:=hown.sub
 have hGnd:G.Nodup:=hGs.nodup (R.flat_nodup _ hidn)
 have hGF:∀b∈G,∃j,j∈idl∧b∈g.F j:=fun b hb=>by
  obtain⟨j,hj,hbj⟩:=List.mem_flatMap.1 (hGs.subset hb);exact⟨j,hj,hbj⟩
 have hGb:∀b∈G,b<w.heap.size∧¬Xe g b:=fun b hb=>by
  obtain⟨j,_,hj⟩:=hGF b hb
  exact⟨(R.frs j b hj).2,fun hx=>hx.2 j hj⟩
 have hbase:∀b,base b→b<w.heap.size∧b∉G:=fun b hb=>⟨R.bs b hb,fun hG=>by obtain⟨j,_,hj⟩:=hGF b hG;exact(R.frs j b hj).1 hb⟩
 have hnd':=List.nodup_append.1 hnd
 have hsz:∀id,(σ.ob id).oc≠ .none→id<σ.o.length:=fun id h=>by
  rcases Nat.lt_or_ge id σ.o.length with h'|h'
  ·exact h'
  ·rw[K3s h']at h;exact(h rfl).elim
 obtain⟨Fn,k1,k2,k3⟩:=K96 (hsz:=hsz) hown hout hos hidn
 obtain⟨ps,h1,h2,h3,h4,h5⟩:=K3m hx hrs
 have hkeys:((os++pobs σ ps).map (·.1)).Nodup:=by
  rw[List.map_append,k2]
  have:(pobs σ ps).map (·.1)=ps.map (·.id):=by simp[pobs]
  rw[this]
  rw[h2]at hdn
  rw[←List.append_assoc]at hdn
  exact(List.nodup_append.1 hdn).1
 have hkd:=List.nodup_append.1 (show(idl++ps.map (·.id)).Nodup by
  rw[h2,←List.append_assoc]at hdn
  exact(List.nodup_append.1 hdn).1)
 have hkl:∀y∈os++pobs σ ps,y.1<σ.o.length:=by
  intro y hy
  rcases List.mem_append.1 hy with hy|hy
  ·exact(k3 y hy).1
  ·simp only[pobs,List.mem_map]at hy
   obtain⟨p,hp,rfl⟩:=hy
   exact(h3 p hp).1
 have hpid:(ps.map (·.id)).Nodup:=hkd.2.1
 have hob:=ob_find (σ:=σ) (d:=some (d,K1f x.1)) hkeys hkl
 rw[h1]at hbk
 simp only[h1]
 have hcase:∀i,(∃p∈ps,p.id=i∧i∉idl∧(σ.app ⟨some (d,K1f x.1),os++pobs σ ps⟩).ob i=⟨σ.nw p.id,.row true p.sz p.es⟩)∨
   (∃y∈os,y.1=i∧i∈idl∧(∀p∈ps,p.id≠i)∧(σ.app ⟨some (d,K1f x.1),os++pobs σ ps⟩).ob i=y.2)∨((∀p∈ps,p.id≠i)∧i∉idl∧(σ.app ⟨some (d,K1f x.1),os++pobs σ ps⟩).ob i=σ.ob i):=by
  intro i
  rw[hob]
  by_cases hi:i∈idl
  ·right;left
   rw[←k2]at hi
   obtain⟨y,hy,rfl⟩:=List.mem_map.1 hi
   have hyi:y.1∈idl:=by rw[←k2];exact List.mem_map.2 ⟨y,hy,rfl⟩
   refine⟨y,hy,rfl,hyi,fun p hp e=>hkd.2.2 y.1 hyi p.id (List.mem_map.2 ⟨p,hp,rfl⟩) e.symm,?_⟩
   have:(os++pobs σ ps).find? (fun z=>z.1==y.1)=some y:=by
    refine K9j hkeys (List.mem_append.2 (.inl hy))
   rw[this]
  ·by_cases hp:∃p∈ps,p.id=i
   ·obtain⟨p,hp,rfl⟩:=hp
    left
    refine⟨p,hp,rfl,hi,?_⟩
    have:(os++pobs σ ps).find? (fun z=>z.1==p.id)=some (p.id,⟨σ.nw p.id,.row true p.sz p.es⟩):=by
     refine K9j (x:=(p.id,_)) hkeys (List.mem_append.2 (.inr ?_))
     exact List.mem_map.2 ⟨p,hp,rfl⟩
    rw[this]
   ·right;right
    refine⟨fun p h e=>hp ⟨p,h,e⟩,hi,?_⟩
    have:(os++pobs σ ps).find? (fun z=>z.1==i)=none:=by
     rw[List.find?_eq_none]
     intro z hz e
     obtain rfl:=beq_iff_eq.1 e
     rcases List.mem_append.1 hz with hz|hz
     ·exact hi (by rw[←k2];exact List.mem_map.2 ⟨z,hz,rfl⟩)
     ·simp only[pobs,List.mem_map]at hz
      obtain⟨p,h,rfl⟩:=hz
      exact hp ⟨p,h,rfl⟩
    rw[this]
 have hg:∃g':Gh,g'.Z=g.Z∧(∀i v,v≤σ.V i→g'.H i v=g.H i v)∧(∀p∈ps,g'.H p.id (σ.nw p.id)=p.v∧g'.F p.id=p.F)∧(∀i∈idl,g'.F i=Fn i)∧∀i,i∉idl→(∀p∈ps,p.id≠i)→g'.F i=g.F i:=by
  refine⟨Gh.got ⟨g.H,fun i=>if i∈idl then Fn i else g.F i,g.Z⟩ σ ps,rfl,?_,?_,?_,?_⟩
  ·intro i v hv
   simp only[Gh.got]
   split
   ·rw[if_neg]
    simp only[St.nw,St.V]at*
    omega
   ·rfl
  ·intro p hp
   simp[Gh.got,K2n hpid hp]
  ·intro i hi
   have:=K5f (ps:=ps) (i:=i) (fun p hp e=>hkd.2.2 i hi p.id (List.mem_map.2 ⟨p,hp,rfl⟩) e.symm)
   simp[Gh.got,this,hi]
  ·intro i hi hp
   have:=K5f (ps:=ps) (i:=i) hp
   simp[Gh.got,this,hi]
 obtain⟨g',gZ,gH,gP,gI,gO⟩:=hg
 have hFnG:∀i∈idl,∀b∈Fn i,b∈G1:=fun i hi b hb=>k1.subset (List.mem_flatMap.2 ⟨i,hi,hb⟩)
 have hpG:∀p∈ps,∀b∈p.F,b∈G2:=fun p hp b hb=>by rw[h4];exact List.mem_flatMap.2 ⟨p,hp,hb⟩
 have hF':∀i b,b∈g'.F i→(b∈G1++G2∧((i∈idl∧b∈Fn i)∨(i∉idl∧∃p∈ps,p.id=i∧b∈p.F)))∨(b∈g.F i∧i∉idl∧(∀p∈ps,p.id≠i)):=by
  intro i b hb
  rcases hcase i with ⟨p,hp,rfl,hi,_⟩|⟨y,hy,rfl,hi,_,_⟩|⟨hp,hi,_⟩
  ·rw[(gP p hp).2]at hb
   exact .inl ⟨List.mem_append.2 (.inr (hpG p hp b hb)),.inr ⟨hi,p,hp,rfl,hb⟩⟩
  ·rw[gI _ hi]at hb
   exact .inl ⟨List.mem_append.2 (.inl (hFnG _ hi b hb)),.inl ⟨hi,hb⟩⟩
  ·rw[gO i hi hp]at hb
   exact .inr ⟨hb,hi,hp⟩
 have hold:∀i b,b∈g.F i→i∉idl→b∉G1++G2:=by
  intro i b hb hi h12
  rcases(hin b h12).1 with h|h
  ·obtain⟨j,hj,hbj⟩:=hGF b h
   exact hi (R.dj b i j hb hbj▸hj)
  ·have:=(R.frs i b hb).2;omega
 have hheap:∀i b,b∈g.F i→i∉idl→w'.heap[b]? =w.heap[b]? :=by
  intro i b hb hi
  refine hbel.block b ⟨(R.frs i b hb).2,fun h=>?_⟩
  obtain⟨j,hj,hbj⟩:=hGF b h
  exact hi (R.dj b i j hb hbj▸hj)
 have hV:∀i,σ.V i≤(σ.app ⟨some (d,K1f x.1),os++pobs σ ps⟩).V i∧((σ.app ⟨some (d,K1f x.1),os++pobs σ ps⟩).V i=1→σ.V i=1):=by
  intro i
  simp only[St.V]
  rcases hcase i with ⟨p,hp,rfl,hi,he⟩|⟨y,hy,rfl,hi,_,he⟩|⟨hp,hi,he⟩<;>rw[he]
  ·exact⟨by simp[St.nw],by simp[St.nw]⟩
  ·rw[(k3 y hy).2.1];exact⟨Nat.le_refl _,id⟩
  ·exact⟨Nat.le_refl _,id⟩
 have tr:TrE w w' σ.V (σ.app ⟨some (d,K1f x.1),os++pobs σ ps⟩).V g g':=by
  refine⟨hbel.size,fun i=>(hV i).1,gH,fun b hb hx=>⟨hbel.block b ⟨hb,fun h=>(hGb b h).2 hx⟩,by rw[gZ];exact hx.1,fun i hi=>?_⟩,gZ⟩
  rcases hF' i b hi with ⟨h,_⟩|⟨h,_⟩
  ·rcases(hin b h).1 with h|h
   ·exact(hGb b h).2 hx
   ·omega
  ·exact hx.2 i h
 have hk:Knows σ g' (σ.app ⟨some (d,K1f x.1),os++pobs σ ps⟩).V ps:=by
  intro p hp
  refine⟨(gP p hp).1,?_⟩
  simp only[St.V]
  rcases hcase p.id with ⟨q,hq,hqp,_,he⟩|⟨y,hy,hyp,hi,hne,_⟩|⟨hne,_,_⟩
  ·rw[he,hqp];exact Nat.le_refl _
  ·exact(hne p hp rfl).elim
  ·exact(hne p hp rfl).elim
 have R1:Rel base Z w0 w' (σ.app ⟨some (d,K1f x.1),os++pobs σ ps⟩) (a.put (some d) (tupV us)).tmps g':=by
  refine R.turnE nb _ _ w' g' (some d) (tupV us) tr ⟨rfl,K72 (h5 _ _ hk fun b hb hY=>?_)⟩ (fun i=>(hV i).2) (fun i=>?_) (fun i=>?_) (fun b i j hi hj=>?_) (fun i b hi=>?_) (R.grew.trans (hbel.mono hbase))
  ·obtain⟨hY1,hY2⟩:=hY
   refine⟨fun hz=>?_,fun i hi=>?_⟩
   ·rw[gZ,R.zz]at hz
    have hbz:=R.zb b hz
    rcases hY1 (R.bs b hbz)with h|h
    ·exact h.1 (by rw[R.zz];exact hz)
    ·exact(hbase b hbz).2 h
   ·rcases hF' i b hi with ⟨h,_⟩|⟨h,hni,_⟩
    ·exact hY2 h
    ·rcases hY1 (R.frs i b h).2 with h'|h'
     ·exact h'.2 i h
     ·obtain⟨j,hj,hbj⟩:=hGF b h'
      exact hni (R.dj b i j h hbj▸hj)
  ·rcases hcase i with ⟨p,hp,rfl,hi,he⟩|⟨y,hy,rfl,hi,_,he⟩|⟨hp,hi,he⟩
   ·right
    rw[he]
    simp only[ObjR]
    have ho:=(h3 p hp).2
    unfold Pl.ok Ow at ho
    obtain⟨A,cap,hv,hl,ho⟩:=ho
    refine⟨A,cap,by rw[(gP p hp).1];exact hv,hl,?_⟩
    rw[(gP p hp).2]
    simpa using ho
   ·right
    rw[he]
    obtain⟨m1,m2,m3⟩:=k3 y hy
    rw[m2]
    rcases m3 with ⟨m3,m4⟩|⟨sz,es,A,cap,m3,m4,m5,m6⟩
    ·rw[m3]
     simp only[ObjR]
     rw[gI _ hi,m4]
    ·rw[m3]
     simp only[ObjR]
     refine⟨A,cap,(gH _ _ (Nat.le_refl _)).trans m4,m5,?_⟩
     rw[gI _ hi]
     simpa using m6
   ·left
    exact⟨he,gO i hi hp,fun b hb=>hheap i b hb hi⟩
  ·rcases hcase i with ⟨p,hp,rfl,hi,he⟩|⟨y,hy,rfl,hi,_,he⟩|⟨hp,hi,he⟩
   ·rw[(gP p hp).2]
    rw[h4]at hnd'
    exact K8w hnd'.2.1 hp
   ·rw[gI _ hi]
    exact flat_nd' (k1.nodup hnd'.1) hi
   ·rw[gO i hi hp];exact R.nd i
  ·rcases hF' i b hi with ⟨h,hi'⟩|⟨h,hni,hnp⟩<;>rcases hF' j b hj with ⟨h',hj'⟩|⟨h',hni',hnp'⟩
   ·rcases hi' with ⟨hi1,hi2⟩|⟨hi1,p,hp,rfl,hi2⟩<;>rcases hj' with ⟨hj1,hj2⟩|⟨hj1,q,hq,rfl,hj2⟩
    ·exact flat_disj' (k1.nodup hnd'.1) hidn hi1 hj1 hi2 hj2
    ·exact(hnd'.2.2 b (hFnG i hi1 b hi2) b (hpG q hq b hj2) rfl).elim
    ·exact(hnd'.2.2 b (hFnG j hj1 b hj2) b (hpG p hp b hi2) rfl).elim
    ·rw[h4]at hnd'
     rw[K6n hnd'.2.1 hp hq hi2 hj2 hpid]
   ·exact(hold j b h' hni' h).elim
   ·exact(hold i b h hni h').elim
   ·exact R.dj b i j h h'
  ·rcases hF' i b hi with ⟨h,_⟩|⟨h,_⟩
   ·obtain⟨hl,hl2⟩:=hin b h
    refine⟨fun hb=>?_,hl2⟩
    rcases hl with hl|hl
    ·exact(hbase b hb).2 hl
    ·have:=(hbase b hb).1;omega
   ·have:=R.frs i b h
    exact⟨this.1,Nat.lt_of_lt_of_le this.2 hbel.size⟩
 obtain⟨g3,R3⟩:=R1.bks hbk
 refine⟨g3,?_⟩
 rw[app_app]
 exact R3
theorem does_callI{d:Nat}{ids:List Nat}{f:Od}{xs:List Od}{ios bks:List Nat}{e:Ef}(hc:K1i o d f xs=true)(R:Rel base Z w0 w σ a.tmps g)(he:CallIE P σ d ids f xs ios bks e):Does P o a base Z w0 w (σ.app e):=by
 intro K Q hK
 simp only[K1i,Bool.and_eq_true]at hc
 obtain⟨hd,hc⟩:=hc
 have hd:=Kc hd
 split at hc
 rotate_left
 ·simp at hc
 rename_i f' args' ats ho
 simp only[Bool.and_eq_true]at hc
 obtain⟨fid,args,idl,outs,rs,e1,e2,hcal,has,⟨⟨fn,hf,hb,hn⟩,hctr⟩,heff,hbk,rfl⟩:=he
 obtain⟨cvs,hfv,hcaps⟩:=R.callee (m:=(σ.ev f).md σ) hc.1 hcal (by cases ((σ.ev f).md σ)<;>simp[Md.le])
 obtain rfl:cvs=[]:=by cases cvs with|nil=>rfl|cons u us=>exact hcaps.elim
 obtain⟨G,hres,hown⟩:=R.argsI hc.2 has
 simp only at hres hown
 have heff0:=heff
 unfold effI at heff
 obtain⟨⟨hdis,nb⟩,heff⟩:=Option.ite_none_right_eq_some.1 heff
 obtain⟨os,hos,heff⟩:=Option.bind_eq_some_iff.1 heff
 obtain⟨x,hx,rfl⟩:=Option.map_eq_some_iff.1 heff
 have hdn:=K16 hdis
 have hidn:idl.Nodup:=(List.nodup_append.1 hdn).1
 have hGs:=hown.sub
 have hGnd:G.Nodup:=hGs.nodup (R.flat_nodup _ hidn)
 have hGF:∀b∈G,∃j,j∈idl∧b∈g.F j:=fun b hb=>by
  obtain⟨j,hj,hbj⟩:=List.mem_flatMap.1 (hGs.subset hb);exact⟨j,hj,hbj⟩
 have hGb:∀b∈G,b<w.heap.size∧¬Xe g b:=fun b hb=>by
  obtain⟨j,_,hj⟩:=hGF b hb
  exact⟨(R.frs j b hj).2,fun hx=>hx.2 j hj⟩
 have hbase:∀b,base b→b<w.heap.size∧b∉G:=fun b hb=>⟨R.bs b hb,fun hG=>by obtain⟨j,_,hj⟩:=hGF b hG;exact(R.frs j b hj).1 hb⟩
 have hrun:(execOp a.eval o).run P w= .ok (.enter fid (args'.toList.map a.eval).toArray) w:=by
  simp only[execOp,ho,resolve,hfv,Deferred.ofValue,pure_bind,invoke]
  rw[K2l hf hb hn]
  congr 2
  apply Array.ext'
  simp
 unfold Oper.wp
 rw[hrun,Oper.upon_enter]
 refine Calls.mono (hctr w (Xe g) _ G (fun w' h'=>R.tb w' (R.grew.trans (h'.mono hbase))) hres hGnd hGb) fun en w' hen=>?_
 cases en with
 |outgrown=>exact hen.elim
 |panicked c=>exact hen.elim
 |returned v=>
  simp only at hen ⊢
  obtain⟨hbel,us,G1,G2,rfl,hout,hrs,hnd,hin⟩:=hen
  obtain⟨g3,R3⟩:=after_I R hown heff0 hbk hbel hout hrs hnd hin
  rw[hd]
  exact hK _ w' g3 (K1p _ _ _) R3
theorem K8c{w:World}{V:Nat→Nat}{g:Gh}:∀ {cs:List SC} {vs:List Value} {l:List T},CellsR w V g cs vs→K1 (cs.map SC.frz)=some l→RdL w (Xe g) l vs
 | [],[],l,_,h=>by simp[K1]at h;subst h;simp only[RdL]
 |c::cs,v::vs,l,hr,h=>by
  simp only[List.map_cons]at h
  obtain⟨t,l',h1,h2,rfl⟩:=K1h h
  simp only[RdL]
  refine⟨?_,K8c hr.2 h2⟩
  have hcr:=hr.1
  unfold SC.frz at h1
  split at h1
  ·obtain rfl:=Option.some.inj h1
   exact hcr
  ·obtain rfl:=Option.some.inj h1
   simp only[CellR,Rd]at hcr ⊢
   exact hcr
  ·simp at h1
 | [],_::_,_,hr,_=>hr.elim
 |_::_,[],_,hr,_=>hr.elim
theorem K4h{w:World}{V:Nat→Nat}{g:Gh}:∀ {l:List T} {vs:List Value},RdL w (Xe g) l vs→CellsR w V g (l.map .pl) vs
 | [],[],_=>trivial
 |t::l,v::vs,h=>by
  simp only[RdL]at h
  exact⟨h.1,K4h h.2⟩
 | [],_::_,h=>by simp only[RdL]at h
 |_::_,[],h=>by simp only[RdL]at h
theorem K3g{w:World}{X X':Nat→Prop}(hx:∀b,b<w.heap.size→X b→X' b){l:List T}{vs:List Value}(h:RdL w X l vs):RdL w X' l vs:=RdL.keep ⟨Nat.le_refl _,fun b hb hlt=>⟨rfl,hx b hlt hb⟩⟩ l vs h
theorem does_callB(R:Rel base Z w0 w σ a.tmps g){d:Nat}{ids:List Nat}{f p:Od}{xs:List Od}(hc:K1i o d f (p::xs)=true){e:Ef}(he:CallBE P σ d ids f p xs e):Does P o a base Z w0 w (σ.app e):=by
 intro K Q hK
 simp only[K1i,Bool.and_eq_true]at hc
 obtain⟨hd,hc⟩:=hc
 have hd:=Kc hd
 split at hc
 rotate_left
 ·simp at hc
 rename_i f' args ats ho
 simp only[Bool.and_eq_true]at hc
 obtain⟨hcf,hcx⟩:=hc
 obtain⟨fid,as_,id,ver,cs,ts,ts',rs,x,hcal,hp,hob,hts,has,hmd,⟨⟨fn,hf,hb,hn⟩,hctr⟩,hdis,hx,rfl⟩:=he
 obtain⟨cvs,hfv,hcaps⟩:=R.callee (m:=(σ.ev f).md σ) hcf hcal (by cases ((σ.ev f).md σ)<;>simp[Md.le])
 obtain rfl:cvs=[]:=by cases cvs with|nil=>rfl|cons u us=>exact hcaps.elim
 obtain⟨p',l',hargs'⟩:∃p' l',args.toList=p'::l':=by
  cases h:args.toList with
  |nil=>rw[h]at hcx;simp[K22]at hcx
  |cons p' l'=>exact⟨p',l',rfl⟩
 rw[hargs']at hcx
 simp only[K22,Bool.and_eq_true]at hcx
 have hP:=R.ev hcx.1
 rw[hp]at hP
 simp only[SlotR,AdR]at hP
 obtain⟨_,b0,hH0,hpv⟩:=hP
 have hO:=R.obj id
 rw[hob]at hO
 simp only[ObjR]at hO
 obtain⟨bk,ty,us,hH,hcell,hcr,hFb⟩:=hO
 obtain rfl:bk=b0:=by rw[hH]at hH0;simpa using hH0
 have hargs:=R.args (m:= .e) hcx.2 has (by rw[hmd];simp[Md.le])
 have hrun:(execOp a.eval o).run P w= .ok (.enter fid (.pointer (some ⟨bk,0,none⟩)::l'.map a.eval).toArray) w:=by
  simp only[execOp,ho,resolve,hfv,Deferred.ofValue,pure_bind,invoke]
  rw[K2l hf hb hn]
  congr 2
  apply Array.ext'
  simp[hargs',hpv]
 have hbF:bk∈g.F id:=by rw[hFb];simp
 unfold Oper.wp
 rw[hrun,Oper.upon_enter]
 refine Calls.mono (hctr w (Xe g) bk ty us _ (fun w' h'=>R.tb w' (R.grew.trans (h'.mono fun k hk=>⟨R.bs k hk,fun e=>(R.frs id bk hbF).1 (e▸hk)⟩))) hcell (K8c hcr hts) (fun hX=>hX.2 id hbF) hargs) fun en w' hen=>?_
 cases en with
 |outgrown=>exact hen.elim
 |panicked c=>exact hen.elim
 |returned v=>
  simp only at hen ⊢
  obtain⟨hbel,us',ty',rv,G,hbk',hts',rfl,hrs,hGn,hGw⟩:=hen
  obtain⟨ps,h1,h2,h3,h4,h5⟩:=K3m hx hrs
  have hdn:=K16 hdis
  rw[List.nodup_cons]at hdn
  have hidn:(ps.map (·.id)).Nodup:=by
   have:=hdn.2
   rw[h2]at this
   exact(List.nodup_append.1 this).1
  have hne:∀p∈ps,p.id≠id:=fun p hp e=>hdn.1 (by
   rw[h2]
   exact List.mem_append_left _ (List.mem_map.2 ⟨p,hp,e⟩))
  rw[List.nodup_cons]at hGn
  have hXg:∀k,k<w'.heap.size→((k<w.heap.size→Xe g k)∧k∉bk::G)→Tr w w' σ.V σ.V g (g.got σ ps)∨True→Xe (g.got σ ps) k:=by
   intro k _ ⟨hk1,hk2⟩ _
   have hkG:k∉G:=fun h=>hk2 (List.mem_cons_of_mem _ h)
   rcases Nat.lt_or_ge k w.heap.size with hlt|hge
   ·have hX:=hk1 hlt
    refine⟨hX.1,fun i hi=>?_⟩
    simp only[Gh.got]at hi
    split at hi
    ·rename_i p hp
     refine hkG ?_
     rw[h4]
     exact List.mem_flatMap.2 ⟨p,List.mem_of_find?_eq_some hp,hi⟩
    ·exact hX.2 i hi
   ·refine⟨fun hz=>?_,fun i hi=>?_⟩
    ·have hz':g.Z k:=hz
     rw[R.zz]at hz'
     have:=R.bs k (R.zb k hz');omega
    ·simp only[Gh.got]at hi
     split at hi
     ·rename_i p hp
      refine hkG ?_
      rw[h4]
      exact List.mem_flatMap.2 ⟨p,List.mem_of_find?_eq_some hp,hi⟩
     ·have:=(R.frs i k hi).2;omega
  have hver:(σ.ob id).ver=ver:=by rw[hob]
  have R3:=R.gotB (d:=d) (s:=K1f x.1) (v:=tupV rv) (ps:=ps) (id:=id) (bk:=bk) (us':=us') (ty:=ty') (cs:=cs) (cs':=ts'.map .pl) (w':=w') (by rw[hob]) hFb (by rw[hver];exact hH) hbel.size (fun b hb hnb=>hbel.block b ⟨hb,hnb⟩) hbk'
   (R.grew.trans (hbel.mono fun k hk=>⟨R.bs k hk,fun e=>(R.frs id bk hbF).1 (e▸hk)⟩)) hidn hne h3 (by rw[←h4];exact hGn.2) (by rw[←h4];exact hGw)
   (fun V' hk tr=>K4h (K3g (fun k hk1 hk2=>hXg k hk1 hk2 (.inr trivial)) hts'))
   (fun V' hk tr=>K72 (h5 _ V' hk fun k hk1 hk2=>hXg k hk1 hk2 (.inr trivial)))
  rw[hver]at R3
  rw[h1]at hK
  refine hK _ w' (g.got σ ps) (K1p _ _ _) ?_
  rw[hd]
  exact R3
theorem Rel.newN(R:Rel base Z w0 w σ a.tmps g){w':World}{id d nb:Nat}{oc:OC}{s:SV}{hv v:Value}(hid:id<σ.o.length)
  (hsz:w.heap.size≤w'.heap.size) (hheap:∀b,b<w.heap.size→w'.heap[b]? =w.heap[b]?) (gr:Bel base w0 w') (hnb:w.heap.size≤nb) (hnb':nb<w'.heap.size)
  (hs:∀(g':Gh) (V':Nat→Nat),V' id=σ.nw id→g'.H id (σ.nw id)=hv→SlotR w' V' g' s v)
  (hobj:∀(V':Nat→Nat),ObjR w' V' (g.mk' id (σ.nw id) hv [nb] []) id (σ.nw id) oc):
  Rel base Z w0 w' (σ.app ⟨some (d,s),[(id,⟨σ.nw id,oc⟩)]⟩) (a.put (some d) v).tmps (g.mk' id (σ.nw id) hv [nb] []):=by
 have hob:∀i,(σ.app ⟨some (d,s),[(id,⟨σ.nw id,oc⟩)]⟩).ob i=if i=id then⟨σ.nw id,oc⟩else σ.ob i:=by
  intro i
  rw[K20]
  simp only[List.foldl_cons,List.foldl_nil]
  by_cases hi:id=i
  ·subst hi;simp[hid]
  ·have hi':¬i=id:=fun e=>hi e.symm
   simp[hi,hi']
 have hV:∀i,σ.V i≤(σ.app ⟨some (d,s),[(id,⟨σ.nw id,oc⟩)]⟩).V i:=by
  intro i
  simp only[St.V,hob]
  split
  ·rename_i h;subst h;simp[St.nw]
  ·exact Nat.le_refl _
 have hv1:∀i,(σ.app ⟨some (d,s),[(id,⟨σ.nw id,oc⟩)]⟩).V i=1→σ.V i=1:=by
  intro i
  simp only[St.V,hob]
  split
  ·simp[St.nw]
  ·exact fun h=>h
 have hnv:σ.V id<σ.nw id:=by simp[St.V,St.nw]
 have tr:Tr w w' σ.V (σ.app ⟨some (d,s),[(id,⟨σ.nw id,oc⟩)]⟩).V g (g.mk' id (σ.nw id) hv [nb] []):=
  K4w rfl mk'_F1 mk'_F2 (fun b hb=> .inl (by simp at hb;omega)) (fun b hb=> .inl (by simp at hb;omega)) hsz (fun b hb _=>hheap b hb) hV (mk'_H hnv)
 obtain⟨nd,dj,frs⟩:=redist R (w':=w') (g':=g.mk' id (σ.nw id) hv [nb] []) (id:=id) mk'_F1 mk'_F2 (by simp) (fun b hb=> .inl (by simp at hb;omega)) hsz
 refine R.turn (some (d,s)) [(id,⟨σ.nw id,oc⟩)] w' _ (some d) v tr ⟨rfl,hs _ _ (by simp[St.V,hob]) mk'_H2⟩ hv1 ?_ nd dj frs gr
 intro i
 by_cases hi:i=id
 ·subst hi
  right
  rw[hob]
  simp only[if_true]
  exact hobj _
 ·left
  rw[hob,if_neg hi]
  exact⟨rfl,by simp[Gh.mk',hi],fun b hb=>hheap b (R.frs i b hb).2⟩
theorem does_callN(R:Rel base Z w0 w σ a.tmps g){d id:Nat}{f:Od}{xs:List Od}(hc:K1i o d f xs=true){e:Ef}(he:CallNE P σ d id f xs e):Does P o a base Z w0 w (σ.app e):=by
 intro K Q hK
 simp only[K1i,Bool.and_eq_true]at hc
 obtain⟨hd,hc⟩:=hc
 have hd:=Kc hd
 split at hc
 rotate_left
 ·simp at hc
 rename_i f' args ats ho
 simp only[Bool.and_eq_true]at hc
 obtain⟨hcf,hcx⟩:=hc
 obtain⟨fid,as_,cs',hcal,has,hmd,hid,⟨⟨fn,hf,hb,hn⟩,hctr⟩,rfl⟩:=he
 obtain⟨cvs,hfv,hcaps⟩:=R.callee (m:=(σ.ev f).md σ) hcf hcal (by cases ((σ.ev f).md σ)<;>simp[Md.le])
 obtain rfl:cvs=[]:=by cases cvs with|nil=>rfl|cons u us=>exact hcaps.elim
 have hargs:=R.args (m:= .e) hcx has (by rw[hmd];simp[Md.le])
 have hrun:(execOp a.eval o).run P w= .ok (.enter fid (args.toList.map a.eval).toArray) w:=by
  simp only[execOp,ho,resolve,hfv,Deferred.ofValue,pure_bind,invoke]
  rw[K2l hf hb hn]
  congr 2
  apply Array.ext'
  simp
 unfold Oper.wp
 rw[hrun,Oper.upon_enter]
 refine Calls.mono (hctr w (Xe g) _ (fun w' h'=>R.tb w' (R.grew.trans ((K5b h').mono R.bs))) hargs) fun en w' hen=>?_
 cases en with
 |outgrown=>exact hen.elim
 |panicked c=>exact hen.elim
 |returned v=>
  simp only at hen ⊢
  obtain⟨hbelow,nb,us,ty,hnb,hcell,hrd,rfl⟩:=hen
  refine hK _ w' (g.mk' id (σ.nw id) (.pointer (some ⟨nb,0,none⟩)) [nb] []) (K1p _ _ _) ?_
  rw[hd]
  refine R.newN (d:=d) (nb:=nb) (hv:= .pointer (some ⟨nb,0,none⟩)) hid hbelow.size (fun b hb=>hbelow.block b hb) (R.grew.trans ((K5b hbelow).mono R.bs)) hnb (K1g hcell) ?_ ?_
  ·intro g' V' h1 h2
   simp only[SlotR,AdR]
   exact⟨by omega,_,h2,rfl⟩
  ·intro V'
   simp only[ObjR]
   refine⟨nb,ty,us,mk'_H2,hcell,K4h (K3g (fun k _ hk2=>?_) hrd),mk'_F2⟩
   obtain⟨hk1,hk2⟩:=hk2
   rcases Nat.lt_or_ge k w.heap.size with hlt|hge
   ·have hX:=hk1 hlt
    refine⟨hX.1,fun i hi=>?_⟩
    simp only[Gh.mk']at hi
    split at hi
    ·simp at hi;exact hk2 hi
    ·simp at hi;exact hX.2 i hi
   ·refine⟨fun hz=>?_,fun i hi=>?_⟩
    ·have hz':g.Z k:=hz
     rw[R.zz]at hz'
     have:=R.bs k (R.zb k hz');omega
    ·simp only[Gh.mk']at hi
     split at hi
     ·simp at hi;exact hk2 hi
     ·simp at hi
      have:=(R.frs i k hi).2;omega
theorem does_callP(R:Rel base Z w0 w σ a.tmps g){d:Nat}{f p:Od}{xs:List Od}(hc:K1i o d f (p::xs)=true){e:Ef}(he:CallPE P σ d f p xs e):Does P o a base Z w0 w (σ.app e):=by
 intro K Q hK
 simp only[K1i,Bool.and_eq_true]at hc
 obtain⟨hd,hc⟩:=hc
 have hd:=Kc hd
 split at hc
 rotate_left
 ·simp at hc
 rename_i f' args ats ho
 simp only[Bool.and_eq_true]at hc
 obtain⟨hcf,hcx⟩:=hc
 obtain⟨fid,as_,id,ver,k,hcal,hp,has,⟨⟨fn,hf,hb,hn⟩,hctr⟩,rfl⟩:=he
 obtain⟨cvs,hfv,hcaps⟩:=R.callee (m:=(σ.ev f).md σ) hcf hcal (by cases ((σ.ev f).md σ)<;>simp[Md.le])
 obtain rfl:cvs=[]:=by cases cvs with|nil=>rfl|cons u us=>exact hcaps.elim
 obtain⟨p',l',hargs'⟩:∃p' l',args.toList=p'::l':=by
  cases h:args.toList with
  |nil=>rw[h]at hcx;simp[K22]at hcx
  |cons p' l'=>exact⟨p',l',rfl⟩
 rw[hargs']at hcx
 simp only[K22,Bool.and_eq_true]at hcx
 have hP:=R.ev hcx.1
 rw[hp]at hP
 simp only[SlotR,AdR]at hP
 obtain⟨hver,b0,hH0,hpv⟩:=hP
 have hargs:=R.args (m:=σ.mode xs) hcx.2 has (by cases σ.mode xs<;>simp[Md.le])
 have hrun:(execOp a.eval o).run P w= .ok (.enter fid (.pointer (some ⟨b0,0,none⟩)::l'.map a.eval).toArray) w:=by
  simp only[execOp,ho,resolve,hfv,Deferred.ofValue,pure_bind,invoke]
  rw[K2l hf hb hn]
  congr 2
  apply Array.ext'
  simp[hargs',hpv]
 unfold Oper.wp
 rw[hrun,Oper.upon_enter]
 refine Calls.mono (hctr w (Xm g (σ.mode xs)) b0 _ (fun w' h'=>R.tb w' (R.grew.trans ((K5b h').mono R.bs))) hargs) fun en w' hen=>?_
 cases en with
 |outgrown=>exact hen.elim
 |panicked c=>exact hen.elim
 |returned v=>
  simp only at hen ⊢
  obtain⟨hbelow,rfl⟩:=hen
  refine hK _ w' (g.got σ []) (K1p _ _ _) ?_
  rw[hd]
  refine R.got (d:=d) (s:=adrOf id ver k) (ps:=[]) hbelow.size (fun b hb=>hbelow.block b hb) (R.grew.trans ((K5b hbelow).mono R.bs)) List.nodup_nil (by simp) (by simp) (by simp) ?_
  intro V' hk tr
  cases k with
  |none=>exact K1s rfl
  |some k=>exact⟨Nat.le_trans hver (tr.ver id),b0,(tr.hd id ver hver).trans hH0,rfl⟩
theorem does_loadM{d n:Nat}{ids:List Nat}{id:Nat}{x:Od}{x':Operand}{t:TypeId}{e:Ef}(hd:o.dst=some d)(ho:o.op= .load t x')(hx:K3 x' x=true)(ht:Ty P t true n)(R:Rel base Z w0 w σ a.tmps g)(he:effM σ d n ids id x=some e):Does P o a base Z w0 w (σ.app e):=by
 unfold effM at he
 obtain⟨ad,had,he⟩:=Option.bind_eq_some_iff.1 he
 have hA:=R.adr hx had
 split at he
 rotate_left
 ·simp at he
 rename_i id' ver sz i
 split at he
 rotate_left
 ·simp at he
 rename_i v sz' es hob
 obtain⟨⟨h1,h2,h3,h4⟩,he2⟩:=Option.ite_none_right_eq_some.1 he
 clear he
 subst h1 h2 h3 h4
 obtain⟨el,hel,heff⟩:=Option.bind_eq_some_iff.1 he2
 clear he2
 have hR:=R.obj id'
 rw[hob]at hR
 simp only[ObjR]at hR
 obtain⟨A2,cap2,hH2,hl2,hrow⟩:=hR
 rcases hrow with ⟨_,he0,_⟩|⟨b,off,row,ty,G,hA2,hheap,hsz,hrow,hF⟩
 ·rw[he0]at hel;simp at hel
 simp only[AdR]at hA
 obtain⟨_,b',off',len',cap',hH,hv⟩:=hA
 rw[hH2,hA2]at hH
 simp only[Value.slice.injEq,Option.some.injEq,Addr.mk.injEq,and_true]at hH
 obtain⟨⟨rfl,rfl⟩,_,_⟩:=hH
 obtain⟨hlen,Gi,hOw,hGi⟩:=Kau hrow hel
 obtain⟨vs,hvl,hvc,hres⟩:=Kat hOw
 have hs:(Instr.loadAt t (a.eval x')).run P w= .ok (.agg vs.toArray) w:=by
  simp only[Instr.loadAt,hv,Instr.sureAddr,Sem.run_bind,Sem.run_pure,Result.andThen_ok]
  exact K3n (agg:=true) ht (by omega) hvc (.inl rfl)
 have hx2:execOp a.eval o=(do let x ←Instr.loadAt t (a.eval x');pure (Next.value x)):=by simp[execOp,ho]
 have hrun:(execOp a.eval o).run P w= .ok (.value (.agg vs.toArray)) w:=by rw[hx2];exact K2d hs
 have hFs:∀b'∈Gi,b'∈g.F id':=fun b' hb=>by rw[hF];exact List.mem_cons_of_mem _ (hGi.subset hb)
 obtain⟨g3,R3⟩:=after_I (w':=w) (idl:=[id']) (bks:=[]) (e2:=[]) (us:=[.agg vs.toArray]) (G:=g.F id') (G1:=[]) (G2:=Gi) (ovs:=[.slice A2 es.length cap2]) R
  ⟨g.F id',[],sz,es,A2,A2,cap2,by rw[hob],rfl,by rw[hob];exact hH2,.inr rfl,List.Sublist.refl _,rfl,by simp⟩ heff rfl (Bel.refl _ _) rfl
  ⟨Gi,[],by unfold ResV;rw[if_pos rfl];exact⟨vs,rfl,hres _⟩,rfl,by simp⟩
  (by have:=R.nd id';rw[hF]at this;exact(hGi.trans (List.sublist_cons_self _ _)).nodup this)
  (fun b' hb=>⟨.inl (hFs b' hb),(R.frs id' b' (hFs b' hb)).2⟩)
 refine Good.does ⟨_,w,hrun,g3,?_⟩
 simp only[hd]
 have e2:(⟨e.d,e.obs++[]⟩:Ef)=e:=by cases e;simp
 rw[e2]at R3
 exact R3
theorem does_op{m:MO}{e:Ef}(hc:chkM P o m=true)(R:Rel base Z w0 w σ a.tmps g)(he:EffP P m σ e):Does P o a base Z w0 w (σ.app e):=by
 cases m with
 |call d ids f xs=>exact does_call R hc he
 |callI d ids f xs ios bks=>exact does_callI hc R he
 |callB d ids f p xs=>exact does_callB R hc he
 |callP d f p xs=>exact does_callP R hc he
 |callN d id f xs=>exact does_callN R hc he
 |buildO d zs ps ns=>exact(Kbf hc R he).does
 |loadM d n ids id x=>
  simp only[chkM,Bool.and_eq_true]at hc
  obtain⟨hd,hc⟩:=hc
  split at hc
  rotate_left
  ·simp at hc
  rename_i t x' ho
  simp only[Bool.and_eq_true]at hc
  exact does_loadM (Kc hd) ho hc.1 (K4n hc.2) R he
 |loadT d id2 x=>
  simp only[chkM,Bool.and_eq_true]at hc
  obtain⟨hd,hc⟩:=hc
  split at hc
  rotate_left
  ·simp at hc
  rename_i t x' ho
  simp only[Bool.and_eq_true]at hc
  exact(good_loadT R (Kc hd) ho hc.1 (K4n hc.2) he).does
 |_=>
  simp only[chkM]at hc
  simp only[EffP]at he
  exact(good_op hc R he).does
theorem Le.con_md(h:Le σ σ'){c:SC}{t:T}(e:σ.con c=some t):c.md σ'=c.md σ:=by
 cases c with
 |ref id ver sz lo n=>
  simp only[St.con,St.con1]at e
  obtain⟨r,hr,_⟩:=Option.map_eq_some_iff.1 e
  simp only[SC.md]
  rcases h.obj id with h1|h1
  ·exfalso
   simp only[St.rows]at hr
   cases hob:σ.ob id with
   |mk v oc=>rw[hob]at h1 hr;simp only at h1;subst h1;simp at hr
  ·rw[h1]
 |pl t'=>rfl
 |bor t'=>cases t'<;>rfl
 |emp sz=>rfl
 |clo f bs=>cases bs<;>rfl
theorem Le.mdAll(h:Le σ σ'):∀ {cs:List SC} {l:List T},K1 (cs.map σ.con)=some l→Go.Proofs.YtjneccbpkckdfaaGreatR.mdAll σ' cs=Go.Proofs.YtjneccbpkckdfaaGreatR.mdAll σ cs
 | [],_,_=>rfl
 |c::cs,l,e=>by
  obtain⟨t,l',h1,h2,_⟩:=K1h e
  simp only[Go.Proofs.YtjneccbpkckdfaaGreatR.mdAll]
  rw[h.con_md h1,Le.mdAll h h2]
theorem Le.arg(h:Le σ σ'){s:SV}{x:Bool×List T}(e:s.arg σ=some x):s.arg σ'=some x∧s.md σ'=s.md σ:=by
 unfold SV.arg at e
 split at e
 ·obtain⟨l,hl,rfl⟩:=Option.map_eq_some_iff.1 e
  refine⟨?_,h.mdAll hl⟩
  simp only[SV.arg]
  rw[K1o (fun a b=>h.con) hl];rfl
 ·obtain⟨t,ht,rfl⟩:=Option.map_eq_some_iff.1 e
  simp only[SV.arg,h.boxed ht]
  exact⟨rfl,rfl⟩
 ·simp at e;subst e
  exact⟨rfl,rfl⟩
 ·simp at e
theorem Le.args(h:Le σ σ'):∀ {xs:List Od} {as_:List (Bool×List T)},σ.args xs=some as_→σ'.args xs=some as_∧σ'.mode xs=σ.mode xs
 | [],as_,e=>⟨e,rfl⟩
 |x::xs,as_,e=>by
  unfold St.args at e
  obtain⟨t,l',h1,h2,rfl⟩:=K1h e
  simp only at h1
  have ih:=Le.args h (xs:=xs) h2
  have hx:σ'.ev x=σ.ev x:=by
   rcases h.ev x with h3|h3
   ·rw[h3]at h1;simp[SV.arg]at h1
   ·exact h3.symm
  obtain⟨h4,h5⟩:=h.arg h1
  refine⟨?_,?_⟩
  ·unfold St.args
   simp only[List.map_cons,hx,h4,K1]
   have:=ih.1
   unfold St.args at this
   rw[this];rfl
  ·simp only[St.mode,hx,h5,ih.2]
theorem Le.callee(h:Le σ σ'){f:Od}{x:FuncId×List (Bool×List T)}(e:σ.callee f=some x):σ'.callee f=some x∧(σ'.ev f).md σ'=(σ.ev f).md σ:=by
 unfold St.callee at e
 split at e
 ·rename_i g0 bs hone
  obtain⟨l,hl,rfl⟩:=Option.map_eq_some_iff.1 e
  have h1:=h.one hone
  refine⟨?_,?_⟩
  ·unfold St.callee
   rw[h1]
   simp only
   rw[K1o (fun a b=>h.boxed) hl];rfl
  ·rw[K2f hone,K2f h1]
   cases bs<;>rfl
 ·rename_i g0 cs hone
  simp at e;subst e
  have h1:=h.one hone
  refine⟨by unfold St.callee;rw[h1],by rw[K2f hone,K2f h1];rfl⟩
 ·rename_i g0 cs hone
  simp at e;subst e
  have h1:=h.one hone
  refine⟨by unfold St.callee;rw[h1],by rw[K2f hone,K2f h1];rfl⟩
 ·simp at e
theorem K58(hm:σ.o.length=σ'.o.length){md:Md}:∀ {cs:List (Bool×T)} {ids:List Nat},(∀id∈ids,(σ.ob id).ver=(σ'.ob id).ver)→place σ' md ids cs=place σ md ids cs∧∀x,place σ md ids cs=some x→∀id∈x.2.2,id∈ids
 | [],ids,_=>by
  have e1:place σ' md ids []=some ([],[],ids):=by cases ids<;>rfl
  have e2:place σ md ids []=some ([],[],ids):=by cases ids<;>rfl
  refine⟨by rw[e1,e2],fun x hx id hid=>?_⟩
  rw[e2]at hx
  simp at hx;subst hx;exact hid
 |(false,t)::cs,ids,h=>by
  have e1:∀τ,place τ md ids ((false,t)::cs)=(extC md t).bind fun c=>(place τ md ids cs).map fun x=>(c::x.1,x.2.1,x.2.2):=by intro τ;cases ids<;>rfl
  obtain⟨i1,i2⟩:=K58 hm (cs:=cs) h
  refine⟨by rw[e1,e1,i1],fun x hx id hid=>?_⟩
  rw[e1]at hx
  obtain⟨c,_,hx⟩:=Option.bind_eq_some_iff.1 hx
  obtain⟨y,hy,rfl⟩:=Option.map_eq_some_iff.1 hx
  exact i2 y hy id hid
 |(true,t)::cs,[],_=>by simp[place]
 |(true,t)::cs,k::ids,h=>by
  obtain⟨i1,i2⟩:=K58 hm (cs:=cs) (ids:=ids) fun id hid=>h id (by simp[hid])
  cases t with
  |sl sz es=>
   simp only[place]
   rw[i1,K3k (h k (by simp)),hm]
   refine⟨rfl,fun x hx id hid=>?_⟩
   obtain⟨_,hx⟩:=Option.ite_none_right_eq_some.1 hx
   obtain⟨y,hy,rfl⟩:=Option.map_eq_some_iff.1 hx
   exact List.mem_cons_of_mem _ (i2 y hy id hid)
  |sc v=>simp[place]
  |pb l=>simp[place]
  |fn f l=>simp[place]
theorem K2a(hm:σ.o.length=σ'.o.length){md:Md}:∀ {rs:List RV} {ids:List Nat},(∀id∈ids,(σ.ob id).ver=(σ'.ob id).ver)→K15 σ' md ids rs=K15 σ md ids rs
 | [],ids,_=>rfl
 |r::rs,ids,h=>by
  obtain⟨i1,i2⟩:=K58 hm (md:=md) (cs:=r.cs) h
  simp only[K15]
  rw[i1]
  cases hp:place σ md ids r.cs with
  |none=>rfl
  |some x=>
   simp only[Option.bind_some]
   rw[K2a hm fun id hid=>h id (i2 x hp id hid)]
theorem EffP_mono{o:MO}{e:Ef}(hI:isI o=false)(h:Le σ σ')(hc:∀id∈creates o,(σ.ob id).ver=(σ'.ob id).ver)(he:EffP P o σ e):EffP P o σ' e:=by
 cases o with
 |call d ids f xs=>
  obtain⟨fid,caps,as_,rs,h1,h2,h3,h4⟩:=he
  obtain⟨c1,c2⟩:=h.callee h1
  obtain⟨a1,a2⟩:=h.args h2
  refine⟨fid,caps,as_,rs,c1,a1,h3,?_⟩
  have hmode:σ'.mode (f::xs)=σ.mode (f::xs):=by simp only[St.mode,c2,a2]
  rw[hmode]
  unfold K66 at*
  rw[K2a h.m (ids:=ids) hc]
  exact h4
 |callI d ids f xs ios bks=>simp[isI]at hI
 |callB d ids f p xs=>
  obtain⟨fid,as_,id,ver,cs,ts,ts',rs,x,h1,h2,h3,h4,h5,h6,h7,h8,h9,h10⟩:=he
  obtain⟨c1,_⟩:=h.callee h1
  obtain⟨a1,a2⟩:=h.args h5
  refine⟨fid,as_,id,ver,cs,ts,ts',rs,x,c1,?_,?_,h4,a1,by rw[a2,h6],h7,h8,?_,h10⟩
  ·rcases h.ev p with k|k
   ·rw[k]at h2;cases h2
   ·rw[←k];exact h2
  ·rcases h.obj id with k|k
   ·rw[h3]at k;cases k
   ·rw[←k];exact h3
  ·rw[K2a h.m (ids:=ids) hc]
   exact h9
 |callP d f p xs=>
  obtain⟨fid,as_,id,ver,k,h1,h2,h3,h4,h5⟩:=he
  obtain⟨c1,_⟩:=h.callee h1
  obtain⟨a1,_⟩:=h.args h3
  refine⟨fid,as_,id,ver,k,c1,?_,a1,h4,h5⟩
  rcases h.ev p with k2|k2
  ·rw[k2]at h2;cases h2
  ·rw[←k2];exact h2
 |callN d id f xs=>
  obtain⟨fid,as_,cs',h1,h2,h3,h4,h5,rfl⟩:=he
  obtain⟨c1,_⟩:=h.callee h1
  obtain⟨a1,a2⟩:=h.args h2
  have hv:=hc id (by simp[creates])
  exact⟨fid,as_,cs',c1,a1,by rw[a2,h3],by rw[←h.m];exact h4,h5,by rw[K3k hv]⟩
 |loadT d id2 x=>simp[isI]at hI
 |loadM d n ids id x=>simp[isI]at hI
 |buildO d zs ps ns=>simp[isI]at hI
 |_=>
  simp only[EffP]at he ⊢
  exact eff_mono h hc he
def okI:MO→Bool
 |.callI _ _ _ _ _ []=>true
 |.buildO ..=>true
 |.loadM ..=>true
 |_=>false
theorem K59(hm:σ.o.length=σ'.o.length):∀ {cs:List SC} {ns:List (Option Nat)},(∀id∈ns.filterMap fun x=>x,(σ.ob id).ver=(σ'.ob id).ver)→promo σ' cs ns=promo σ cs ns
 | [],[],_=>rfl
 | [],_::_,_=>rfl
 |_::_,[],_=>by simp[promo]
 |c::cs,none::ns,h=>by
  simp only[promo]
  rw[K59 hm fun id hid=>h id (by simpa using hid)]
 |c::cs,some id::ns,h=>by
  have ih:=K59 hm (cs:=cs) (ns:=ns) fun j hj=>h j (by simp only[List.filterMap_cons];exact List.mem_cons_of_mem _ hj)
  have hv:=K3k (h id (by simp))
  cases c<;>simp only[promo]
  rw[ih,hv,hm]
theorem Le.cellI(h:Le σ σ'){ios:List Nat}{c:SC}{x:(Bool×T)×List Nat}(e:σ.cellI ios c=some x):σ'.cellI ios c=some x∧∀id∈x.2,σ.ob id=σ'.ob id:=by
 cases c with
 |ref id ver sz lo n=>
  rcases h.obj id with h1|h1
  ·exfalso
   cases hob:σ.ob id with
   |mk v oc=>rw[hob]at h1;simp only at h1;subst h1;simp[St.cellI,hob]at e
  ·have e2:σ'.cellI ios (.ref id ver sz lo n)=σ.cellI ios (.ref id ver sz lo n):=by simp only[St.cellI,h1]
   refine⟨e2.trans e,fun j hj=>?_⟩
   simp only[St.cellI]at e
   split at e
   ·split at e
    ·simp only[Option.some.injEq]at e;subst e
     simp only[List.mem_singleton]at hj
     rw[hj];exact h1
    ·simp at e
   ·simp at e
 |pl t=>simp only[St.cellI,Option.some.injEq]at e;subst e;exact⟨rfl,by simp⟩
 |bor t=>
  cases t with
  |sc v=>simp only[St.cellI,Option.some.injEq]at e;subst e;exact⟨rfl,by simp⟩
  |_=>simp[St.cellI]at e
 |emp sz=>simp only[St.cellI,Option.some.injEq]at e;subst e;exact⟨rfl,by simp⟩
 |clo g bs=>
  cases bs with
  |nil=>simp only[St.cellI,Option.some.injEq]at e;subst e;exact⟨rfl,by simp⟩
  |cons b bs=>simp[St.cellI]at e
theorem Le.cellsI(h:Le σ σ'){ios:List Nat}:∀ {cs:List SC} {x:List (Bool×T)×List Nat},σ.cellsI ios cs=some x→σ'.cellsI ios cs=some x∧∀id∈x.2,σ.ob id=σ'.ob id
 | [],x,e=>by simp only[St.cellsI,Option.some.injEq]at e;subst e;exact⟨rfl,by simp⟩
 |c::cs,x,e=>by
  simp only[St.cellsI]at e ⊢
  obtain⟨y,h1,e⟩:=Option.bind_eq_some_iff.1 e
  obtain⟨z,h2,rfl⟩:=Option.map_eq_some_iff.1 e
  obtain⟨a1,a2⟩:=h.cellI h1
  obtain⟨b1,b2⟩:=Le.cellsI h h2
  rw[a1,Option.bind_some,b1]
  refine⟨rfl,fun id hid=>?_⟩
  rcases List.mem_append.1 hid with hid|hid
  ·exact a2 id hid
  ·exact b2 id hid
theorem Le.argsI(h:Le σ σ'){ios:List Nat}:∀ {xs:List Od} {x:List RV×List Nat},σ.argsI ios xs=some x→σ'.argsI ios xs=some x∧∀id∈x.2,σ.ob id=σ'.ob id
 | [],x,e=>by simp only[St.argsI,Option.some.injEq]at e;subst e;exact⟨rfl,by simp⟩
 |y::xs,x,e=>by
  simp only[St.argsI]at e ⊢
  obtain⟨v,h0,e⟩:=Option.bind_eq_some_iff.1 e
  obtain⟨c,h1,e⟩:=Option.bind_eq_some_iff.1 e
  obtain⟨z,h2,rfl⟩:=Option.map_eq_some_iff.1 e
  obtain⟨a1,a2⟩:=h.cellsI h1
  obtain⟨b1,b2⟩:=Le.argsI h h2
  have hv:(σ'.ev y).all=some v:=by
   rcases h.ev y with h9|h9
   ·rw[h9]at h0;simp[SV.all]at h0
   ·rw[←h9];exact h0
  rw[hv,Option.bind_some,a1,Option.bind_some,b1]
  refine⟨rfl,fun id hid=>?_⟩
  rcases List.mem_append.1 hid with hid|hid
  ·exact a2 id hid
  ·exact b2 id hid
theorem K3l:∀ {idl:List Nat} {outs:List (Option (Nat×List (List T)))},(∀id∈idl,σ.ob id=σ'.ob id)→outsO σ' idl outs=outsO σ idl outs
 | [],[],_=>rfl
 | [],_::_,_=>rfl
 |_::_,[],_=>rfl
 |id::idl,none::outs,h=>by
  simp only[outsO]
  rw[K3l fun j hj=>h j (List.mem_cons_of_mem _ hj),h id (List.mem_cons_self ..)]
 |id::idl,some x::outs,h=>by
  simp only[outsO]
  rw[K3l fun j hj=>h j (List.mem_cons_of_mem _ hj),h id (List.mem_cons_self ..)]
theorem EffP_monoI{o:MO}{e:Ef}(hI:okI o=true)(nb:σ'.noB=true)(h:Le σ σ')(hc:∀id∈creates o,(σ.ob id).ver=(σ'.ob id).ver)(he:EffP P o σ e):EffP P o σ' e:=by
 cases o with
 |callI d ids f xs ios bks=>
  cases bks with
  |cons b bks=>simp[okI]at hI
  |nil=>
   obtain⟨fid,args,idl,outs,rs,e1,e2,h1,h2,h3,h4,h5,h6⟩:=he
   obtain⟨c1,_⟩:=h.callee h1
   obtain⟨a1,a2⟩:=h.argsI h2
   simp only[bksE,Option.some.injEq]at h5
   subst h5
   refine⟨fid,args,idl,outs,rs,e1,[],c1,a1,h3,?_,rfl,h6⟩
   unfold effI at*
   obtain⟨⟨hd,_⟩,h4⟩:=Option.ite_none_right_eq_some.1 h4
   rw[if_pos ⟨hd,nb⟩,K3l a2,K2a h.m (ids:=ids) hc]
   exact h4
 |loadM d n ids id x=>
  simp only[EffP]at he ⊢
  unfold effM at*
  obtain⟨ad,had,he⟩:=Option.bind_eq_some_iff.1 he
  rw[h.adr had,Option.bind_some]
  split at he
  rotate_left
  ·simp at he
  rename_i id' ver sz i
  split at he
  rotate_left
  ·simp at he
  rename_i v sz' es hob
  obtain⟨⟨h1,h2,h3,h4⟩,he2⟩:=Option.ite_none_right_eq_some.1 he
  obtain⟨el,hel,heff⟩:=Option.bind_eq_some_iff.1 he2
  have hob':σ.ob id'=σ'.ob id':=by
   rcases h.obj id' with h9|h9
   ·rw[hob]at h9;cases h9
   ·exact h9
  simp only[←hob',hob]
  rw[if_pos ⟨h1,h2,h3,h4⟩,hel,Option.bind_some]
  unfold effI at*
  obtain⟨⟨hd,_⟩,h5⟩:=Option.ite_none_right_eq_some.1 heff
  rw[if_pos ⟨hd,nb⟩,K3l (σ:=σ) (σ':=σ') (fun j hj=>by rw[List.mem_singleton.1 hj,←h1];exact hob'),K2a h.m (ids:=ids) hc]
  exact h5
 |buildO d zs ps ns=>
  simp only[EffP]at he ⊢
  unfold effB at*
  obtain⟨cs,hcs,he⟩:=Option.bind_eq_some_iff.1 he
  obtain⟨⟨h1,h2⟩,he⟩:=Option.ite_none_right_eq_some.1 he
  rw[h.fill hcs,Option.bind_some,if_pos ⟨h1,by rw[←h.n];exact h2⟩,K59 h.m hc]
  exact he
 |_=>simp[okI]at hI
end
end Go.Proofs.YtjneccbpkckdfaaGreatR
namespace Go.Proofs.YtjneccbpkckdfaaGreatR
open Go Go.RowKit
structure MOp where
 g:Option (Nat×Bool):=none
 o:MO
 hs:List Nat:=[]
 ho:List Nat:=[]
 ws:List Nat:=[]
 bf:List Nat:=[]
 deriving Inhabited
def K1v:MO→Option Nat
 |.mv d _| .bin d ..| .eqA d ..| .un d ..| .mm d ..| .pick d ..| .len d ..| .alloc d ..| .box d ..| .build d ..| .lit d ..| .litP d ..| .load d ..| .fld d ..| .idx d ..| .idxA d ..| .fldv d ..| .idxs d ..| .mk d ..| .app d ..| .slc d ..| .slcs d ..| .ext d ..| .clos d ..| .closF d ..| .nilc d ..| .convI d ..| .convS d _| .nilo d ..| .call d ..| .callI d ..| .callB d ..| .callP d ..| .callN d ..| .sliA d ..| .appA d ..| .nilp d ..| .loadT d ..| .loadM d ..| .buildO d ..=>some d
 |.store ..=>none
def skipE(o:MO):Ef:=⟨(K1v o).map fun d=>(d,.skp),[]⟩
def wantedM(σ:St):Option (Nat×Bool)→Option Bool
 |none=>some true
 |some (s,want)=>match σ.get s with
  |.skp=>some false
  |.val false [.pl (.sc (.bool b))]=>some (b==want)
  |_=>none
def stepP(P:Program)(m:MOp)(σ:St)(e:Ef):Prop:=match wantedM σ m.g with
 |some true=>EffP P m.o σ e
 |some false=>e=skipE m.o
 |none=>False
def hideO(ho:List Nat):Nat→List OV→List OV
 |_,[]=>[]
 |i,o::l=>(if ho.contains i then⟨o.ver,.none⟩else o)::hideO ho (i+1) l
theorem K9n(ho:List Nat):∀(l:List OV) (i:Nat),(hideO ho i l).length=l.length
 | [],_=>rfl
 |o::l,i=>by simp[hideO,K9n ho l]
theorem K7t(ho:List Nat):∀(l:List OV) (i k:Nat),(hideO ho i l)[k]? =(l[k]?).map fun o=>if ho.contains (i+k)then⟨o.ver,.none⟩else o
 | [],_,_=>rfl
 |o::l,i,0=>by simp[hideO]
 |o::l,i,k+1=>by
  simp only[hideO,List.getElem?_cons_succ]
  rw[K7t ho l,show i+1+k=i+(k+1)by omega]
def St.fgt(σ:St):List Nat→St
 | []=>σ
 |id::l=>⟨σ.s,σ.n,hideO (id::l) 0 σ.o⟩
def wpR(P:Program):List MOp→St→(St→Prop)→Prop
 | [],σ,K=>K σ
 |m::ms,σ,K=>∃e,stepP P m (σ.fgt m.ho) e∧wpR P ms ((σ.fgt m.ho).app e) K
def K5i(ops:Array Oper)(o:Oper)(g:Option (Nat×Bool)):Bool:=match o.guard,g with
 |none,none=>true
 |some (j,want),some (s,want')=>isD ((ops[j]?).bind (·.dst)) s&&want==want'
 |_,_=>false
def K1z(P:Program)(ops:Array Oper):List Oper→List MOp→Bool
 | [],[]=>true
 |o::l,m::ms=>K5i ops o m.g&&chkM P o m.o&&K1z P ops l ms
 |_,_=>false
section
variable {P:Program} {base:Nat→Prop} {Z:ZZ} {w0 w w':World} {σ σ':St} {g:Gh} {o:Oper} {a:Act} {ts:Array Value} {ops:Array Oper}
theorem chk_dst{m:MO}(h:chkM P o m=true):o.dst=K1v m:=by
 cases m<;>simp only[chkM,Ki,K1i,Bool.and_eq_true]at h
 case store=>
  have:=h.1
  cases ho:o.dst<;>simp_all[K1v]
 all_goals exact Kc h.1
theorem Rel.wanted(R:Rel base Z w0 w σ a.tmps g){gd:Option (Nat×Bool)}(h:K5i ops o gd=true){b:Bool}(hw:wantedM σ gd=some b):Region.wanted o (yielded ops a.tmps)=b:=by
 unfold K5i at h
 unfold Region.wanted
 split at h
 ·rename_i ho
  rw[ho]
  simp[wantedM]at hw
  exact hw.symm
 ·rename_i j want s want' ho
  simp only[Bool.and_eq_true,beq_iff_eq]at h
  obtain⟨h1,rfl⟩:=h
  have hd:=Kc h1
  rw[ho]
  simp only[wantedM]at hw
  have hS:=R.slot s
  have hy:∀v:Value,a.tmps.getD s undef=v→yielded ops a.tmps j=match v with| .bool b=>some b|_=>none:=by
   intro v hv
   unfold yielded
   rw[hd]
   simp only[Option.bind_some]
   rw[Array.getD_eq_getD_getElem?]at hv
   cases hg:a.tmps[s]? with
   |none=>rw[hg]at hv;simp at hv;subst hv;rfl
   |some u=>rw[hg]at hv;simp at hv;subst hv;cases u<;>rfl
  split at hw
  ·rename_i hs
   rw[hs]at hS
   simp only[SlotR]at hS
   simp at hw;subst hw
   simp only[hy _ hS]
   rfl
  ·rename_i b' hs
   rw[hs]at hS
   simp only[SlotR,ValR,Bool.false_eq_true,if_false]at hS
   obtain⟨c,hc,hS⟩:=hS
   simp at hc;subst hc
   simp only[CellR,Rd]at hS
   simp at hw;subst hw
   simp only[hy _ hS.1]
   cases b'<;>cases want<;>rfl
  ·simp at hw
 ·simp at h
theorem Rel.wpOp(R:Rel base Z w0 w σ a.tmps g){i:Nat}(hi:ops[i]? =some o){m:MOp}(hg:K5i ops o m.g=true)(hc:chkM P o m.o=true){e:Ef}(he:stepP P m σ e){K:Act→World→Prop}{Q:Exit→Act→World→Prop}
  (hK:∀a' w' g',a'.defers=a.defers→Rel base Z w0 w' (σ.app e) a'.tmps g'→K a' w'):Go.wpOp P ops Q i K a w:=by
 unfold stepP at he
 unfold Go.wpOp
 rw[hi]
 simp only
 split at he
 ·rename_i hw
  rw[R.wanted hg hw]
  simp only[if_true]
  exact .inl (does_op hc R he K Q hK)
 ·rename_i hw
  rw[R.wanted hg hw]
  simp only[Bool.false_eq_true,if_false]
  subst he
  refine hK _ w g (K1p _ _ _) ?_
  rw[chk_dst hc]
  unfold skipE
  cases hd:K1v m.o with
  |none=>exact R.turn none [] w g none undef (Tr.refl _ _ _) rfl (fun _ h=>h) (fun id=> .inl ⟨rfl,rfl,fun _ _=>rfl⟩) R.nd R.dj R.frs R.grew
  |some d=>exact R.fill d .skp undef rfl
 ·exact he.elim
theorem Rel.fgt(R:Rel base Z w0 w σ ts g):∀l:List Nat,∃g',Rel base Z w0 w (σ.fgt l) ts g'
 | []=>⟨g,R⟩
 |i0::l0=>by
  generalize hq:i0::l0=q
  have hdef:σ.fgt q=⟨σ.s,σ.n,hideO q 0 σ.o⟩:=by rw[←hq];rfl
  rw[hdef]
  have hob:∀id,(⟨σ.s,σ.n,hideO q 0 σ.o⟩:St).ob id=if q.contains id then⟨(σ.ob id).ver,.none⟩else σ.ob id:=fun id=>by
   simp only[St.ob,List.getD_eq_getElem?_getD]
   rw[K7t]
   cases h:σ.o[id]? with
   |none=>simp
   |some o=>simp
  have hV:(⟨σ.s,σ.n,hideO q 0 σ.o⟩:St).V=σ.V:=by
   funext id
   simp only[St.V,hob]
   split<;>rfl
  have hF:∀id b,b∈(if q.contains id then []else g.F id)→b∈g.F id:=by
   intro id b hb
   split at hb
   ·simp at hb
   ·exact hb
  have hh:∀id b,(if q.contains id then []else g.F id).head? =some b→(g.F id).head? =some b:=by
   intro id b hb
   split at hb
   ·simp at hb
   ·exact hb
  have tr:Tr w w σ.V (⟨σ.s,σ.n,hideO q 0 σ.o⟩:St).V g ⟨g.H,fun id=>if q.contains id then []else g.F id,g.Z⟩:=by
   refine⟨Nat.le_refl _,fun id=>by rw[hV];exact Nat.le_refl _,fun _ _ _=>rfl,fun b _ hb=>⟨rfl,hb.1,fun id he=>hb.2 id (hh id b he)⟩,fun b _ hb=>⟨hb.1,fun id he=>hb.2 id (hF id b he)⟩,rfl⟩
  refine⟨⟨g.H,fun id=>if q.contains id then []else g.F id,g.Z⟩,R.len,fun k=>?_,fun id=>?_,fun id=>?_,fun b i j hi hj=>R.dj b i j (hF i b hi) (hF j b hj),fun i b hi=>R.frs i b (hF i b hi),R.grew,R.bs,R.zz,R.zb,R.tb,fun id h=>R.pin id (by rw[←hV];exact h)⟩
  ·exact tr.slot _ _ (R.slot k)
  ·rw[hob]
   by_cases hc:q.contains id
   ·rw[if_pos hc]
    simp only[ObjR,if_pos hc]
   ·rw[if_neg hc]
    exact tr.obj id _ (Nat.le_refl _) (by simp only[if_neg hc]) (fun _ _=>rfl) _ (R.obj id)
  ·simp only
   split
   ·exact List.nodup_nil
   ·exact R.nd id
theorem K9z{Q:Exit→Act→World→Prop}{K:St→Prop}:∀ {l:List Oper} {ms:List MOp} {i:Nat} {σ:St} {a:Act} {w:World} {g:Gh},ops.toList.drop i=l→K1z P ops l ms=true→Rel base Z w0 w σ a.tmps g→wpR P ms σ K→
  (∀σ' a' w' g',K σ'→a'.defers=a.defers→Rel base Z w0 w' σ' a'.tmps g'→Q .normal a' w')→wpOps P ops Q (List.range' i l.length) a w
 | [],[],i,σ,a,w,g,_,_,R,h,hQ=>hQ σ a w g h rfl R
 |o::l,m::ms,i,σ,a,w,g,hd,hc,R,h,hQ=>by
  simp only[K1z,Bool.and_eq_true]at hc
  obtain⟨⟨h1,h2⟩,h3⟩:=hc
  obtain⟨e,he,h⟩:=h
  have hi:ops[i]? =some o:=by
   have:ops.toList[i]? =some o:=by
    have:=congrArg (fun l=>l[0]?) hd
    simpa using this
   simpa using this
  rw[List.length_cons,List.range'_succ,wpOps_cons]
  obtain⟨g1,R1⟩:=R.fgt m.ho
  refine R1.wpOp hi h1 h2 he fun a' w' g' hd' R'=>?_
  refine K9z ?_ h3 R' h fun σ'' a'' w'' g'' hk hd'' R''=>hQ σ'' a'' w'' g'' hk (hd''.trans hd') R''
  have:=congrArg List.tail hd
  simpa using this
 | [],_::_,_,_,_,_,_,_,hc,_,_,_=>by simp[K1z]at hc
 |_::_,[],_,_,_,_,_,_,hc,_,_,_=>by simp[K1z]at hc
theorem wp_reg{Q:Exit→Act→World→Prop}{K:St→Prop}{n:Nat}{ms:List MOp}(hc:K1z P ops ops.toList ms=true)(R:Rel base Z w0 w σ a.tmps g)(h:wpR P ms σ K)
  (hQ:∀σ' a' w' g',K σ'→a'.defers=a.defers→Rel base Z w0 w' σ' a'.tmps g'→Q .normal a' w'):(Code.region n ops false).wp P Q a w:=by
 refine wp_region ?_
 have:=K9z (i:=0) (by simp) hc R h hQ
 simpa[List.range_eq_range']using this
end
end Go.Proofs.YtjneccbpkckdfaaGreatR
namespace Go.Proofs.YtjneccbpkckdfaaGreatR
open Go Go.RowKit
def runS{C:Type}(S:Nat→Bool):Nat→List (C→C)→C→C
 |_,[],c=>c
 |i,f::fs,c=>runS S (i+1) fs (if S i then f c else c)
theorem K3d{C:Type}{S S':Nat→Bool}:∀ {fs:List (C→C)} {i:Nat} {c:C},(∀j f,fs[j]? =some f→(∀x,f x=x)∨S (i+j)=S' (i+j))→runS S i fs c=runS S' i fs c
 | [],_,_,_=>rfl
 |f::fs,i,c,h=>by
  simp only[runS]
  have h0:(if S i then f c else c)=if S' i then f c else c:=by
   rcases h 0 f rfl with h1|h1
   ·rw[h1];simp
   ·simp only[Nat.add_zero]at h1;rw[h1]
  rw[h0]
  exact K3d fun j f hj=>by
   have:=h (j+1) f (by simpa using hj)
   rwa [show i+1+j=i+(j+1)by omega]
theorem K6y{C:Type}{S S':Nat→Bool}:∀ {fs:List (C→C)} {i k:Nat} {f:C→C} {c:C},fs[k]? =some f→S (i+k)=true→S' (i+k)=false→(∀j,j≠k→S (i+j)=S' (i+j))→
  (∀j f,fs[j]? =some f→k<j→S (i+j)=true→∀x,f x=x)→runS S i fs c=f (runS S' i fs c)
 | [],_,_,_,_,h,_,_,_,_=>by simp at h
 |f'::fs,i,0,f,c,h,h1,h2,h3,h4=>by
  simp at h;subst h
  simp only[Nat.add_zero]at h1 h2
  simp only[runS,h1,h2,if_true,Bool.false_eq_true,if_false]
  have key:∀(gs:List (C→C)) (i':Nat) (c:C) (T:Nat→Bool),(∀j f,gs[j]? =some f→T (i'+j)=true→∀x,f x=x)→runS T i' gs c=c:=by
   intro gs
   induction gs with
   |nil=>intro _ _ _ _;rfl
   |cons q gs ih=>
    intro i' c T hq
    simp only[runS]
    have e:(if T i' then q c else c)=c:=by
     by_cases hT:T i'=true
     ·rw[if_pos hT];exact hq 0 q rfl (by simpa using hT) c
     ·rw[if_neg hT]
    rw[e]
    exact ih _ _ _ fun j f hj hT=>hq (j+1) f (by simpa using hj) (by rw[show i'+(j+1)=i'+1+j by omega];exact hT)
  rw[key fs (i+1) _ S fun j f hj hT=>h4 (j+1) f (by simpa using hj) (by omega) (by rw[show i+(j+1)=i+1+j by omega];exact hT)]
  rw[key fs (i+1) c S' fun j f hj hT=>h4 (j+1) f (by simpa using hj) (by omega) (by rw[h3 (j+1) (by omega),show i+(j+1)=i+1+j by omega];exact hT)]
 |f'::fs,i,k+1,f,c,h,h1,h2,h3,h4=>by
  simp only[runS]
  have e:S i=S' i:=by have:=h3 0 (by omega);simpa using this
  rw[e]
  exact K6y (by simpa using h) (by rw[show i+1+k=i+(k+1)by omega];exact h1) (by rw[show i+1+k=i+(k+1)by omega];exact h2)
   (fun j hj=>by have:=h3 (j+1) (by omega);rwa [show i+1+j=i+(j+1)by omega])
   (fun j f hj hk hS=>h4 (j+1) f (by simpa using hj) (by omega) (by rw[show i+(j+1)=i+1+j by omega];exact hS))
def stS(S:Nat→Bool):Nat→List Ef→St→St
 |_,[],σ=>σ
 |i,e::es,σ=>stS S (i+1) es (if S i then σ.app e else σ)
section
variable {P:Program} {base:Nat→Prop} {Z:ZZ} {w0 w w':World} {σ σ':St} {g:Gh} {o:Oper} {a:Act} {ts:Array Value} {ops:Array Oper}
def updS(n k:Nat)(e:Ef)(s:SV):SV:=match e.d with
 |some (d,v)=>if d=k∧k<n then v else s
 |none=>s
def updO(m id:Nat)(e:Ef)(o:OV):OV:=e.obs.foldl (fun acc x=>if x.1=id∧id<m then x.2 else acc) o
theorem get_upd(σ:St)(e:Ef)(k:Nat):(σ.app e).get k=updS σ.n k e (σ.get k):=by
 obtain⟨d,obs⟩:=e
 cases d with
 |none=>rfl
 |some x=>obtain⟨d,v⟩:=x;rw[K2o];rfl
theorem ob_upd(σ:St)(e:Ef)(id:Nat):(σ.app e).ob id=updO σ.o.length id e (σ.ob id):=by
 obtain⟨d,obs⟩:=e
 exact K20 σ d obs id
theorem K6f:∀(obs:List (Nat×OV)) (l:List OV),(obs.foldl (fun o x=>o.set x.1 x.2) l).length=l.length
 | [],_=>rfl
 |x::obs,l=>by
  simp only[List.foldl_cons]
  rw[K6f obs];simp
theorem m_app(σ:St)(e:Ef):(σ.app e).o.length=σ.o.length:=K6f _ _
theorem stS_n(S:Nat→Bool):∀(es:List Ef) (i:Nat) (σ:St),(stS S i es σ).n=σ.n∧(stS S i es σ).o.length=σ.o.length
 | [],_,_=>⟨rfl,rfl⟩
 |e::es,i,σ=>by
  obtain⟨h1,h2⟩:=stS_n S es (i+1) (if S i then σ.app e else σ)
  simp only[stS]
  rw[h1,h2]
  split
  ·exact⟨rfl,m_app σ e⟩
  ·exact⟨rfl,rfl⟩
theorem K5p(S:Nat→Bool)(k:Nat):∀(es:List Ef) (i:Nat) (σ:St),(stS S i es σ).get k=runS S i (es.map (updS σ.n k)) (σ.get k)
 | [],_,_=>rfl
 |e::es,i,σ=>by
  simp only[stS,List.map_cons,runS]
  rw[K5p S k es]
  split
  ·rw[get_upd];rfl
  ·rfl
theorem K70(S:Nat→Bool)(id:Nat):∀(es:List Ef) (i:Nat) (σ:St),(stS S i es σ).ob id=runS S i (es.map (updO σ.o.length id)) (σ.ob id)
 | [],_,_=>rfl
 |e::es,i,σ=>by
  simp only[stS,List.map_cons,runS]
  rw[K70 S id es]
  split
  ·rw[ob_upd,m_app]
  ·rfl
def St.hide(σ:St)(hs ho:List Nat):St:=⟨σ.s.filter fun x=> !hs.contains x.1,σ.n,hideO ho 0 σ.o⟩
theorem Kaj(hs ho:List Nat)(k:Nat):(σ.hide hs ho).get k=if hs.contains k then .undef else σ.get k:=by
 have:=K6u (fun k=> !hs.contains k) k σ.s
 unfold St.get St.hide
 rw[this]
 cases hs.contains k<;>simp
theorem K95(hs ho:List Nat)(id:Nat):(σ.hide hs ho).ob id=if ho.contains id then⟨(σ.ob id).ver,.none⟩else σ.ob id:=by
 simp only[St.ob,St.hide,List.getD_eq_getElem?_getD]
 rw[K7t]
 cases h:σ.o[id]? with
 |none=>simp
 |some o=>simp
end
end Go.Proofs.YtjneccbpkckdfaaGreatR
namespace Go.Proofs.YtjneccbpkckdfaaGreatR
open Go Go.RowKit
def Ef.noB(e:Ef):Bool:=(match e.d with|some x=>x.2.noB|none=>true)&&e.obs.all fun x=>x.2.oc.noB
def nbH:List Nat→Bool
 |k::_=>k==1000000
 | []=>false
def inW(m:MOp)(e:Ef):Bool:=(e.d.map (·.1))==K1v m.o&&((e.obs.all fun x=>m.ws.contains x.1)&&(!nbH m.hs||e.noB))
def wpD(P:Program):List MOp→St→(St→Prop)→Prop
 | [],σ,K=>K σ
 |m::ms,σ,K=>∃e,stepP P m (σ.hide m.hs m.ho) e∧inW m e=true∧wpD P ms (σ.app e) K
def hidD(m m':MOp):Bool:=match K1v m.o with
 |some d=>m'.hs.contains d
 |none=>true
def sameD(m m':MOp):Bool:=match K1v m.o,K1v m'.o with
 |some d,some d'=>d==d'
 |_,_=>false
def unord(m m':MOp):Bool:=hidD m m'&&hidD m' m&& !sameD m m'&&m.ws.all (fun k=>m'.ho.contains k)&&m'.ws.all (fun k=>m.ho.contains k)&&m.ws.all (fun k=> !m'.ws.contains k)
def chkBf(ms:List MOp)(i:Nat)(o:Oper)(m:MOp):Bool:=
 (m.bf.all fun j=>decide (j<i)&&o.after.toList.any fun e=>Region.binds .any e&&(e.on==j||((ms[e.on]?).map fun q=>q.bf.contains j).getD false))&&
 (o.after.toList.all fun e=> !Region.binds .any e||decide (e.on<i))&&
 ((creates m.o).all fun k=> !m.ho.contains k)&&(!isI m.o||nbH m.hs&&okI m.o)
def K5u(i:Nat)(m:MOp):List MOp→Bool
 | []=>true
 |m'::ms=>(m'.bf.contains i||unord m m')&&K5u i m ms
def chkD(all:List MOp):Nat→List Oper→List MOp→Bool
 |_,[],[]=>true
 |i,o::l,m::ms=>chkBf all i o m&&K5u i m ms&&chkD all (i+1) l ms
 |_,_,_=>false
section
variable {P:Program} {base:Nat→Prop} {Z:ZZ} {w0 w w':World} {σ σ':St} {g:Gh} {o:Oper} {a:Act} {ts:Array Value} {ops:Array Oper}
theorem wpD_es{K:St→Prop}:∀ {ms:List MOp} {σ:St},wpD P ms σ K→∃es:List Ef,es.length=ms.length∧(∀i m e,ms[i]? =some m→es[i]? =some e→stepP P m (((es.take i).foldl St.app σ).hide m.hs m.ho) e∧inW m e=true)∧K (es.foldl St.app σ)
 | [],σ,h=>⟨[],rfl,by simp,h⟩
 |m::ms,σ,h=>by
  obtain⟨e,h1,h2,h3⟩:=h
  obtain⟨es,h4,h5,h6⟩:=wpD_es h3
  refine⟨e::es,by simp[h4],fun i m' e' hm he=>?_,h6⟩
  cases i with
  |zero=>simp at hm he;subst hm he;exact⟨h1,h2⟩
  |succ i=>simpa using h5 i m' e' (by simpa using hm) (by simpa using he)
theorem K50{S S':Nat→Bool}:∀ {es:List Ef} {i:Nat} {σ:St},(∀j,i≤j→j<i+es.length→S j=S' j)→stS S i es σ=stS S' i es σ
 | [],_,_,_=>rfl
 |e::es,i,σ,h=>by
  simp only[stS]
  rw[h i (Nat.le_refl _) (by simp)]
  exact K50 fun j h1 h2=>h j (by omega) (by simp;omega)
theorem stS_all:∀ {es:List Ef} {i:Nat} {σ:St},stS (fun _=>true) i es σ=es.foldl St.app σ
 | [],_,_=>rfl
 |e::es,i,σ=>by simp only[stS,if_true,List.foldl_cons];exact stS_all
theorem K82:∀ {es:List Ef} {i:Nat} {σ:St},stS (fun _=>false) i es σ=σ
 | [],_,_=>rfl
 |e::es,i,σ=>by simp only[stS,Bool.false_eq_true,if_false];exact K82
theorem Kb0:∀ {es:List Ef} {i k:Nat} {σ:St},stS (fun j=>decide (j<i+k)) i es σ=(es.take k).foldl St.app σ
 | [],_,_,_=>by simp[stS]
 |e::es,i,0,σ=>by
  rw[K50 (S':=fun _=>false) fun j h1 _=>by simp;omega]
  simpa using K82
 |e::es,i,k+1,σ=>by
  simp only[stS,List.take_succ_cons,List.foldl_cons]
  rw[if_pos (by simp)]
  rw[←Kb0 (i:=i+1) (k:=k),show i+1+k=i+(k+1)by omega]
theorem chkD_at{all:List MOp}:∀ {i:Nat} {l:List Oper} {ms:List MOp},chkD all i l ms=true→l.length=ms.length∧∀k o m,l[k]? =some o→ms[k]? =some m→chkBf all (i+k) o m=true∧∀k' m',k<k'→ms[k']? =some m'→m'.bf.contains (i+k)=true∨unord m m'=true
 |_,[],[],_=>⟨rfl,by simp⟩
 |i,o::l,m::ms,h=>by
  simp only[chkD,Bool.and_eq_true]at h
  obtain⟨⟨h1,h2⟩,h3⟩:=h
  obtain⟨h4,h5⟩:=chkD_at h3
  refine⟨by simp[h4],fun k o' m' ho hm=>?_⟩
  cases k with
  |zero=>
   simp at ho hm;subst ho hm
   refine⟨h1,fun k' m' hk hm'=>?_⟩
   have later:∀(ms:List MOp) (k:Nat) (m':MOp),K5u i m ms=true→ms[k]? =some m'→m'.bf.contains i=true∨unord m m'=true:=by
    intro ms
    induction ms with
    |nil=>intro k m' _ h;simp at h
    |cons q ms ih=>
     intro k m' hc h
     simp only[K5u,Bool.and_eq_true,Bool.or_eq_true]at hc
     cases k with
     |zero=>simp at h;subst h;exact hc.1
     |succ k=>exact ih k m' hc.2 (by simpa using h)
   cases k' with
   |zero=>omega
   |succ k'=>exact later ms k' m' h2 (by simpa using hm')
  |succ k=>
   obtain⟨h6,h7⟩:=h5 k o' m' (by simpa using ho) (by simpa using hm)
   rw[show i+1+k=i+(k+1)by omega]at h6 h7
   refine⟨h6,fun k' m'' hk hm''=>?_⟩
   cases k' with
   |zero=>omega
   |succ k'=>exact h7 k' m'' (by omega) (by simpa using hm'')
 |_,[],_::_,h=>by simp[chkD]at h
 |_,_::_,[],h=>by simp[chkD]at h
theorem K7n(h:Le σ σ'){gd:Option (Nat×Bool)}{b:Bool}(e:wantedM σ gd=some b):wantedM σ' gd=some b:=by
 unfold wantedM at*
 split at e
 ·exact e
 ·rename_i s want
  rcases h.slot s with h1|h1
  ·rw[h1]at e;simp at e
  ·rw[←h1];exact e
theorem stepP_mono{m:MOp}{e:Ef}(hI:isI m.o=false∨(okI m.o=true∧σ'.noB=true))(h:Le σ σ')(hc:∀id∈creates m.o,(σ.ob id).ver=(σ'.ob id).ver)(he:stepP P m σ e):stepP P m σ' e:=by
 unfold stepP at*
 split at he
 ·rename_i hw
  rw[K7n h hw]
  rcases hI with hI|⟨hI,nb⟩
  ·exact EffP_mono hI h hc he
  ·exact EffP_monoI hI nb h hc he
 ·rename_i hw;rw[K7n h hw];exact he
 ·exact he.elim
theorem K7c{n k:Nat}{m:MOp}{e:Ef}(hw:inW m e=true)(h:K1v m.o≠some k)(x:SV):updS n k e x=x:=by
 simp only[inW,Bool.and_eq_true,beq_iff_eq]at hw
 unfold updS
 split
 ·rename_i d v hd
  rw[if_neg]
  rintro ⟨rfl,_⟩
  apply h
  rw[←hw.1,hd];rfl
 ·rfl
theorem K7b{mm id:Nat}{m:MOp}{e:Ef}(hw:inW m e=true)(h:m.ws.contains id=false)(x:OV):updO mm id e x=x:=by
 simp only[inW,Bool.and_eq_true]at hw
 have hall:=List.all_eq_true.1 hw.2.1
 unfold updO
 have key:∀(obs:List (Nat×OV)) (acc:OV),(∀x∈obs,m.ws.contains x.1=true)→obs.foldl (fun acc x=>if x.1=id∧id<mm then x.2 else acc) acc=acc:=by
  intro obs
  induction obs with
  |nil=>intro _ _;rfl
  |cons y obs ih=>
   intro acc hy
   simp only[List.foldl_cons]
   rw[if_neg,ih _ fun x hx=>hy x (List.mem_cons_of_mem _ hx)]
   rintro ⟨rfl,_⟩
   have:=hy y (List.mem_cons_self ..)
   rw[this]at h;simp at h
 exact key e.obs x fun x hx=>hall x hx
theorem app_noB{σ:St}{e:Ef}(h:σ.noB=true)(he:e.noB=true):(σ.app e).noB=true:=by
 simp only[Ef.noB,Bool.and_eq_true]at he
 simp only[St.noB,Bool.and_eq_true]at h ⊢
 obtain⟨h1,h2⟩:=h
 have hset:∀(l:List OV) (i:Nat) (x:OV),oNoB l=true→x.oc.noB=true→oNoB (l.set i x)=true:=by
  intro l
  induction l with
  |nil=>intro i x _ _;rfl
  |cons y l ih=>
   intro i x hl hx
   simp only[oNoB,Bool.and_eq_true]at hl
   cases i with
   |zero=>simp only[List.set_cons_zero,oNoB,Bool.and_eq_true];exact⟨hx,hl.2⟩
   |succ i=>simp only[List.set_cons_succ,oNoB,Bool.and_eq_true];exact⟨hl.1,ih i x hl.2 hx⟩
 refine⟨?_,?_⟩
 ·unfold St.app
  cases hd:e.d with
  |none=>exact h1
  |some x=>
   obtain⟨k,v⟩:=x
   rw[hd]at he
   simp only
   split
   ·simp only[ins,sNoB,Bool.and_eq_true];exact⟨he.1,h1⟩
   ·exact h1
 ·have key:∀(obs:List (Nat×OV)) (l:List OV),oNoB l=true→(obs.all fun x=>x.2.oc.noB)=true→oNoB (obs.foldl (fun o x=>o.set x.1 x.2) l)=true:=by
   intro obs
   induction obs with
   |nil=>intro l hl _;exact hl
   |cons y obs ih=>
    intro l hl hy
    simp only[List.all_cons,Bool.and_eq_true]at hy
    exact ih _ (hset _ _ _ hl hy.1) hy.2
  exact key e.obs σ.o h2 he.2
theorem stS_noB{S:Nat→Bool}:∀ {es:List Ef} {i:Nat} {σ:St},σ.noB=true→(∀j e,es[j]? =some e→S (i+j)=true→e.noB=true)→(stS S i es σ).noB=true
 | [],_,_,h,_=>h
 |e::es,i,σ,h,he=>by
  simp only[stS]
  refine stS_noB ?_ fun j e' hj hS=>he (j+1) e' (by simpa using hj) (by rw[show i+(j+1)=i+1+j by omega];exact hS)
  split
  ·rename_i hS
   exact app_noB h (he 0 e rfl (by simpa using hS))
  ·exact h
def iIs:Nat→List MOp→List Nat
 |_,[]=>[]
 |k,m::ms=>if isI m.o then k::iIs (k+1) ms else iIs (k+1) ms
theorem iIs_mem:∀ {ms:List MOp} {k i:Nat} {m:MOp},ms[i]? =some m→isI m.o=true→k+i∈iIs k ms
 | [],_,_,_,h,_=>by simp at h
 |m'::ms,k,0,m,h,hI=>by
  simp at h;subst h
  simp[iIs,hI]
 |m'::ms,k,i+1,m,h,hI=>by
  have ih:=iIs_mem (ms:=ms) (k:=k+1) (i:=i) (by simpa using h) hI
  rw[show k+(i+1)=k+1+i by omega]
  unfold iIs
  split
  ·exact List.mem_cons_of_mem _ ih
  ·exact ih
def chkNb(ms:List MOp):Bool:=ms.all fun m=>nbH m.hs||(iIs 0 ms).all fun i=>m.bf.contains i
def Un(m m':MOp):Prop:=(∀d,K1v m'.o=some d→m.hs.contains d=true)∧(∀d,K1v m.o=some d→K1v m'.o≠some d)∧(∀k,m'.ws.contains k=true→m.ho.contains k=true)∧(∀k,m.ws.contains k=true→m'.ws.contains k=false)
theorem Kb5{m m':MOp}(h:unord m m'=true):Un m m'∧Un m' m:=by
 simp only[unord,Bool.and_eq_true,Bool.not_eq_true']at h
 obtain⟨⟨⟨⟨⟨h1,h2⟩,h3⟩,h4⟩,h5⟩,h6⟩:=h
 have d1:∀d,K1v m.o=some d→m'.hs.contains d=true:=by
  intro d hd;unfold hidD at h1;rw[hd]at h1;exact h1
 have d2:∀d,K1v m'.o=some d→m.hs.contains d=true:=by
  intro d hd;unfold hidD at h2;rw[hd]at h2;exact h2
 have d3:∀d,K1v m.o=some d→K1v m'.o≠some d:=by
  intro d hd hd';unfold sameD at h3;rw[hd,hd']at h3;simp at h3
 have k4:∀k,m.ws.contains k=true→m'.ho.contains k=true:=fun k hk=>List.all_eq_true.1 h4 k (List.contains_iff_mem.1 hk)
 have k5:∀k,m'.ws.contains k=true→m.ho.contains k=true:=fun k hk=>List.all_eq_true.1 h5 k (List.contains_iff_mem.1 hk)
 have k6:∀k,m.ws.contains k=true→m'.ws.contains k=false:=fun k hk=>by have:=List.all_eq_true.1 h6 k (List.contains_iff_mem.1 hk);simpa using this
 refine⟨⟨d2,d3,k5,k6⟩,⟨d1,fun d hd hd'=>d3 d hd' hd,k4,fun k hk=>?_⟩⟩
 cases hc:m.ws.contains k with
 |false=>rfl
 |true=>rw[k6 k hc]at hk;simp at hk
theorem K5m{α β:Type}{f:α→β}{l:List α}{j:Nat}{y:β}(h:(l.map f)[j]? =some y):∃x,l[j]? =some x∧y=f x:=by
 rw[List.getElem?_map]at h
 obtain⟨x,hx,rfl⟩:=Option.map_eq_some_iff.1 h
 exact⟨x,hx,rfl⟩
theorem any_step{σ0:St}{ms:List MOp}{es:List Ef}{L L':Nat→Bool}{i:Nat}{m:MOp}{e:Ef}(hlen:es.length=ms.length)(hw:∀(j:Nat) (m:MOp) (e:Ef),ms[j]? =some m→es[j]? =some e→inW m e=true)
  (hm:ms[i]? =some m) (he:es[i]? =some e) (hLi:L i=false) (hL'i:L' i=true) (hL':∀j,j≠i→L' j=L j)
  (hord:∀(j:Nat) (m':MOp),ms[j]? =some m'→j≠i→Un m m'∨(L j=true∧j<i)∨(L j=false∧i<j)) (hcr:(creates m.o).all (fun k=> !m.ho.contains k)=true) (hI:isI m.o=false∨(okI m.o=true∧(stS L 0 es σ0).noB=true)) (hst:stepP P m (((es.take i).foldl St.app σ0).hide m.hs m.ho) e):
  stepP P m (stS L 0 es σ0) e∧Same ((stS L 0 es σ0).app e) (stS L' 0 es σ0):=by
 have hmj:∀(j:Nat) (e':Ef),es[j]? =some e'→∃m',ms[j]? =some m':=by
  intro j e' h
  have:j<ms.length:=by rw[←hlen];exact Kl h
  exact⟨ms[j],List.getElem?_eq_getElem this⟩
 have hS:(es.take i).foldl St.app σ0=stS (fun j=>decide (j<i)) 0 es σ0:=by
  rw[←Kb0 (i:=0)];simp
 have hget:∀k,m.hs.contains k=false→(stS (fun j=>decide (j<i)) 0 es σ0).get k=(stS L 0 es σ0).get k:=by
  intro k hk
  rw[K5p,K5p]
  refine K3d fun j f hf=>?_
  obtain⟨e',he',rfl⟩:=K5m hf
  simp only[Nat.zero_add]
  by_cases hji:j=i
  ·right;rw[hji,hLi];simp
  ·obtain⟨m',hm'⟩:=hmj j e' he'
   rcases hord j m' hm' hji with h|⟨h1,h2⟩|⟨h1,h2⟩
   ·left
    refine K7c (hw j m' e' hm' he') fun hd=>?_
    rw[h.1 k hd]at hk;simp at hk
   ·right;rw[h1];simp[h2]
   ·right;rw[h1];simp;omega
 have hob:∀id,m.ho.contains id=false→(stS (fun j=>decide (j<i)) 0 es σ0).ob id=(stS L 0 es σ0).ob id:=by
  intro id hk
  rw[K70,K70]
  refine K3d fun j f hf=>?_
  obtain⟨e',he',rfl⟩:=K5m hf
  simp only[Nat.zero_add]
  by_cases hji:j=i
  ·right;rw[hji,hLi];simp
  ·obtain⟨m',hm'⟩:=hmj j e' he'
   rcases hord j m' hm' hji with h|⟨h1,h2⟩|⟨h1,h2⟩
   ·left
    refine K7b (hw j m' e' hm' he') ?_
    cases hc:m'.ws.contains id with
    |false=>rfl
    |true=>rw[h.2.2.1 id hc]at hk;simp at hk
   ·right;rw[h1];simp[h2]
   ·right;rw[h1];simp;omega
 obtain⟨n1,n2⟩:=stS_n (fun j=>decide (j<i)) es 0 σ0
 obtain⟨n3,n4⟩:=stS_n L es 0 σ0
 obtain⟨n5,n6⟩:=stS_n L' es 0 σ0
 rw[hS]at hst
 refine⟨stepP_mono hI (σ:=(stS (fun j=>decide (j<i)) 0 es σ0).hide m.hs m.ho) (σ':=stS L 0 es σ0) ⟨fun k=>?_,fun id=>?_,n1.trans n3.symm,?_⟩ (fun id hid=>?_) hst,fun k=>?_,fun id=>?_,?_⟩
 ·rw[Kaj]
  cases hc:m.hs.contains k with
  |true=>left;rfl
  |false=>right;simp only[Bool.false_eq_true,if_false];exact hget k hc
 ·rw[K95]
  cases hc:m.ho.contains id with
  |true=>left;rfl
  |false=>right;simp only[Bool.false_eq_true,if_false];exact hob id hc
 ·simp only[St.hide,K9n,n2,n4]
 ·have:=List.all_eq_true.1 hcr id hid
  simp only[Bool.not_eq_true']at this
  rw[K95,this]
  simp only[Bool.false_eq_true,if_false]
  rw[hob id this]
 ·rw[get_upd,n3,K5p,K5p]
  have hfi:(es.map (updS σ0.n k))[i]? =some (updS σ0.n k e):=by rw[List.getElem?_map,he];rfl
  by_cases hd:K1v m.o=some k
  ·refine(K6y hfi (by simpa using hL'i) (by simpa using hLi) (fun j hj=>by simpa using hL' j hj) fun j f hf hij hLj=>?_).symm
   obtain⟨e',he',rfl⟩:=K5m hf
   obtain⟨m',hm'⟩:=hmj j e' he'
   simp only[Nat.zero_add]at hLj
   rw[hL' j (by omega)]at hLj
   intro x
   rcases hord j m' hm' (by omega)with h|⟨h1,h2⟩|⟨h1,h2⟩
   ·exact K7c (hw j m' e' hm' he') (h.2.1 k hd) x
   ·omega
   ·rw[h1]at hLj;simp at hLj
  ·rw[K7c (hw i m e hm he) hd]
   refine K3d fun j f hf=>?_
   obtain⟨e',he',rfl⟩:=K5m hf
   simp only[Nat.zero_add]
   by_cases hji:j=i
   ·left
    subst hji
    rw[he]at he';simp at he';subst he'
    exact K7c (hw j m e hm he) hd
   ·right;rw[hL' j hji]
 ·rw[ob_upd,n4,K70,K70]
  have hfi:(es.map (updO σ0.o.length id))[i]? =some (updO σ0.o.length id e):=by rw[List.getElem?_map,he];rfl
  cases hd:m.ws.contains id with
  |true=>
   refine(K6y hfi (by simpa using hL'i) (by simpa using hLi) (fun j hj=>by simpa using hL' j hj) fun j f hf hij hLj=>?_).symm
   obtain⟨e',he',rfl⟩:=K5m hf
   obtain⟨m',hm'⟩:=hmj j e' he'
   simp only[Nat.zero_add]at hLj
   rw[hL' j (by omega)]at hLj
   intro x
   rcases hord j m' hm' (by omega)with h|⟨h1,h2⟩|⟨h1,h2⟩
   ·exact K7b (hw j m' e' hm' he') (h.2.2.2 id hd) x
   ·omega
   ·rw[h1]at hLj;simp at hLj
  |false=>
   rw[K7b (hw i m e hm he) hd]
   refine K3d fun j f hf=>?_
   obtain⟨e',he',rfl⟩:=K5m hf
   simp only[Nat.zero_add]
   by_cases hji:j=i
   ·left
    subst hji
    rw[he]at he';simp at he';subst he'
    exact K7b (hw j m e hm he) hd
   ·right;rw[hL' j hji]
 ·show(stS L 0 es σ0).n=_
  rw[n3,n5]
end
end Go.Proofs.YtjneccbpkckdfaaGreatR
namespace Go.Proofs.YtjneccbpkckdfaaGreatR
open Go Go.RowKit
def cnt(L:Nat→Bool)(n:Nat):Nat:=(List.range n).countP L
theorem K9i{L L':Nat→Bool}:∀ {n:Nat},(∀j,j<n→L' j=L j)→cnt L' n=cnt L n
 |0,_=>rfl
 |n+1,h=>by
  have ih:=K9i (L:=L) (L':=L') (n:=n) fun j hj=>h j (by omega)
  unfold cnt at*
  rw[List.range_succ,List.countP_append,List.countP_append,ih]
  simp[h n (by omega)]
theorem cnt_set{L L':Nat→Bool}{i:Nat}(h1:L i=false)(h2:L' i=true)(h3:∀j,j≠i→L' j=L j):∀ {n:Nat},i<n→cnt L' n=cnt L n+1
 |0,h=>by omega
 |n+1,h=>by
  by_cases hi:i=n
  ·subst hi
   have e:=K9i (L:=L) (L':=L') (n:=i) fun j hj=>h3 j (by omega)
   unfold cnt at*
   rw[List.range_succ,List.countP_append,List.countP_append,e]
   simp[h1,h2]
  ·have ih:=cnt_set h1 h2 h3 (n:=n) (by omega)
   unfold cnt at*
   rw[List.range_succ,List.countP_append,List.countP_append,ih]
   simp[h3 n (fun e=>hi e.symm)]
   omega
theorem cnt_le(L:Nat→Bool)(n:Nat):cnt L n≤n:=by
 have:=List.countP_le_length (p:=L) (l:=List.range n)
 simpa[cnt]using this
theorem cnt_all{L:Nat→Bool}{n:Nat}(h:n≤cnt L n):∀j,j<n→L j=true:=by
 have h2:(List.range n).countP L=(List.range n).length:=by
  have:=cnt_le L n
  unfold cnt at*
  simp;omega
 intro j hj
 exact List.countP_eq_length.1 h2 j (List.mem_range.2 hj)
section
variable {P:Program} {base:Nat→Prop} {Z:ZZ} {w0 w w':World} {σ σ':St} {g:Gh} {o:Oper} {a:Act} {ts:Array Value} {ops:Array Oper}
theorem K9h:∀ {l:List Oper} {ms:List MOp},K1z P ops l ms=true→∀(k:Nat) (o:Oper) (m:MOp),l[k]? =some o→ms[k]? =some m→K5i ops o m.g=true∧chkM P o m.o=true
 | [],[],_,k,o,m,h,_=>by simp at h
 |o::l,m::ms,hc,k,o',m',ho,hm=>by
  simp only[K1z,Bool.and_eq_true]at hc
  cases k with
  |zero=>simp at ho hm;subst ho hm;exact hc.1
  |succ k=>exact K9h hc.2 k o' m' (by simpa using ho) (by simpa using hm)
 | [],_::_,hc,_,_,_,_,_=>by simp[K1z]at hc
 |_::_,[],hc,_,_,_,_,_=>by simp[K1z]at hc
theorem K4f{listed:Array Bool}{i j:Nat}(hi:i<listed.size):(listed.setIfInBounds i true).getD j false=if j=i then true else listed.getD j false:=by
 by_cases h:i=j
 ·subst h;simp[hi]
 ·have h':¬j=i:=fun e=>h e.symm
  rw[getD_set_ne false h];simp[h']
theorem any_run{Q:Exit→Act→World→Prop}{d0:List Deferred}{ms:List MOp}{es:List Ef}{σ0:St}(hc:K1z P ops ops.toList ms=true)(hd:chkD ms 0 ops.toList ms=true)(hlen:es.length=ms.length)
  (hes:∀(i:Nat) (m:MOp) (e:Ef),ms[i]? =some m→es[i]? =some e→stepP P m (((es.take i).foldl St.app σ0).hide m.hs m.ho) e∧inW m e=true)
  (hN:(∀m∈ms,isI m.o=false)∨(σ0.noB=true∧chkNb ms=true))
  (hQ:∀a w g,a.defers=d0→Rel base Z w0 w (es.foldl St.app σ0) a.tmps g→Q .normal a w):
  ∀(fuel:Nat) (listed:Array Bool) (a:Act) (w:World) (g:Gh),listed.size=ops.size→(∀(i:Nat) (m:MOp),ms[i]? =some m→listed.getD i false=true→∀j∈m.bf,listed.getD j false=true)→
   Rel base Z w0 w (stS (fun i=>listed.getD i false) 0 es σ0) a.tmps g→a.defers=d0→ops.size≤cnt (fun i=>listed.getD i false) ops.size+fuel→wpAny P .any ops Q fuel listed a w:=by
 obtain⟨hl,hat⟩:=chkD_at hd
 have hms:ms.length=ops.size:=by rw[←hl];simp
 have hop:∀(i:Nat) (o:Oper),ops[i]? =some o→ops.toList[i]? =some o:=fun i o h=>by simpa using h
 have done:∀(listed:Array Bool) (a:Act) (w:World) (g:Gh),(∀j,j<ops.size→listed.getD j false=true)→Rel base Z w0 w (stS (fun i=>listed.getD i false) 0 es σ0) a.tmps g→a.defers=d0→Q .normal a w:=by
  intro listed a w g hall R hd0
  rw[K50 (S':=fun _=>true) fun j _ hj=>hall j (by rw[hlen,hms]at hj;omega),stS_all]at R
  exact hQ a w g hd0 R
 have hrd:∀listed:Array Bool,listed.size=ops.size→Region.ready .any ops listed=[]→∀j,j<ops.size→listed.getD j false=true:=by
  intro listed hsz hr j
  induction j using Nat.strongRecOn with
  |_ j ih=>
   intro hj
   cases hL:listed.getD j false with
   |true=>rfl
   |false=>
    exfalso
    have hoj:ops[j]? =some ops[j]:=Array.getElem?_eq_getElem hj
    have hmj:ms[j]? =some ms[j]:=List.getElem?_eq_getElem (by omega)
    obtain⟨hb,_⟩:=hat j _ _ (hop j _ hoj) hmj
    simp only[chkBf,Bool.and_eq_true,Nat.zero_add]at hb
    have:j∈Region.ready .any ops listed:=by
     rw[mem_ready]
     refine⟨?_,ops[j],hoj,fun e he hbe=>?_⟩
     ·have:j<listed.size:=by omega
      simp only[Array.getD_eq_getD_getElem?,Array.getElem?_eq_getElem this,Option.getD_some]at hL ⊢
      exact hL
     ·have h2:=List.all_eq_true.1 hb.1.1.2 e (by simpa using he)
      rw[hbe]at h2
      simp at h2
      exact ih e.on h2 (by omega)
    rw[hr]at this;simp at this
 intro fuel
 induction fuel with
 |zero=>
  intro listed a w g hsz hcl R hd0 hcnt
  have hall:=cnt_all (by omega:ops.size≤cnt (fun i=>listed.getD i false) ops.size)
  refine⟨?_,done listed a w g hall R hd0⟩
  rw[List.eq_nil_iff_forall_not_mem]
  intro i hi
  rw[mem_ready]at hi
  obtain⟨h0,o,ho,_⟩:=hi
  have hlt:i<ops.size:=(Array.getElem?_eq_some_iff.1 ho).1
  have h1:=hall i hlt
  have:i<listed.size:=by omega
  simp only[Array.getD_eq_getD_getElem?,Array.getElem?_eq_getElem this,Option.getD_some]at h0 h1
  rw[h0]at h1;simp at h1
 |succ fuel ih=>
  intro listed a w g hsz hcl R hd0 hcnt
  refine⟨fun hr=>done listed a w g (hrd listed hsz hr) R hd0,fun i hi=>?_⟩
  rw[mem_ready]at hi
  obtain⟨h0,o,ho,hpre⟩:=hi
  have hlt:i<ops.size:=(Array.getElem?_eq_some_iff.1 ho).1
  have hil:i<listed.size:=by omega
  have hLi:listed.getD i false=false:=by
   simp only[Array.getD_eq_getD_getElem?,Array.getElem?_eq_getElem hil,Option.getD_some]at h0 ⊢
   exact h0
  have hmi:ms[i]? =some ms[i]:=List.getElem?_eq_getElem (by omega)
  have hei:es[i]? =some es[i]:=List.getElem?_eq_getElem (by omega)
  generalize hm:ms[i]=m at hmi
  generalize he:es[i]=e at hei
  obtain⟨hb,hlater⟩:=hat i o m (hop i o ho) hmi
  simp only[chkBf,Bool.and_eq_true,Nat.zero_add]at hb
  obtain⟨⟨⟨hb1,hb2⟩,hb3⟩,hbI⟩:=hb
  have hbI':isI m.o=false∨(okI m.o=true∧(stS (fun i=>listed.getD i false) 0 es σ0).noB=true):=by
   simp only[Bool.or_eq_true,Bool.not_eq_true',Bool.and_eq_true]at hbI
   rcases hN with hN|⟨hN1,hN2⟩
   ·exact .inl (hN m (List.mem_of_getElem? hmi))
   ·rcases hbI with hbI|hbI
    ·exact .inl hbI
    ·cases hIm:isI m.o with
     |false=>exact .inl rfl
     |true=>
      refine .inr ⟨hbI.2,stS_noB hN1 fun j e' hj hLj=>?_⟩
      simp only[Nat.zero_add]at hLj
      have hjl:j<ms.length:=by rw[←hlen];exact(List.getElem?_eq_some_iff.1 hj).1
      have hmj:ms[j]? =some ms[j]:=List.getElem?_eq_getElem hjl
      have h1:=(hes j _ e' hmj hj).2
      have h2:=List.all_eq_true.1 hN2 ms[j] (List.getElem_mem hjl)
      simp only[inW,Bool.and_eq_true,Bool.or_eq_true,Bool.not_eq_true']at h1
      simp only[Bool.or_eq_true]at h2
      rcases h2 with h2|h2
      ·rcases h1.2.2 with h3|h3
       ·rw[h3]at h2;simp at h2
       ·exact h3
      ·have h4:=List.all_eq_true.1 h2 (0+i) (iIs_mem hmi hIm)
       rw[Nat.zero_add]at h4
       have h5:=hcl j ms[j] hmj hLj i (List.contains_iff_mem.1 h4)
       rw[hLi]at h5;simp at h5
  have hbf:∀j∈m.bf,listed.getD j false=true∧j<i:=by
   intro j hj
   have h1:=List.all_eq_true.1 hb1 j hj
   simp only[Bool.and_eq_true,decide_eq_true_eq]at h1
   refine⟨?_,h1.1⟩
   obtain⟨ed,hed,h2⟩:=List.any_eq_true.1 h1.2
   simp only[Bool.and_eq_true,Bool.or_eq_true,beq_iff_eq]at h2
   have hon:=hpre ed (by simpa using hed) h2.1
   rcases h2.2 with rfl|h3
   ·exact hon
   ·cases hq:ms[ed.on]? with
    |none=>rw[hq]at h3;simp at h3
    |some q=>
     rw[hq]at h3
     simp at h3
     exact hcl ed.on q hq hon j h3
  have hord:∀(j:Nat) (m':MOp),ms[j]? =some m'→j≠i→Un m m'∨((fun i=>listed.getD i false) j=true∧j<i)∨((fun i=>listed.getD i false) j=false∧i<j):=by
   intro j m' hm' hji
   rcases Nat.lt_or_ge j i with h|h
   ·have hoj:ops[j]? =some (ops[j]'(by omega)):=Array.getElem?_eq_getElem (by omega)
    obtain⟨_,h1⟩:=hat j _ m' (hop j _ hoj) hm'
    rcases h1 i m h hmi with h2|h2
    ·right;left
     simp only[Nat.zero_add]at h2
     exact⟨(hbf j (List.contains_iff_mem.1 h2)).1,h⟩
    ·exact .inl (Kb5 h2).2
   ·rcases hlater j m' (by omega) hm' with h2|h2
    ·right;right
     simp only[Nat.zero_add]at h2
     refine⟨?_,by omega⟩
     cases hL:listed.getD j false with
     |false=>simpa using hL
     |true=>
      have:=hcl j m' hm' hL i (List.contains_iff_mem.1 h2)
      rw[hLi]at this;simp at this
    ·exact .inl (Kb5 h2).1
  obtain⟨hg,hcm⟩:=K9h hc i o m (hop i o ho) hmi
  obtain⟨hst,hsame⟩:=any_step (σ0:=σ0) (L:=fun i=>listed.getD i false) (L':=fun j=>(listed.setIfInBounds i true).getD j false) hlen (fun j m e h1 h2=>(hes j m e h1 h2).2) hmi hei hLi (by simp only[K4f hil,if_true]) (fun j hj=>by simp only[K4f hil,if_neg hj]) hord hb3 hbI' (hes i m e hmi hei).1
  refine R.wpOp ho hg hcm hst fun a' w' g' hd' R'=>?_
  refine ih _ a' w' g' (by simpa using hsz) ?_ (R'.same hsame) (hd'.trans hd0) ?_
  ·intro k mk hk hLk j hj
   rw[K4f hil]at hLk ⊢
   split
   ·rfl
   ·split at hLk
    ·rename_i hki
     subst hki
     rw[hmi]at hk;simp at hk;subst hk
     exact(hbf j hj).1
    ·exact hcl k mk hk hLk j hj
  ·rw[cnt_set (L:=fun i=>listed.getD i false) (i:=i) hLi (by simp only[K4f hil,if_true]) (fun j hj=>by simp only[K4f hil,if_neg hj]) hlt]
   omega
theorem wp_dreg{Q:Exit→Act→World→Prop}{K:St→Prop}{n:Nat}{ms:List MOp}(hmix:P.follows .mixedOrders=true)(hc:K1z P ops ops.toList ms=true)(hd:chkD ms 0 ops.toList ms=true)(hN:(∀m∈ms,isI m.o=false)∨(σ.noB=true∧chkNb ms=true))(R:Rel base Z w0 w σ a.tmps g)(h:wpD P ms σ K)
  (hQ:∀σ' a' w' g',K σ'→a'.defers=a.defers→Rel base Z w0 w' σ' a'.tmps g'→Q .normal a' w'):(Code.region n ops true).wp P Q a w:=by
 refine wp_region_any hmix ?_
 obtain⟨es,hlen,hes,hK⟩:=wpD_es h
 have R0:Rel base Z w0 ({w with drawn:=w.drawn+1}:World) σ a.tmps g:=
  (R.turn none [] ({w with drawn:=w.drawn+1}:World) g none undef ⟨Nat.le_refl _,fun _=>Nat.le_refl _,fun _ _ _=>rfl,fun _ _ h=>⟨rfl,h⟩,fun _ _ h=>h,rfl⟩ rfl (fun _ h=>h) (fun id=> .inl ⟨rfl,rfl,fun _ _=>rfl⟩) R.nd R.dj R.frs (R.grew.drew))
 have hfalse:∀j,(Array.replicate ops.size false).getD j false=false:=by
  intro j
  simp only[Array.getD_eq_getD_getElem?,Array.getElem?_replicate]
  split<;>rfl
 refine any_run (d0:=a.defers) (σ0:=σ) hc hd hlen hes hN (fun a' w' g' hd' R'=>hQ _ a' w' g' hK hd' R') ops.size _ a _ g (by simp) ?_ ?_ rfl (by omega)
 ·intro i m _ h
  rw[hfalse]at h;simp at h
 ·rw[K50 (S':=fun _=>false) fun j _ _=>hfalse j,K82]
  exact R0
end
end Go.Proofs.YtjneccbpkckdfaaGreatR
namespace Go.Proofs.YtjneccbpkckdfaaGreatR
open Go Go.RowKit
def isSlT(P:Program)(t:TypeId):Bool:=match P.underlying t with
 |some (.slice _)=>true
 |_=>false
def isNilO:Operand→Bool
 |.const (.slice none 0 0)=>true
 |_=>false
def chkN(P:Program)(ops:Array Oper)(c:Operand)(d1 d2:Nat)(x:Od):Bool:=match ops.toList with
 | [o1,o2]=>o1.guard.isNone&&o2.guard.isNone&&isD o1.dst d1&&isD o2.dst d2&&d1 != d2&&(match o1.op with| .move y=>K3 y x| .assign y=>K3 y x|_=>false)&&
   (match o2.op with| .binOp op t (.tmp k) y _=>decide (op= .eql)&&k==d1&&isNilO y&&isSlT P t|_=>false)&&(match c with| .tmp k=>k==d2|_=>false)
 |_=>false
section
variable {P:Program} {base:Nat→Prop} {Z:ZZ} {w0 w w':World} {σ σ':St} {g:Gh} {o:Oper} {a:Act} {ts:Array Value} {ops:Array Oper}
theorem Rel.undef_{d:Nat}{v:Value}(R:Rel base Z w0 w σ a.tmps g)(h:σ.get d= .undef):Rel base Z w0 w σ (a.put (some d) v).tmps g:=by
 refine(R.fill d .undef v trivial).same ⟨fun k=>?_,fun _=>rfl,rfl⟩
 rw[K2o]
 split
 ·rename_i hk;rw[←hk.1,h]
 ·rfl
theorem K8m{t e:TypeId}(hu:P.underlying t=some (.slice e))(n:Nat)(A:Option Addr)(l c:Nat):(Op.equalIn (n+1) t (.slice A l c) (.slice none 0 0)).run P w= .ok A.isNone w:=by
 simp only[Op.equalIn,Sem.run_bind,run_underlying hu,Result.andThen_ok]
 cases A<;>rfl
theorem run_nilEq{t:TypeId}(ht:isSlT P t=true)(A:Option Addr)(l c:Nat):(binOp .eql t (.slice A l c) (.slice none 0 0)).run P w= .ok (.bool A.isNone) w:=by
 unfold isSlT at ht
 split at ht
 ·rename_i e hu
  have h1:(Op.equal t (.slice A l c) (.slice none 0 0)).run P w= .ok A.isNone w:=K8m hu 9999 A l c
  simp only[binOp,Sem.run_bind,h1,Result.andThen_ok,Sem.run_pure]
 ·simp at ht
theorem wp_nil{Q:Exit→Act→World→Prop}{n:Nat}{c:Operand}{x' y':Code}{d1 d2:Nat}{x:Od}{cell:SC}{r:Nat×List (List T)}(hc:chkN P ops c d1 d2 x=true)(R:Rel base Z w0 w σ a.tmps g)(hcell:(σ.ev x).one=some cell)(hr:σ.rows cell=some r)
  (hd1:σ.get d1= .undef) (hd2:σ.get d2= .undef) (hlt:d1<σ.n∧d2<σ.n)
  (hx:∀a',a'.defers=a.defers→Rel base Z w0 w σ a'.tmps g→r.2=[]→x'.wp P Q a' w) (hy:∀a',a'.defers=a.defers→Rel base Z w0 w σ a'.tmps g→y'.wp P Q a' w):(Code.seq (.region n ops false) (.cond c x' y')).wp P Q a w:=by
 unfold chkN at hc
 split at hc
 rotate_left
 ·simp at hc
 rename_i o1 o2 hops
 have hops':ops= #[o1,o2]:=Array.ext' hops
 subst hops'
 simp only[Bool.and_eq_true,Option.isNone_iff_eq_none,bne_iff_ne,ne_eq]at hc
 obtain⟨⟨⟨⟨⟨⟨⟨hg1,hg2⟩,hD1⟩,hD2⟩,hne⟩,hop1⟩,hop2⟩,hcc⟩:=hc
 have hD1:=Kc hD1
 have hD2:=Kc hD2
 split at hcc
 rotate_left
 ·simp at hcc
 rename_i kc
 have hkc:=beq_iff_eq.1 hcc
 subst hkc
 split at hop2
 rotate_left
 ·simp at hop2
 rename_i op t k y u ho2
 simp only[Bool.and_eq_true,decide_eq_true_eq,beq_iff_eq]at hop2
 obtain⟨⟨⟨rfl,rfl⟩,hny⟩,ht⟩:=hop2
 obtain rfl:y= .const (.slice none 0 0):=by unfold isNilO at hny;split at hny<;>simp_all
 obtain⟨y,hy1,hyx⟩:∃y,(o1.op= .move y∨o1.op= .assign y)∧K3 y x=true:=by
  split at hop1
  ·rename_i y h;exact⟨y,.inl h,hop1⟩
  ·rename_i y h;exact⟨y,.inr h,hop1⟩
  ·simp at hop1
 have hC:=(R.ev hyx).one_ hcell
 obtain⟨A,cap,hv,_,hA⟩:=R.rows hC hr
 have hsz:∀(v:Value) (d:Nat),d<σ.n→(a.put (some d) v).tmps.getD d undef=v:=by
  intro v d hd
  rw[K27,K4e,if_pos ⟨rfl,by rw[←R.len];exact hd⟩]
 refine wp_seq (wp_region ?_)
 have hrun1:(execOp a.eval o1).run P w= .ok (.value (a.eval y)) w:=by rcases hy1 with h|h<;>simp[execOp,h]
 simp only[wpOps,List.range_succ,List.range_zero,List.nil_append,List.cons_append,List.size_toArray,List.length_cons,List.length_nil,Nat.zero_add,Nat.reduceAdd,List.getElem?_toArray,List.getElem?_cons_zero,List.getElem?_cons_succ]
 rw[if_pos (by unfold Region.wanted;rw[hg1])]
 left
 unfold Oper.wp
 rw[hrun1]
 rw[Oper.upon_value,hD1]
 have R1:=R.undef_ (v:=a.eval y) hd1
 generalize ha1:a.put (some k) (a.eval y)=a1 at R1
 have hk1:a1.tmps.getD k undef=a.eval y:=by rw[←ha1];exact hsz _ _ hlt.1
 have hdf1:a1.defers=a.defers:=by rw[←ha1];exact K1p _ _ _
 rw[if_pos (by unfold Region.wanted;rw[hg2])]
 left
 have hev:a1.eval (.tmp k)= .slice A r.2.length cap:=by
  show a1.tmps.getD k undef=_
  rw[hk1,hv]
 have hrun2:(execOp a1.eval o2).run P w= .ok (.value (.bool A.isNone)) w:=by
  have h2:a1.eval (.const (.slice none 0 0))= .slice none 0 0:=rfl
  simp only[execOp,ho2,hev,h2,Sem.run_bind]
  rw[show(eqGuard .eql t (.tmp k) (.const (.slice none 0 0)) (.slice A r.2.length cap) (.slice none 0 0):Sem Unit).run P w= .ok () w from rfl]
  simp only[Result.andThen_ok,run_nilEq ht,Sem.run_pure]
 rw[hrun2,Oper.upon_value,hD2]
 have R2:Rel base Z w0 w σ (a1.put (some kc) (.bool A.isNone)).tmps g:=R1.undef_ hd2
 have hsz2:(a1.put (some kc) (.bool A.isNone)).tmps.getD kc undef= .bool A.isNone:=by
  rw[K27,K4e,if_pos ⟨rfl,by rw[←R1.len];exact hlt.2⟩]
 have hdf2:(a1.put (some kc) (.bool A.isNone)).defers=a.defers:=(K1p _ _ _).trans hdf1
 generalize a1.put (some kc) (.bool A.isNone)=a2 at R2 hsz2 hdf2
 refine wp_cond_split (t:=A.isNone) (by show a2.tmps.getD kc undef=_;exact hsz2) (fun h=>hx a2 hdf2 R2 ?_) (fun _=>hy a2 hdf2 R2)
 rcases hA with h'|⟨b,off,h',_⟩
 ·exact h'
 ·rw[h']at h;simp at h
end
end Go.Proofs.YtjneccbpkckdfaaGreatR
namespace Go.Proofs.YtjneccbpkckdfaaGreatR
open Go Go.RowKit
def SC.ren(a va b nb:Nat):SC→SC
 |.ref id ver sz lo n=>if id=a∧ver=va then .ref b nb sz lo n else .ref id ver sz lo n
 |.pl t=> .pl t
 |.bor t=> .bor t
 |.emp sz=> .emp sz
 |.clo g bs=> .clo g bs
def K2z(a va b nb:Nat):List SC→List SC
 | []=>[]
 |c::cs=>c.ren a va b nb::K2z a va b nb cs
def K6c(a va b nb:Nat):List (Bool×List SC)→List (Bool×List SC)
 | []=>[]
 |v::vs=>(v.1,K2z a va b nb v.2)::K6c a va b nb vs
def SV.ren(a va b nb:Nat):SV→SV
 |.val ag cs=> .val ag (K2z a va b nb cs)
 |.tup vs=> .tup (K6c a va b nb vs)
 |.arr id ver k n=> .arr id ver k n
 |.undef=> .undef
 |.skp=> .skp
 |.adr x=> .adr x
def OC.ren(a va b nb:Nat):OC→OC
 |.box cs=> .box (K2z a va b nb cs)
 |.none=> .none
 |.row dp sz es=> .row dp sz es
 |.lent sz es=> .lent sz es
 |.hole sz es i k id2 v2=> .hole sz es i k id2 v2
def sRen(a va b nb:Nat):List (Nat×SV)→List (Nat×SV)
 | []=>[]
 |x::l=>(x.1,x.2.ren a va b nb)::sRen a va b nb l
def oRen(a va b nb:Nat):List OV→List OV
 | []=>[]
 |x::l=>⟨x.ver,x.oc.ren a va b nb⟩::oRen a va b nb l
def St.ren1(σ:St)(a b:Nat):Option St:=match σ.ob a with
 |⟨va,.row dp sz es⟩=>if a=b then none else if b<σ.o.length then
   some ⟨sRen a va b (σ.nw b) σ.s,σ.n,((oRen a va b (σ.nw b) σ.o).set b ⟨σ.nw b,.row dp sz es⟩).set a ⟨va,.none⟩⟩else none
 |_=>none
def St.renA(σ:St):List (Nat×Nat)→Option St
 | []=>some σ
 |p::l=>(σ.ren1 p.1 p.2).bind fun τ=>τ.renA l
section
variable {base:Nat→Prop} {Z:ZZ} {w0 w:World} {σ:St} {g:Gh} {ts:Array Value} {V:Nat→Nat} {a va b nb:Nat}
theorem CellR.ren{c:SC}{v:Value}(hH:g.H b nb=g.H a va)(hv:nb≤V b)(h:CellR w V g c v):CellR w V g (c.ren a va b nb) v:=by
 cases c with
 |ref id ver sz lo n=>
  simp only[SC.ren]
  split
  ·rename_i he
   obtain⟨rfl,rfl⟩:=he
   simp only[CellR]at h ⊢
   exact⟨hv,by rw[hH];exact h.2⟩
  ·exact h
 |pl t=>exact h
 |bor t=>exact h
 |emp sz=>exact h
 |clo f bs=>exact h
theorem CellsR.ren(hH:g.H b nb=g.H a va)(hv:nb≤V b):∀ {cs:List SC} {vs:List Value},CellsR w V g cs vs→CellsR w V g (K2z a va b nb cs) vs
 | [],[],_=>trivial
 |c::cs,v::vs,h=>⟨CellR.ren hH hv h.1,CellsR.ren hH hv h.2⟩
 | [],_::_,h=>h.elim
 |_::_,[],h=>h.elim
theorem ValR.ren{ag:Bool}{cs:List SC}{v:Value}(hH:g.H b nb=g.H a va)(hv:nb≤V b)(h:ValR w V g ag cs v):ValR w V g ag (K2z a va b nb cs) v:=by
 unfold ValR at h ⊢
 cases ag with
 |true=>
  simp only[if_true]at h ⊢
  obtain⟨vs,rfl,h⟩:=h
  exact⟨vs,rfl,CellsR.ren hH hv h⟩
 |false=>
  simp only[Bool.false_eq_true,if_false]at h ⊢
  obtain⟨c,rfl,h⟩:=h
  exact⟨_,rfl,CellR.ren hH hv h⟩
theorem ValsR.ren(hH:g.H b nb=g.H a va)(hv:nb≤V b):∀ {xs:List (Bool×List SC)} {vs:List Value},ValsR w V g xs vs→ValsR w V g (K6c a va b nb xs) vs
 | [],[],_=>trivial
 |c::cs,v::vs,h=>⟨ValR.ren hH hv h.1,ValsR.ren hH hv h.2⟩
 | [],_::_,h=>h.elim
 |_::_,[],h=>h.elim
theorem SlotR.ren{s:SV}{v:Value}(hH:g.H b nb=g.H a va)(hv:nb≤V b)(h:SlotR w V g s v):SlotR w V g (s.ren a va b nb) v:=by
 cases s with
 |val ag cs=>exact ValR.ren hH hv h
 |tup vs=>obtain⟨us,rfl,h⟩:=h;exact⟨us,rfl,ValsR.ren hH hv h⟩
 |arr id ver k n=>exact h
 |undef=>trivial
 |skp=>exact h
 |adr x=>exact h
theorem lk_sRen{k:Nat}:∀ {l:List (Nat×SV)},lk k (sRen a va b nb l)=(lk k l).ren a va b nb
 | []=>rfl
 |x::l=>by
  simp only[sRen,lk]
  split
  ·rfl
  ·exact lk_sRen
theorem Kap:∀ {l:List OV},(oRen a va b nb l).length=l.length
 | []=>rfl
 |x::l=>by simp only[oRen,List.length_cons,Kap]
theorem Kak{i:Nat}:∀ {l:List OV},((oRen a va b nb l).getD i ⟨0,.none⟩)=⟨(l.getD i ⟨0,.none⟩).ver,(l.getD i ⟨0,.none⟩).oc.ren a va b nb⟩
 | []=>by simp[oRen,OC.ren]
 |x::l=>by
  cases i with
  |zero=>rfl
  |succ i=>
   have:=Kak (i:=i) (l:=l)
   simpa[oRen]using this
theorem K6q{l:List OV}{i j:Nat}{x:OV}:(l.set i x).getD j ⟨0,.none⟩=if j=i∧i<l.length then x else l.getD j ⟨0,.none⟩:=by
 simp only[List.getD_eq_getElem?_getD,List.getElem?_set]
 by_cases h:i=j
 ·subst h
  by_cases hl:i<l.length
  ·simp[hl]
  ·simp[hl]
 ·rw[if_neg h,if_neg (fun e=>h e.1.symm)]
theorem Rel.ren1(R:Rel base Z w0 w σ ts g){τ:St}(h:σ.ren1 a b=some τ):∃g',Rel base Z w0 w τ ts g':=by
 unfold St.ren1 at h
 split at h
 rotate_left
 ·simp at h
 rename_i va dp sz es hoba
 split at h
 ·simp at h
 rename_i hne
 split at h
 rotate_left
 ·simp at h
 rename_i hb
 obtain⟨nb,hnb⟩:∃nb,nb=σ.nw b:=⟨_,rfl⟩
 rw[←hnb]at h
 have ha:a<σ.o.length:=by
  refine Nat.lt_of_not_le fun hle=>?_
  have:σ.ob a=⟨0,.none⟩:=by
   simp only[St.ob,List.getD_eq_getElem?_getD]
   rw[List.getElem?_eq_none hle];rfl
  rw[this]at hoba
  cases hoba
 have hτs:∀k,τ.get k=(σ.get k).ren a va b nb:=fun k=>by
  obtain rfl:=Option.some.inj h
  exact lk_sRen
 have hτn:τ.n=σ.n:=by obtain rfl:=Option.some.inj h;rfl
 have hτo:∀i,τ.ob i=if i=a then⟨va,.none⟩else if i=b then⟨nb,.row dp sz es⟩else⟨(σ.ob i).ver,(σ.ob i).oc.ren a va b nb⟩:=fun i=>by
  obtain rfl:=Option.some.inj h
  simp only[St.ob]
  rw[K6q,K6q,List.length_set,Kap,Kak]
  by_cases h1:i=a
  ·rw[if_pos ⟨h1,ha⟩,if_pos h1]
  ·rw[if_neg (fun e=>h1 e.1),if_neg h1]
   by_cases h2:i=b
   ·rw[if_pos ⟨h2,hb⟩,if_pos h2]
   ·rw[if_neg (fun e=>h2 e.1),if_neg h2]
 clear h
 have hva:(σ.ob a).ver=va:=by rw[hoba]
 have hnv:nb=σ.V b+2:=by rw[hnb];rfl
 have hV:∀i,τ.V i=if i=b then nb else σ.V i:=fun i=>by
  simp only[St.V,hτo]
  by_cases h1:i=a
  ·subst h1
   rw[if_pos rfl,if_neg hne];exact hva.symm
  ·rw[if_neg h1]
   by_cases h2:i=b
   ·rw[if_pos h2,if_pos h2]
   ·rw[if_neg h2,if_neg h2]
 obtain⟨F',hF'⟩:∃F':Nat→List Nat,F'=fun i=>if i=b then g.F a else if i=a then []else g.F i:=⟨_,rfl⟩
 obtain⟨H',hH'⟩:∃H':Nat→Nat→Value,H'=fun i v=>if i=b∧v=nb then g.H a va else g.H i v:=⟨_,rfl⟩
 have hF:∀i x,x∈F' i→∃j,x∈g.F j∧(i=b∧j=a∨i≠b∧i≠a∧j=i):=fun i x hx=>by
  rw[hF']at hx
  simp only at hx
  split at hx
  ·rename_i e;exact⟨a,hx,.inl ⟨e,rfl⟩⟩
  ·rename_i e
   split at hx
   ·simp at hx
   ·rename_i e2;exact⟨i,hx,.inr ⟨e,e2,rfl⟩⟩
 have tr:Tr w w σ.V τ.V g ⟨H',F',g.Z⟩:=by
  refine⟨Nat.le_refl _,fun i=>?_,fun i v hv=>?_,fun x _ hx=>⟨rfl,hx.1,fun i he=>?_⟩,fun x _ hx=>⟨hx.1,fun i he=>?_⟩,rfl⟩
  ·rw[hV]
   split
   ·rename_i e;subst e;omega
   ·exact Nat.le_refl _
  ·rw[hH']
   simp only
   rw[if_neg]
   rintro ⟨rfl,rfl⟩
   omega
  ·rw[hF']at he
   simp only at he
   split at he
   ·exact hx.2 a he
   ·split at he
    ·simp at he
    ·exact hx.2 i he
  ·obtain⟨j,hj,_⟩:=hF i x he
   exact hx.2 j hj
 have hHb:(⟨H',F',g.Z⟩:Gh).H b nb=(⟨H',F',g.Z⟩:Gh).H a va:=by
  rw[hH']
  simp only
  rw[if_pos (by simp),if_neg (fun e=>hne e.1)]
 have hnV:nb≤τ.V b:=by rw[hV,if_pos rfl];exact Nat.le_refl _
 refine⟨⟨H',F',g.Z⟩,hτn.trans R.len,fun k=>?_,fun i=>?_,fun i=>?_,fun x i j hi hj=>?_,fun i x hx=>?_,R.grew,R.bs,R.zz,R.zb,R.tb,fun i hi=>?_⟩
 ·rw[hτs]
  exact SlotR.ren hHb hnV (tr.slot _ _ (R.slot k))
 ·rw[hτo]
  by_cases h1:i=a
  ·subst h1
   rw[if_pos rfl]
   simp only[ObjR,hF',if_neg hne,↓reduceIte]
  ·rw[if_neg h1]
   by_cases h2:i=b
   ·subst h2
    rw[if_pos rfl]
    have hO:=R.obj a
    rw[hoba]at hO
    simp only[ObjR]at hO ⊢
    obtain⟨A,cap,k1,k2,k3⟩:=hO
    refine⟨A,cap,?_,k2,?_⟩
    ·rw[hH']
     simp only
     rw[if_pos (by simp)];exact k1
    ·have eF:F' i=g.F a:=by rw[hF'];simp
     rw[eF]
     rcases k3 with k3|⟨b',off,row,ty,G,k4,k5,k6,k7,k8⟩
     ·exact .inl k3
     ·refine .inr ⟨b',off,row,ty,G,k4,k5,k6,?_,k8⟩
      cases dp with
      |true=>simpa using k7
      |false=>
       simp only[Bool.false_eq_true,if_false]at k7 ⊢
       exact⟨RdRow.move tr.kb es off off (fun _ _=>rfl) k7.1,k7.2⟩
   ·rw[if_neg h2]
    have eF:F' i=g.F i:=by rw[hF'];simp only[if_neg h1,if_neg h2]
    have hO:=tr.obj i (σ.ob i).ver (Nat.le_refl _) (by simpa using eF) (fun _ _=>rfl) _ (R.obj i)
    cases hc:(σ.ob i).oc with
    |box cs=>
     rw[hc]at hO
     simp only[ObjR,OC.ren]at hO ⊢
     obtain⟨b',ty,vs,k1,k2,k3,k4⟩:=hO
     exact⟨b',ty,vs,k1,k2,CellsR.ren hHb hnV k3,k4⟩
    |none=>rw[hc]at hO;exact hO
    |row dp' sz' es'=>rw[hc]at hO;exact hO
    |lent sz' es'=>rw[hc]at hO;exact hO
    |hole sz' es' i' k' id2 v2=>rw[hc]at hO;exact hO
 ·simp only[hF']
  split
  ·exact R.nd a
  ·split
   ·exact List.nodup_nil
   ·exact R.nd i
 ·obtain⟨i',hi',ci⟩:=hF i x hi
  obtain⟨j',hj',cj⟩:=hF j x hj
  have hij:=R.dj x i' j' hi' hj'
  rcases ci with ⟨rfl,rfl⟩|⟨c1,c2,rfl⟩<;>rcases cj with ⟨rfl,rfl⟩|⟨c3,c4,rfl⟩
  ·rfl
  ·exact(c4 hij.symm).elim
  ·exact(c2 hij).elim
  ·exact hij
 ·obtain⟨j,hj,_⟩:=hF i x hx
  exact R.frs j x hj
 ·rw[hV]at hi
  split at hi
  ·omega
  ·rename_i e
   rw[hH']
   simp only
   rw[if_neg (fun e'=>e e'.1)]
   exact R.pin i hi
theorem Rel.renA{ps:List (Nat×Nat)}{τ:St}(R:Rel base Z w0 w σ ts g)(h:σ.renA ps=some τ):∃g',Rel base Z w0 w τ ts g':=by
 induction ps generalizing σ g with
 |nil=>simp[St.renA]at h;subst h;exact⟨g,R⟩
 |cons p l ih=>
  simp only[St.renA]at h
  obtain⟨σ1,h1,h2⟩:=Option.bind_eq_some_iff.1 h
  obtain⟨g1,R1⟩:=R.ren1 h1
  exact ih R1 h2
def trimO(σ:St)(d:Nat):SC→Option St
 |.ref id ver sz 0 n=>match σ.ob id with
  |⟨v,.row true sz' es⟩=>if v=ver∧sz=sz'∧n≤es.length then some ⟨ins d (.val false [.ref id (σ.nw id) sz 0 n]) σ.s,σ.n,σ.o.set id ⟨σ.nw id,.row true sz (es.take n)⟩⟩else none
  |_=>none
 |_=>none
def St.trim(σ:St)(d:Nat):Option St:=match σ.get d with
 |.val false [c]=>trimO σ d c
 |_=>none
theorem Rel.trim(R:Rel base Z w0 w σ ts g){d:Nat}{τ:St}(h:σ.trim d=some τ):∃g',Rel base Z w0 w τ ts g':=by
 unfold St.trim at h
 split at h
 rotate_left
 ·simp at h
 rename_i c hd
 unfold trimO at h
 split at h
 rotate_left
 ·simp at h
 rename_i id ver sz n
 split at h
 rotate_left
 ·simp at h
 rename_i v sz' es hob
 obtain⟨⟨hv1,hv2,hn⟩,h2⟩:=Option.ite_none_right_eq_some.1 h
 clear h
 have hS:=R.slot d
 rw[hd]at hS
 simp only[SlotR,ValR,Bool.false_eq_true,if_false]at hS
 obtain⟨c0,hc0,hC⟩:=hS
 obtain rfl:c0= .ref id ver sz 0 n:=by simpa using hc0.symm
 simp only[CellR]at hC
 obtain⟨_,A,len,cap,A',c',hH,hval,hln,hnc,hcc,hA',_⟩:=hC
 have hO:=R.obj id
 rw[hob]at hO
 simp only[ObjR]at hO
 obtain⟨A2,cap2,hH2,hl2,hrow⟩:=hO
 rw[hv1,hH]at hH2
 simp only[Value.slice.injEq]at hH2
 obtain⟨rfl,rfl,rfl⟩:=hH2
 obtain rfl:c'=cap:=by omega
 obtain⟨nb,hnb⟩:∃nb,nb=σ.nw id:=⟨_,rfl⟩
 rw[←hnb]at h2
 have hid:id<σ.o.length:=by
  refine Nat.lt_of_not_le fun hle=>?_
  have:σ.ob id=⟨0,.none⟩:=by
   simp only[St.ob,List.getD_eq_getElem?_getD]
   rw[List.getElem?_eq_none hle];rfl
  rw[this]at hob
  cases hob
 have hτs:∀k,τ.get k=if k=d then .val false [.ref id nb sz 0 n]else σ.get k:=fun k=>by
  obtain rfl:=Option.some.inj h2
  rfl
 have hτn:τ.n=σ.n:=by obtain rfl:=Option.some.inj h2;rfl
 have hτo:∀i,τ.ob i=if i=id then⟨nb,.row true sz (es.take n)⟩else σ.ob i:=fun i=>by
  obtain rfl:=Option.some.inj h2
  simp only[St.ob]
  rw[K6q]
  by_cases h1:i=id
  ·rw[if_pos ⟨h1,hid⟩,if_pos h1]
  ·rw[if_neg (fun e=>h1 e.1),if_neg h1]
 clear h2
 have hnv:nb=σ.V id+2:=by rw[hnb];rfl
 have hV:∀i,τ.V i=if i=id then nb else σ.V i:=fun i=>by
  simp only[St.V,hτo]
  by_cases h1:i=id
  ·rw[if_pos h1,if_pos h1]
  ·rw[if_neg h1,if_neg h1]
 obtain⟨H',hH'⟩:∃H':Nat→Nat→Value,H'=fun i v=>if i=id∧v=nb then ts.getD d undef else g.H i v:=⟨_,rfl⟩
 have hF0:∃F0:List Nat,F0.Sublist (g.F id)∧(F0.head? =none∨F0.head? =(g.F id).head?)∧((c'=0∧es.take n=[]∧F0=[])∨∃b off row ty G,A'=some ⟨b,off,none⟩∧w.heap[b]? =some (.cells row ty (0,0))∧off+c'*sz≤row.size∧OwRow w sz b off (es.take n) G∧F0=b::G):=by
  rcases hrow with ⟨k1,k2,k3⟩|⟨b,off,row,ty,G,k1,k2,k3,k4,k5⟩
  ·exact⟨[],List.nil_sublist _,.inl rfl,.inl ⟨k1,by rw[k2];simp,rfl⟩⟩
  ·simp only[if_true]at k4
   rw[←List.take_append_drop n es]at k4
   obtain⟨G1,G2,r1,r2,rfl⟩:=(K11 _ _ _ _).1 k4
   by_cases hz:c'=0
   ·refine⟨[],List.nil_sublist _,.inl rfl,.inl ⟨hz,?_,rfl⟩⟩
    have:n=0:=by omega
    rw[this];simp
   ·have hA3:=hA'.resolve_left hz
    refine⟨b::G1,by rw[k5];exact(List.sublist_append_left G1 G2).cons_cons b,.inr (by rw[k5];rfl),.inr ⟨b,off,row,ty,G1,by rw[hA3,k1];simp,k2,by rw[←hv2]at k3;exact k3,by rw[←hv2]at r1;exact r1,rfl⟩⟩
 obtain⟨F0,hF1,hF2,hF3⟩:=hF0
 obtain⟨F',hF'⟩:∃F':Nat→List Nat,F'=fun i=>if i=id then F0 else g.F i:=⟨_,rfl⟩
 have hFs:∀i,(F' i).Sublist (g.F i):=fun i=>by
  rw[hF']
  simp only
  split
  ·rename_i e;rw[e];exact hF1
  ·exact List.Sublist.refl _
 have tr:Tr w w σ.V τ.V g ⟨H',F',g.Z⟩:=by
  refine⟨Nat.le_refl _,fun i=>?_,fun i v hv=>?_,fun x _ hx=>⟨rfl,hx.1,fun i he=>?_⟩,fun x _ hx=>⟨hx.1,fun i he=>hx.2 i ((hFs i).subset he)⟩,rfl⟩
  ·rw[hV]
   split
   ·rename_i e;subst e;omega
   ·exact Nat.le_refl _
  ·rw[hH']
   simp only
   rw[if_neg]
   rintro ⟨rfl,rfl⟩
   omega
  ·rw[hF']at he
   simp only at he
   split at he
   ·rename_i e
    rcases hF2 with k|k
    ·rw[k]at he;cases he
    ·rw[k]at he;exact hx.2 id he
   ·exact hx.2 i he
 refine⟨⟨H',F',g.Z⟩,hτn.trans R.len,fun k=>?_,fun i=>?_,fun i=>(hFs i).nodup (R.nd i),fun x i j hi hj=>R.dj x i j ((hFs i).subset hi) ((hFs j).subset hj),fun i x hx=>R.frs i x ((hFs i).subset hx),R.grew,R.bs,R.zz,R.zb,R.tb,fun i hi=>?_⟩
 ·rw[hτs]
  by_cases hk:k=d
  ·subst hk
   rw[if_pos rfl]
   simp only[SlotR,ValR,Bool.false_eq_true,if_false]
   refine⟨_,rfl,?_⟩
   simp only[CellR]
   refine⟨by rw[hV,if_pos rfl];exact Nat.le_refl _,A',n,c',A',c',?_,hval,by omega,hnc,by omega,?_,?_⟩
   ·rw[hH']
    simp only
    rw[if_pos (by simp)]
    exact hval
   ·by_cases hz:c'=0
    ·exact .inl hz
    ·right
     rcases hF3 with k|⟨b,off,row,ty,G,k1,_⟩
     ·exact(hz k.1).elim
     ·rw[k1];simp
   ·by_cases hz:c'=0
    ·exact .inl hz
    ·right
     rcases hF3 with k|⟨b,off,row,ty,G,k1,_⟩
     ·exact(hz k.1).elim
     ·intro a ha
      rw[k1]at ha
      obtain rfl:=Option.some.inj ha
      rfl
  ·rw[if_neg hk]
   exact tr.slot _ _ (R.slot k)
 ·rw[hτo]
  by_cases h1:i=id
  ·subst h1
   rw[if_pos rfl]
   simp only[ObjR]
   have hlt:(es.take n).length=n:=by simp;omega
   refine⟨A',c',?_,by rw[hlt];exact⟨hnc,by have:=hl2.2.1;omega,hl2.2.2⟩,?_⟩
   ·rw[hH']
    simp only
    rw[if_pos (by simp),hlt]
    exact hval
   ·have eF:F' i=F0:=by rw[hF'];simp
    rw[eF]
    simpa using hF3
  ·rw[if_neg h1]
   exact tr.obj i _ (Nat.le_refl _) (by simp[hF',h1]) (fun _ _=>rfl) _ (R.obj i)
 ·rw[hV]at hi
  split at hi
  ·omega
  ·rename_i e
   rw[hH']
   simp only
   rw[if_neg (fun e'=>e e'.1)]
   exact R.pin i hi
end
end Go.Proofs.YtjneccbpkckdfaaGreatR
namespace Go.Proofs.YtjneccbpkckdfaaGreatR
open Go Go.RowKit
inductive Xt where
 |nrm
 |ex (id:Nat)
 |ret
 deriving DecidableEq,Inhabited
inductive MC where
 |skip
 |reg (ms:List MOp) (keep:List Nat)
 |dreg (ms:List MOp) (keep:List Nat)
 | dregI (ms : List MOp) (keep : List Nat)     -- a drawn region with operations that turn what is borrowed
 |seq (a b:MC)
 |cond (c:Od) (a b:MC)
 |block (id:Nat) (a:MC)
 |loop (keep:List Nat×List Nat) (a:MC)
 |exit (id:Nat)
 |ret
 | condN (d1 d2 : Nat) (x : Od) (a b : MC)      -- x held against nil: a, where it may be nil; b, where it may not be
 | ren (ps : List (Nat × Nat)) (a : MC)         -- objects of one's own are told by other numbers ahead of a
 | trim (d : Nat) (a : MC)                      -- ahead of a: the object that slot d shows the beginning of is that beginning from here on
 | dead                                         -- code that is never come to
 deriving Inhabited
def MC.det:MC→Bool
 |.seq a b=>a.det&&b.det
 |.cond _ a b=>a.det&&b.det
 |.block _ a=>a.det
 |.loop _ a=>a.det
 |.condN ..=>false
 |.ren _ a=>a.det
 |.trim _ a=>a.det
 |_=>true
def chkC(P:Program):Code→MC→Bool
 |.skip,.skip=>true
 |.region _ ops d,.reg ms _=> !d&&K1z P ops ops.toList ms
 |.region _ ops d,.dreg ms _=>d&&K1z P ops ops.toList ms&&chkD ms 0 ops.toList ms&&ms.all fun m=> !isI m.o
 |.region _ ops d,.dregI ms _=>d&&K1z P ops ops.toList ms&&chkD ms 0 ops.toList ms&&chkNb ms
 |.seq x y,.seq a b=>chkC P x a&&chkC P y b
 |.seq (.region _ ops d) (.cond c x y),.condN d1 d2 od a b=> !d&&chkN P ops c d1 d2 od&&chkC P x a&&chkC P y b
 |.cond c x y,.cond c' a b=>K3 c c'&&chkC P x a&&chkC P y b
 |.block id x,.block id' a=>id==id'&&chkC P x a
 |.loop x,.loop _ a=>chkC P x a
 |.exit id,.exit id'=>id==id'
 |.ret,.ret=>true
 |c,.ren _ a=>chkC P c a
 |c,.trim _ a=>chkC P c a
 |_,.dead=>true
 |_,_=>false
def St.lo(σ:St)(kp:List Nat×List Nat):St:=⟨(σ.only kp.1).s,σ.n,hideO kp.2 0 σ.o⟩
theorem Rel.lo{base:Nat→Prop}{Z:ZZ}{w0 w:World}{σ:St}{ts:Array Value}{g:Gh}(R:Rel base Z w0 w σ ts g)(kp:List Nat×List Nat):
  ∃g',Rel base Z w0 w (σ.lo kp) ts g':=by
 have hob:∀id,(σ.lo kp).ob id=if kp.2.contains id then⟨(σ.ob id).ver,.none⟩else σ.ob id:=fun id=>K95 (σ:=σ) [] kp.2 id
 have hV:(σ.lo kp).V=σ.V:=by
  funext id
  simp only[St.V,hob]
  split<;>rfl
 have hF:∀id b,b∈(if kp.2.contains id then []else g.F id)→b∈g.F id:=by
  intro id b hb
  split at hb
  ·simp at hb
  ·exact hb
 have hh:∀id b,(if kp.2.contains id then []else g.F id).head? =some b→(g.F id).head? =some b:=by
  intro id b hb
  split at hb
  ·simp at hb
  ·exact hb
 have tr:Tr w w σ.V (σ.lo kp).V g ⟨g.H,fun id=>if kp.2.contains id then []else g.F id,g.Z⟩:=by
  refine⟨Nat.le_refl _,fun id=>by rw[hV];exact Nat.le_refl _,fun _ _ _=>rfl,fun b _ hb=>⟨rfl,hb.1,fun id he=>hb.2 id (hh id b he)⟩,fun b _ hb=>⟨hb.1,fun id he=>hb.2 id (hF id b he)⟩,rfl⟩
 refine⟨⟨g.H,fun id=>if kp.2.contains id then []else g.F id,g.Z⟩,R.len,fun k=>?_,fun id=>?_,fun id=>?_,fun b i j hi hj=>R.dj b i j (hF i b hi) (hF j b hj),fun i b hi=>R.frs i b (hF i b hi),R.grew,R.bs,R.zz,R.zb,R.tb,fun id h=>R.pin id (by rw[←hV];exact h)⟩
 ·exact tr.slot _ _ ((R.only kp.1).slot k)
 ·rw[hob]
  by_cases hc:kp.2.contains id
  ·rw[if_pos hc]
   simp only[ObjR,if_pos hc]
  ·rw[if_neg hc]
   exact tr.obj id _ (Nat.le_refl _) (by simp only[if_neg hc]) (fun _ _=>rfl) _ (R.obj id)
 ·simp only
  split
  ·exact List.nodup_nil
  ·exact R.nd id
def bdSC:SC→Prop
 |.pl t=>bdT t
 |.bor t=>bdT t
 |_=>True
def bdCs:List SC→Prop
 | []=>True
 |c::cs=>bdSC c∧bdCs cs
def bdVs:List (Bool×List SC)→Prop
 | []=>True
 |v::vs=>bdCs v.2∧bdVs vs
def bdSV:SV→Prop
 |.val _ cs=>bdCs cs
 |.tup vs=>bdVs vs
 |_=>True
def bdOC:OC→Prop
 |.row _ _ es=>es.length≤roomB∧bdR es
 |.lent _ es=>es.length≤roomB∧bdR es
 |_=>True
def K5r(σ:St):List Nat→Prop
 | []=>True
 |id::l=>bdOC (σ.ob id).oc∧K5r σ l
def bdM(σ:St):MO→Prop
 |.call d ids _ _=>bdSV (σ.get d)∧K5r σ ids
 |_=>True
def bdC(σ:St):List MOp→Prop
 | []=>True
 |m::ms=>bdM σ m.o∧bdC σ ms
def wpC(P:Program):MC→(Xt→St→Prop)→St→Prop
 |.skip,Q,σ=>Q .nrm σ
 |.reg ms keep,Q,σ=>wpR P ms σ fun σ'=>bdC σ' ms→Q .nrm (σ'.only keep)
 |.dreg ms keep,Q,σ=>wpD P ms σ fun σ'=>bdC σ' ms→Q .nrm (σ'.only keep)
 |.dregI ms keep,Q,σ=>σ.noB=true∧wpD P ms σ fun σ'=>bdC σ' ms→Q .nrm (σ'.only keep)
 |.seq a b,Q,σ=>wpC P a (fun x σ'=>match x with
  |.nrm=>wpC P b Q σ'
  |x=>Q x σ') σ
 |.cond c a b,Q,σ=>∃t,(σ.sca c).bind vBool=some t∧(t=true→wpC P a Q σ)∧(t=false→wpC P b Q σ)
 |.block id a,Q,σ=>wpC P a (fun x σ'=>match x with
  |.ex i=>if i=id then Q .nrm σ' else Q (.ex i) σ'
  |x=>Q x σ') σ
 |.loop keep a,Q,σ=>∃(n:Nat) (S:Nat→St),0<n∧(σ.lo keep).re=some (S 0)∧∀k,k<n→wpC P a (fun x σ'=>match x with
  |.nrm=>k+1<n∧(σ'.lo keep).re=some (S (k+1))
  |x=>Q x σ') (S k)
 |.exit id,Q,σ=>Q (.ex id) σ
 |.ret,Q,σ=>Q .ret σ
 |.condN d1 d2 x a b,Q,σ=>σ.get d1= .undef∧σ.get d2= .undef∧d1<σ.n∧d2<σ.n∧∃c r,(σ.ev x).one=some c∧σ.rows c=some r∧(r.2=[]→wpC P a Q σ)∧wpC P b Q σ
 |.ren ps a,Q,σ=>∃τ,σ.renA ps=some τ∧wpC P a Q τ
 |.trim d a,Q,σ=>∃τ,σ.trim d=some τ∧wpC P a Q τ
 |.dead,_,_=>False
def Xt.e:Xt→Exit
 |.nrm=> .normal
 |.ex id=> .exit id
 |.ret=> .ret
section
variable {P:Program} {base:Nat→Prop} {Z:ZZ} {w0:World}
theorem CellR.bd_{w:World}{V:Nat→Nat}{g:Gh}:∀ {c:SC} {v:Value},CellR w V g c v→bdSC c
 |.pl t,v,h=>Rd.bd t v h
 |.bor t,v,h=>Rd.bd t v h
 |.emp _,_,_=>trivial
 |.ref ..,_,_=>trivial
 |.clo ..,_,_=>trivial
theorem CellsR.bd_{w:World}{V:Nat→Nat}{g:Gh}:∀ {cs:List SC} {vs:List Value},CellsR w V g cs vs→bdCs cs
 | [],[],_=>trivial
 |_::_,_::_,h=>⟨CellR.bd_ h.1,CellsR.bd_ h.2⟩
 | [],_::_,h=>h.elim
 |_::_,[],h=>h.elim
theorem ValR.bd_{w:World}{V:Nat→Nat}{g:Gh}{ag:Bool}{cs:List SC}{v:Value}(h:ValR w V g ag cs v):bdCs cs:=by
 unfold ValR at h
 split at h
 ·obtain⟨vs,_,h⟩:=h;exact CellsR.bd_ h
 ·obtain⟨c,rfl,h⟩:=h;exact⟨CellR.bd_ h,trivial⟩
theorem ValsR.bd_{w:World}{V:Nat→Nat}{g:Gh}:∀ {xs:List (Bool×List SC)} {vs:List Value},ValsR w V g xs vs→bdVs xs
 | [],[],_=>trivial
 |_::_,_::_,h=>⟨ValR.bd_ h.1,ValsR.bd_ h.2⟩
 | [],_::_,h=>h.elim
 |_::_,[],h=>h.elim
theorem SlotR.bd_{w:World}{V:Nat→Nat}{g:Gh}:∀ {s:SV} {v:Value},SlotR w V g s v→bdSV s
 |.undef,_,_=>trivial
 |.skp,_,_=>trivial
 |.val ag cs,v,h=>ValR.bd_ (ag:=ag) (v:=v) h
 |.adr _,_,_=>trivial
 |.tup vs,_,h=>by obtain⟨us,_,h⟩:=h;exact ValsR.bd_ h
 |.arr ..,_,_=>trivial
theorem Rel.bdO{w:World}{σ:St}{ts:Array Value}{g:Gh}(R:Rel base Z w0 w σ ts g)(id:Nat):bdOC (σ.ob id).oc:=by
 cases h:(σ.ob id).oc with
 |none=>trivial
 |box cs=>trivial
 |hole=>trivial
 |row dp sz es=>
  obtain⟨A,cap,_,hl,hr⟩:=R.shown (.inl ⟨dp,h⟩)
  refine⟨hl.2.1,?_⟩
  rcases hr with hr|⟨b,off,_,_,hr⟩
  ·rw[hr];trivial
  ·exact RdRow.bd es off hr
 |lent sz es=>
  obtain⟨A,cap,_,hl,hr⟩:=R.shown (.inr h)
  refine⟨hl.2.1,?_⟩
  rcases hr with hr|⟨b,off,_,_,hr⟩
  ·rw[hr];trivial
  ·exact RdRow.bd es off hr
theorem Rel.bdC_{w:World}{σ:St}{ts:Array Value}{g:Gh}(R:Rel base Z w0 w σ ts g):∀ms:List MOp,bdC σ ms
 | []=>trivial
 |m::ms=>by
  refine⟨?_,R.bdC_ ms⟩
  unfold bdM
  split
  ·rename_i d ids _ _ _
   refine⟨(R.slot d).bd_,?_⟩
   have key:∀ids:List Nat,K5r σ ids:=by
    intro ids
    induction ids with
    |nil=>trivial
    |cons id l ih=>exact⟨R.bdO id,ih⟩
   exact key ids
  ·trivial
theorem K52(hmix:P.follows .mixedOrders=true):∀ {M:MC} {c:Code} {Q:Xt→St→Prop} {Q':Exit→Act→World→Prop} {σ:St} {a:Act} {w:World} {g:Gh} (_:chkC P c M=true) (_:Rel base Z w0 w σ a.tmps g) (_:wpC P M Q σ)
  (_:∀x σ' a' w' g',Q x σ'→a'.defers=a.defers→Rel base Z w0 w' σ' a'.tmps g'→Q' x.e a' w'),c.wp P Q' a w:=by
 intro M
 induction M with
 |skip=>
  intro c Q Q' σ a w g hc R h hQ
  cases c<;>simp only[chkC,Bool.false_eq_true]at hc
  exact wp_skip (hQ .nrm σ a w g h rfl R)
 |reg ms keep=>
  intro c Q Q' σ a w g hc R h hQ
  cases c<;>simp only[chkC,Bool.false_eq_true]at hc
  rename_i n ops d
  simp only[Bool.and_eq_true,Bool.not_eq_true']at hc
  obtain⟨rfl,hc⟩:=hc
  exact wp_reg hc R h fun σ' a' w' g' hk hd R'=>hQ .nrm _ a' w' g' (hk (R'.bdC_ ms)) hd (R'.only keep)
 |dreg ms keep=>
  intro c Q Q' σ a w g hc R h hQ
  cases c<;>simp only[chkC,Bool.false_eq_true]at hc
  rename_i n ops d
  simp only[Bool.and_eq_true]at hc
  obtain⟨⟨⟨rfl,hc⟩,hd⟩,hN⟩:=hc
  refine wp_dreg hmix hc hd (.inl fun m hm=>?_) R h fun σ' a' w' g' hk hd R'=>hQ .nrm _ a' w' g' (hk (R'.bdC_ ms)) hd (R'.only keep)
  have:=List.all_eq_true.1 hN m hm
  simpa using this
 |dregI ms keep=>
  intro c Q Q' σ a w g hc R h hQ
  cases c<;>simp only[chkC,Bool.false_eq_true]at hc
  rename_i n ops d
  simp only[Bool.and_eq_true]at hc
  obtain⟨⟨⟨rfl,hc⟩,hd⟩,hN⟩:=hc
  exact wp_dreg hmix hc hd (.inr ⟨h.1,hN⟩) R h.2 fun σ' a' w' g' hk hd R'=>hQ .nrm _ a' w' g' (hk (R'.bdC_ ms)) hd (R'.only keep)
 |seq x y ihx ihy=>
  intro c Q Q' σ a w g hc R h hQ
  cases c<;>simp only[chkC,Bool.false_eq_true]at hc
  simp only[Bool.and_eq_true]at hc
  refine wp_seq (ihx hc.1 R h fun x σ' a' w' g' hq hd R'=>?_)
  cases x with
  |nrm=>exact ihy hc.2 R' hq fun x σ'' a'' w'' g'' hq' hd' R''=>hQ x σ'' a'' w'' g'' hq' (hd'.trans hd) R''
  |ex id=>exact hQ (.ex id) σ' a' w' g' hq hd R'
  |ret=>exact hQ .ret σ' a' w' g' hq hd R'
 |cond c' x y ihx ihy=>
  intro c Q Q' σ a w g hc R h hQ
  cases c<;>simp only[chkC,Bool.false_eq_true]at hc
  simp only[Bool.and_eq_true]at hc
  obtain⟨t,ht,h1,h2⟩:=h
  obtain⟨v,hv,hb⟩:=Option.bind_eq_some_iff.1 ht
  have hbv:v= .bool t:=by unfold vBool at hb;split at hb<;>simp_all
  refine wp_cond_split (t:=t) (by rw[(R.sca hc.1.1 hv).1,hbv]) (fun e=>ihx hc.1.2 R (h1 e) hQ) (fun e=>ihy hc.2 R (h2 e) hQ)
 |block id x ih=>
  intro c Q Q' σ a w g hc R h hQ
  cases c<;>simp only[chkC,Bool.false_eq_true]at hc
  simp only[Bool.and_eq_true,beq_iff_eq]at hc
  obtain⟨rfl,hc⟩:=hc
  refine wp_block (ih hc R h fun x σ' a' w' g' hq hd R'=>?_)
  cases x with
  |nrm=>exact hQ .nrm σ' a' w' g' hq hd R'
  |ret=>exact hQ .ret σ' a' w' g' hq hd R'
  |ex i=>
   simp only[Xt.e,Exit.inBlock]at hq ⊢
   split at hq
   ·rename_i hi;rw[if_pos hi];exact hQ .nrm σ' a' w' g' hq hd R'
   ·rename_i hi;rw[if_neg hi];exact hQ (.ex i) σ' a' w' g' hq hd R'
 |loop keep x ih=>
  intro c Q Q' σ a w g hc R h hQ
  cases c<;>simp only[chkC,Bool.false_eq_true]at hc
  rename_i c
  obtain⟨n,S,hn,h0,hS⟩:=h
  have key:∀(m k:Nat) (a':Act) (w':World) (g':Gh),k+m=n→0<m→a'.defers=a.defers→Rel base Z w0 w' (S k) a'.tmps g'→Code.rounds P c Q' m a' w':=by
   intro m
   induction m with
   |zero=>intro k a' w' g' _ h;omega
   |succ m ihm=>
    intro k a' w' g' hk _ hd R'
    rw[rounds_succ]
    refine ih hc R' (hS k (by omega)) fun x σ' a'' w'' g'' hq hd' R''=>?_
    cases x with
    |nrm=>
     obtain⟨g3,R3⟩:=R''.lo keep
     exact ihm (k+1) a'' w'' _ (by omega) (by omega) (hd'.trans hd) (R3.re hq.2)
    |ex id=>exact hQ (.ex id) σ' a'' w'' g'' hq (hd'.trans hd) R''
    |ret=>exact hQ .ret σ' a'' w'' g'' hq (hd'.trans hd) R''
  obtain⟨g3,R3⟩:=R.lo keep
  exact wp_loop_rounds n (key n 0 a w _ (by omega) hn rfl (R3.re h0))
 |exit id=>
  intro c Q Q' σ a w g hc R h hQ
  cases c<;>simp only[chkC,Bool.false_eq_true]at hc
  obtain rfl:=beq_iff_eq.1 hc
  exact wp_exit (hQ (.ex _) σ a w g h rfl R)
 |condN d1 d2 od x y ihx ihy=>
  intro c Q Q' σ a w g hc R h hQ
  have hcc:∃n ops d c' x' y',c= .seq (.region n ops d) (.cond c' x' y')∧(!d&&chkN P ops c' d1 d2 od&&chkC P x' x&&chkC P y' y)=true:=by
   cases c<;>try (simp only[chkC,Bool.false_eq_true]at hc;done)
   rename_i p q
   cases p<;>try (simp only[chkC,Bool.false_eq_true]at hc;done)
   cases q<;>try (simp only[chkC,Bool.false_eq_true]at hc;done)
   exact⟨_,_,_,_,_,_,rfl,hc⟩
  obtain⟨n,ops,d,c',x',y',rfl,hck⟩:=hcc
  simp only[Bool.and_eq_true,Bool.not_eq_true']at hck
  obtain⟨⟨⟨rfl,hn⟩,hc1⟩,hc2⟩:=hck
  obtain⟨h1,h2,h3,h4,cell,r,h5,h6,h7,h8⟩:=h
  exact wp_nil hn R h5 h6 h1 h2 ⟨h3,h4⟩ (fun a' hd R' he=>ihx hc1 R' (h7 he) fun x σ' a'' w'' g'' hq hd' R''=>hQ x σ' a'' w'' g'' hq (hd'.trans hd) R'') (fun a' hd R'=>ihy hc2 R' h8 fun x σ' a'' w'' g'' hq hd' R''=>hQ x σ' a'' w'' g'' hq (hd'.trans hd) R'')
 |trim d x ih=>
  intro c Q Q' σ a w g hc R h hQ
  have hc':chkC P c x=true:=by
   cases c<;>simpa only[chkC]using hc
  obtain⟨τ,h1,h2⟩:=h
  obtain⟨g',R'⟩:=R.trim h1
  exact ih hc' R' h2 hQ
 |dead=>
  intro c Q Q' σ a w g hc R h hQ
  exact h.elim
 |ren ps x ih=>
  intro c Q Q' σ a w g hc R h hQ
  have hc':chkC P c x=true:=by
   cases c<;>simpa only[chkC]using hc
  obtain⟨τ,h1,h2⟩:=h
  obtain⟨g',R'⟩:=R.renA h1
  exact ih hc' R' h2 hQ
 |ret=>
  intro c Q Q' σ a w g hc R h hQ
  cases c<;>simp only[chkC,Bool.false_eq_true]at hc
  exact wp_ret (hQ .ret σ a w g h rfl R)
end
end Go.Proofs.YtjneccbpkckdfaaGreatR
namespace Go.Proofs.YtjneccbpkckdfaaGreatR
open Go Go.RowKit
inductive MR where
 |tmp (t:Nat)
 |cell (a:Nat) (agg:Bool) (n:Nat)
 deriving Inhabited
def St.resv(σ:St):MR→Option (Bool×List SC)
 |.tmp t=>(σ.get t).all
 |.cell a agg n=>(σ.adr (.s a)).bind fun ad=>(σ.load n ad).bind fun cs=>if agg=true∨n=1 then some (agg,cs)else none
def K1b(P:Program):List ResultVar→List MR→Bool
 | [],[]=>true
 |.tmp t::l,.tmp k::m=>t==k&&K1b P l m
 |.cell a t::l,.cell k agg n::m=>a==k&&tyB P t agg n&&K1b P l m
 |_,_=>false
def St.embR(σ:St):SC→Option (T×Kd)
 |.ref id ver sz (lo+1) n=>match σ.ob id with
  |⟨v,.row true sz' es⟩=>if v=ver∧sz=sz'∧lo+1+n≤es.length then some (.sl sz (cut (lo+1) n es),.own id)else none
  |_=>none
 |c=>σ.emb c
def outC(σ:St):List Bool→List SC→Option (List (Bool×T)×List Kd×Md)
 | [],[]=>some ([],[],.e)
 |true::fl,c::cs=>(σ.embR c).bind fun x=>(outC σ fl cs).map fun y=>((true,x.1)::y.1,x.2::y.2.1,y.2.2)
 |false::fl,c::cs=>(σ.con1 c).bind fun t=>(outC σ fl cs).map fun y=>((false,t)::y.1,y.2.1,(c.md σ).join y.2.2)
 |_,_=>none
def outR(σ:St):List (MR×List Bool)→Option (List RV×List Kd×Md)
 | []=>some ([],[],.e)
 |(r,fl)::l=>(σ.resv r).bind fun v=>(outC σ fl v.2).bind fun x=>(outR σ l).map fun y=>(⟨v.1,x.1⟩::y.1,x.2.1++y.2.1,x.2.2.join y.2.2)
def outs(σ:St)(rs:List (MR×List Bool)):Option (List RV):=(outR σ rs).bind fun x=>
 if neuO x.2.1=true∧distinct (owns x.2.1)=true∧(owns x.2.1=[]∨x.2.2= .e)then some x.1 else none
section
variable {P:Program} {base:Nat→Prop} {Z:ZZ} {w0 w:World} {σ:St} {g:Gh} {ts:Array Value} {Y:Nat→Prop}
theorem Rel.embR(R:Rel base Z w0 w σ ts g){c:SC}{v:Value}(h:CellR w σ.V g c v){t:T}{k:Kd}(he:σ.embR c=some (t,k)):
  (k= .neu∧Ow w t v []∧Rd w (Xb g) t v)∨(∃id F',k= .own id∧Ow w t v F'∧F'.Sublist (g.F id)∧∃dp sz es,(σ.ob id).oc= .row dp sz es)∨(k= .shr∧Rd w (Xb g) t v):=by
 unfold St.embR at he
 split at he
 rotate_left
 ·exact R.emb h he
 rename_i id ver sz lo n
 split at he
 rotate_left
 ·simp at he
 rename_i v' sz' es hob
 split at he
 rotate_left
 ·simp at he
 rename_i hh
 simp at he
 obtain⟨rfl,rfl⟩:=he
 obtain⟨rfl,rfl,hle⟩:=hh
 right;left
 have ho:=R.obj id
 rw[hob]at ho
 simp only[ObjR]at ho
 simp only[CellR]at h
 obtain⟨_,A,len,cap,A',c',hH,hv,hn,hnc,hcc,hA',hsp⟩:=h
 obtain⟨A2,cap2,hH2,hl2,ho⟩:=ho
 rw[hH2]at hH
 simp only[Value.slice.injEq]at hH
 obtain⟨rfl,rfl,rfl⟩:=hH
 have hcut:cut (lo+1) n es=(es.drop (lo+1)).take n:=by simp[cut]
 have hlen:((es.drop (lo+1)).take n).length=n:=by simp;omega
 rw[hcut]
 by_cases hc0:c'=0
 ·refine⟨id,[],rfl,?_,List.nil_sublist _,true,sz,es,by rw[hob]⟩
  have:n=0:=by omega
  subst this
  unfold Ow
  exact⟨A',c',by simpa using hv,by rw[hlen];exact⟨hnc,by omega⟩,.inl ⟨hc0,by simp,rfl⟩⟩
 ·rcases ho with ho|⟨b,off,row,ty,G,hA,hc,hs,hr,hG⟩
  ·omega
  subst hA
  have hA3:=hA'.resolve_left hc0
  simp only[if_true]at hr
  rw[←List.take_append_drop (lo+1) es]at hr
  obtain⟨G1,G2,r1,r2,rfl⟩:=(K11 _ _ _ _).1 hr
  rw[←List.take_append_drop n (es.drop (lo+1))]at r2
  obtain⟨G3,G4,r3,r4,rfl⟩:=(K11 _ _ _ _).1 r2
  rw[List.length_take,Nat.min_eq_left (by omega)]at r3
  refine⟨id,b::G3,rfl,?_,?_,true,sz,es,by rw[hob]⟩
  ·unfold Ow
   refine⟨A',c',by rw[hlen];exact hv,by rw[hlen];exact⟨hnc,by have:=hl2.2;omega,by have:=hl2.2;omega⟩,?_⟩
   right
   refine⟨b,off+(lo+1)*sz,row,ty,G3,by simpa using hA3,hc,?_,r3,rfl⟩
   have:(lo+1+c')*sz≤cap2*sz:=Nat.mul_le_mul_right _ (by omega)
   rw[Nat.add_mul]at this
   omega
  ·rw[hG]
   exact(((List.sublist_append_left G3 G4).trans (List.sublist_append_right G1 _))).cons_cons b
theorem Rel.outC(R:Rel base Z w0 w σ ts g):∀ {fl:List Bool} {cs:List SC} {vs:List Value} {x:List (Bool×T)×List Kd×Md},CellsR w σ.V g cs vs→Go.Proofs.YtjneccbpkckdfaaGreatR.outC σ fl cs=some x→neuO x.2.1=true→
  ∃G,G.Sublist ((owns x.2.1).flatMap g.F)∧∀(m:Md) (Y:Nat→Prop),x.2.2.le m→(∀b,Xm g m b→Y b)→ResC w Y x.1 vs G
 | [],[],[],x,_,h,_=>by
  simp[Go.Proofs.YtjneccbpkckdfaaGreatR.outC]at h;subst h
  exact⟨[],by simp,fun _ _ _ _=>by simp[ResC]⟩
 |true::fl,c::cs,v::vs,x,hr,h,hn=>by
  simp only[Go.Proofs.YtjneccbpkckdfaaGreatR.outC]at h
  obtain⟨e,he,h⟩:=Option.bind_eq_some_iff.1 h
  obtain⟨y,hy,rfl⟩:=Option.map_eq_some_iff.1 h
  simp only[neuO,List.all_cons,Bool.and_eq_true]at hn
  obtain⟨G,h1,h2⟩:=Rel.outC R hr.2 hy hn.2
  obtain⟨t,k⟩:=e
  rcases R.embR hr.1 he with ⟨rfl,ho,_⟩|⟨id,F',rfl,ho,hs,_⟩|⟨rfl,_⟩
  ·refine⟨G,by simpa[owns]using h1,fun m Y hm hY=>?_⟩
   simp only[ResC]
   exact⟨[],G,ho,h2 m Y hm hY,rfl⟩
  ·refine⟨F'++G,by simpa[owns]using hs.append h1,fun m Y hm hY=>?_⟩
   simp only[ResC]
   exact⟨F',G,ho,h2 m Y hm hY,rfl⟩
  ·simp at hn
 |false::fl,c::cs,v::vs,x,hr,h,hn=>by
  simp only[Go.Proofs.YtjneccbpkckdfaaGreatR.outC]at h
  obtain⟨t,ht,h⟩:=Option.bind_eq_some_iff.1 h
  obtain⟨y,hy,rfl⟩:=Option.map_eq_some_iff.1 h
  obtain⟨G,h1,h2⟩:=Rel.outC R hr.2 hy hn
  refine⟨G,h1,fun m Y hm hY=>?_⟩
  simp only[ResC]
  exact⟨K78 (R.rd_con1 hr.1 ht (Md.le_trans (K36 _ _) hm)) hY,h2 m Y (Md.le_trans (K3c _ _) hm) hY⟩
 | [],_::_,_,_,_,h,_=>by simp[Go.Proofs.YtjneccbpkckdfaaGreatR.outC]at h
 |true::_,[],_,_,_,h,_=>by simp[Go.Proofs.YtjneccbpkckdfaaGreatR.outC]at h
 |false::_,[],_,_,_,h,_=>by simp[Go.Proofs.YtjneccbpkckdfaaGreatR.outC]at h
 |_,[],_::_,_,hr,_,_=>hr.elim
 |_,_::_,[],_,hr,_,_=>hr.elim
def resF(ts:Array Value):ResultVar→Sem Value
 |.tmp t=>pure (ts.getD t undef)
 |.cell a t=>do loadVar t (←asAddr (ts.getD a undef))
theorem Rel.resv(R:Rel base Z w0 w σ ts g){r:ResultVar}{m:MR}(hc:K1b P [r] [m]=true){v:Bool×List SC}(h:σ.resv m=some v):
  ∃u,(resF ts r).run P w= .ok u w∧ValR w σ.V g v.1 v.2 u:=by
 cases r with
 |tmp t=>
  cases m<;>simp only[K1b,Bool.and_true,Bool.false_eq_true]at hc
  obtain rfl:=beq_iff_eq.1 hc
  simp only[St.resv]at h
  have hS:=R.slot t
  rw[K25 h]at hS
  exact⟨_,rfl,hS⟩
 |cell ad ty=>
  cases m<;>simp only[K1b,Bool.and_true,Bool.false_eq_true]at hc
  rename_i k agg n
  simp only[Bool.and_eq_true,beq_iff_eq]at hc
  obtain⟨rfl,ht⟩:=hc
  simp only[St.resv]at h
  obtain⟨a1,h1,h⟩:=Option.bind_eq_some_iff.1 h
  obtain⟨cs,h2,h⟩:=Option.bind_eq_some_iff.1 h
  obtain⟨h3,h⟩:=Option.ite_none_right_eq_some.1 h
  simp only[Option.some.injEq]at h
  subst h
  have hA:=Rel.adr (a:=⟨ts,[]⟩) R (y:= .tmp ad) (x:= .s ad) (by simp[K3]) h1
  obtain⟨b,o',vs,hv,hn,hcell,hr⟩:=R.load hA h2
  have hv':ts.getD ad undef= .pointer (some ⟨b,o',none⟩):=hv
  refine⟨if agg then .agg vs.toArray else vs.getD 0 undef,?_,?_⟩
  ·simp only[resF,hv',asAddr,Sem.run_bind,Sem.run_pure,Result.andThen_ok]
   exact K3n (K4n ht) hn hcell h3
  ·simp only[ValR]
   cases agg with
   |true=>simp only[if_true];exact⟨vs,rfl,hr⟩
   |false=>
    simp only[Bool.false_eq_true,if_false]
    have hn1:n=1:=by simpa using h3
    subst hn1
    obtain⟨u,rfl⟩:=List.length_eq_one_iff.1 hn
    cases cs with
    |nil=>exact hr.elim
    |cons c cs=>
     cases cs with
     |nil=>exact⟨c,rfl,hr.1⟩
     |cons c' cs=>exact hr.2.elim
theorem Kba{r:ResultVar}{l:List ResultVar}{m:MR}{ms:List MR}(h:K1b P (r::l) (m::ms)=true):K1b P [r] [m]=true∧K1b P l ms=true:=by
 cases r<;>cases m<;>simp_all[K1b]
theorem Rel.outR(R:Rel base Z w0 w σ ts g):∀ {l:List ResultVar} {rs:List (MR×List Bool)} {x:List RV×List Kd×Md},K1b P l (rs.map (·.1))=true→Go.Proofs.YtjneccbpkckdfaaGreatR.outR σ rs=some x→neuO x.2.1=true→
  ∃us G,(l.mapM (resF ts)).run P w= .ok us w∧G.Sublist ((owns x.2.1).flatMap g.F)∧∀(m:Md) (Y:Nat→Prop),x.2.2.le m→(∀b,Xm g m b→Y b)→ResVs w Y x.1 us G
 | [],[],x,_,h,_=>by
  simp[Go.Proofs.YtjneccbpkckdfaaGreatR.outR]at h;subst h
  exact⟨[],[],by simp,by simp,fun _ _ _ _=>by simp[ResVs]⟩
 |r::l,(m,fl)::rs,x,hc,h,hn=>by
  obtain⟨c1,c2⟩:=Kba hc
  simp only[Go.Proofs.YtjneccbpkckdfaaGreatR.outR]at h
  obtain⟨v,hv,h⟩:=Option.bind_eq_some_iff.1 h
  obtain⟨y,hy,h⟩:=Option.bind_eq_some_iff.1 h
  obtain⟨z,hz,rfl⟩:=Option.map_eq_some_iff.1 h
  simp only[neuO,List.all_append,Bool.and_eq_true]at hn
  obtain⟨u,hu,hval⟩:=R.resv c1 hv
  obtain⟨us,G2,hrun,hs2,hR2⟩:=Rel.outR R c2 hz hn.2
  have hcells:∃vs:List Value,CellsR w σ.V g v.2 vs∧∀(Y:Nat→Prop) (G:List Nat),ResC w Y y.1 vs G→ResV w Y ⟨v.1,y.1⟩ u G:=by
   unfold ValR at hval
   unfold ResV
   cases hag:v.1 with
   |true=>
    simp only[hag,if_true]at hval ⊢
    obtain⟨vs,hvs,hr⟩:=hval
    exact⟨vs,hr,fun Y G h=>⟨vs,hvs,h⟩⟩
   |false=>
    simp only[hag,Bool.false_eq_true,if_false]at hval ⊢
    obtain⟨c,hcs,hr⟩:=hval
    refine⟨[u],by rw[hcs];exact⟨hr,trivial⟩,fun Y G h=>⟨?_,h⟩⟩
    rw[hcs]at hy
    cases fl with
    |nil=>simp[Go.Proofs.YtjneccbpkckdfaaGreatR.outC]at hy
    |cons f fl=>
     cases f with
     |true=>
      simp only[Go.Proofs.YtjneccbpkckdfaaGreatR.outC]at hy
      obtain⟨e,_,hy⟩:=Option.bind_eq_some_iff.1 hy
      obtain⟨q,hq,rfl⟩:=Option.map_eq_some_iff.1 hy
      cases fl<;>simp[Go.Proofs.YtjneccbpkckdfaaGreatR.outC]at hq
      subst hq;exact⟨_,rfl⟩
     |false=>
      simp only[Go.Proofs.YtjneccbpkckdfaaGreatR.outC]at hy
      obtain⟨e,_,hy⟩:=Option.bind_eq_some_iff.1 hy
      obtain⟨q,hq,rfl⟩:=Option.map_eq_some_iff.1 hy
      cases fl<;>simp[Go.Proofs.YtjneccbpkckdfaaGreatR.outC]at hq
      subst hq;exact⟨_,rfl⟩
  obtain⟨vs,hcr,hres⟩:=hcells
  obtain⟨G1,hs1,hR1⟩:=R.outC hcr hy hn.1
  refine⟨u::us,G1++G2,?_,?_,fun m Y hm hY=>?_⟩
  ·simp only[List.mapM_cons,Sem.run_bind,hu,Result.andThen_ok,hrun,Sem.run_pure]
  ·rw[K57,List.flatMap_append]
   exact hs1.append hs2
  ·simp only[ResVs]
   exact⟨G1,G2,hres Y G1 (hR1 m Y (Md.le_trans (K36 _ _) hm) hY),hR2 m Y (Md.le_trans (K3c _ _) hm) hY,rfl⟩
 | [],_::_,_,hc,_,_=>by simp[K1b]at hc
 |r::_,[],_,hc,_,_=>by cases r<;>simp[K1b]at hc
end
end Go.Proofs.YtjneccbpkckdfaaGreatR
namespace Go.Proofs.YtjneccbpkckdfaaGreatR
open Go Go.RowKit
def argS:Nat→List (Bool×List T)→List (Nat×SV)
 |_,[]=>[]
 |i,x::l=>(i,.val x.1 (x.2.map .pl))::argS (i+1) l
def startS(args:List (Bool×List T))(n m:Nat):St:=⟨argS 0 args,n,List.replicate m ⟨0,.none⟩⟩
section
variable {P:Program}
theorem K92:∀(l:List (Bool×List T)) (i k:Nat),lk k (argS i l)=if k<i then .undef else match l[k-i]? with|some x=> .val x.1 (x.2.map .pl)|none=> .undef
 | [],i,k=>by simp[argS,lk]
 |x::l,i,k=>by
  simp only[argS,lk]
  rw[K92 l (i+1) k]
  by_cases h1:k=i
  ·subst h1;simp
  ·rw[if_neg h1]
   by_cases h2:k<i
   ·rw[if_pos h2,if_pos (by omega)]
   ·rw[if_neg h2,if_neg (by omega),show k-i=(k-(i+1))+1 by omega]
    simp
theorem ArgsR.at_{w:World}{X:Nat→Prop}:∀ {xs:List (Bool×List T)} {vs:List Value},ArgsR w X xs vs→xs.length=vs.length∧∀(i:Nat) (x:Bool×List T),xs[i]? =some x→∃v,vs[i]? =some v∧ArgR w X x v
 | [],[],_=>⟨rfl,by simp⟩
 |x::xs,v::vs,h=>by
  obtain⟨h1,h2⟩:=ArgsR.at_ h.2
  refine⟨by simp[h1],fun i y hy=>?_⟩
  cases i with
  |zero=>simp at hy;subst hy;exact⟨v,rfl,h.1⟩
  |succ i=>simpa using h2 i y (by simpa using hy)
 | [],_::_,h=>h.elim
 |_::_,[],h=>h.elim
theorem K9w{w:World}{X:Nat→Prop}{args:List (Bool×List T)}{vs:List Value}{n m:Nat}(ht:∀w',Below w.heap.size w w'→TabW w')(h:ArgsR w X args vs)(hn:args.length≤n):
  Rel (· <w.heap.size) ⟨fun b=>b<w.heap.size∧¬X b,fun _=>undef⟩ w w (startS args n m) (vs.toArray++Array.replicate (n-vs.toArray.size) undef) ⟨fun _ _=>undef,fun _=>[],⟨fun b=>b<w.heap.size∧¬X b,fun _=>undef⟩⟩:=by
 obtain⟨hl,hat⟩:=h.at_
 have hob:∀id,(startS args n m).ob id=⟨0,.none⟩:=by
  intro id
  simp only[St.ob,startS,List.getD_eq_getElem?_getD,List.getElem?_replicate]
  split<;>rfl
 refine⟨by simp[startS];omega,fun k=>?_,fun id=>by rw[hob];rfl,fun _=>List.nodup_nil,fun _ _ _ h=>by simp at h,fun _ _ h=>by simp at h,Bel.refl _ _,fun _ h=>h,rfl,fun b h=>h.1,fun w' h'=>ht w' h'.below,fun _ _=>rfl⟩
 simp only[St.get,startS]
 rw[K92]
 simp only[Nat.not_lt_zero,if_false,Nat.sub_zero]
 split
 ·rename_i x hx
  obtain⟨v,hv,hA⟩:=hat k x hx
  have hget:(vs.toArray++Array.replicate (n-vs.toArray.size) undef).getD k undef=v:=by
   have:=Kl hv
   simp only[Array.getD_eq_getD_getElem?]
   rw[Array.getElem?_append_left (by simpa using this)]
   simp[hv]
  rw[hget]
  have hX:∀b,X b→Xe (⟨fun _ _=>undef,fun _=>[],⟨fun b=>b<w.heap.size∧¬X b,fun _=>undef⟩⟩:Gh) b:=fun b hb=>⟨fun h=>h.2 hb,fun _ h=>by simp at h⟩
  unfold ArgR at hA
  simp only[SlotR,ValR]
  split at hA
  ·rename_i hag
   rw[if_pos hag]
   obtain⟨us,hus,hr⟩:=hA
   exact⟨us,hus,K5t _ _ (RdL.keep ⟨Nat.le_refl _,fun b hb _=>⟨rfl,hX b hb⟩⟩ _ _ hr)⟩
  ·rename_i hag
   rw[if_neg hag]
   obtain⟨t,ht,hr⟩:=hA
   rw[ht]
   exact⟨.pl t,rfl,K78 hr hX⟩
 ·trivial
theorem K8n{α β:Type}(f:α→Sem β)(xs:Array α){w:World}{us:List β}(h:(xs.toList.mapM f).run P w= .ok us w):(xs.mapM f).run P w= .ok us.toArray w:=by
 rw[Array.mapM_eq_mapM_toList]
 simp[h]
theorem K3o{fn:Func}{ts:Array Value}{w:World}{us:List Value}(h:(fn.results.toList.mapM (resF ts)).run P w= .ok us w):(results fn ts).run P w= .ok (tupV us) w:=by
 have h1:=K8n (resF ts) fn.results h
 have e:results fn ts=(do let vs ←fn.results.mapM (resF ts);pure (if h:vs.size=1 then vs[0]else .tuple vs)):=by
  unfold results
  have hf:(fun r:ResultVar=>(match r with| .tmp t=>pure (ts.getD t undef)| .cell a t=>do loadVar t (←asAddr (ts.getD a undef)):Sem Value))=resF ts:=by
   funext r
   cases r<;>rfl
  rw[←hf]
  rfl
 rw[e]
 simp only[Sem.run_bind,h1,Result.andThen_ok,Sem.run_pure]
 congr 1
 cases us with
 |nil=>rfl
 |cons u us=>
  cases us with
  |nil=>rfl
  |cons u' us=>simp[tupV]
def bdA:List (Bool×List T)→Prop
 | []=>True
 |x::l=>bdL x.2∧bdA l
theorem ArgsR.bd_{w:World}{X:Nat→Prop}:∀ {xs:List (Bool×List T)} {vs:List Value},ArgsR w X xs vs→bdA xs
 | [],[],_=>trivial
 |x::xs,v::vs,h=>by
  refine⟨?_,ArgsR.bd_ h.2⟩
  have h1:=h.1
  unfold ArgR at h1
  split at h1
  ·obtain⟨us,_,h1⟩:=h1;exact RdL.bd _ _ h1
  ·obtain⟨t,e,h1⟩:=h1;rw[e];exact⟨Rd.bd _ _ h1,trivial⟩
 | [],_::_,h=>h.elim
 |_::_,[],h=>h.elim
theorem ctr_of{f:FuncId}{fn:Func}{c:Code}{args:List (Bool×List T)}{rs:List RV}{M:MC}{m:Nat}{res:List (MR×List Bool)}(hmix:P.follows .mixedOrders=true)(hf:P.funcs[f]? =some fn)(hb:fn.body=some c)
  (hname : (fn.name == "runtime.NumGoroutine") = false) (hc : chkC P c M = true) (hres : K1b P fn.results.toList (res.map (·.1)) = true) (hn : args.length ≤ fn.ntmps)
  (h:bdA args→wpC P M (fun x σ'=>(x= .nrm∨x= .ret)∧outs σ' res=some rs) (startS args fn.ntmps m)):Ctr P f args rs:=by
 refine⟨⟨fn,hf,by simp[hb],hname⟩,fun w X vs htab hargs=>calls_of_wp hf hb ?_⟩
 refine K52 hmix (a:=⟨vs.toArray++Array.replicate (fn.ntmps-vs.toArray.size) undef,[]⟩) hc (K9w htab hargs hn) (h hargs.bd_) fun x σ' a' w' g' hq hd R'=>?_
 obtain⟨hx,hout⟩:=hq
 unfold outs at hout
 obtain⟨y,hy,hout⟩:=Option.bind_eq_some_iff.1 hout
 obtain⟨⟨h1,h2,h3⟩,hout⟩:=Option.ite_none_right_eq_some.1 hout
 simp only[Option.some.injEq]at hout
 subst hout
 obtain⟨us,G,hrun,hsub,hR⟩:=R'.outR hres hy h1
 have hGF:∀b∈G,∃j,b∈g'.F j:=fun b hb=>by
  obtain⟨j,_,hj⟩:=List.mem_flatMap.1 (hsub.subset hb);exact⟨j,hj⟩
 have hZ:∀b,¬g'.Z b→b<w.heap.size→X b:=by
  intro b hz hlt
  rw[R'.zz]at hz
  exact Classical.not_not.1 fun hx=>hz ⟨hlt,hx⟩
 have hY:ResVs w' (fun b=>(b<w.heap.size→X b)∧b∉G) y.1 us G:=by
  rcases h3 with h3|h3
  ·have hG:G=[]:=by rw[h3]at hsub;simpa using hsub
   refine hR .a _ (by cases y.2.2<;>simp[Md.le]) fun b hb=>⟨hZ b hb,by rw[hG];simp⟩
  ·refine hR .e _ (by rw[h3];simp[Md.le]) fun b hb=>⟨hZ b hb.1,fun hbG=>?_⟩
   obtain⟨j,hj⟩:=hGF b hbG
   exact hb.2 j hj
 have key:a'.defers=[]∧∃v,(results fn a'.tmps).run P w'= .ok v w'∧Below w.heap.size w w'∧∃us G,v=tupV us∧G.Nodup∧(∀b∈G,w.heap.size≤b)∧ResVs w' (fun b=>(b<w.heap.size→X b)∧b∉G) y.1 us G:=
  ⟨hd,tupV us,K3o hrun,R'.grew.below,us,G,rfl,hsub.nodup (R'.flat_nodup _ (K16 h2)),fun b hb=>by obtain⟨j,hj⟩:=hGF b hb;exact Nat.le_of_not_lt (R'.frs j b hj).1,hY⟩
 rcases hx with rfl|rfl
 ·exact key
 ·exact key
end
end Go.Proofs.YtjneccbpkckdfaaGreatR
