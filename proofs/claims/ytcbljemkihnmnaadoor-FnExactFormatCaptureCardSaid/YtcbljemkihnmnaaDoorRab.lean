/- A pure semantics of the program's operations over trees, proved against the model: contracts of functions follow from their pure text alone. No condition. -/
import Derived.DeepKeys
import Derived.Laws.StructEq
import Derived.Orders
import Derived.LoopN
import Derived.Deep.Slices
import Derived.SizedLaws
import Derived.ChangeOld
import Derived.Test.YtcbljemkihnmnaaDoorRaa
namespace Go.Proofs.YtcbljemkihnmnaaDoorR
open Go Go.RowKit

def isD (d : Option Tmp) (k : Nat) : Bool := match d with
  | some t => t == k
  | none => false
theorem isD_eq {d : Option Tmp} {k : Nat} (h : isD d k = true) : d = some k := by
  unfold isD at h
  split at h
  · rw [beq_iff_eq.1 h]
  · simp at h
def tyB (P : Program) (t : TypeId) (agg : Bool) (n : Nat) : Bool := match P.info? t, P.underlying t with
  | some i, some d => aggD d == agg && i.size == n
  | _, _ => false
theorem tyB_ok {P : Program} {t : TypeId} {agg : Bool} {n : Nat} (h : tyB P t agg n = true) : Ty P t agg n := by
  unfold tyB at h
  split at h
  · rename_i i d h1 h2
    simp only [Bool.and_eq_true, beq_iff_eq] at h
    exact ⟨i, d, h1, h2, h.1, h.2⟩
  · simp at h
def elemOf (P : Program) (t : TypeId) : Option TypeId := match P.underlying t with
  | some (.slice e) => some e
  | _ => none
theorem elemOf_ok {P : Program} {t e : TypeId} (h : elemOf P t = some e) : P.underlying t = some (.slice e) := by
  unfold elemOf at h
  split at h <;> simp at h
  subst h; assumption
def slB (P : Program) (t : TypeId) (sz : Nat) : Bool := match (elemOf P t).bind P.info? with
  | some i => i.size == sz
  | none => false
theorem slB_ok {P : Program} {t : TypeId} {sz : Nat} (h : slB P t sz = true) : ∃ e i, P.underlying t = some (.slice e) ∧ P.info? e = some i ∧ i.size = sz := by
  unfold slB at h
  split at h
  · rename_i i hi
    obtain ⟨e, h1, h2⟩ := Option.bind_eq_some_iff.1 hi
    exact ⟨e, i, elemOf_ok h1, h2, beq_iff_eq.1 h⟩
  · simp at h
def elB (P : Program) (t : TypeId) (sz bytes : Nat) : Bool := match (elemOf P t).bind P.info? with
  | some i => i.size == sz && i.bytes == bytes && decide (1 ≤ bytes) && (match i.zero with | some z => z.cells.size == sz | none => false)
  | none => false
theorem elB_ok {P : Program} {t : TypeId} {sz bytes : Nat} (h : elB P t sz bytes = true) : ∃ e, El P t e sz bytes := by
  unfold elB at h
  split at h
  · rename_i i hi
    obtain ⟨e, h1, h2⟩ := Option.bind_eq_some_iff.1 hi
    simp only [Bool.and_eq_true, beq_iff_eq, decide_eq_true_eq] at h
    obtain ⟨⟨⟨a1, a2⟩, a3⟩, a4⟩ := h
    split at a4
    · rename_i z hz
      exact ⟨e, i, z, elemOf_ok h1, h2, a1, a2, a3, hz, beq_iff_eq.1 a4⟩
    · simp at a4
  · simp at h
def isBoolT : Option TypeDesc → Bool
  | some .bool => true
  | _ => false
theorem isBoolT_ok {d : Option TypeDesc} (h : isBoolT d = true) : d = some .bool := by
  unfold isBoolT at h
  split at h <;> simp_all
def isStrT : Option TypeDesc → Bool
  | some .string => true
  | _ => false
theorem isStrT_ok {d : Option TypeDesc} (h : isStrT d = true) : d = some .string := by
  unfold isStrT at h
  split at h <;> simp_all
def isIntT (k : IntKind) : Option TypeDesc → Bool
  | some (.int k') => k' == k
  | _ => false
theorem isIntT_ok {k : IntKind} {d : Option TypeDesc} (h : isIntT k d = true) : d = some (.int k) := by
  unfold isIntT at h
  split at h
  · rw [beq_iff_eq.1 h]
  · simp at h

def chkToks : List Operand → List Nat → Bool
  | [], [] => true
  | .tmp t :: l, k :: m => t == k && chkToks l m
  | _, _ => false
theorem chkToks_ok : ∀ {l : List Operand} {m : List Nat}, chkToks l m = true → l = m.map .tmp
  | [], [], _ => rfl
  | .tmp t :: l, k :: m, h => by
    simp only [chkToks, Bool.and_eq_true, beq_iff_eq] at h
    simp [h.1, chkToks_ok h.2]
  | [], _ :: _, h => by simp [chkToks] at h
  | .const _ :: _, _, h => by simp [chkToks] at h
  | .global _ :: _, _, h => by simp [chkToks] at h
  | .func _ :: _, _, h => by simp [chkToks] at h
  | .tmp _ :: _, [], h => by simp [chkToks] at h

/-! Structs and arrays, compared. -/
def isAggT : Option TypeDesc → Bool
  | some (.struct _) => true
  | some (.array _ _) => true
  | _ => false
def flatF (P : Program) (K : TypeId → Option (List KK)) : List Field → Nat → Option (List KK)
  | [], _ => some []
  | f :: fs, off => if f.offset = off then (K f.type).bind fun l => if l.length = P.cellsOf f.type then (flatF P K fs (off + l.length)).map (l ++ ·) else none else none
def repK (l : List KK) : Nat → List KK
  | 0 => []
  | n + 1 => l ++ repK l n
/-- The kinds of a type's cells. -/
def flatK (P : Program) : Nat → TypeId → Option (List KK)
  | 0, _ => none
  | d + 1, t => match P.underlying t with
    | some .bool => some [.b]
    | some (.int k) => some [.i k]
    | some .string => some [.s]
    | some (.struct fs) => if fs.all (·.name != "_") = true then (flatF P (flatK P d) fs.toList 0).bind fun l => if l.length = P.cellsOf t then some l else none else none
    | some (.array n e) => (flatK P d e).bind fun l => if l.length = P.cellsOf e ∧ (repK l n).length = P.cellsOf t then some (repK l n) else none
    | _ => none
def litOf : Value → Lit
  | .int k n => .int k n
  | .bool b => .bool b
  | .string s => .string s.data.toList
  | _ => .bool false
def confK : KK → Value → Prop
  | .i k, .int k' _ => k' = k
  | .b, .bool _ => True
  | .s, .string _ => True
  | _, _ => False
def conf : List KK → List Value → Prop
  | [], [] => True
  | k :: ks, v :: vs => (confK k v ∧ wfB v = true) ∧ conf ks vs
  | _, _ => False
theorem conf_len : ∀ {ks : List KK} {vs : List Value}, conf ks vs → ks.length = vs.length
  | [], [], _ => rfl
  | _ :: _, _ :: _, h => by simp [conf_len h.2]
  | [], _ :: _, h => h.elim
  | _ :: _, [], h => h.elim
theorem conf_app : ∀ {k1 k2 : List KK} {vs : List Value}, conf (k1 ++ k2) vs → conf k1 (vs.take k1.length) ∧ conf k2 (vs.drop k1.length)
  | [], _, _, h => ⟨by simp [conf], by simpa using h⟩
  | k :: k1, k2, v :: vs, h => by
    obtain ⟨h1, h2⟩ := conf_app (k1 := k1) h.2
    exact ⟨⟨h.1, h1⟩, by simpa using h2⟩
  | _ :: _, _, [], h => h.elim
theorem lits_flat {P : Program} : ∀ (D : Nat) (t : TypeId) (ks : List KK) (vs : List Value), flatK P D t = some ks → conf ks vs → P.keyLits D t vs = some (vs.map litOf)
  | 0, _, _, _, h, _ => by simp [flatK] at h
  | D + 1, t, ks, vs, h, hc => by
    have one : ∀ k, ks = [k] → conf ks vs → ∃ v, vs = [v] ∧ confK k v ∧ wfB v = true := by
      intro k e hc
      subst e
      cases vs with
      | nil => exact hc.elim
      | cons v vs =>
        cases vs with
        | nil => exact ⟨v, rfl, hc.1⟩
        | cons _ _ => exact hc.2.elim
    unfold flatK at h
    unfold Program.keyLits
    cases hu : P.underlying t with
    | none => simp [hu] at h
    | some kd =>
      cases kd <;> simp only [hu] at h <;> (try (simp at h; done))
      case bool =>
        simp only [Option.some.injEq] at h
        obtain ⟨v, rfl, h1, h2⟩ := one .b h.symm hc
        cases v <;> simp only [confK] at h1
        rfl
      case int k =>
        simp only [Option.some.injEq] at h
        obtain ⟨v, rfl, h1, h2⟩ := one (.i k) h.symm hc
        cases v <;> simp only [confK] at h1
        subst h1
        simp only [litOf, List.map_cons, List.map_nil, true_and]
        rw [if_pos (show (Lit.int _ _).wf = true from h2)]
      case string =>
        simp only [Option.some.injEq] at h
        obtain ⟨v, rfl, h1, h2⟩ := one .s h.symm hc
        cases v <;> simp only [confK] at h1
        simp only [wfB, decide_eq_true_eq] at h2
        simp only
        rw [if_pos (by unfold Go.maxLen; omega)]
        rfl
      case array n e =>
        obtain ⟨l, hl, h⟩ := Option.bind_eq_some_iff.1 h
        obtain ⟨⟨h1, h2⟩, h⟩ := Option.ite_none_right_eq_some.1 h
        simp only [Option.some.injEq] at h
        subst h
        have hlen := conf_len hc
        simp only
        rw [if_pos (by omega)]
        have key : ∀ (m : Nat) (s : Nat) (us : List Value), conf (repK l m) us → (∀ i, i < m * l.length → us[i]? = vs[s * l.length + i]?) →
            ((List.range' s m).mapM fun i => P.keyLits D e ((vs.drop (i * P.cellsOf e)).take (P.cellsOf e))).map List.flatten = some (us.map litOf) := by
          intro m
          induction m with
          | zero =>
            intro s us hc _
            cases us with
            | nil => simp
            | cons _ _ => exact hc.elim
          | succ m ih =>
            intro s us hc hv
            obtain ⟨c1, c2⟩ := conf_app hc
            have hlen := conf_len hc
            simp only [repK, List.length_append] at hlen
            have e1 : (vs.drop (s * P.cellsOf e)).take (P.cellsOf e) = us.take l.length := by
              rw [← h1]
              apply List.ext_getElem?
              intro i
              rw [List.getElem?_take, List.getElem?_take]
              split
              · rename_i hi
                rw [List.getElem?_drop, hv i (by rw [Nat.add_mul]; omega)]
              · rfl
            have ih' := ih (s + 1) (us.drop l.length) c2 (fun i hi => by
              rw [List.getElem?_drop, hv (l.length + i) (by rw [Nat.add_mul]; omega)]
              congr 1
              rw [Nat.add_mul]; omega)
            rw [List.range'_succ, List.mapM_cons]
            have hd := lits_flat D e l _ hl c1
            rw [e1, hd]
            simp only [Option.bind_eq_bind, Option.bind_some]
            obtain ⟨as_, ha1, ha2⟩ := Option.map_eq_some_iff.1 ih'
            rw [ha1]
            simp only [Option.bind_some, Option.pure_def, Option.map_some, List.flatten_cons, ha2]
            rw [← List.map_append, List.take_append_drop]
        have := key n 0 vs hc (fun i _ => by simp)
        rw [List.range_eq_range']
        exact this
      case struct fs =>
        obtain ⟨hn, h⟩ := Option.ite_none_right_eq_some.1 h
        obtain ⟨l, hl, h⟩ := Option.bind_eq_some_iff.1 h
        obtain ⟨h1, h⟩ := Option.ite_none_right_eq_some.1 h
        simp only [Option.some.injEq] at h
        subst h
        have hlen := conf_len hc
        simp only
        rw [if_pos ⟨by omega, hn⟩]
        have key : ∀ (fl : List Field) (off : Nat) (ks : List KK) (us : List Value), flatF P (flatK P D) fl off = some ks → conf ks us → (∀ i, i < ks.length → us[i]? = vs[off + i]?) →
            (fl.mapM fun f => P.keyLits D f.type ((vs.drop f.offset).take (P.cellsOf f.type))).map List.flatten = some (us.map litOf) := by
          intro fl
          induction fl with
          | nil =>
            intro off ks us h hc _
            simp only [flatF, Option.some.injEq] at h
            subst h
            cases us with
            | nil => simp
            | cons _ _ => exact hc.elim
          | cons f fl ih =>
            intro off ks us h hc hv
            simp only [flatF] at h
            obtain ⟨ho, h⟩ := Option.ite_none_right_eq_some.1 h
            obtain ⟨l1, hl1, h⟩ := Option.bind_eq_some_iff.1 h
            obtain ⟨hle, h⟩ := Option.ite_none_right_eq_some.1 h
            obtain ⟨l2, hl2, rfl⟩ := Option.map_eq_some_iff.1 h
            obtain ⟨c1, c2⟩ := conf_app hc
            have hlen := conf_len hc
            simp only [List.length_append] at hlen hv
            have e1 : (vs.drop f.offset).take (P.cellsOf f.type) = us.take l1.length := by
              rw [← hle, ho]
              apply List.ext_getElem?
              intro i
              rw [List.getElem?_take, List.getElem?_take]
              split
              · rename_i hi
                rw [List.getElem?_drop, hv i (by omega)]
              · rfl
            have ih' := ih (off + l1.length) l2 (us.drop l1.length) hl2 c2 (fun i hi => by
              rw [List.getElem?_drop, hv (l1.length + i) (by omega)]
              congr 1
              omega)
            rw [List.mapM_cons]
            have hd := lits_flat D f.type l1 _ hl1 c1
            rw [e1, hd]
            simp only [Option.bind_eq_bind, Option.bind_some]
            obtain ⟨as_, ha1, ha2⟩ := Option.map_eq_some_iff.1 ih'
            rw [ha1]
            simp only [Option.bind_some, Option.pure_def, Option.map_some, List.flatten_cons, ha2]
            rw [← List.map_append, List.take_append_drop]
        exact key fs.toList 0 l vs hl hc (fun i _ => by simp)
theorem eqB_conf : ∀ {ks : List KK} {us vs : List Value} {r : Bool}, eqB ks us vs = some r → (∀ u ∈ us, wfB u = true) → (∀ v ∈ vs, wfB v = true) → conf ks us ∧ conf ks vs ∧ (r = true ↔ us.map litOf = vs.map litOf)
  | ks, us, vs, r, h, hu, hv => by
    unfold eqB at h
    split at h
    · simp only [Option.some.injEq] at h
      subst h; exact ⟨trivial, trivial, by simp⟩
    · obtain ⟨⟨k1, k2⟩, h2⟩ := Option.ite_none_right_eq_some.1 h
      obtain ⟨r', h', rfl⟩ := Option.map_eq_some_iff.1 h2
      obtain ⟨c1, c2, c3⟩ := eqB_conf h' (fun u hu' => hu u (by simp [hu'])) (fun v hv' => hv v (by simp [hv']))
      exact ⟨⟨⟨k1, hu _ (by simp)⟩, c1⟩, ⟨⟨k2, hv _ (by simp)⟩, c2⟩, by simp_all [litOf]⟩
    · obtain ⟨r', h', rfl⟩ := Option.map_eq_some_iff.1 h
      obtain ⟨c1, c2, c3⟩ := eqB_conf h' (fun u hu' => hu u (by simp [hu'])) (fun v hv' => hv v (by simp [hv']))
      exact ⟨⟨⟨trivial, hu _ (by simp)⟩, c1⟩, ⟨⟨trivial, hv _ (by simp)⟩, c2⟩, by simp_all [litOf]⟩
    · obtain ⟨r', h', rfl⟩ := Option.map_eq_some_iff.1 h
      obtain ⟨c1, c2, c3⟩ := eqB_conf h' (fun u hu' => hu u (by simp [hu'])) (fun v hv' => hv v (by simp [hv']))
      exact ⟨⟨⟨trivial, hu _ (by simp)⟩, c1⟩, ⟨⟨trivial, hv _ (by simp)⟩, c2⟩, by simp_all [litOf, ByteArray.toList_eq]⟩
    · simp at h

section
variable {P : Program} {base : Nat → Prop} {Z : Nat → Prop} {w0 w : World} {σ : St} {g : Gh} {o : Oper} {a : Act}
theorem scas {V : Nat → Nat} : ∀ {cs : List SC} {vs us : List Value}, CellsR w V g cs vs → allSome (cs.map SC.sca) = some us → vs = us ∧ ∀ u ∈ us, wfB u = true
  | [], [], us, _, h => by simp [allSome] at h; subst h; exact ⟨rfl, by simp⟩
  | c :: cs, v :: vs, us, hr, h => by
    cases hs : c.sca with
    | none => simp [allSome, hs] at h
    | some u =>
      simp only [List.map_cons, hs, allSome] at h
      obtain ⟨l, hl, rfl⟩ := Option.map_eq_some_iff.1 h
      obtain ⟨h1, h2⟩ := sca_cell hr.1 hs
      obtain ⟨h3, h4⟩ := scas hr.2 hl
      refine ⟨by rw [h1, h3], fun x hx => ?_⟩
      rcases List.mem_cons.1 hx with rfl | hx
      · rw [← h1]; exact oneW_wf h2
      · exact h4 x hx
  | [], _ :: _, _, hr, _ => hr.elim
  | _ :: _, [], _, hr, _ => hr.elim
theorem good_eqA (R : Rel base Z w0 w σ a.tmps g) {d : Nat} {ne : Bool} {ks : List KK} {op : BinOp} {x y : Od} {x' y' : Operand} {t u : TypeId} (hd : o.dst = some d) (ho : o.op = .binOp op t x' y' u) (hop : op = if ne then .neq else .eql) (hx : chkOd x' x = true) (hy : chkOd y' y = true)
    (hg : P.eqGuardType P.depth t = false) (hk : P.keyTypeAt 50 t = true) (hf : flatK P 50 t = some ks) (hag : isAggT (P.underlying t) = true) {e : Ef} (he : eff (.eqA d ne ks x y) σ = some e) : Good P o a base Z w0 w (σ.app e) := by
  simp only [eff] at he
  obtain ⟨va, ha, he⟩ := Option.bind_eq_some_iff.1 he
  obtain ⟨vb, hb, he⟩ := Option.bind_eq_some_iff.1 he
  obtain ⟨us, hus, he⟩ := Option.bind_eq_some_iff.1 he
  obtain ⟨vs, hvs, he⟩ := Option.bind_eq_some_iff.1 he
  obtain ⟨⟨g1, g2⟩, he⟩ := Option.ite_none_right_eq_some.1 he
  obtain ⟨r, hr, rfl⟩ := Option.map_eq_some_iff.1 he
  have h1 := R.ev hx
  have h2 := R.ev hy
  rw [all_some ha] at h1
  rw [all_some hb] at h2
  simp only [SlotR, ValR, g1, g2, if_true] at h1 h2
  obtain ⟨ws, e1, h1⟩ := h1
  obtain ⟨zs, e2, h2⟩ := h2
  obtain ⟨rfl, w1⟩ := scas h1 hus
  obtain ⟨rfl, w2⟩ := scas h2 hvs
  obtain ⟨c1, c2, c3⟩ := eqB_conf hr w1 w2
  have l1 := lits_flat 50 t ks ws hf c1
  have l2 := lits_flat 50 t ks zs hf c2
  have hlen : ks.length = P.cellsOf t := by
    unfold flatK at hf
    unfold isAggT at hag
    split at hag <;> simp only [*] at hf
    · obtain ⟨_, hf⟩ := Option.ite_none_right_eq_some.1 hf
      obtain ⟨l, _, hf⟩ := Option.bind_eq_some_iff.1 hf
      obtain ⟨h, hf⟩ := Option.ite_none_right_eq_some.1 hf
      simp only [Option.some.injEq] at hf
      rw [← hf]; exact h
    · obtain ⟨l, _, hf⟩ := Option.bind_eq_some_iff.1 hf
      obtain ⟨h, hf⟩ := Option.ite_none_right_eq_some.1 hf
      simp only [Option.some.injEq] at hf
      rw [← hf]; exact h.2
    · simp at hag
  have fm : ∀ vs : List Value, conf ks vs → Value.formed P t (.agg vs.toArray) = true := by
    intro vs hc
    have := conf_len hc
    unfold isAggT at hag
    unfold Value.formed
    split at hag <;> simp_all
  obtain ⟨r', hrun, hiff⟩ := run_equalIn_deep 9950 50 t hk w 50 50 (.agg ws.toArray) (.agg zs.toArray) _ _ (fm ws c1) (fm zs c2) (by simpa [Value.cells] using l1) (by simpa [Value.cells] using l2)
  have hrr : r' = r := by
    have := hiff.trans c3.symm
    cases r <;> cases r' <;> simp_all
  subst hrr
  refine good_value R hd (v := .bool (ne != r')) ?_ (slot_sca (oneW_bool _))
  cases ne
  · simp only [Bool.false_eq_true, if_false] at hop
    subst hop
    simp only [execOp, ho, e1, e2, Sem.run_bind, run_eqGuard_agg _ _ _ _ _ _ _ hg, Result.andThen_ok, run_eql_struct, hrun, Sem.run_pure]
    simp
  · simp only [if_true] at hop
    subst hop
    simp only [execOp, ho, e1, e2, Sem.run_bind, run_eqGuard_agg _ _ _ _ _ _ _ hg, Result.andThen_ok, run_neq_struct, hrun, Sem.run_pure]
    simp
end

/-- Does the operation do what the pure text says? (A call is looked at elsewhere.) -/
def chkOp (P : Program) (o : Oper) : MO → Bool
  | .mv d x => isD o.dst d && match o.op with
    | .move y => chkOd y x
    | .assign y => chkOd y x
    | _ => false
  | .bin d bt op x y => isD o.dst d && match o.op with
    | .binOp op' t x' y' _ => decide (op' = op) && chkOd x' x && chkOd y' y && (!bt || isBoolT (P.underlying t))
    | _ => false
  | .un d op x => isD o.dst d && match o.op with
    | .unOp op' _ x' => decide (op' = op) && chkOd x' x
    | _ => false
  | .mm d mx x y => isD o.dst d && match o.op with
    | .call ⟨.builtin .max, args, _⟩ => mx && (match args.toList with | [x', y'] => chkOd x' x && chkOd y' y | _ => false)
    | .call ⟨.builtin .min, args, _⟩ => !mx && (match args.toList with | [x', y'] => chkOd x' x && chkOd y' y | _ => false)
    | _ => false
  | .pick d c a b => isD o.dst d && match o.op with
    | .pick c' a' b' => chkOd c' c && chkOd a' a && chkOd b' b
    | _ => false
  | .len d str x => isD o.dst d && match o.op with
    | .call ⟨.builtin .len, args, ts⟩ => (match args.toList, ts.toList with
      | [x'], [t] => chkOd x' x && (if str then isStrT (P.underlying t) else (elemOf P t).isSome)
      | _, _ => false)
    | _ => false
  | .alloc d _ zs => isD o.dst d && match o.op with
    | .alloc t => (match (P.info? t).bind (·.zero) with | some z => chkZ zs z.cells.toList | none => false)
    | _ => false
  | .box d _ x => isD o.dst d && match o.op with
    | .box _ x' => chkOd x' x
    | _ => false
  | .build d zs ps => isD o.dst d && match o.op with
    | .build t parts => (match placed P t with | some (pl, z) => chkZ zs z.toList && chkParts pl parts.toList ps | none => false)
    | _ => false
  | .lit d _ sz _ xs => isD o.dst d && match o.op with
    | .buildSlice t len parts => len == xs.length && chkLit 0 parts.toList xs && decide (0 < sz) && decide (len * sz ≤ 16777216) && (match (elemOf P t).bind P.info? with | some i => i.size == sz && i.zero.isSome | none => false)
    | _ => false
  | .load d agg n x => isD o.dst d && match o.op with
    | .load t x' => chkOd x' x && tyB P t agg n
    | _ => false
  | .store n x y => o.dst.isNone && match o.op with
    | .store t x' y' => chkOd x' x && chkOd y' y && (tyB P t true n || tyB P t false n)
    | _ => false
  | .fld d x off => isD o.dst d && match o.op with
    | .fieldAddr t x' f => chkOd x' x && (match P.underlying t with
      | some (.struct fs) => (match fs[f]? with
        | some fd => fd.offset == off && (match P.info? fd.type with | some i => decide (i.size ≠ 0) | none => false)
        | none => false)
      | _ => false)
    | _ => false
  | .idx d sz x i => isD o.dst d && match o.op with
    | .indexAddr t x' i' => chkOd x' x && chkOd i' i && slB P t sz
    | _ => false
  | .idxA d sz n x i => isD o.dst d && match o.op with
    | .indexAddr t x' i' => chkOd x' x && chkOd i' i && (match P.underlying t with
      | some (.array n' e) => n' == n && (match P.info? e with | some i => i.size == sz | none => false)
      | _ => false)
    | _ => false
  | .fldv d x off n agg => isD o.dst d && match o.op with
    | .field t x' f => chkOd x' x && (match P.underlying t with
      | some (.struct fs) => (match fs[f]? with
        | some fd => fd.offset == off && tyB P fd.type agg n
        | none => false)
      | _ => false)
    | _ => false
  | .idxs d x i => isD o.dst d && match o.op with
    | .index t x' i' => chkOd x' x && chkOd i' i && isStrT (P.underlying t)
    | _ => false
  | .mk d _ sz bytes z x => isD o.dst d && match o.op with
    | .makeSlice t x' y' => chkOd x' x && chkOd y' x && (match (elemOf P t).bind P.info? with
      | some i => i.size == sz && i.bytes == bytes && decide (1 ≤ bytes) && (match i.zero with | some zv => chkT z zv.cells.toList | none => false)
      | none => false)
    | _ => false
  | .app d _ sz bytes x y => isD o.dst d && match o.op with
    | .call ⟨.builtin .append, args, ts⟩ => (match args.toList, ts.toList with
      | [x', y'], [t, u] => chkOd x' x && chkOd y' y && elB P t sz bytes && (elemOf P u).isSome
      | _, _ => false)
    | _ => false
  | .slc d sz x lo hi mx => isD o.dst d && match o.op with
    | .slice t x' lo' hi' mx' => chkOd x' x && chkOpt lo' lo && chkOpt hi' hi && chkOpt mx' mx && (!mx.isSome || hi.isSome) && slB P t sz
    | _ => false
  | .slcs d x lo hi => isD o.dst d && match o.op with
    | .slice t x' lo' hi' none => chkOd x' x && chkOpt lo' lo && chkOpt hi' hi && isStrT (P.underlying t)
    | _ => false
  | .ext d x i => isD o.dst d && match o.op with
    | .extract x' i' => chkOd x' x && i' == i
    | _ => false
  | .clos d f bs => isD o.dst d && match o.op with
    | .makeFunc (.func f') first captured => f' == f && first.toList.isEmpty && chkToks captured.toList bs
    | _ => false
  | .nilc d x => isD o.dst d && match o.op with
    | .nilCheck x' => chkOd x' x
    | _ => false
  | .convS d x => isD o.dst d && match o.op with
    | .convert t u x' => chkOd x' x && (match P.underlying t with | some (.slice e) => isIntT .u8 (P.underlying e) | _ => false) && isStrT (P.underlying u)
    | _ => false
  | .convI d k x => isD o.dst d && match o.op with
    | .convert t u x' => chkOd x' x && (P.underlying t).isSome && isIntT k (P.underlying u)
    | _ => false
  | .nilo d _ sz => isD o.dst d && match o.op with
    | .move y => chkOd y (.nil sz)
    | .assign y => chkOd y (.nil sz)
    | _ => false
  | .eqA d ne ks x y => isD o.dst d && match o.op with
    | .binOp op' t x' y' _ => decide (op' = if ne then .neq else .eql) && chkOd x' x && chkOd y' y && !(P.eqGuardType P.depth t) && P.keyTypeAt 50 t && (flatK P 50 t == some ks) && isAggT (P.underlying t)
    | _ => false
  | .call .. => false

section
variable {P : Program} {base : Nat → Prop} {Z : Nat → Prop} {w0 w : World} {σ : St} {g : Gh} {o : Oper} {a : Act}
theorem toList_one {α : Type} {x : Array α} {u : α} (h : x.toList = [u]) : x = #[u] := Array.ext' h
theorem toList_two {α : Type} {x : Array α} {u v : α} (h : x.toList = [u, v]) : x = #[u, v] := Array.ext' h

theorem good_op {m : MO} {e : Ef} (hc : chkOp P o m = true) (R : Rel base Z w0 w σ a.tmps g) (he : eff m σ = some e) : Good P o a base Z w0 w (σ.app e) := by
  cases m with
  | mv d x =>
    simp only [chkOp, Bool.and_eq_true] at hc
    obtain ⟨h1, hc⟩ := hc
    split at hc
    · rename_i y ho; exact good_mv R (isD_eq h1) (.inl ho) hc he
    · rename_i y ho; exact good_mv R (isD_eq h1) (.inr ho) hc he
    · simp at hc
  | bin d bt op x y =>
    simp only [chkOp, Bool.and_eq_true] at hc
    obtain ⟨h1, hc⟩ := hc
    split at hc
    · rename_i ho
      simp only [Bool.and_eq_true, decide_eq_true_eq] at hc
      obtain ⟨⟨⟨rfl, h2⟩, h3⟩, h4⟩ := hc
      exact good_bin R (isD_eq h1) ho h2 h3 (fun hb => isBoolT_ok (by simpa [hb] using h4)) he
    · simp at hc
  | un d op x =>
    simp only [chkOp, Bool.and_eq_true] at hc
    obtain ⟨h1, hc⟩ := hc
    split at hc
    · rename_i ho
      simp only [Bool.and_eq_true, decide_eq_true_eq] at hc
      obtain ⟨rfl, h2⟩ := hc
      exact good_un R (isD_eq h1) ho h2 he
    · simp at hc
  | mm d mx x y =>
    simp only [chkOp, Bool.and_eq_true] at hc
    obtain ⟨h1, hc⟩ := hc
    split at hc
    · rename_i args ts ho
      simp only [Bool.and_eq_true] at hc
      obtain ⟨rfl, hc⟩ := hc
      split at hc
      · rename_i x' y' ha
        simp only [Bool.and_eq_true] at hc
        exact good_mm R (isD_eq h1) ho rfl (toList_two ha) hc.1 hc.2 he
      · simp at hc
    · rename_i args ts ho
      simp only [Bool.and_eq_true, Bool.not_eq_true'] at hc
      obtain ⟨rfl, hc⟩ := hc
      split at hc
      · rename_i x' y' ha
        simp only [Bool.and_eq_true] at hc
        exact good_mm R (isD_eq h1) ho rfl (toList_two ha) hc.1 hc.2 he
      · simp at hc
    · simp at hc
  | pick d c x y =>
    simp only [chkOp, Bool.and_eq_true] at hc
    obtain ⟨h1, hc⟩ := hc
    split at hc
    · rename_i ho
      simp only [Bool.and_eq_true] at hc
      exact good_pick R (isD_eq h1) ho hc.1.1 hc.1.2 hc.2 he
    · simp at hc
  | len d str x =>
    simp only [chkOp, Bool.and_eq_true] at hc
    obtain ⟨h1, hc⟩ := hc
    split at hc
    · rename_i args ts ho
      split at hc
      · rename_i x' t ha hts
        simp only [Bool.and_eq_true] at hc
        refine good_len R (isD_eq h1) ho rfl (toList_one ha) (toList_one hts) ?_ hc.1 he
        cases str with
        | true => simp only [if_true] at hc ⊢; exact isStrT_ok hc.2
        | false =>
          simp only [Bool.false_eq_true, if_false] at hc ⊢
          obtain ⟨e, he⟩ := Option.isSome_iff_exists.1 hc.2
          exact ⟨e, elemOf_ok he⟩
      · simp at hc
    · simp at hc
  | alloc d id zs =>
    simp only [chkOp, Bool.and_eq_true] at hc
    obtain ⟨h1, hc⟩ := hc
    split at hc
    · rename_i ho
      split at hc
      · rename_i z hz; exact good_alloc R (isD_eq h1) ho hz hc he
      · simp at hc
    · simp at hc
  | box d id x =>
    simp only [chkOp, Bool.and_eq_true] at hc
    obtain ⟨h1, hc⟩ := hc
    split at hc
    · rename_i ho; exact good_box R (isD_eq h1) ho hc he
    · simp at hc
  | build d zs ps =>
    simp only [chkOp, Bool.and_eq_true] at hc
    obtain ⟨h1, hc⟩ := hc
    split at hc
    · rename_i ho
      split at hc
      · rename_i pl z hp
        simp only [Bool.and_eq_true] at hc
        exact good_build R (isD_eq h1) ho hp hc.1 hc.2 he
      · simp at hc
    · simp at hc
  | lit d id sz bytes xs =>
    simp only [chkOp, Bool.and_eq_true] at hc
    obtain ⟨h1, hc⟩ := hc
    split at hc
    · rename_i t len parts ho
      simp only [Bool.and_eq_true, decide_eq_true_eq, beq_iff_eq] at hc
      obtain ⟨⟨⟨⟨h2, h3⟩, h4⟩, h5⟩, h6⟩ := hc
      split at h6
      · rename_i i hi
        obtain ⟨et, h7, h8⟩ := Option.bind_eq_some_iff.1 hi
        simp only [Bool.and_eq_true, beq_iff_eq] at h6
        obtain ⟨z, hz⟩ := Option.isSome_iff_exists.1 h6.2
        exact good_lit R (isD_eq h1) ho h2 h3 (elemOf_ok h7) h8 hz h6.1 h4 h5 he
      · simp at h6
    · simp at hc
  | load d agg n x =>
    simp only [chkOp, Bool.and_eq_true] at hc
    obtain ⟨h1, hc⟩ := hc
    split at hc
    · rename_i ho
      simp only [Bool.and_eq_true] at hc
      exact good_load R (isD_eq h1) ho hc.1 (tyB_ok hc.2) he
    · simp at hc
  | store n x y =>
    simp only [chkOp, Bool.and_eq_true] at hc
    obtain ⟨h1, hc⟩ := hc
    split at hc
    · rename_i ho
      simp only [Bool.and_eq_true, Bool.or_eq_true] at hc
      have hd : o.dst = none := by simpa using h1
      rcases hc.2 with h | h
      · exact good_store R hd ho hc.1.1 hc.1.2 (tyB_ok h) he
      · exact good_store R hd ho hc.1.1 hc.1.2 (tyB_ok h) he
    · simp at hc
  | fld d x off =>
    simp only [chkOp, Bool.and_eq_true] at hc
    obtain ⟨h1, hc⟩ := hc
    split at hc
    · rename_i ho
      simp only [Bool.and_eq_true] at hc
      obtain ⟨h2, hc⟩ := hc
      split at hc
      · rename_i fs hu
        split at hc
        · rename_i fd hf
          simp only [Bool.and_eq_true, beq_iff_eq] at hc
          obtain ⟨h3, h4⟩ := hc
          split at h4
          · rename_i i hi
            exact good_fld R (isD_eq h1) ho h2 hu hf hi (by simpa using h4) h3 he
          · simp at h4
        · simp at hc
      · simp at hc
    · simp at hc
  | idx d sz x i =>
    simp only [chkOp, Bool.and_eq_true] at hc
    obtain ⟨h1, hc⟩ := hc
    split at hc
    · rename_i ho
      simp only [Bool.and_eq_true] at hc
      obtain ⟨e, inf, h2, h3, h4⟩ := slB_ok hc.2
      exact good_idx R (bytes := inf.bytes) (isD_eq h1) ho hc.1.1 hc.1.2 ⟨inf, h2, h3, h4, rfl⟩ he
    · simp at hc
  | idxA d sz n x i =>
    simp only [chkOp, Bool.and_eq_true] at hc
    obtain ⟨h1, hc⟩ := hc
    split at hc
    · rename_i ho
      simp only [Bool.and_eq_true] at hc
      obtain ⟨h2, hc⟩ := hc
      split at hc
      · rename_i n' e hu
        simp only [Bool.and_eq_true, beq_iff_eq] at hc
        obtain ⟨rfl, h3⟩ := hc
        split at h3
        · rename_i inf hi
          exact good_idxA R (isD_eq h1) ho h2.1 h2.2 hu hi (beq_iff_eq.1 h3) he
        · simp at h3
      · simp at hc
    · simp at hc
  | fldv d x off n agg =>
    simp only [chkOp, Bool.and_eq_true] at hc
    obtain ⟨h1, hc⟩ := hc
    split at hc
    · rename_i ho
      simp only [Bool.and_eq_true] at hc
      obtain ⟨h2, hc⟩ := hc
      split at hc
      · rename_i fs hu
        split at hc
        · rename_i fd hf
          simp only [Bool.and_eq_true, beq_iff_eq] at hc
          exact good_fldv R (isD_eq h1) ho h2 hu hf (tyB_ok hc.2) hc.1 he
        · simp at hc
      · simp at hc
    · simp at hc
  | idxs d x i =>
    simp only [chkOp, Bool.and_eq_true] at hc
    obtain ⟨h1, hc⟩ := hc
    split at hc
    · rename_i ho
      simp only [Bool.and_eq_true] at hc
      exact good_idxs R (isD_eq h1) ho hc.1.1 hc.1.2 (isStrT_ok hc.2) he
    · simp at hc
  | mk d id sz bytes z x =>
    simp only [chkOp, Bool.and_eq_true] at hc
    obtain ⟨h1, hc⟩ := hc
    split at hc
    · rename_i ho
      simp only [Bool.and_eq_true] at hc
      obtain ⟨⟨h2, h3⟩, hc⟩ := hc
      split at hc
      · rename_i i hi
        obtain ⟨et, h7, h8⟩ := Option.bind_eq_some_iff.1 hi
        simp only [Bool.and_eq_true, beq_iff_eq, decide_eq_true_eq] at hc
        obtain ⟨⟨⟨a1, a2⟩, a3⟩, a4⟩ := hc
        split at a4
        · rename_i zv hz
          exact good_mk R (isD_eq h1) ho h2 h3 (elemOf_ok h7) h8 a1 a2 a3 hz a4 he
        · simp at a4
      · simp at hc
    · simp at hc
  | app d id sz bytes x y =>
    simp only [chkOp, Bool.and_eq_true] at hc
    obtain ⟨h1, hc⟩ := hc
    split at hc
    · rename_i args ts ho
      split at hc
      · rename_i x' y' t u ha hts
        simp only [Bool.and_eq_true] at hc
        obtain ⟨⟨⟨h2, h3⟩, h4⟩, h5⟩ := hc
        obtain ⟨et, hel⟩ := elB_ok h4
        obtain ⟨e', he'⟩ := Option.isSome_iff_exists.1 h5
        exact good_app R (isD_eq h1) ho rfl (toList_two ha) (toList_two hts) h2 h3 hel (elemOf_ok he') he
      · simp at hc
    · simp at hc
  | slc d sz x lo hi mx =>
    simp only [chkOp, Bool.and_eq_true] at hc
    obtain ⟨h1, hc⟩ := hc
    split at hc
    · rename_i ho
      simp only [Bool.and_eq_true] at hc
      obtain ⟨⟨⟨⟨⟨h2, h3⟩, h4⟩, h5⟩, h6⟩, h7⟩ := hc
      obtain ⟨e, inf, h8, h9, h10⟩ := slB_ok h7
      exact good_slc R (bytes := inf.bytes) (isD_eq h1) ho h2 h3 h4 h5 (fun hm => by simpa [hm] using h6) ⟨inf, h8, h9, h10, rfl⟩ he
    · simp at hc
  | slcs d x lo hi =>
    simp only [chkOp, Bool.and_eq_true] at hc
    obtain ⟨h1, hc⟩ := hc
    split at hc
    · rename_i ho
      simp only [Bool.and_eq_true] at hc
      exact good_slcs R (isD_eq h1) ho hc.1.1.1 hc.1.1.2 hc.1.2 (isStrT_ok hc.2) he
    · simp at hc
  | ext d x i =>
    simp only [chkOp, Bool.and_eq_true] at hc
    obtain ⟨h1, hc⟩ := hc
    split at hc
    · rename_i ho
      simp only [Bool.and_eq_true, beq_iff_eq] at hc
      obtain ⟨h2, rfl⟩ := hc
      exact good_ext R (isD_eq h1) ho h2 he
    · simp at hc
  | clos d f bs =>
    simp only [chkOp, Bool.and_eq_true] at hc
    obtain ⟨h1, hc⟩ := hc
    split at hc
    · rename_i ho
      simp only [Bool.and_eq_true, beq_iff_eq] at hc
      obtain ⟨⟨rfl, h2⟩, h3⟩ := hc
      exact good_clos R (isD_eq h1) ho (by apply Array.ext'; simpa using h2) (chkToks_ok h3) he
    · simp at hc
  | nilc d x =>
    simp only [chkOp, Bool.and_eq_true] at hc
    obtain ⟨h1, hc⟩ := hc
    split at hc
    · rename_i ho; exact good_nilc R (isD_eq h1) ho hc he
    · simp at hc
  | convS d x =>
    simp only [chkOp, Bool.and_eq_true] at hc
    obtain ⟨h1, hc⟩ := hc
    split at hc
    · rename_i ho
      simp only [Bool.and_eq_true] at hc
      obtain ⟨⟨c1, c2⟩, c3⟩ := hc
      split at c2
      · rename_i et hs
        exact good_convS R (isD_eq h1) ho c1 hs (isIntT_ok c2) (isStrT_ok c3) he
      · simp at c2
    · simp at hc
  | convI d k x =>
    simp only [chkOp, Bool.and_eq_true] at hc
    obtain ⟨h1, hc⟩ := hc
    split at hc
    · rename_i ho
      simp only [Bool.and_eq_true] at hc
      obtain ⟨ds, hds⟩ := Option.isSome_iff_exists.1 hc.1.2
      exact good_convI R (isD_eq h1) ho hc.1.1 hds (isIntT_ok hc.2) he
    · simp at hc
  | nilo d id sz =>
    simp only [chkOp, Bool.and_eq_true] at hc
    obtain ⟨h1, hc⟩ := hc
    split at hc
    · rename_i y ho
      exact good_nilo R (isD_eq h1) (.inl ho) hc he
    · rename_i y ho
      exact good_nilo R (isD_eq h1) (.inr ho) hc he
    · simp at hc
  | eqA d ne ks x y =>
    simp only [chkOp, Bool.and_eq_true] at hc
    obtain ⟨h1, hc⟩ := hc
    split at hc
    · rename_i op t x' y' u ho
      simp only [Bool.and_eq_true, decide_eq_true_eq, beq_iff_eq, Bool.not_eq_true'] at hc
      obtain ⟨⟨⟨⟨⟨⟨c1, c2⟩, c3⟩, c4⟩, c5⟩, c6⟩, c7⟩ := hc
      exact good_eqA R (isD_eq h1) ho c1 c2 c3 c4 c5 c6 c7 he
    · simp at hc
  | call d ids f xs => simp [chkOp] at hc
end
end Go.Proofs.YtcbljemkihnmnaaDoorR
namespace Go.Proofs.YtcbljemkihnmnaaDoorR
open Go Go.RowKit

/-- A value that is handed in: a whole struct (agg) or one cell. -/
def ArgR (w : World) (X : Nat → Prop) (x : Bool × List T) (v : Value) : Prop :=
  if x.1 then ∃ vs : List Value, v = .agg vs.toArray ∧ RdL w X x.2 vs else ∃ t, x.2 = [t] ∧ Rd w X t v
def ArgsR (w : World) (X : Nat → Prop) : List (Bool × List T) → List Value → Prop
  | [], [] => True
  | x :: xs, v :: vs => ArgR w X x v ∧ ArgsR w X xs vs
  | _, _ => False
/-- Cells that are handed back: those marked true are new memory of the caller's own (its blocks: G). -/
def ResC (w : World) (Y : Nat → Prop) : List (Bool × T) → List Value → List Nat → Prop
  | [], [], G => G = []
  | (true, t) :: l, v :: vs, G => ∃ G1 G2, Ow w t v G1 ∧ ResC w Y l vs G2 ∧ G = G1 ++ G2
  | (false, t) :: l, v :: vs, G => Rd w Y t v ∧ ResC w Y l vs G
  | _, _, _ => False
def ResV (w : World) (Y : Nat → Prop) (r : RV) (v : Value) (G : List Nat) : Prop :=
  if r.agg then ∃ vs : List Value, v = .agg vs.toArray ∧ ResC w Y r.cs vs G else (∃ c, r.cs = [c]) ∧ ResC w Y r.cs [v] G
def ResVs (w : World) (Y : Nat → Prop) : List RV → List Value → List Nat → Prop
  | [], [], G => G = []
  | r :: rs, v :: vs, G => ∃ G1 G2, ResV w Y r v G1 ∧ ResVs w Y rs vs G2 ∧ G = G1 ++ G2
  | _, _, _ => False
def tupV : List Value → Value
  | [u] => u
  | us => .tuple us.toArray

/-- Function f, called with these, hands back these. -/
def Ctr (P : Program) (f : FuncId) (args : List (Bool × List T)) (rs : List RV) : Prop :=
  (∃ fn, P.funcs[f]? = some fn ∧ fn.body.isNone = false ∧ (fn.name == "runtime.NumGoroutine") = false) ∧
  ∀ (w : World) (X : Nat → Prop) (vs : List Value), (∀ w', Below w.heap.size w w' → TabW w') → ArgsR w X args vs → Calls P f vs.toArray w fun
    | .returned v, w' => Below w.heap.size w w' ∧ ∃ us G, v = tupV us ∧ G.Nodup ∧ (∀ b ∈ G, w.heap.size ≤ b) ∧ ResVs w' (fun b => (b < w.heap.size → X b) ∧ b ∉ G) rs us G
    | _, _ => False

section
variable {P : Program} {base : Nat → Prop} {Z : Nat → Prop} {w0 w : World} {σ : St} {g : Gh} {o : Oper} {a : Act} {V : Nat → Nat} {ts : Array Value}

/-- The blocks that a mode lets by. -/
def Xm (g : Gh) : Md → Nat → Prop
  | .e => Xe g
  | .b => Xb g
  | .a => fun b => ¬ g.Z b
def Md.le : Md → Md → Prop
  | .e, _ => True
  | .b, .e => False
  | .b, _ => True
  | .a, .a => True
  | .a, _ => False
theorem join_left (m n : Md) : m.le (m.join n) := by cases m <;> cases n <;> simp [Md.join, Md.le]
theorem join_right (m n : Md) : n.le (m.join n) := by cases m <;> cases n <;> simp [Md.join, Md.le]
theorem Md.le_trans {x y z : Md} (h : x.le y) (k : y.le z) : x.le z := by cases x <;> cases y <;> cases z <;> simp_all [Md.le]
theorem Xm_mono {m n : Md} (h : m.le n) {b : Nat} (hb : Xm g m b) : Xm g n b := by
  cases m <;> cases n <;> simp only [Md.le] at h
  · exact hb
  · exact Xe.xb hb
  · exact hb.1
  · exact hb
  · exact hb.1
  · exact hb
theorem Rel.notZ (R : Rel base Z w0 w σ ts g) {id b : Nat} (h : b ∈ g.F id) : ¬ g.Z b := by
  intro hz
  rw [R.zz] at hz
  exact (R.frs id b h).1 (R.zb b hz)
theorem rd_wide {X X' : Nat → Prop} {t : T} {v : Value} (h : Rd w X t v) (hx : ∀ b, X b → X' b) : Rd w X' t v := Rd.keep ⟨Nat.le_refl _, fun b hb _ => ⟨rfl, hx b hb⟩⟩ t v h
theorem rd_m {m n : Md} (hm : m.le n) {t : T} {v : Value} (h : Rd w (Xm g m) t v) : Rd w (Xm g n) t v := rd_wide h fun _ => Xm_mono hm

/-- A slice cell, read. -/
theorem Rel.rd_ref (R : Rel base Z w0 w σ ts g) {id ver sz lo n : Nat} {v : Value} (h : CellR w σ.V g (.ref id ver sz lo n) v) {r : Nat × List (List T)} (hr : σ.rows (.ref id ver sz lo n) = some r) {m : Md} (hm : ((SC.ref id ver sz lo n).md σ).le m) :
    Rd w (Xm g m) (.sl r.1 r.2) v := by
  obtain ⟨A, cap, hv, hl, hrow⟩ := R.rows h hr
  by_cases hne : r.2 = []
  · unfold Rd
    exact ⟨A, cap, hv, hl, .inl hne⟩
  · obtain ⟨b, off, hA, hb, hrow⟩ := hrow.resolve_left hne
    have key : Xm g ((SC.ref id ver sz lo n).md σ) b := by
      simp only [SC.md]
      split
      · rename_i sz' es hob
        have ho := R.obj id
        rw [hob] at ho
        simp only [ObjR] at ho
        simp only [CellR] at h
        obtain ⟨_, A1, len, cap1, A', c', hH, hv1, hn, hnc, hcc, hA', _⟩ := h
        have hver : ver = (σ.ob id).ver := by
          simp only [St.rows] at hr
          cases hoo : σ.ob id with
          | mk v0 oc =>
            rw [hoo] at hr hob
            simp only at hob
            subst hob
            simp only at hr
            split at hr <;> simp at hr
            rename_i hh; exact hh.1.symm
        subst hver
        have hRd := ho.2
        unfold Rd at hRd
        rw [hH] at hRd
        obtain ⟨A3, cap3, hv3, _, hRd⟩ := hRd
        simp only [Value.slice.injEq] at hv3
        obtain ⟨rfl, hlen, rfl⟩ := hv3
        have hnz : n ≠ 0 := by
          intro h0
          rw [hv] at hv1
          simp only [Value.slice.injEq] at hv1
          exact hne (List.length_eq_zero_iff.1 (by omega))
        rcases hRd with h0 | ⟨b2, off2, hA2, hx, _⟩
        · rw [h0] at hlen; simp at hlen; omega
        · have hA3 := hA'.resolve_left (by omega)
          rw [hv] at hv1
          simp only [Value.slice.injEq] at hv1
          rw [hA2] at hA3
          rw [← hv1.1, hA] at hA3
          simp at hA3
          rw [hA3.1]
          exact hx
      · rename_i hnl
        simp only [St.rows] at hr
        cases hoo : σ.ob id with
        | mk v0 oc =>
          rw [hoo] at hr hnl
          cases oc with
          | none => simp at hr
          | box cs => simp at hr
          | lent s2 es => exact (hnl _ _ rfl).elim
          | row dp s2 es =>
            simp only at hr
            split at hr <;> simp at hr
            rename_i hh
            obtain ⟨rfl, rfl, hle⟩ := hh
            have ho := R.obj id
            rw [hoo] at ho
            simp only [ObjR] at ho
            simp only [CellR] at h
            obtain ⟨_, A1, len, cap1, A', c', hH, hv1, hn, hnc, hcc, hA', _⟩ := h
            obtain ⟨A3, cap3, hH3, hl3, ho⟩ := ho
            rw [hH3] at hH
            simp only [Value.slice.injEq] at hH
            obtain ⟨rfl, rfl, rfl⟩ := hH
            have hnz : n ≠ 0 := by
              intro h0
              rw [hv] at hv1
              simp only [Value.slice.injEq] at hv1
              exact hne (List.length_eq_zero_iff.1 (by omega))
            rcases ho with h0 | ⟨b2, off2, row, ty, G, hA2, _, _, _, hF⟩
            · omega
            · have hA3 := hA'.resolve_left (by omega)
              rw [hv] at hv1
              simp only [Value.slice.injEq] at hv1
              rw [hA2, ← hv1.1, hA] at hA3
              simp at hA3
              rw [hA3.1]
              exact R.notZ (id := id) (by rw [hF]; simp)
    have hX : Xm g m b := Xm_mono hm key
    have hx' : ∀ b, Xb g b → Xm g m b := by
      intro b' hb'
      cases m with
      | e =>
        exfalso
        simp only [SC.md] at hm
        split at hm <;> simp [Md.le] at hm
      | b => exact hb'
      | a => exact hb'.1
    unfold Rd
    exact ⟨A, cap, hv, hl, .inr ⟨b, off, hA, hX, hb, RdRow.move ⟨Nat.le_refl _, fun b hb _ => ⟨rfl, hx' b hb⟩⟩ _ off off (fun _ _ => rfl) hrow⟩⟩

theorem rows_sz {c : SC} {r : Nat × List (List T)} (h : σ.rows c = some r) : ∀ id ver sz lo n, c = .ref id ver sz lo n → r.1 = sz := by
  intro id ver sz lo n e; subst e; exact rows_ref h

theorem Rel.rd_con1 (R : Rel base Z w0 w σ ts g) {c : SC} {v : Value} (h : CellR w σ.V g c v) {t : T} (ht : σ.con1 c = some t) {m : Md} (hm : (c.md σ).le m) : Rd w (Xm g m) t v := by
  cases c with
  | pl t' => simp [St.con1] at ht; subst ht; exact rd_m (m := .e) (by simp [Md.le]) h
  | bor t' =>
    simp [St.con1] at ht; subst ht
    cases t' with
    | sc u => simp only [CellR, Rd] at h ⊢; exact h
    | _ => exact rd_m (m := .b) (by simpa [SC.md] using hm) h
  | emp sz =>
    simp [St.con1] at ht; subst ht
    simp only [CellR] at h
    obtain ⟨A, rfl⟩ := h
    unfold Rd
    exact ⟨A, 0, rfl, Ln.z _, .inl rfl⟩
  | ref id ver sz lo n =>
    simp only [St.con1] at ht
    obtain ⟨r, hr, rfl⟩ := Option.map_eq_some_iff.1 ht
    exact R.rd_ref h hr hm
  | clo f bs =>
    cases bs with
    | nil =>
      simp [St.con1] at ht; subst ht
      simp only [CellR] at h
      unfold Rd
      exact ⟨[], by simpa using h.1, by simp [RdL]⟩
    | cons b bs => simp [St.con1] at ht

theorem mdAll_mem {cs : List SC} {c : SC} (h : c ∈ cs) : (c.md σ).le (mdAll σ cs) := by
  induction cs with
  | nil => simp at h
  | cons d cs ih =>
    rcases List.mem_cons.1 h with rfl | h
    · exact join_left _ _
    · exact Md.le_trans (ih h) (join_right _ _)

theorem allSome_cons {α : Type} {x : Option α} {l : List (Option α)} {r : List α} (h : allSome (x :: l) = some r) : ∃ a r', x = some a ∧ allSome l = some r' ∧ r = a :: r' := by
  cases x with
  | none => simp [allSome] at h
  | some a =>
    simp only [allSome] at h
    obtain ⟨r', h1, rfl⟩ := Option.map_eq_some_iff.1 h
    exact ⟨a, r', rfl, h1, rfl⟩

theorem Rel.rd_boxed (R : Rel base Z w0 w σ ts g) {id ver : Nat} {t : T} (ht : σ.boxed id ver = some t) : Rd w (Xm g .a) t (g.H id ver) := by
  unfold St.boxed at ht
  split at ht
  rotate_left
  · simp at ht
  rename_i v cs hob
  split at ht
  rotate_left
  · simp at ht
  rename_i hv
  subst hv
  obtain ⟨l, hl, rfl⟩ := Option.map_eq_some_iff.1 ht
  have ho := R.obj id
  rw [hob] at ho
  simp only [ObjR] at ho
  obtain ⟨b, ty, vs, hH, hc, hr, hF⟩ := ho
  unfold Rd
  refine ⟨b, hH, R.notZ (id := id) (by rw [hF]; simp), lt_of_block hc, ?_⟩
  have key : ∀ (cs : List SC) (us : List Value) (l : List T) (off : Nat), CellsR w σ.V g cs us → allSome (cs.map σ.con1) = some l → (∀ j u, us[j]? = some u → vs[off + j]? = some u) → RdEl w (Xm g .a) b off l := by
    intro cs
    induction cs with
    | nil => intro us l off _ h _; simp [allSome] at h; subst h; simp only [RdEl]
    | cons c cs ih =>
      intro us l off hr h hu
      cases us with
      | nil => exact hr.elim
      | cons u us =>
        obtain ⟨t, l', h1, h2, rfl⟩ := allSome_cons h
        simp only [RdEl]
        refine ⟨⟨u, ?_, R.rd_con1 (m := .a) hr.1 h1 (by cases (c.md σ) <;> simp [Md.le])⟩, ih us l' (off + 1) hr.2 h2 (fun j u' hj => ?_)⟩
        · have := hu 0 u rfl
          simpa [World.cell?, hc] using this
        · rw [show off + 1 + j = off + (j + 1) by omega]
          exact hu (j + 1) u' (by simpa using hj)
  exact key cs vs l 0 hr hl (fun j u h => by simpa using h)

theorem Rel.rd_con (R : Rel base Z w0 w σ ts g) {c : SC} {v : Value} (h : CellR w σ.V g c v) {t : T} (ht : σ.con c = some t) {m : Md} (hm : (c.md σ).le m) : Rd w (Xm g m) t v := by
  cases c with
  | clo f bs =>
    cases bs with
    | nil => simp [St.con, allSome] at ht; subst ht; exact R.rd_con1 h (by simp [St.con1]) hm
    | cons b bs =>
      have hma : m = .a := by cases m <;> simp_all [SC.md, Md.le]
      subst hma
      simp only [St.con] at ht
      obtain ⟨l, hl, rfl⟩ := Option.map_eq_some_iff.1 ht
      simp only [CellR] at h
      unfold Rd
      refine ⟨_, h.1, ?_⟩
      have key : ∀ (bs : List (Nat × Nat)) (l : List T), allSome (bs.map fun b => σ.boxed b.1 b.2) = some l → RdL w (Xm g .a) l (bs.map fun b => g.H b.1 b.2) := by
        intro bs
        induction bs with
        | nil => intro l h; simp [allSome] at h; subst h; simp [RdL]
        | cons b bs ih =>
          intro l h
          obtain ⟨t, l', h1, h2, rfl⟩ := allSome_cons h
          simp only [List.map_cons, RdL]
          exact ⟨R.rd_boxed h1, ih l' h2⟩
      exact key (b :: bs) l hl
  | pl t' => exact R.rd_con1 h (c := .pl t') ht hm
  | bor t' => exact R.rd_con1 h (c := .bor t') ht hm
  | emp sz => exact R.rd_con1 h (c := .emp sz) ht hm
  | ref id ver sz lo n => exact R.rd_con1 h (c := .ref id ver sz lo n) ht hm

theorem Rel.rd_cons (R : Rel base Z w0 w σ ts g) {m : Md} : ∀ {cs : List SC} {vs : List Value} {l : List T}, CellsR w σ.V g cs vs → allSome (cs.map σ.con) = some l → (mdAll σ cs).le m → RdL w (Xm g m) l vs
  | [], [], l, _, h, _ => by simp [allSome] at h; subst h; simp [RdL]
  | c :: cs, v :: vs, l, hr, h, hm => by
    obtain ⟨t, l', h1, h2, rfl⟩ := allSome_cons h
    simp only [RdL]
    exact ⟨R.rd_con hr.1 h1 (Md.le_trans (join_left _ _) hm), R.rd_cons hr.2 h2 (Md.le_trans (join_right _ _) hm)⟩
  | [], _ :: _, _, hr, _, _ => hr.elim
  | _ :: _, [], _, hr, _, _ => hr.elim

theorem Rel.arg (R : Rel base Z w0 w σ ts g) {s : SV} {v : Value} (h : SlotR w σ.V g s v) {x : Bool × List T} (hx : s.arg σ = some x) {m : Md} (hm : (s.md σ).le m) : ArgR w (Xm g m) x v := by
  unfold SV.arg at hx
  split at hx
  · rename_i ag cs
    obtain ⟨l, hl, rfl⟩ := Option.map_eq_some_iff.1 hx
    simp only [SlotR, ValR] at h
    simp only [ArgR]
    cases ag with
    | true =>
      simp only [if_true] at h ⊢
      obtain ⟨vs, hv, h⟩ := h
      exact ⟨vs, hv, R.rd_cons h hl hm⟩
    | false =>
      simp only [Bool.false_eq_true, if_false] at h ⊢
      obtain ⟨c, rfl, h⟩ := h
      obtain ⟨t, l', h1, h2, rfl⟩ := allSome_cons hl
      simp [allSome] at h2; subst h2
      exact ⟨t, rfl, R.rd_con h h1 (Md.le_trans (join_left _ _) hm)⟩
  · rename_i id ver
    obtain ⟨t, ht, rfl⟩ := Option.map_eq_some_iff.1 hx
    have hma : m = .a := by cases m <;> simp_all [SV.md, Md.le]
    subst hma
    simp only [SlotR, AdR] at h
    obtain ⟨_, b, hH, hv⟩ := h
    simp only [ArgR, Bool.false_eq_true, if_false]
    refine ⟨t, rfl, ?_⟩
    have := R.rd_boxed ht
    rw [hH] at this
    rw [hv]
    exact this
  · rename_i ts'
    simp at hx; subst hx
    simp only [SlotR, AdR] at h
    obtain ⟨b, hv, hx, hb, hr⟩ := h
    simp only [ArgR, Bool.false_eq_true, if_false]
    refine ⟨_, rfl, rd_m (m := .e) (by simp [Md.le]) ?_⟩
    unfold Rd
    exact ⟨b, hv, hx, hb, hr⟩
  · simp at hx

def chkOds : List Operand → List Od → Bool
  | [], [] => true
  | x :: l, y :: m => chkOd x y && chkOds l m
  | _, _ => false
theorem Rel.args (R : Rel base Z w0 w σ a.tmps g) {m : Md} : ∀ {l : List Operand} {xs : List Od} {as_ : List (Bool × List T)}, chkOds l xs = true → σ.args xs = some as_ → (σ.mode xs).le m → ArgsR w (Xm g m) as_ (l.map a.eval)
  | [], [], as_, _, h, _ => by simp [St.args, allSome] at h; subst h; trivial
  | x :: l, y :: xs, as_, hc, h, hm => by
    simp only [chkOds, Bool.and_eq_true] at hc
    unfold St.args at h
    obtain ⟨t, l', h1, h2, rfl⟩ := allSome_cons h
    exact ⟨R.arg (R.ev hc.1) h1 (Md.le_trans (join_left _ _) hm), Rel.args R hc.2 h2 (Md.le_trans (join_right _ _) hm)⟩
  | [], _ :: _, _, hc, _, _ => by simp [chkOds] at hc
  | _ :: _, [], _, hc, _, _ => by simp [chkOds] at hc
end
end Go.Proofs.YtcbljemkihnmnaaDoorR
namespace Go.Proofs.YtcbljemkihnmnaaDoorR
open Go Go.RowKit

section
variable {P : Program} {base : Nat → Prop} {Z : Nat → Prop} {w0 w w' : World} {σ : St} {g : Gh} {o : Oper} {a : Act} {V : Nat → Nat} {ts : Array Value} {Y : Nat → Prop} {m : Md}

/-- An object that a call has handed over: its number, its value, its blocks, its rows. -/
structure Pl where
  id : Nat
  v : Value
  F : List Nat
  sz : Nat
  es : List (List T)

def Pl.ok (w : World) (p : Pl) : Prop := Ow w (.sl p.sz p.es) p.v p.F
/-- The ghost g' knows these objects. -/
def Knows (σ : St) (g' : Gh) (V' : Nat → Nat) (ps : List Pl) : Prop := ∀ p ∈ ps, g'.H p.id (σ.nw p.id) = p.v ∧ σ.nw p.id ≤ V' p.id
def pobs (σ : St) (ps : List Pl) : List (Nat × OV) := ps.map fun p => (p.id, ⟨σ.nw p.id, .row true p.sz p.es⟩)

theorem ow_win {t : T} {sz : Nat} {es : List (List T)} {v : Value} {F : List Nat} (_ : t = .sl sz es) (h : Ow w (.sl sz es) v F) : Win sz 0 es.length v v := by
  unfold Ow at h
  obtain ⟨A, cap, hv, hl, h⟩ := h
  refine ⟨A, es.length, cap, A, cap, hv, hv, by omega, hl.1, by omega, ?_, ?_⟩
  · rcases h with h | ⟨b, off, _, _, _, hA, _⟩
    · exact .inl h.1
    · right; rw [hA]; simp
  · rcases h with h | ⟨b, off, _, _, _, hA, _⟩
    · exact .inl h.1
    · right; rw [hA]; intro a ha; simp at ha; rw [← ha]

theorem extC_cell {t : T} {c : SC} {v : Value} (h : Rd w' Y t v) (hc : extC m t = some c) {V' : Nat → Nat} {g' : Gh} (hY : ∀ b, b < w'.heap.size → Y b → Xm g' m b) : CellR w' V' g' c v := by
  cases t with
  | sc u => simp only [extC, Option.some.injEq] at hc; subst hc; simp only [CellR, Rd] at *; exact h
  | sl sz es =>
    cases m <;> simp [extC] at hc <;> subst hc
    · exact Rd.keep ⟨Nat.le_refl _, fun b hb hlt => ⟨rfl, hY b hlt hb⟩⟩ _ _ h
    · exact Rd.keep ⟨Nat.le_refl _, fun b hb hlt => ⟨rfl, hY b hlt hb⟩⟩ _ _ h
  | pb ts =>
    cases m <;> simp [extC] at hc <;> subst hc
    · exact Rd.keep ⟨Nat.le_refl _, fun b hb hlt => ⟨rfl, hY b hlt hb⟩⟩ _ _ h
    · exact Rd.keep ⟨Nat.le_refl _, fun b hb hlt => ⟨rfl, hY b hlt hb⟩⟩ _ _ h
  | fn f cs =>
    cases m <;> simp [extC] at hc <;> subst hc
    · exact Rd.keep ⟨Nat.le_refl _, fun b hb hlt => ⟨rfl, hY b hlt hb⟩⟩ _ _ h
    · exact Rd.keep ⟨Nat.le_refl _, fun b hb hlt => ⟨rfl, hY b hlt hb⟩⟩ _ _ h

theorem place_ok : ∀ {cs : List (Bool × T)} {ids : List Nat} {vs : List Value} {G : List Nat} {x : List SC × List (Nat × OV) × List Nat}, place σ m ids cs = some x → ResC w' Y cs vs G →
    ∃ ps : List Pl, x.2.1 = pobs σ ps ∧ ids = ps.map (·.id) ++ x.2.2 ∧ (∀ p ∈ ps, p.id < σ.o.length ∧ p.ok w') ∧ G = ps.flatMap (·.F) ∧
      ∀ (g' : Gh) (V' : Nat → Nat), Knows σ g' V' ps → (∀ b, b < w'.heap.size → Y b → Xm g' m b) → CellsR w' V' g' x.1 vs
  | [], ids, [], G, x, h, hr => by
    have : place σ m ids [] = some ([], [], ids) := by cases ids <;> rfl
    rw [this] at h
    simp at h; subst h
    simp only [ResC] at hr
    exact ⟨[], rfl, rfl, by simp, hr, fun _ _ _ _ => trivial⟩
  | (false, t) :: cs, ids, v :: vs, G, x, h, hr => by
    have e : place σ m ids ((false, t) :: cs) = (extC m t).bind fun c => (place σ m ids cs).map fun x => (c :: x.1, x.2.1, x.2.2) := by cases ids <;> rfl
    rw [e] at h
    obtain ⟨c, hc, h⟩ := Option.bind_eq_some_iff.1 h
    obtain ⟨y, hy, rfl⟩ := Option.map_eq_some_iff.1 h
    simp only [ResC] at hr
    obtain ⟨ps, h1, h2, h3, h4, h5⟩ := place_ok hy hr.2
    exact ⟨ps, h1, h2, h3, h4, fun g' V' hk hY => ⟨extC_cell hr.1 hc hY, h5 g' V' hk hY⟩⟩
  | (true, t) :: cs, ids, v :: vs, G, x, h, hr => by
    cases ids with
    | nil => simp [place] at h
    | cons id ids =>
      cases t with
      | sl sz es =>
        simp only [place] at h
        split at h
        rotate_left
        · simp at h
        rename_i hid
        obtain ⟨y, hy, rfl⟩ := Option.map_eq_some_iff.1 h
        simp only [ResC] at hr
        obtain ⟨G1, G2, ho, hr, rfl⟩ := hr
        obtain ⟨ps, h1, h2, h3, h4, h5⟩ := place_ok hy hr
        refine ⟨⟨id, v, G1, sz, es⟩ :: ps, by simp [pobs, h1], by simp [h2], ?_, by simp [h4], ?_⟩
        · intro p hp
          rcases List.mem_cons.1 hp with rfl | hp
          · exact ⟨hid, ho⟩
          · exact h3 p hp
        · intro g' V' hk hY
          obtain ⟨k1, k2⟩ := hk _ (List.mem_cons_self ..)
          refine ⟨?_, h5 g' V' (fun p hp => hk p (List.mem_cons_of_mem _ hp)) hY⟩
          simp only [CellR]
          exact ⟨k2, by rw [k1]; exact ow_win rfl ho⟩
      | sc u => simp [place] at h
      | pb ts => simp [place] at h
      | fn f cs => simp [place] at h
  | [], _, _ :: _, _, _, _, hr => by simp only [ResC] at hr
  | (true, _) :: _, _, [], _, _, _, hr => by simp only [ResC] at hr
  | (false, _) :: _, _, [], _, _, _, hr => by simp only [ResC] at hr

theorem placeAll_ok : ∀ {rs : List RV} {ids : List Nat} {us : List Value} {G : List Nat} {x : List (Bool × List SC) × List (Nat × OV) × List Nat}, placeAll σ m ids rs = some x → ResVs w' Y rs us G →
    ∃ ps : List Pl, x.2.1 = pobs σ ps ∧ ids = ps.map (·.id) ++ x.2.2 ∧ (∀ p ∈ ps, p.id < σ.o.length ∧ p.ok w') ∧ G = ps.flatMap (·.F) ∧
      ∀ (g' : Gh) (V' : Nat → Nat), Knows σ g' V' ps → (∀ b, b < w'.heap.size → Y b → Xm g' m b) → ValsR w' V' g' x.1 us
  | [], ids, [], G, x, h, hr => by
    simp [placeAll] at h; subst h
    simp only [ResVs] at hr
    exact ⟨[], rfl, rfl, by simp, hr, fun _ _ _ _ => trivial⟩
  | r :: rs, ids, u :: us, G, x, h, hr => by
    simp only [placeAll] at h
    obtain ⟨y, hy, h⟩ := Option.bind_eq_some_iff.1 h
    obtain ⟨z, hz, rfl⟩ := Option.map_eq_some_iff.1 h
    simp only [ResVs] at hr
    obtain ⟨G1, G2, h1, h2, rfl⟩ := hr
    obtain ⟨ps2, a1, a2, a3, a4, a5⟩ := placeAll_ok hz h2
    have hv : ∃ vs : List Value, ResC w' Y r.cs vs G1 ∧ ∀ V' g', CellsR w' V' g' y.1 vs → ValR w' V' g' r.agg y.1 u := by
      unfold ResV at h1
      unfold ValR
      cases hag : r.agg with
      | true =>
        simp only [hag, if_true] at h1 ⊢
        obtain ⟨vs, hv, h1⟩ := h1
        exact ⟨vs, h1, fun V' g' hc => ⟨vs, hv, hc⟩⟩
      | false =>
        simp only [hag, Bool.false_eq_true, if_false] at h1 ⊢
        refine ⟨[u], h1.2, fun V' g' hc => ?_⟩
        cases hy1 : y.1 with
        | nil => rw [hy1] at hc; exact hc.elim
        | cons c cs =>
          rw [hy1] at hc
          cases cs with
          | nil => exact ⟨c, rfl, hc.1⟩
          | cons c' cs => exact hc.2.elim
    obtain ⟨vs, hrc, hval⟩ := hv
    obtain ⟨ps1, b1, b2, b3, b4, b5⟩ := place_ok hy hrc
    refine ⟨ps1 ++ ps2, by simp [pobs, a1, b1], by rw [b2, a2]; simp, ?_, by rw [a4, b4]; simp, ?_⟩
    · intro p hp
      rcases List.mem_append.1 hp with hp | hp
      · exact b3 p hp
      · exact a3 p hp
    · intro g' V' hk hY
      exact ⟨hval V' g' (b5 g' V' (fun p hp => hk p (List.mem_append_left _ hp)) hY), a5 g' V' (fun p hp => hk p (List.mem_append_right _ hp)) hY⟩
  | [], _, _ :: _, _, _, _, hr => by simp only [ResVs] at hr
  | _ :: _, _, [], _, _, _, hr => by simp only [ResVs] at hr

theorem distinct_nodup : ∀ {l : List Nat}, distinct l = true → l.Nodup
  | [], _ => List.nodup_nil
  | k :: l, h => by
    simp only [distinct, Bool.and_eq_true, Bool.not_eq_true'] at h
    refine List.nodup_cons.2 ⟨fun hk => ?_, distinct_nodup h.2⟩
    have := h.1
    simp [hk] at this

/-- The ghost behind a call. -/
def Gh.got (g : Gh) (σ : St) (ps : List Pl) : Gh :=
  ⟨fun i v => match ps.find? (fun p => p.id == i) with
    | some p => if v = σ.nw i then p.v else g.H i v
    | none => g.H i v,
   fun i => match ps.find? (fun p => p.id == i) with
    | some p => p.F
    | none => g.F i, g.Z⟩

theorem find_id {ps : List Pl} (hn : (ps.map (·.id)).Nodup) {p : Pl} (hp : p ∈ ps) : ps.find? (fun q => q.id == p.id) = some p := by
  induction ps with
  | nil => simp at hp
  | cons q ps ih =>
    simp only [List.map_cons, List.nodup_cons] at hn
    rcases List.mem_cons.1 hp with rfl | hp
    · simp
    · have : q.id ≠ p.id := fun e => hn.1 (e ▸ List.mem_map.2 ⟨p, hp, rfl⟩)
      rw [List.find?_cons_of_neg (by simpa using this)]
      exact ih hn.2 hp
theorem find_no {ps : List Pl} {i : Nat} (h : ∀ p ∈ ps, p.id ≠ i) : ps.find? (fun q => q.id == i) = none := by
  rw [List.find?_eq_none]
  intro p hp
  simpa using h p hp

theorem flat_disj {ps : List Pl} (hn : (ps.flatMap (·.F)).Nodup) {p q : Pl} (hp : p ∈ ps) (hq : q ∈ ps) {b : Nat} (h1 : b ∈ p.F) (h2 : b ∈ q.F) (hid : (ps.map (·.id)).Nodup) : p = q := by
  induction ps with
  | nil => simp at hp
  | cons r ps ih =>
    rw [List.flatMap_cons, List.nodup_append] at hn
    simp only [List.map_cons, List.nodup_cons] at hid
    rcases List.mem_cons.1 hp with rfl | hp' <;> rcases List.mem_cons.1 hq with rfl | hq'
    · rfl
    · exact (hn.2.2 b h1 b (List.mem_flatMap.2 ⟨q, hq', h2⟩) rfl).elim
    · exact (hn.2.2 b h2 b (List.mem_flatMap.2 ⟨p, hp', h1⟩) rfl).elim
    · exact ih hn.2.1 hp' hq' hid.2
theorem flat_nd {ps : List Pl} (hn : (ps.flatMap (·.F)).Nodup) {p : Pl} (hp : p ∈ ps) : p.F.Nodup := by
  induction ps with
  | nil => simp at hp
  | cons r ps ih =>
    rw [List.flatMap_cons, List.nodup_append] at hn
    rcases List.mem_cons.1 hp with rfl | hp
    · exact hn.1
    · exact ih hn.2.1 hp

theorem pobs_at {ps : List Pl} (hn : (ps.map (·.id)).Nodup) (hl : ∀ p ∈ ps, p.id < σ.o.length) (i : Nat) (acc : OV) : (pobs σ ps).foldl (fun acc x => if x.1 = i ∧ i < σ.o.length then x.2 else acc) acc =
    match ps.find? (fun p => p.id == i) with
    | some p => ⟨σ.nw p.id, .row true p.sz p.es⟩
    | none => acc := by
  induction ps generalizing acc with
  | nil => rfl
  | cons q ps ih =>
    simp only [List.map_cons, List.nodup_cons] at hn
    simp only [pobs, List.map_cons, List.foldl_cons]
    have := ih hn.2 (fun p hp => hl p (List.mem_cons_of_mem _ hp))
    simp only [pobs] at this
    rw [this]
    by_cases hq : q.id = i
    · subst hq
      rw [List.find?_cons_of_pos (by simp), find_no (fun p hp e => hn.1 (by rw [← e]; exact List.mem_map.2 ⟨p, hp, rfl⟩))]
      simp [hl q (by simp)]
    · rw [List.find?_cons_of_neg (by simpa using hq)]
      split
      · rfl
      · simp [hq]

theorem Rel.got (R : Rel base Z w0 w σ a.tmps g) {d : Nat} {s : SV} {v : Value} {ps : List Pl} (hsz : w.heap.size ≤ w'.heap.size) (hother : ∀ b, b < w.heap.size → w'.heap[b]? = w.heap[b]?) (gr : Bel base w0 w')
    (hid : (ps.map (·.id)).Nodup) (hok : ∀ p ∈ ps, p.id < σ.o.length ∧ p.ok w') (hnd : (ps.flatMap (·.F)).Nodup) (hnew : ∀ b ∈ ps.flatMap (·.F), w.heap.size ≤ b)
    (hs : ∀ V', Knows σ (g.got σ ps) V' ps → Tr w w' σ.V V' g (g.got σ ps) → SlotR w' V' (g.got σ ps) s v) :
    Rel base Z w0 w' (σ.app ⟨some (d, s), pobs σ ps⟩) (a.put (some d) v).tmps (g.got σ ps) := by
  have hob : ∀ i, (σ.app ⟨some (d, s), pobs σ ps⟩).ob i = match ps.find? (fun p => p.id == i) with | some p => ⟨σ.nw p.id, .row true p.sz p.es⟩ | none => σ.ob i := by
    intro i
    rw [ob_app, pobs_at hid (fun p hp => (hok p hp).1)]
  have hfF : ∀ i, (∃ p ∈ ps, p.id = i ∧ (g.got σ ps).F i = p.F ∧ ps.find? (fun p => p.id == i) = some p) ∨ ((g.got σ ps).F i = g.F i ∧ ps.find? (fun p => p.id == i) = none) := by
    intro i
    by_cases h : ∃ p ∈ ps, p.id = i
    · obtain ⟨p, hp, rfl⟩ := h
      left
      exact ⟨p, hp, rfl, by simp [Gh.got, find_id hid hp], find_id hid hp⟩
    · right
      have := find_no (fun p hp e => h ⟨p, hp, e⟩)
      exact ⟨by simp [Gh.got, this], this⟩
  have hV : ∀ i, σ.V i ≤ (σ.app ⟨some (d, s), pobs σ ps⟩).V i := by
    intro i
    simp only [St.V, hob]
    rcases hfF i with ⟨p, hp, rfl, _, hf⟩ | ⟨_, hf⟩ <;> rw [hf]
    · simp [St.nw]
    · exact Nat.le_refl _
  have hH : ∀ i v, v ≤ σ.V i → (g.got σ ps).H i v = g.H i v := by
    intro i v hv
    simp only [Gh.got]
    split
    · rw [if_neg]
      simp only [St.nw, St.V] at *
      omega
    · rfl
  have hlt : ∀ p ∈ ps, ∀ b ∈ p.F, b < w'.heap.size ∧ w.heap.size ≤ b := fun p hp b hb =>
    ⟨Ow.lt _ _ _ (hok p hp).2 b hb, hnew b (List.mem_flatMap.2 ⟨p, hp, hb⟩)⟩
  have hx : ∀ b, b < w.heap.size → Xb g b → Xb (g.got σ ps) b := by
    intro b hb hx
    refine ⟨hx.1, fun i hi => ?_⟩
    rcases hfF i with ⟨p, hp, rfl, hF, _⟩ | ⟨hF, _⟩ <;> rw [hF] at hi
    · have := (hlt p hp b (List.mem_of_mem_head? hi)).2; omega
    · exact hx.2 i hi
  have hxe : ∀ b, b < w.heap.size → Xe g b → Xe (g.got σ ps) b := by
    intro b hb hx
    refine ⟨hx.1, fun i hi => ?_⟩
    rcases hfF i with ⟨p, hp, rfl, hF, _⟩ | ⟨hF, _⟩ <;> rw [hF] at hi
    · have := (hlt p hp b hi).2; omega
    · exact hx.2 i hi
  have tr : Tr w w' σ.V (σ.app ⟨some (d, s), pobs σ ps⟩).V g (g.got σ ps) := ⟨hsz, hV, hH, fun b hb hxb => ⟨hother b hb, hx b hb hxb⟩, hxe, rfl⟩
  have hk : Knows σ (g.got σ ps) (σ.app ⟨some (d, s), pobs σ ps⟩).V ps := by
    intro p hp
    refine ⟨by simp [Gh.got, find_id hid hp], ?_⟩
    simp only [St.V, hob, find_id hid hp]
    exact Nat.le_refl _
  refine R.turn (some (d, s)) (pobs σ ps) w' (g.got σ ps) (some d) v tr ⟨rfl, hs _ hk tr⟩ ?_ ?_ ?_ ?_ gr
  · intro i
    rw [hob]
    rcases hfF i with ⟨p, hp, rfl, hF, hf⟩ | ⟨hF, hf⟩ <;> rw [hf]
    · right
      simp only [ObjR]
      have ho := (hok p hp).2
      unfold Pl.ok Ow at ho
      obtain ⟨A, cap, hv, hl, ho⟩ := ho
      refine ⟨A, cap, by rw [(hk p hp).1]; exact hv, hl, ?_⟩
      rw [hF]
      simpa using ho
    · left
      exact ⟨rfl, hF, fun b hb => hother b (R.frs i b hb).2⟩
  · intro i
    rcases hfF i with ⟨p, hp, rfl, hF, _⟩ | ⟨hF, _⟩ <;> rw [hF]
    · exact flat_nd hnd hp
    · exact R.nd i
  · intro b i j hi hj
    rcases hfF i with ⟨p, hp, rfl, hF, _⟩ | ⟨hF, _⟩ <;> rw [hF] at hi <;> rcases hfF j with ⟨q, hq, rfl, hF', _⟩ | ⟨hF', _⟩ <;> rw [hF'] at hj
    · rw [flat_disj hnd hp hq hi hj hid]
    · have := (hlt p hp b hi).2; have := (R.frs j b hj).2; omega
    · have := (hlt q hq b hj).2; have := (R.frs i b hi).2; omega
    · exact R.dj b i j hi hj
  · intro i b hi
    rcases hfF i with ⟨p, hp, rfl, hF, _⟩ | ⟨hF, _⟩ <;> rw [hF] at hi
    · have := hlt p hp b hi; exact ⟨fun hb => by have := R.bs b hb; omega, by omega⟩
    · have := R.frs i b hi; exact ⟨this.1, by omega⟩
end
end Go.Proofs.YtcbljemkihnmnaaDoorR
namespace Go.Proofs.YtcbljemkihnmnaaDoorR
open Go Go.RowKit

/-- What a call may do. -/
def CallE (P : Program) (σ : St) (d : Nat) (ids : List Nat) (f : Od) (xs : List Od) (e : Ef) : Prop :=
  ∃ fid caps as_ rs, σ.callee f = some (fid, caps) ∧ σ.args xs = some as_ ∧ Ctr P fid (as_ ++ caps) rs ∧ resEf σ (σ.mode (f :: xs)) d ids rs = some e
def EffP (P : Program) (o : MO) (σ : St) (e : Ef) : Prop := match o with
  | .call d ids f xs => CallE P σ d ids f xs e
  | o => eff o σ = some e

def chkCall (o : Oper) (d : Nat) (f : Od) (xs : List Od) : Bool := isD o.dst d && match o.op with
  | .call ⟨.value f', args, _⟩ => chkOd f' f && chkOds args.toList xs
  | _ => false
def chkM (P : Program) (o : Oper) : MO → Bool
  | .call d _ f xs => chkCall o d f xs
  | m => chkOp P o m

section
variable {P : Program} {base : Nat → Prop} {Z : Nat → Prop} {w0 w w' : World} {σ σ' : St} {g : Gh} {o : Oper} {a : Act} {V : Nat → Nat} {ts : Array Value} {m : Md}

def Does (P : Program) (o : Oper) (a : Act) (base : Nat → Prop) (Z : Nat → Prop) (w0 w : World) (σ' : St) : Prop :=
  ∀ (K : Act → World → Prop) (Q : Exit → Act → World → Prop), (∀ a' w' g', a'.defers = a.defers → Rel base Z w0 w' σ' a'.tmps g' → K a' w') → o.wp P a w K Q

theorem put_defers (a : Act) (d : Option Tmp) (v : Value) : (a.put d v).defers = a.defers := by cases d <;> rfl
theorem Good.does (h : Good P o a base Z w0 w σ') : Does P o a base Z w0 w σ' := by
  intro K Q hK
  obtain ⟨nx, w', hr, g', hg⟩ := h
  unfold Oper.wp
  rw [hr]
  cases nx with
  | value v => exact hK _ _ g' (put_defers _ _ _) hg
  | skip => exact hK _ _ g' (put_defers _ _ _) hg
  | _ => exact hg.elim

theorem run_callFunc {f : FuncId} {fn : Func} {args : Array Value} (hf : P.funcs[f]? = some fn) (hb : fn.body.isNone = false) (hn : (fn.name == "runtime.NumGoroutine") = false) : (callFunc f args).run P w = .ok (.enter f args) w := by
  have hb' : ¬ fn.body = none := by intro e; rw [e] at hb; simp at hb
  have hn' : ¬ fn.name = "runtime.NumGoroutine" := by simpa using hn
  unfold callFunc
  simp [hf, hb', hn']

theorem tupV_slot {V' : Nat → Nat} {g' : Gh} {xs : List (Bool × List SC)} {us : List Value} (h : ValsR w' V' g' xs us) : SlotR w' V' g' (tupOf xs) (tupV us) := by
  cases xs with
  | nil =>
    cases us with
    | nil => simp only [tupOf, tupV, SlotR]; exact ⟨[], rfl, trivial⟩
    | cons u us => exact h.elim
  | cons x xs =>
    cases us with
    | nil => exact h.elim
    | cons u us =>
      cases xs with
      | nil =>
        cases us with
        | nil => simp only [tupOf, tupV, SlotR]; exact h.1
        | cons u' us => exact h.2.elim
      | cons x' xs =>
        cases us with
        | nil => exact h.2.elim
        | cons u' us => simp only [tupOf, tupV, SlotR]; exact ⟨_, rfl, h⟩

theorem ArgsR.app {X : Nat → Prop} : ∀ {xs ys : List (Bool × List T)} {us vs : List Value}, ArgsR w X xs us → ArgsR w X ys vs → ArgsR w X (xs ++ ys) (us ++ vs)
  | [], _, [], _, _, h => h
  | _ :: _, _, _ :: _, _, h, h' => ⟨h.1, ArgsR.app h.2 h'⟩
  | [], _, _ :: _, _, h, _ => h.elim
  | _ :: _, _, [], _, h, _ => h.elim

theorem args_pb {X : Nat → Prop} : ∀ {l : List T} {vs : List Value}, RdL w X l vs → ArgsR w X (l.map fun t => (false, [t])) vs
  | [], [], _ => trivial
  | t :: l, v :: vs, h => by
    simp only [RdL] at h
    exact ⟨by simp only [ArgR, Bool.false_eq_true, if_false]; exact ⟨t, rfl, h.1⟩, args_pb h.2⟩
  | [], _ :: _, h => by simp only [RdL] at h
  | _ :: _, [], h => by simp only [RdL] at h

theorem Rel.callee (R : Rel base Z w0 w σ a.tmps g) {f' : Operand} {f : Od} (hc : chkOd f' f = true) {fid : FuncId} {caps : List (Bool × List T)} (h : σ.callee f = some (fid, caps)) (hm : ((σ.ev f).md σ).le m) :
    ∃ cvs : List Value, a.eval f' = .func (.func fid) #[] cvs.toArray ∧ ArgsR w (Xm g m) caps cvs := by
  unfold St.callee at h
  have hE := R.ev hc
  split at h
  · rename_i g0 bs hone
    obtain ⟨l, hl, h⟩ := Option.map_eq_some_iff.1 h
    simp only [Prod.mk.injEq] at h
    obtain ⟨rfl, rfl⟩ := h
    have hC := hE.one_ hone
    have hs := one_some hone
    simp only [CellR] at hC
    refine ⟨_, hC.1, args_pb ?_⟩
    cases bs with
    | nil => simp [allSome] at hl; subst hl; simp [RdL]
    | cons b bs =>
      have hma : m = .a := by
        rw [hs] at hm
        simp only [SV.md, mdAll, SC.md] at hm
        cases m <;> simp_all [Md.join, Md.le]
      subst hma
      have key : ∀ (bs : List (Nat × Nat)) (l : List T), allSome (bs.map fun b => σ.boxed b.1 b.2) = some l → RdL w (Xm g .a) l (bs.map fun b => g.H b.1 b.2) := by
        intro bs
        induction bs with
        | nil => intro l h; simp [allSome] at h; subst h; simp [RdL]
        | cons b bs ih =>
          intro l h
          obtain ⟨t, l', h1, h2, rfl⟩ := allSome_cons h
          simp only [List.map_cons, RdL]
          exact ⟨R.rd_boxed h1, ih l' h2⟩
      exact key _ l hl
  · rename_i g0 cs hone
    simp only [Option.some.injEq, Prod.mk.injEq] at h
    obtain ⟨rfl, rfl⟩ := h
    have hC := hE.one_ hone
    simp only [CellR, Rd] at hC
    obtain ⟨cvs, hv, hr⟩ := hC
    exact ⟨cvs, hv, args_pb (RdL.keep ⟨Nat.le_refl _, fun b hb _ => ⟨rfl, Xm_mono (m := .e) (by simp [Md.le]) hb⟩⟩ _ _ hr)⟩
  · rename_i g0 cs hone
    simp only [Option.some.injEq, Prod.mk.injEq] at h
    obtain ⟨rfl, rfl⟩ := h
    have hC := hE.one_ hone
    have hs := one_some hone
    simp only [CellR, Rd] at hC
    obtain ⟨cvs, hv, hr⟩ := hC
    refine ⟨cvs, hv, args_pb (RdL.keep ⟨Nat.le_refl _, fun b hb _ => ⟨rfl, Xm_mono (m := .b) ?_ hb⟩⟩ _ _ hr)⟩
    rw [hs] at hm
    simp only [SV.md, mdAll, SC.md] at hm
    cases m <;> simp_all [Md.join, Md.le]
  · simp at h

theorem does_call (R : Rel base Z w0 w σ a.tmps g) {d : Nat} {ids : List Nat} {f : Od} {xs : List Od} (hc : chkCall o d f xs = true) {e : Ef} (he : CallE P σ d ids f xs e) : Does P o a base Z w0 w (σ.app e) := by
  intro K Q hK
  simp only [chkCall, Bool.and_eq_true] at hc
  obtain ⟨hd, hc⟩ := hc
  have hd := isD_eq hd
  split at hc
  rotate_left
  · simp at hc
  rename_i f' args ats ho
  simp only [Bool.and_eq_true] at hc
  obtain ⟨fid, caps, as_, rs, hcal, has, ⟨⟨fn, hf, hb, hn⟩, hctr⟩, hres⟩ := he
  obtain ⟨cvs, hfv, hcaps⟩ := R.callee (m := σ.mode (f :: xs)) hc.1 hcal (join_left _ _)
  have hargs := R.args (m := σ.mode (f :: xs)) hc.2 has (join_right _ _)
  have hrun : (execOp a.eval o).run P w = .ok (.enter fid ((args.toList.map a.eval) ++ cvs).toArray) w := by
    simp only [execOp, ho, resolve, hfv, Deferred.ofValue, pure_bind, invoke]
    rw [run_callFunc hf hb hn]
    congr 2
    apply Array.ext'
    simp
  unfold Oper.wp
  rw [hrun, Oper.upon_enter]
  refine Calls.mono (hctr w (Xm g (σ.mode (f :: xs))) _ (fun w' h' => R.tb w' (R.grew.trans ((bel_of h').mono R.bs))) (hargs.app hcaps)) fun en w' hen => ?_
  cases en with
  | outgrown => exact hen.elim
  | panicked c => exact hen.elim
  | returned v =>
    simp only at hen ⊢
    obtain ⟨hbelow, us, G, rfl, hGn, hGw, hrs⟩ := hen
    unfold resEf at hres
    obtain ⟨hdis, hres⟩ := Option.ite_none_right_eq_some.1 hres
    obtain ⟨x, hx, rfl⟩ := Option.map_eq_some_iff.1 hres
    obtain ⟨ps, h1, h2, h3, h4, h5⟩ := placeAll_ok hx hrs
    have hidn : (ps.map (·.id)).Nodup := by
      have := distinct_nodup hdis
      rw [h2] at this
      exact (List.nodup_append.1 this).1
    rw [h1] at hK
    refine hK _ w' (g.got σ ps) (put_defers _ _ _) ?_
    rw [hd]
    refine R.got hbelow.size (fun b hb => hbelow.block b hb) (R.grew.trans ((bel_of hbelow).mono R.bs)) hidn h3 (by rw [← h4]; exact hGn) (by rw [← h4]; exact hGw) ?_
    intro V' hk tr
    refine tupV_slot (h5 _ V' hk fun b hb hY => ?_)
    obtain ⟨hYX, hYG⟩ := hY
    have hcase : b < w.heap.size ∨ w.heap.size ≤ b := Nat.lt_or_ge _ _
    have hnew : w.heap.size ≤ b → Xe (g.got σ ps) b := by
      intro hge
      refine ⟨fun hz => ?_, fun i hi => ?_⟩
      · have hz' : g.Z b := hz
        rw [R.zz] at hz'
        have := R.bs b (R.zb b hz'); omega
      · simp only [Gh.got] at hi
        split at hi
        · rename_i p hp
          refine hYG ?_
          rw [h4]
          exact List.mem_flatMap.2 ⟨p, List.mem_of_find?_eq_some hp, hi⟩
        · have := (R.frs i b hi).2; omega
    rcases hcase with hlt | hge
    · have := hYX hlt
      cases hm : σ.mode (f :: xs) with
      | e => rw [hm] at this; exact tr.xe b hlt this
      | b => rw [hm] at this; exact (tr.xb b hlt this).2
      | a => rw [hm] at this; exact this
    · exact Xm_mono (m := .e) (by simp [Md.le]) (hnew hge)

theorem does_op {m : MO} {e : Ef} (hc : chkM P o m = true) (R : Rel base Z w0 w σ a.tmps g) (he : EffP P m σ e) : Does P o a base Z w0 w (σ.app e) := by
  cases m with
  | call d ids f xs => exact does_call R hc he
  | _ =>
    simp only [chkM] at hc
    simp only [EffP] at he
    exact (good_op hc R he).does

/-! More known, the same call. -/
theorem Le.con_md (h : Le σ σ') {c : SC} {t : T} (e : σ.con c = some t) : c.md σ' = c.md σ := by
  cases c with
  | ref id ver sz lo n =>
    simp only [St.con, St.con1] at e
    obtain ⟨r, hr, _⟩ := Option.map_eq_some_iff.1 e
    simp only [SC.md]
    rcases h.obj id with h1 | h1
    · exfalso
      simp only [St.rows] at hr
      cases hob : σ.ob id with
      | mk v oc => rw [hob] at h1 hr; simp only at h1; subst h1; simp at hr
    · rw [h1]
  | pl t' => rfl
  | bor t' => cases t' <;> rfl
  | emp sz => rfl
  | clo f bs => cases bs <;> rfl
theorem Le.mdAll (h : Le σ σ') : ∀ {cs : List SC} {l : List T}, allSome (cs.map σ.con) = some l → Go.Proofs.YtcbljemkihnmnaaDoorR.mdAll σ' cs = Go.Proofs.YtcbljemkihnmnaaDoorR.mdAll σ cs
  | [], _, _ => rfl
  | c :: cs, l, e => by
    obtain ⟨t, l', h1, h2, _⟩ := allSome_cons e
    simp only [Go.Proofs.YtcbljemkihnmnaaDoorR.mdAll]
    rw [h.con_md h1, Le.mdAll h h2]
theorem Le.arg (h : Le σ σ') {s : SV} {x : Bool × List T} (e : s.arg σ = some x) : s.arg σ' = some x ∧ s.md σ' = s.md σ := by
  unfold SV.arg at e
  split at e
  · obtain ⟨l, hl, rfl⟩ := Option.map_eq_some_iff.1 e
    refine ⟨?_, h.mdAll hl⟩
    simp only [SV.arg]
    rw [allSome_map (fun a b => h.con) hl]; rfl
  · obtain ⟨t, ht, rfl⟩ := Option.map_eq_some_iff.1 e
    simp only [SV.arg, h.boxed ht]
    exact ⟨rfl, rfl⟩
  · simp at e; subst e
    exact ⟨rfl, rfl⟩
  · simp at e
theorem Le.args (h : Le σ σ') : ∀ {xs : List Od} {as_ : List (Bool × List T)}, σ.args xs = some as_ → σ'.args xs = some as_ ∧ σ'.mode xs = σ.mode xs
  | [], as_, e => ⟨e, rfl⟩
  | x :: xs, as_, e => by
    unfold St.args at e
    obtain ⟨t, l', h1, h2, rfl⟩ := allSome_cons e
    simp only at h1
    have ih := Le.args h (xs := xs) h2
    have hx : σ'.ev x = σ.ev x := by
      rcases h.ev x with h3 | h3
      · rw [h3] at h1; simp [SV.arg] at h1
      · exact h3.symm
    obtain ⟨h4, h5⟩ := h.arg h1
    refine ⟨?_, ?_⟩
    · unfold St.args
      simp only [List.map_cons, hx, h4, allSome]
      have := ih.1
      unfold St.args at this
      rw [this]; rfl
    · simp only [St.mode, hx, h5, ih.2]
theorem Le.callee (h : Le σ σ') {f : Od} {x : FuncId × List (Bool × List T)} (e : σ.callee f = some x) : σ'.callee f = some x ∧ (σ'.ev f).md σ' = (σ.ev f).md σ := by
  unfold St.callee at e
  split at e
  · rename_i g0 bs hone
    obtain ⟨l, hl, rfl⟩ := Option.map_eq_some_iff.1 e
    have h1 := h.one hone
    refine ⟨?_, ?_⟩
    · unfold St.callee
      rw [h1]
      simp only
      rw [allSome_map (fun a b => h.boxed) hl]; rfl
    · rw [one_some hone, one_some h1]
      cases bs <;> rfl
  · rename_i g0 cs hone
    simp at e; subst e
    have h1 := h.one hone
    refine ⟨by unfold St.callee; rw [h1], by rw [one_some hone, one_some h1]; rfl⟩
  · rename_i g0 cs hone
    simp at e; subst e
    have h1 := h.one hone
    refine ⟨by unfold St.callee; rw [h1], by rw [one_some hone, one_some h1]; rfl⟩
  · simp at e

theorem place_congr (hm : σ.o.length = σ'.o.length) {md : Md} : ∀ {cs : List (Bool × T)} {ids : List Nat}, (∀ id ∈ ids, (σ.ob id).ver = (σ'.ob id).ver) → place σ' md ids cs = place σ md ids cs ∧ ∀ x, place σ md ids cs = some x → ∀ id ∈ x.2.2, id ∈ ids
  | [], ids, _ => by
    have e1 : place σ' md ids [] = some ([], [], ids) := by cases ids <;> rfl
    have e2 : place σ md ids [] = some ([], [], ids) := by cases ids <;> rfl
    refine ⟨by rw [e1, e2], fun x hx id hid => ?_⟩
    rw [e2] at hx
    simp at hx; subst hx; exact hid
  | (false, t) :: cs, ids, h => by
    have e1 : ∀ τ, place τ md ids ((false, t) :: cs) = (extC md t).bind fun c => (place τ md ids cs).map fun x => (c :: x.1, x.2.1, x.2.2) := by intro τ; cases ids <;> rfl
    obtain ⟨i1, i2⟩ := place_congr hm (cs := cs) h
    refine ⟨by rw [e1, e1, i1], fun x hx id hid => ?_⟩
    rw [e1] at hx
    obtain ⟨c, _, hx⟩ := Option.bind_eq_some_iff.1 hx
    obtain ⟨y, hy, rfl⟩ := Option.map_eq_some_iff.1 hx
    exact i2 y hy id hid
  | (true, t) :: cs, [], _ => by simp [place]
  | (true, t) :: cs, k :: ids, h => by
    obtain ⟨i1, i2⟩ := place_congr hm (cs := cs) (ids := ids) fun id hid => h id (by simp [hid])
    cases t with
    | sl sz es =>
      simp only [place]
      rw [i1, nw_eq (h k (by simp)), hm]
      refine ⟨rfl, fun x hx id hid => ?_⟩
      obtain ⟨_, hx⟩ := Option.ite_none_right_eq_some.1 hx
      obtain ⟨y, hy, rfl⟩ := Option.map_eq_some_iff.1 hx
      exact List.mem_cons_of_mem _ (i2 y hy id hid)
    | sc v => simp [place]
    | pb l => simp [place]
    | fn f l => simp [place]
theorem placeAll_congr (hm : σ.o.length = σ'.o.length) {md : Md} : ∀ {rs : List RV} {ids : List Nat}, (∀ id ∈ ids, (σ.ob id).ver = (σ'.ob id).ver) → placeAll σ' md ids rs = placeAll σ md ids rs
  | [], ids, _ => rfl
  | r :: rs, ids, h => by
    obtain ⟨i1, i2⟩ := place_congr hm (md := md) (cs := r.cs) h
    simp only [placeAll]
    rw [i1]
    cases hp : place σ md ids r.cs with
    | none => rfl
    | some x =>
      simp only [Option.bind_some]
      rw [placeAll_congr hm fun id hid => h id (i2 x hp id hid)]
theorem EffP_mono {o : MO} {e : Ef} (h : Le σ σ') (hc : ∀ id ∈ creates o, (σ.ob id).ver = (σ'.ob id).ver) (he : EffP P o σ e) : EffP P o σ' e := by
  cases o with
  | call d ids f xs =>
    obtain ⟨fid, caps, as_, rs, h1, h2, h3, h4⟩ := he
    obtain ⟨c1, c2⟩ := h.callee h1
    obtain ⟨a1, a2⟩ := h.args h2
    refine ⟨fid, caps, as_, rs, c1, a1, h3, ?_⟩
    have hmode : σ'.mode (f :: xs) = σ.mode (f :: xs) := by simp only [St.mode, c2, a2]
    rw [hmode]
    unfold resEf at *
    rw [placeAll_congr h.m (ids := ids) hc]
    exact h4
  | _ =>
    simp only [EffP] at he ⊢
    exact eff_mono h hc he
end
end Go.Proofs.YtcbljemkihnmnaaDoorR
namespace Go.Proofs.YtcbljemkihnmnaaDoorR
open Go Go.RowKit

/-- An operation of a region: its guard (the slot that is looked at, what is wanted), its text, what it must not look at (slots, objects), the objects that it may turn, the operations that come before it in every order. -/
structure MOp where
  g : Option (Nat × Bool) := none
  o : MO
  hs : List Nat := []
  ho : List Nat := []
  ws : List Nat := []
  bf : List Nat := []
  deriving Inhabited

def dstOf : MO → Option Nat
  | .mv d _ | .bin d .. | .eqA d .. | .un d .. | .mm d .. | .pick d .. | .len d .. | .alloc d .. | .box d .. | .build d .. | .lit d .. | .load d .. | .fld d .. | .idx d .. | .idxA d .. | .fldv d .. | .idxs d .. | .mk d .. | .app d .. | .slc d .. | .slcs d .. | .ext d .. | .clos d .. | .nilc d .. | .convI d .. | .convS d _ | .nilo d .. | .call d .. => some d
  | .store .. => none
def skipE (o : MO) : Ef := ⟨(dstOf o).map fun d => (d, .skp), []⟩
def wantedM (σ : St) : Option (Nat × Bool) → Option Bool
  | none => some true
  | some (s, want) => match σ.get s with
    | .skp => some false
    | .val false [.pl (.sc (.bool b))] => some (b == want)
    | _ => none
/-- One operation of a region, wanted or not. -/
def stepP (P : Program) (m : MOp) (σ : St) (e : Ef) : Prop := match wantedM σ m.g with
  | some true => EffP P m.o σ e
  | some false => e = skipE m.o
  | none => False
def wpR (P : Program) : List MOp → St → (St → Prop) → Prop
  | [], σ, K => K σ
  | m :: ms, σ, K => ∃ e, stepP P m σ e ∧ wpR P ms (σ.app e) K

def guardOk (ops : Array Oper) (o : Oper) (g : Option (Nat × Bool)) : Bool := match o.guard, g with
  | none, none => true
  | some (j, want), some (s, want') => isD ((ops[j]?).bind (·.dst)) s && want == want'
  | _, _ => false
def chkOps (P : Program) (ops : Array Oper) : List Oper → List MOp → Bool
  | [], [] => true
  | o :: l, m :: ms => guardOk ops o m.g && chkM P o m.o && chkOps P ops l ms
  | _, _ => false

section
variable {P : Program} {base : Nat → Prop} {Z : Nat → Prop} {w0 w w' : World} {σ σ' : St} {g : Gh} {o : Oper} {a : Act} {ts : Array Value} {ops : Array Oper}

theorem chk_dst {m : MO} (h : chkM P o m = true) : o.dst = dstOf m := by
  cases m <;> simp only [chkM, chkOp, chkCall, Bool.and_eq_true] at h
  case store => 
    have := h.1
    cases ho : o.dst <;> simp_all [dstOf]
  all_goals exact isD_eq h.1

theorem Rel.wanted (R : Rel base Z w0 w σ a.tmps g) {gd : Option (Nat × Bool)} (h : guardOk ops o gd = true) {b : Bool} (hw : wantedM σ gd = some b) : Region.wanted o (yielded ops a.tmps) = b := by
  unfold guardOk at h
  unfold Region.wanted
  split at h
  · rename_i ho
    rw [ho]
    simp [wantedM] at hw
    exact hw.symm
  · rename_i j want s want' ho
    simp only [Bool.and_eq_true, beq_iff_eq] at h
    obtain ⟨h1, rfl⟩ := h
    have hd := isD_eq h1
    rw [ho]
    simp only [wantedM] at hw
    have hS := R.slot s
    have hy : ∀ v : Value, a.tmps.getD s undef = v → yielded ops a.tmps j = match v with | .bool b => some b | _ => none := by
      intro v hv
      unfold yielded
      rw [hd]
      simp only [Option.bind_some]
      rw [Array.getD_eq_getD_getElem?] at hv
      cases hg : a.tmps[s]? with
      | none => rw [hg] at hv; simp at hv; subst hv; rfl
      | some u => rw [hg] at hv; simp at hv; subst hv; cases u <;> rfl
    split at hw
    · rename_i hs
      rw [hs] at hS
      simp only [SlotR] at hS
      simp at hw; subst hw
      simp only [hy _ hS]
      rfl
    · rename_i b' hs
      rw [hs] at hS
      simp only [SlotR, ValR, Bool.false_eq_true, if_false] at hS
      obtain ⟨c, hc, hS⟩ := hS
      simp at hc; subst hc
      simp only [CellR, Rd] at hS
      simp at hw; subst hw
      simp only [hy _ hS.1]
      cases b' <;> cases want <;> rfl
    · simp at hw
  · simp at h

/-- One operation, by the calculus. -/
theorem Rel.wpOp (R : Rel base Z w0 w σ a.tmps g) {i : Nat} (hi : ops[i]? = some o) {m : MOp} (hg : guardOk ops o m.g = true) (hc : chkM P o m.o = true) {e : Ef} (he : stepP P m σ e) {K : Act → World → Prop} {Q : Exit → Act → World → Prop}
    (hK : ∀ a' w' g', a'.defers = a.defers → Rel base Z w0 w' (σ.app e) a'.tmps g' → K a' w') : Go.wpOp P ops Q i K a w := by
  unfold stepP at he
  unfold Go.wpOp
  rw [hi]
  simp only
  split at he
  · rename_i hw
    rw [R.wanted hg hw]
    simp only [if_true]
    exact .inl (does_op hc R he K Q hK)
  · rename_i hw
    rw [R.wanted hg hw]
    simp only [Bool.false_eq_true, if_false]
    subst he
    refine hK _ w g (put_defers _ _ _) ?_
    rw [chk_dst hc]
    unfold skipE
    cases hd : dstOf m.o with
    | none => exact R.turn none [] w g none undef (Tr.refl _ _ _) rfl (fun id => .inl ⟨rfl, rfl, fun _ _ => rfl⟩) R.nd R.dj R.frs R.grew
    | some d => exact R.fill d .skp undef rfl
  · exact he.elim

theorem wpR_sound {Q : Exit → Act → World → Prop} {K : St → Prop} : ∀ {l : List Oper} {ms : List MOp} {i : Nat} {σ : St} {a : Act} {w : World} {g : Gh}, ops.toList.drop i = l → chkOps P ops l ms = true → Rel base Z w0 w σ a.tmps g → wpR P ms σ K →
    (∀ σ' a' w' g', K σ' → a'.defers = a.defers → Rel base Z w0 w' σ' a'.tmps g' → Q .normal a' w') → wpOps P ops Q (List.range' i l.length) a w
  | [], [], i, σ, a, w, g, _, _, R, h, hQ => hQ σ a w g h rfl R
  | o :: l, m :: ms, i, σ, a, w, g, hd, hc, R, h, hQ => by
    simp only [chkOps, Bool.and_eq_true] at hc
    obtain ⟨⟨h1, h2⟩, h3⟩ := hc
    obtain ⟨e, he, h⟩ := h
    have hi : ops[i]? = some o := by
      have : ops.toList[i]? = some o := by
        have := congrArg (fun l => l[0]?) hd
        simpa using this
      simpa using this
    rw [List.length_cons, List.range'_succ, wpOps_cons]
    refine R.wpOp hi h1 h2 he fun a' w' g' hd' R' => ?_
    refine wpR_sound ?_ h3 R' h fun σ'' a'' w'' g'' hk hd'' R'' => hQ σ'' a'' w'' g'' hk (hd''.trans hd') R''
    have := congrArg List.tail hd
    simpa using this
  | [], _ :: _, _, _, _, _, _, _, hc, _, _, _ => by simp [chkOps] at hc
  | _ :: _, [], _, _, _, _, _, _, hc, _, _, _ => by simp [chkOps] at hc

/-- A region in text order. -/
theorem wp_reg {Q : Exit → Act → World → Prop} {K : St → Prop} {n : Nat} {ms : List MOp} (hc : chkOps P ops ops.toList ms = true) (R : Rel base Z w0 w σ a.tmps g) (h : wpR P ms σ K)
    (hQ : ∀ σ' a' w' g', K σ' → a'.defers = a.defers → Rel base Z w0 w' σ' a'.tmps g' → Q .normal a' w') : (Code.region n ops false).wp P Q a w := by
  refine wp_region ?_
  have := wpR_sound (i := 0) (by simp) hc R h hQ
  simpa [List.range_eq_range'] using this
end
end Go.Proofs.YtcbljemkihnmnaaDoorR
namespace Go.Proofs.YtcbljemkihnmnaaDoorR
open Go Go.RowKit

/-! Functions done one after another, some left out. -/
def runS {C : Type} (S : Nat → Bool) : Nat → List (C → C) → C → C
  | _, [], c => c
  | i, f :: fs, c => runS S (i + 1) fs (if S i then f c else c)
theorem runS_agree {C : Type} {S S' : Nat → Bool} : ∀ {fs : List (C → C)} {i : Nat} {c : C}, (∀ j f, fs[j]? = some f → (∀ x, f x = x) ∨ S (i + j) = S' (i + j)) → runS S i fs c = runS S' i fs c
  | [], _, _, _ => rfl
  | f :: fs, i, c, h => by
    simp only [runS]
    have h0 : (if S i then f c else c) = if S' i then f c else c := by
      rcases h 0 f rfl with h1 | h1
      · rw [h1]; simp
      · simp only [Nat.add_zero] at h1; rw [h1]
    rw [h0]
    exact runS_agree fun j f hj => by
      have := h (j + 1) f (by simpa using hj)
      rwa [show i + 1 + j = i + (j + 1) by omega]
theorem runS_last {C : Type} {S S' : Nat → Bool} : ∀ {fs : List (C → C)} {i k : Nat} {f : C → C} {c : C}, fs[k]? = some f → S (i + k) = true → S' (i + k) = false → (∀ j, j ≠ k → S (i + j) = S' (i + j)) →
    (∀ j f, fs[j]? = some f → k < j → S (i + j) = true → ∀ x, f x = x) → runS S i fs c = f (runS S' i fs c)
  | [], _, _, _, _, h, _, _, _, _ => by simp at h
  | f' :: fs, i, 0, f, c, h, h1, h2, h3, h4 => by
    simp at h; subst h
    simp only [Nat.add_zero] at h1 h2
    simp only [runS, h1, h2, if_true, Bool.false_eq_true, if_false]
    have key : ∀ (gs : List (C → C)) (i' : Nat) (c : C) (T : Nat → Bool), (∀ j f, gs[j]? = some f → T (i' + j) = true → ∀ x, f x = x) → runS T i' gs c = c := by
      intro gs
      induction gs with
      | nil => intro _ _ _ _; rfl
      | cons q gs ih =>
        intro i' c T hq
        simp only [runS]
        have e : (if T i' then q c else c) = c := by
          by_cases hT : T i' = true
          · rw [if_pos hT]; exact hq 0 q rfl (by simpa using hT) c
          · rw [if_neg hT]
        rw [e]
        exact ih _ _ _ fun j f hj hT => hq (j + 1) f (by simpa using hj) (by rw [show i' + (j + 1) = i' + 1 + j by omega]; exact hT)
    rw [key fs (i + 1) _ S fun j f hj hT => h4 (j + 1) f (by simpa using hj) (by omega) (by rw [show i + (j + 1) = i + 1 + j by omega]; exact hT)]
    rw [key fs (i + 1) c S' fun j f hj hT => h4 (j + 1) f (by simpa using hj) (by omega) (by rw [h3 (j + 1) (by omega), show i + (j + 1) = i + 1 + j by omega]; exact hT)]
  | f' :: fs, i, k + 1, f, c, h, h1, h2, h3, h4 => by
    simp only [runS]
    have e : S i = S' i := by have := h3 0 (by omega); simpa using this
    rw [e]
    exact runS_last (by simpa using h) (by rw [show i + 1 + k = i + (k + 1) by omega]; exact h1) (by rw [show i + 1 + k = i + (k + 1) by omega]; exact h2)
      (fun j hj => by have := h3 (j + 1) (by omega); rwa [show i + 1 + j = i + (j + 1) by omega])
      (fun j f hj hk hS => h4 (j + 1) f (by simpa using hj) (by omega) (by rw [show i + (j + 1) = i + 1 + j by omega]; exact hS))

/-- The state behind those effects that are in S. -/
def stS (S : Nat → Bool) : Nat → List Ef → St → St
  | _, [], σ => σ
  | i, e :: es, σ => stS S (i + 1) es (if S i then σ.app e else σ)

section
variable {P : Program} {base : Nat → Prop} {Z : Nat → Prop} {w0 w w' : World} {σ σ' : St} {g : Gh} {o : Oper} {a : Act} {ts : Array Value} {ops : Array Oper}

def updS (n k : Nat) (e : Ef) (s : SV) : SV := match e.d with
  | some (d, v) => if d = k ∧ k < n then v else s
  | none => s
def updO (m id : Nat) (e : Ef) (o : OV) : OV := e.obs.foldl (fun acc x => if x.1 = id ∧ id < m then x.2 else acc) o

theorem get_upd (σ : St) (e : Ef) (k : Nat) : (σ.app e).get k = updS σ.n k e (σ.get k) := by
  obtain ⟨d, obs⟩ := e
  cases d with
  | none => rfl
  | some x => obtain ⟨d, v⟩ := x; rw [get_put]; rfl
theorem ob_upd (σ : St) (e : Ef) (id : Nat) : (σ.app e).ob id = updO σ.o.length id e (σ.ob id) := by
  obtain ⟨d, obs⟩ := e
  exact ob_app σ d obs id
theorem foldl_set_len : ∀ (obs : List (Nat × OV)) (l : List OV), (obs.foldl (fun o x => o.set x.1 x.2) l).length = l.length
  | [], _ => rfl
  | x :: obs, l => by
    simp only [List.foldl_cons]
    rw [foldl_set_len obs]; simp
theorem m_app (σ : St) (e : Ef) : (σ.app e).o.length = σ.o.length := foldl_set_len _ _
theorem stS_n (S : Nat → Bool) : ∀ (es : List Ef) (i : Nat) (σ : St), (stS S i es σ).n = σ.n ∧ (stS S i es σ).o.length = σ.o.length
  | [], _, _ => ⟨rfl, rfl⟩
  | e :: es, i, σ => by
    obtain ⟨h1, h2⟩ := stS_n S es (i + 1) (if S i then σ.app e else σ)
    simp only [stS]
    rw [h1, h2]
    split
    · exact ⟨rfl, m_app σ e⟩
    · exact ⟨rfl, rfl⟩
theorem stS_get (S : Nat → Bool) (k : Nat) : ∀ (es : List Ef) (i : Nat) (σ : St), (stS S i es σ).get k = runS S i (es.map (updS σ.n k)) (σ.get k)
  | [], _, _ => rfl
  | e :: es, i, σ => by
    simp only [stS, List.map_cons, runS]
    rw [stS_get S k es]
    split
    · rw [get_upd]; rfl
    · rfl
theorem stS_ob (S : Nat → Bool) (id : Nat) : ∀ (es : List Ef) (i : Nat) (σ : St), (stS S i es σ).ob id = runS S i (es.map (updO σ.o.length id)) (σ.ob id)
  | [], _, _ => rfl
  | e :: es, i, σ => by
    simp only [stS, List.map_cons, runS]
    rw [stS_ob S id es]
    split
    · rw [ob_upd, m_app]
    · rfl

/-- Two states that say the same. -/
def Same (σ σ' : St) : Prop := (∀ k, σ.get k = σ'.get k) ∧ (∀ id, σ.ob id = σ'.ob id) ∧ σ.n = σ'.n
theorem Rel.same (R : Rel base Z w0 w σ ts g) (h : Same σ σ') : Rel base Z w0 w σ' ts g := by
  have hV : σ'.V = σ.V := funext fun id => by simp only [St.V, h.2.1]
  refine ⟨by rw [← h.2.2]; exact R.len, fun k => ?_, fun id => ?_, R.nd, R.dj, R.frs, R.grew, R.bs, R.zz, R.zb, R.tb⟩
  · rw [hV, ← h.1]; exact R.slot k
  · rw [hV, ← h.2.1]; exact R.obj id

def hideO (ho : List Nat) : Nat → List OV → List OV
  | _, [] => []
  | i, o :: l => (if ho.contains i then ⟨o.ver, .none⟩ else o) :: hideO ho (i + 1) l
def St.hide (σ : St) (hs ho : List Nat) : St := ⟨σ.s.filter fun x => !hs.contains x.1, σ.n, hideO ho 0 σ.o⟩

theorem hideO_len (ho : List Nat) : ∀ (l : List OV) (i : Nat), (hideO ho i l).length = l.length
  | [], _ => rfl
  | o :: l, i => by simp [hideO, hideO_len ho l]
theorem hideO_at (ho : List Nat) : ∀ (l : List OV) (i k : Nat), (hideO ho i l)[k]? = (l[k]?).map fun o => if ho.contains (i + k) then ⟨o.ver, .none⟩ else o
  | [], _, _ => rfl
  | o :: l, i, 0 => by simp [hideO]
  | o :: l, i, k + 1 => by
    simp only [hideO, List.getElem?_cons_succ]
    rw [hideO_at ho l, show i + 1 + k = i + (k + 1) by omega]
theorem get_hide (hs ho : List Nat) (k : Nat) : (σ.hide hs ho).get k = if hs.contains k then .undef else σ.get k := by
  have := lk_filter (fun k => !hs.contains k) k σ.s
  unfold St.get St.hide
  rw [this]
  cases hs.contains k <;> simp
theorem ob_hide (hs ho : List Nat) (id : Nat) : (σ.hide hs ho).ob id = if ho.contains id then ⟨(σ.ob id).ver, .none⟩ else σ.ob id := by
  simp only [St.ob, St.hide, List.getD_eq_getElem?_getD]
  rw [hideO_at]
  cases h : σ.o[id]? with
  | none => simp
  | some o => simp
end
end Go.Proofs.YtcbljemkihnmnaaDoorR
namespace Go.Proofs.YtcbljemkihnmnaaDoorR
open Go Go.RowKit

def inW (m : MOp) (e : Ef) : Bool := (e.d.map (·.1)) == dstOf m.o && e.obs.all fun x => m.ws.contains x.1
def wpD (P : Program) : List MOp → St → (St → Prop) → Prop
  | [], σ, K => K σ
  | m :: ms, σ, K => ∃ e, stepP P m (σ.hide m.hs m.ho) e ∧ inW m e = true ∧ wpD P ms (σ.app e) K

def hidD (m m' : MOp) : Bool := match dstOf m.o with
  | some d => m'.hs.contains d
  | none => true
def sameD (m m' : MOp) : Bool := match dstOf m.o, dstOf m'.o with
  | some d, some d' => d == d'
  | _, _ => false
/-- Two operations that may be done in either order. -/
def unord (m m' : MOp) : Bool := hidD m m' && hidD m' m && !sameD m m' && m.ws.all (fun k => m'.ho.contains k) && m'.ws.all (fun k => m.ho.contains k) && m.ws.all (fun k => !m'.ws.contains k)
def chkBf (ms : List MOp) (i : Nat) (o : Oper) (m : MOp) : Bool :=
  (m.bf.all fun j => decide (j < i) && o.after.toList.any fun e => Region.binds .any e && (e.on == j || ((ms[e.on]?).map fun q => q.bf.contains j).getD false)) &&
  (o.after.toList.all fun e => !Region.binds .any e || decide (e.on < i)) &&
  (creates m.o).all fun k => !m.ho.contains k
def chkLater (i : Nat) (m : MOp) : List MOp → Bool
  | [] => true
  | m' :: ms => (m'.bf.contains i || unord m m') && chkLater i m ms
def chkD (all : List MOp) : Nat → List Oper → List MOp → Bool
  | _, [], [] => true
  | i, o :: l, m :: ms => chkBf all i o m && chkLater i m ms && chkD all (i + 1) l ms
  | _, _, _ => false

section
variable {P : Program} {base : Nat → Prop} {Z : Nat → Prop} {w0 w w' : World} {σ σ' : St} {g : Gh} {o : Oper} {a : Act} {ts : Array Value} {ops : Array Oper}

theorem wpD_es {K : St → Prop} : ∀ {ms : List MOp} {σ : St}, wpD P ms σ K → ∃ es : List Ef, es.length = ms.length ∧ (∀ i m e, ms[i]? = some m → es[i]? = some e → stepP P m (((es.take i).foldl St.app σ).hide m.hs m.ho) e ∧ inW m e = true) ∧ K (es.foldl St.app σ)
  | [], σ, h => ⟨[], rfl, by simp, h⟩
  | m :: ms, σ, h => by
    obtain ⟨e, h1, h2, h3⟩ := h
    obtain ⟨es, h4, h5, h6⟩ := wpD_es h3
    refine ⟨e :: es, by simp [h4], fun i m' e' hm he => ?_, h6⟩
    cases i with
    | zero => simp at hm he; subst hm he; exact ⟨h1, h2⟩
    | succ i => simpa using h5 i m' e' (by simpa using hm) (by simpa using he)

theorem stS_congr {S S' : Nat → Bool} : ∀ {es : List Ef} {i : Nat} {σ : St}, (∀ j, i ≤ j → j < i + es.length → S j = S' j) → stS S i es σ = stS S' i es σ
  | [], _, _, _ => rfl
  | e :: es, i, σ, h => by
    simp only [stS]
    rw [h i (Nat.le_refl _) (by simp)]
    exact stS_congr fun j h1 h2 => h j (by omega) (by simp; omega)
theorem stS_all : ∀ {es : List Ef} {i : Nat} {σ : St}, stS (fun _ => true) i es σ = es.foldl St.app σ
  | [], _, _ => rfl
  | e :: es, i, σ => by simp only [stS, if_true, List.foldl_cons]; exact stS_all
theorem stS_none : ∀ {es : List Ef} {i : Nat} {σ : St}, stS (fun _ => false) i es σ = σ
  | [], _, _ => rfl
  | e :: es, i, σ => by simp only [stS, Bool.false_eq_true, if_false]; exact stS_none
theorem stS_take : ∀ {es : List Ef} {i k : Nat} {σ : St}, stS (fun j => decide (j < i + k)) i es σ = (es.take k).foldl St.app σ
  | [], _, _, _ => by simp [stS]
  | e :: es, i, 0, σ => by
    rw [stS_congr (S' := fun _ => false) fun j h1 _ => by simp; omega]
    simpa using stS_none
  | e :: es, i, k + 1, σ => by
    simp only [stS, List.take_succ_cons, List.foldl_cons]
    rw [if_pos (by simp)]
    rw [← stS_take (i := i + 1) (k := k), show i + 1 + k = i + (k + 1) by omega]

theorem chkD_at {all : List MOp} : ∀ {i : Nat} {l : List Oper} {ms : List MOp}, chkD all i l ms = true → l.length = ms.length ∧ ∀ k o m, l[k]? = some o → ms[k]? = some m → chkBf all (i + k) o m = true ∧ ∀ k' m', k < k' → ms[k']? = some m' → m'.bf.contains (i + k) = true ∨ unord m m' = true
  | _, [], [], _ => ⟨rfl, by simp⟩
  | i, o :: l, m :: ms, h => by
    simp only [chkD, Bool.and_eq_true] at h
    obtain ⟨⟨h1, h2⟩, h3⟩ := h
    obtain ⟨h4, h5⟩ := chkD_at h3
    refine ⟨by simp [h4], fun k o' m' ho hm => ?_⟩
    cases k with
    | zero =>
      simp at ho hm; subst ho hm
      refine ⟨h1, fun k' m' hk hm' => ?_⟩
      have later : ∀ (ms : List MOp) (k : Nat) (m' : MOp), chkLater i m ms = true → ms[k]? = some m' → m'.bf.contains i = true ∨ unord m m' = true := by
        intro ms
        induction ms with
        | nil => intro k m' _ h; simp at h
        | cons q ms ih =>
          intro k m' hc h
          simp only [chkLater, Bool.and_eq_true, Bool.or_eq_true] at hc
          cases k with
          | zero => simp at h; subst h; exact hc.1
          | succ k => exact ih k m' hc.2 (by simpa using h)
      cases k' with
      | zero => omega
      | succ k' => exact later ms k' m' h2 (by simpa using hm')
    | succ k =>
      obtain ⟨h6, h7⟩ := h5 k o' m' (by simpa using ho) (by simpa using hm)
      rw [show i + 1 + k = i + (k + 1) by omega] at h6 h7
      refine ⟨h6, fun k' m'' hk hm'' => ?_⟩
      cases k' with
      | zero => omega
      | succ k' => exact h7 k' m'' (by omega) (by simpa using hm'')
  | _, [], _ :: _, h => by simp [chkD] at h
  | _, _ :: _, [], h => by simp [chkD] at h

theorem wanted_mono (h : Le σ σ') {gd : Option (Nat × Bool)} {b : Bool} (e : wantedM σ gd = some b) : wantedM σ' gd = some b := by
  unfold wantedM at *
  split at e
  · exact e
  · rename_i s want
    rcases h.slot s with h1 | h1
    · rw [h1] at e; simp at e
    · rw [← h1]; exact e
theorem stepP_mono {m : MOp} {e : Ef} (h : Le σ σ') (hc : ∀ id ∈ creates m.o, (σ.ob id).ver = (σ'.ob id).ver) (he : stepP P m σ e) : stepP P m σ' e := by
  unfold stepP at *
  split at he
  · rename_i hw; rw [wanted_mono h hw]; exact EffP_mono h hc he
  · rename_i hw; rw [wanted_mono h hw]; exact he
  · exact he.elim

theorem updS_id {n k : Nat} {m : MOp} {e : Ef} (hw : inW m e = true) (h : dstOf m.o ≠ some k) (x : SV) : updS n k e x = x := by
  simp only [inW, Bool.and_eq_true, beq_iff_eq] at hw
  unfold updS
  split
  · rename_i d v hd
    rw [if_neg]
    rintro ⟨rfl, _⟩
    apply h
    rw [← hw.1, hd]; rfl
  · rfl
theorem updO_id {mm id : Nat} {m : MOp} {e : Ef} (hw : inW m e = true) (h : m.ws.contains id = false) (x : OV) : updO mm id e x = x := by
  simp only [inW, Bool.and_eq_true] at hw
  have hall := List.all_eq_true.1 hw.2
  unfold updO
  have key : ∀ (obs : List (Nat × OV)) (acc : OV), (∀ x ∈ obs, m.ws.contains x.1 = true) → obs.foldl (fun acc x => if x.1 = id ∧ id < mm then x.2 else acc) acc = acc := by
    intro obs
    induction obs with
    | nil => intro _ _; rfl
    | cons y obs ih =>
      intro acc hy
      simp only [List.foldl_cons]
      rw [if_neg, ih _ fun x hx => hy x (List.mem_cons_of_mem _ hx)]
      rintro ⟨rfl, _⟩
      have := hy y (List.mem_cons_self ..)
      rw [this] at h; simp at h
  exact key e.obs x fun x hx => hall x hx

/-- What the check of two operations that come in either order gives. -/
def Un (m m' : MOp) : Prop := (∀ d, dstOf m'.o = some d → m.hs.contains d = true) ∧ (∀ d, dstOf m.o = some d → dstOf m'.o ≠ some d) ∧ (∀ k, m'.ws.contains k = true → m.ho.contains k = true) ∧ (∀ k, m.ws.contains k = true → m'.ws.contains k = false)
theorem unord_un {m m' : MOp} (h : unord m m' = true) : Un m m' ∧ Un m' m := by
  simp only [unord, Bool.and_eq_true, Bool.not_eq_true'] at h
  obtain ⟨⟨⟨⟨⟨h1, h2⟩, h3⟩, h4⟩, h5⟩, h6⟩ := h
  have d1 : ∀ d, dstOf m.o = some d → m'.hs.contains d = true := by
    intro d hd; unfold hidD at h1; rw [hd] at h1; exact h1
  have d2 : ∀ d, dstOf m'.o = some d → m.hs.contains d = true := by
    intro d hd; unfold hidD at h2; rw [hd] at h2; exact h2
  have d3 : ∀ d, dstOf m.o = some d → dstOf m'.o ≠ some d := by
    intro d hd hd'; unfold sameD at h3; rw [hd, hd'] at h3; simp at h3
  have k4 : ∀ k, m.ws.contains k = true → m'.ho.contains k = true := fun k hk => List.all_eq_true.1 h4 k (List.contains_iff_mem.1 hk)
  have k5 : ∀ k, m'.ws.contains k = true → m.ho.contains k = true := fun k hk => List.all_eq_true.1 h5 k (List.contains_iff_mem.1 hk)
  have k6 : ∀ k, m.ws.contains k = true → m'.ws.contains k = false := fun k hk => by have := List.all_eq_true.1 h6 k (List.contains_iff_mem.1 hk); simpa using this
  refine ⟨⟨d2, d3, k5, k6⟩, ⟨d1, fun d hd hd' => d3 d hd' hd, k4, fun k hk => ?_⟩⟩
  cases hc : m.ws.contains k with
  | false => rfl
  | true => rw [k6 k hc] at hk; simp at hk

/-- What stands while a region is done in some order. -/
theorem map_at {α β : Type} {f : α → β} {l : List α} {j : Nat} {y : β} (h : (l.map f)[j]? = some y) : ∃ x, l[j]? = some x ∧ y = f x := by
  rw [List.getElem?_map] at h
  obtain ⟨x, hx, rfl⟩ := Option.map_eq_some_iff.1 h
  exact ⟨x, hx, rfl⟩

theorem any_step {σ0 : St} {ms : List MOp} {es : List Ef} {L L' : Nat → Bool} {i : Nat} {m : MOp} {e : Ef} (hlen : es.length = ms.length) (hw : ∀ (j : Nat) (m : MOp) (e : Ef), ms[j]? = some m → es[j]? = some e → inW m e = true)
    (hm : ms[i]? = some m) (he : es[i]? = some e) (hLi : L i = false) (hL'i : L' i = true) (hL' : ∀ j, j ≠ i → L' j = L j)
    (hord : ∀ (j : Nat) (m' : MOp), ms[j]? = some m' → j ≠ i → Un m m' ∨ (L j = true ∧ j < i) ∨ (L j = false ∧ i < j)) (hcr : (creates m.o).all (fun k => !m.ho.contains k) = true) (hst : stepP P m (((es.take i).foldl St.app σ0).hide m.hs m.ho) e) :
    stepP P m (stS L 0 es σ0) e ∧ Same ((stS L 0 es σ0).app e) (stS L' 0 es σ0) := by
  have hmj : ∀ (j : Nat) (e' : Ef), es[j]? = some e' → ∃ m', ms[j]? = some m' := by
    intro j e' h
    have : j < ms.length := by rw [← hlen]; exact len_at h
    exact ⟨ms[j], List.getElem?_eq_getElem this⟩
  have hS : (es.take i).foldl St.app σ0 = stS (fun j => decide (j < i)) 0 es σ0 := by
    rw [← stS_take (i := 0)]; simp
  have hget : ∀ k, m.hs.contains k = false → (stS (fun j => decide (j < i)) 0 es σ0).get k = (stS L 0 es σ0).get k := by
    intro k hk
    rw [stS_get, stS_get]
    refine runS_agree fun j f hf => ?_
    obtain ⟨e', he', rfl⟩ := map_at hf
    simp only [Nat.zero_add]
    by_cases hji : j = i
    · right; rw [hji, hLi]; simp
    · obtain ⟨m', hm'⟩ := hmj j e' he'
      rcases hord j m' hm' hji with h | ⟨h1, h2⟩ | ⟨h1, h2⟩
      · left
        refine updS_id (hw j m' e' hm' he') fun hd => ?_
        rw [h.1 k hd] at hk; simp at hk
      · right; rw [h1]; simp [h2]
      · right; rw [h1]; simp; omega
  have hob : ∀ id, m.ho.contains id = false → (stS (fun j => decide (j < i)) 0 es σ0).ob id = (stS L 0 es σ0).ob id := by
    intro id hk
    rw [stS_ob, stS_ob]
    refine runS_agree fun j f hf => ?_
    obtain ⟨e', he', rfl⟩ := map_at hf
    simp only [Nat.zero_add]
    by_cases hji : j = i
    · right; rw [hji, hLi]; simp
    · obtain ⟨m', hm'⟩ := hmj j e' he'
      rcases hord j m' hm' hji with h | ⟨h1, h2⟩ | ⟨h1, h2⟩
      · left
        refine updO_id (hw j m' e' hm' he') ?_
        cases hc : m'.ws.contains id with
        | false => rfl
        | true => rw [h.2.2.1 id hc] at hk; simp at hk
      · right; rw [h1]; simp [h2]
      · right; rw [h1]; simp; omega
  obtain ⟨n1, n2⟩ := stS_n (fun j => decide (j < i)) es 0 σ0
  obtain ⟨n3, n4⟩ := stS_n L es 0 σ0
  obtain ⟨n5, n6⟩ := stS_n L' es 0 σ0
  rw [hS] at hst
  refine ⟨stepP_mono (σ := (stS (fun j => decide (j < i)) 0 es σ0).hide m.hs m.ho) (σ' := stS L 0 es σ0) ⟨fun k => ?_, fun id => ?_, n1.trans n3.symm, ?_⟩ (fun id hid => ?_) hst, fun k => ?_, fun id => ?_, ?_⟩
  · rw [get_hide]
    cases hc : m.hs.contains k with
    | true => left; rfl
    | false => right; simp only [Bool.false_eq_true, if_false]; exact hget k hc
  · rw [ob_hide]
    cases hc : m.ho.contains id with
    | true => left; rfl
    | false => right; simp only [Bool.false_eq_true, if_false]; exact hob id hc
  · simp only [St.hide, hideO_len, n2, n4]
  · have := List.all_eq_true.1 hcr id hid
    simp only [Bool.not_eq_true'] at this
    rw [ob_hide, this]
    simp only [Bool.false_eq_true, if_false]
    rw [hob id this]
  · rw [get_upd, n3, stS_get, stS_get]
    have hfi : (es.map (updS σ0.n k))[i]? = some (updS σ0.n k e) := by rw [List.getElem?_map, he]; rfl
    by_cases hd : dstOf m.o = some k
    · refine (runS_last hfi (by simpa using hL'i) (by simpa using hLi) (fun j hj => by simpa using hL' j hj) fun j f hf hij hLj => ?_).symm
      obtain ⟨e', he', rfl⟩ := map_at hf
      obtain ⟨m', hm'⟩ := hmj j e' he'
      simp only [Nat.zero_add] at hLj
      rw [hL' j (by omega)] at hLj
      intro x
      rcases hord j m' hm' (by omega) with h | ⟨h1, h2⟩ | ⟨h1, h2⟩
      · exact updS_id (hw j m' e' hm' he') (h.2.1 k hd) x
      · omega
      · rw [h1] at hLj; simp at hLj
    · rw [updS_id (hw i m e hm he) hd]
      refine runS_agree fun j f hf => ?_
      obtain ⟨e', he', rfl⟩ := map_at hf
      simp only [Nat.zero_add]
      by_cases hji : j = i
      · left
        subst hji
        rw [he] at he'; simp at he'; subst he'
        exact updS_id (hw j m e hm he) hd
      · right; rw [hL' j hji]
  · rw [ob_upd, n4, stS_ob, stS_ob]
    have hfi : (es.map (updO σ0.o.length id))[i]? = some (updO σ0.o.length id e) := by rw [List.getElem?_map, he]; rfl
    cases hd : m.ws.contains id with
    | true =>
      refine (runS_last hfi (by simpa using hL'i) (by simpa using hLi) (fun j hj => by simpa using hL' j hj) fun j f hf hij hLj => ?_).symm
      obtain ⟨e', he', rfl⟩ := map_at hf
      obtain ⟨m', hm'⟩ := hmj j e' he'
      simp only [Nat.zero_add] at hLj
      rw [hL' j (by omega)] at hLj
      intro x
      rcases hord j m' hm' (by omega) with h | ⟨h1, h2⟩ | ⟨h1, h2⟩
      · exact updO_id (hw j m' e' hm' he') (h.2.2.2 id hd) x
      · omega
      · rw [h1] at hLj; simp at hLj
    | false =>
      rw [updO_id (hw i m e hm he) hd]
      refine runS_agree fun j f hf => ?_
      obtain ⟨e', he', rfl⟩ := map_at hf
      simp only [Nat.zero_add]
      by_cases hji : j = i
      · left
        subst hji
        rw [he] at he'; simp at he'; subst he'
        exact updO_id (hw j m e hm he) hd
      · right; rw [hL' j hji]
  · show (stS L 0 es σ0).n = _
    rw [n3, n5]

end
end Go.Proofs.YtcbljemkihnmnaaDoorR
namespace Go.Proofs.YtcbljemkihnmnaaDoorR
open Go Go.RowKit

def cnt (L : Nat → Bool) (n : Nat) : Nat := (List.range n).countP L
theorem cnt_congr {L L' : Nat → Bool} : ∀ {n : Nat}, (∀ j, j < n → L' j = L j) → cnt L' n = cnt L n
  | 0, _ => rfl
  | n + 1, h => by
    have ih := cnt_congr (L := L) (L' := L') (n := n) fun j hj => h j (by omega)
    unfold cnt at *
    rw [List.range_succ, List.countP_append, List.countP_append, ih]
    simp [h n (by omega)]
theorem cnt_set {L L' : Nat → Bool} {i : Nat} (h1 : L i = false) (h2 : L' i = true) (h3 : ∀ j, j ≠ i → L' j = L j) : ∀ {n : Nat}, i < n → cnt L' n = cnt L n + 1
  | 0, h => by omega
  | n + 1, h => by
    by_cases hi : i = n
    · subst hi
      have e := cnt_congr (L := L) (L' := L') (n := i) fun j hj => h3 j (by omega)
      unfold cnt at *
      rw [List.range_succ, List.countP_append, List.countP_append, e]
      simp [h1, h2]
    · have ih := cnt_set h1 h2 h3 (n := n) (by omega)
      unfold cnt at *
      rw [List.range_succ, List.countP_append, List.countP_append, ih]
      simp [h3 n (fun e => hi e.symm)]
      omega
theorem cnt_le (L : Nat → Bool) (n : Nat) : cnt L n ≤ n := by
  have := List.countP_le_length (p := L) (l := List.range n)
  simpa [cnt] using this
theorem cnt_all {L : Nat → Bool} {n : Nat} (h : n ≤ cnt L n) : ∀ j, j < n → L j = true := by
  have h2 : (List.range n).countP L = (List.range n).length := by
    have := cnt_le L n
    unfold cnt at *
    simp; omega
  intro j hj
  exact List.countP_eq_length.1 h2 j (List.mem_range.2 hj)

section
variable {P : Program} {base : Nat → Prop} {Z : Nat → Prop} {w0 w w' : World} {σ σ' : St} {g : Gh} {o : Oper} {a : Act} {ts : Array Value} {ops : Array Oper}

theorem chkOps_at : ∀ {l : List Oper} {ms : List MOp}, chkOps P ops l ms = true → ∀ (k : Nat) (o : Oper) (m : MOp), l[k]? = some o → ms[k]? = some m → guardOk ops o m.g = true ∧ chkM P o m.o = true
  | [], [], _, k, o, m, h, _ => by simp at h
  | o :: l, m :: ms, hc, k, o', m', ho, hm => by
    simp only [chkOps, Bool.and_eq_true] at hc
    cases k with
    | zero => simp at ho hm; subst ho hm; exact hc.1
    | succ k => exact chkOps_at hc.2 k o' m' (by simpa using ho) (by simpa using hm)
  | [], _ :: _, hc, _, _, _, _, _ => by simp [chkOps] at hc
  | _ :: _, [], hc, _, _, _, _, _ => by simp [chkOps] at hc

theorem getD_set {listed : Array Bool} {i j : Nat} (hi : i < listed.size) : (listed.setIfInBounds i true).getD j false = if j = i then true else listed.getD j false := by
  by_cases h : i = j
  · subst h; simp [hi]
  · have h' : ¬ j = i := fun e => h e.symm
    rw [getD_set_ne false h]; simp [h']

theorem any_run {Q : Exit → Act → World → Prop} {d0 : List Deferred} {ms : List MOp} {es : List Ef} {σ0 : St} (hc : chkOps P ops ops.toList ms = true) (hd : chkD ms 0 ops.toList ms = true) (hlen : es.length = ms.length)
    (hes : ∀ (i : Nat) (m : MOp) (e : Ef), ms[i]? = some m → es[i]? = some e → stepP P m (((es.take i).foldl St.app σ0).hide m.hs m.ho) e ∧ inW m e = true)
    (hQ : ∀ a w g, a.defers = d0 → Rel base Z w0 w (es.foldl St.app σ0) a.tmps g → Q .normal a w) :
    ∀ (fuel : Nat) (listed : Array Bool) (a : Act) (w : World) (g : Gh), listed.size = ops.size → (∀ (i : Nat) (m : MOp), ms[i]? = some m → listed.getD i false = true → ∀ j ∈ m.bf, listed.getD j false = true) →
      Rel base Z w0 w (stS (fun i => listed.getD i false) 0 es σ0) a.tmps g → a.defers = d0 → ops.size ≤ cnt (fun i => listed.getD i false) ops.size + fuel → wpAny P .any ops Q fuel listed a w := by
  obtain ⟨hl, hat⟩ := chkD_at hd
  have hms : ms.length = ops.size := by rw [← hl]; simp
  have hop : ∀ (i : Nat) (o : Oper), ops[i]? = some o → ops.toList[i]? = some o := fun i o h => by simpa using h
  have done : ∀ (listed : Array Bool) (a : Act) (w : World) (g : Gh), (∀ j, j < ops.size → listed.getD j false = true) → Rel base Z w0 w (stS (fun i => listed.getD i false) 0 es σ0) a.tmps g → a.defers = d0 → Q .normal a w := by
    intro listed a w g hall R hd0
    rw [stS_congr (S' := fun _ => true) fun j _ hj => hall j (by rw [hlen, hms] at hj; omega), stS_all] at R
    exact hQ a w g hd0 R
  have hrd : ∀ listed : Array Bool, listed.size = ops.size → Region.ready .any ops listed = [] → ∀ j, j < ops.size → listed.getD j false = true := by
    intro listed hsz hr j
    induction j using Nat.strongRecOn with
    | _ j ih =>
      intro hj
      cases hL : listed.getD j false with
      | true => rfl
      | false =>
        exfalso
        have hoj : ops[j]? = some ops[j] := Array.getElem?_eq_getElem hj
        have hmj : ms[j]? = some ms[j] := List.getElem?_eq_getElem (by omega)
        obtain ⟨hb, _⟩ := hat j _ _ (hop j _ hoj) hmj
        simp only [chkBf, Bool.and_eq_true, Nat.zero_add] at hb
        have : j ∈ Region.ready .any ops listed := by
          rw [mem_ready]
          refine ⟨?_, ops[j], hoj, fun e he hbe => ?_⟩
          · have : j < listed.size := by omega
            simp only [Array.getD_eq_getD_getElem?, Array.getElem?_eq_getElem this, Option.getD_some] at hL ⊢
            exact hL
          · have h2 := List.all_eq_true.1 hb.1.2 e (by simpa using he)
            rw [hbe] at h2
            simp at h2
            exact ih e.on h2 (by omega)
        rw [hr] at this; simp at this
  intro fuel
  induction fuel with
  | zero =>
    intro listed a w g hsz hcl R hd0 hcnt
    have hall := cnt_all (by omega : ops.size ≤ cnt (fun i => listed.getD i false) ops.size)
    refine ⟨?_, done listed a w g hall R hd0⟩
    rw [List.eq_nil_iff_forall_not_mem]
    intro i hi
    rw [mem_ready] at hi
    obtain ⟨h0, o, ho, _⟩ := hi
    have hlt : i < ops.size := (Array.getElem?_eq_some_iff.1 ho).1
    have h1 := hall i hlt
    have : i < listed.size := by omega
    simp only [Array.getD_eq_getD_getElem?, Array.getElem?_eq_getElem this, Option.getD_some] at h0 h1
    rw [h0] at h1; simp at h1
  | succ fuel ih =>
    intro listed a w g hsz hcl R hd0 hcnt
    refine ⟨fun hr => done listed a w g (hrd listed hsz hr) R hd0, fun i hi => ?_⟩
    rw [mem_ready] at hi
    obtain ⟨h0, o, ho, hpre⟩ := hi
    have hlt : i < ops.size := (Array.getElem?_eq_some_iff.1 ho).1
    have hil : i < listed.size := by omega
    have hLi : listed.getD i false = false := by
      simp only [Array.getD_eq_getD_getElem?, Array.getElem?_eq_getElem hil, Option.getD_some] at h0 ⊢
      exact h0
    have hmi : ms[i]? = some ms[i] := List.getElem?_eq_getElem (by omega)
    have hei : es[i]? = some es[i] := List.getElem?_eq_getElem (by omega)
    generalize hm : ms[i] = m at hmi
    generalize he : es[i] = e at hei
    obtain ⟨hb, hlater⟩ := hat i o m (hop i o ho) hmi
    simp only [chkBf, Bool.and_eq_true, Nat.zero_add] at hb
    obtain ⟨⟨hb1, hb2⟩, hb3⟩ := hb
    have hbf : ∀ j ∈ m.bf, listed.getD j false = true ∧ j < i := by
      intro j hj
      have h1 := List.all_eq_true.1 hb1 j hj
      simp only [Bool.and_eq_true, decide_eq_true_eq] at h1
      refine ⟨?_, h1.1⟩
      obtain ⟨ed, hed, h2⟩ := List.any_eq_true.1 h1.2
      simp only [Bool.and_eq_true, Bool.or_eq_true, beq_iff_eq] at h2
      have hon := hpre ed (by simpa using hed) h2.1
      rcases h2.2 with rfl | h3
      · exact hon
      · cases hq : ms[ed.on]? with
        | none => rw [hq] at h3; simp at h3
        | some q =>
          rw [hq] at h3
          simp at h3
          exact hcl ed.on q hq hon j h3
    have hord : ∀ (j : Nat) (m' : MOp), ms[j]? = some m' → j ≠ i → Un m m' ∨ ((fun i => listed.getD i false) j = true ∧ j < i) ∨ ((fun i => listed.getD i false) j = false ∧ i < j) := by
      intro j m' hm' hji
      rcases Nat.lt_or_ge j i with h | h
      · have hoj : ops[j]? = some (ops[j]'(by omega)) := Array.getElem?_eq_getElem (by omega)
        obtain ⟨_, h1⟩ := hat j _ m' (hop j _ hoj) hm'
        rcases h1 i m h hmi with h2 | h2
        · right; left
          simp only [Nat.zero_add] at h2
          exact ⟨(hbf j (List.contains_iff_mem.1 h2)).1, h⟩
        · exact .inl (unord_un h2).2
      · rcases hlater j m' (by omega) hm' with h2 | h2
        · right; right
          simp only [Nat.zero_add] at h2
          refine ⟨?_, by omega⟩
          cases hL : listed.getD j false with
          | false => simpa using hL
          | true =>
            have := hcl j m' hm' hL i (List.contains_iff_mem.1 h2)
            rw [hLi] at this; simp at this
        · exact .inl (unord_un h2).1
    obtain ⟨hg, hcm⟩ := chkOps_at hc i o m (hop i o ho) hmi
    obtain ⟨hst, hsame⟩ := any_step (σ0 := σ0) (L := fun i => listed.getD i false) (L' := fun j => (listed.setIfInBounds i true).getD j false) hlen (fun j m e h1 h2 => (hes j m e h1 h2).2) hmi hei hLi (by simp only [getD_set hil, if_true]) (fun j hj => by simp only [getD_set hil, if_neg hj]) hord hb3 (hes i m e hmi hei).1
    refine R.wpOp ho hg hcm hst fun a' w' g' hd' R' => ?_
    refine ih _ a' w' g' (by simpa using hsz) ?_ (R'.same hsame) (hd'.trans hd0) ?_
    · intro k mk hk hLk j hj
      rw [getD_set hil] at hLk ⊢
      split
      · rfl
      · split at hLk
        · rename_i hki
          subst hki
          rw [hmi] at hk; simp at hk; subst hk
          exact (hbf j hj).1
        · exact hcl k mk hk hLk j hj
    · rw [cnt_set (L := fun i => listed.getD i false) (i := i) hLi (by simp only [getD_set hil, if_true]) (fun j hj => by simp only [getD_set hil, if_neg hj]) hlt]
      omega

/-- A region whose order is drawn. -/
theorem wp_dreg {Q : Exit → Act → World → Prop} {K : St → Prop} {n : Nat} {ms : List MOp} (hmix : P.follows .mixedOrders = true) (hc : chkOps P ops ops.toList ms = true) (hd : chkD ms 0 ops.toList ms = true) (R : Rel base Z w0 w σ a.tmps g) (h : wpD P ms σ K)
    (hQ : ∀ σ' a' w' g', K σ' → a'.defers = a.defers → Rel base Z w0 w' σ' a'.tmps g' → Q .normal a' w') : (Code.region n ops true).wp P Q a w := by
  refine wp_region_any hmix ?_
  obtain ⟨es, hlen, hes, hK⟩ := wpD_es h
  have R0 : Rel base Z w0 ({ w with drawn := w.drawn + 1 } : World) σ a.tmps g :=
    (R.turn none [] ({ w with drawn := w.drawn + 1 } : World) g none undef ⟨Nat.le_refl _, fun _ => Nat.le_refl _, fun _ _ _ => rfl, fun _ _ h => ⟨rfl, h⟩, fun _ _ h => h, rfl⟩ rfl (fun id => .inl ⟨rfl, rfl, fun _ _ => rfl⟩) R.nd R.dj R.frs (R.grew.drew))
  have hfalse : ∀ j, (Array.replicate ops.size false).getD j false = false := by
    intro j
    simp only [Array.getD_eq_getD_getElem?, Array.getElem?_replicate]
    split <;> rfl
  refine any_run (d0 := a.defers) (σ0 := σ) hc hd hlen hes (fun a' w' g' hd' R' => hQ _ a' w' g' hK hd' R') ops.size _ a _ g (by simp) ?_ ?_ rfl (by omega)
  · intro i m _ h
    rw [hfalse] at h; simp at h
  · rw [stS_congr (S' := fun _ => false) fun j _ _ => hfalse j, stS_none]
    exact R0
end
end Go.Proofs.YtcbljemkihnmnaaDoorR
namespace Go.Proofs.YtcbljemkihnmnaaDoorR
open Go Go.RowKit

/-- How a piece of code is left. -/
inductive Xt where
  | nrm
  | ex (id : Nat)
  | ret
  deriving DecidableEq, Inhabited

/-- Code, as pure text. keep: the slots that are still wanted behind it. -/
inductive MC where
  | skip
  | reg (ms : List MOp) (keep : List Nat)
  | dreg (ms : List MOp) (keep : List Nat)
  | seq (a b : MC)
  | cond (c : Od) (a b : MC)
  | block (id : Nat) (a : MC)
  | loop (keep : List Nat × List Nat) (a : MC)
  | exit (id : Nat)
  | ret
  deriving Inhabited

def chkC (P : Program) : Code → MC → Bool
  | .skip, .skip => true
  | .region _ ops d, .reg ms _ => !d && chkOps P ops ops.toList ms
  | .region _ ops d, .dreg ms _ => d && chkOps P ops ops.toList ms && chkD ms 0 ops.toList ms
  | .seq x y, .seq a b => chkC P x a && chkC P y b
  | .cond c x y, .cond c' a b => chkOd c c' && chkC P x a && chkC P y b
  | .block id x, .block id' a => id == id' && chkC P x a
  | .loop x, .loop _ a => chkC P x a
  | .exit id, .exit id' => id == id'
  | .ret, .ret => true
  | _, _ => false

/-- Slots kept, objects forgotten. -/
def St.lo (σ : St) (kp : List Nat × List Nat) : St := ⟨(σ.only kp.1).s, σ.n, hideO kp.2 0 σ.o⟩
theorem Rel.lo {base : Nat → Prop} {Z : Nat → Prop} {w0 w : World} {σ : St} {ts : Array Value} {g : Gh} (R : Rel base Z w0 w σ ts g) (kp : List Nat × List Nat) :
    ∃ g', Rel base Z w0 w (σ.lo kp) ts g' := by
  have hob : ∀ id, (σ.lo kp).ob id = if kp.2.contains id then ⟨(σ.ob id).ver, .none⟩ else σ.ob id := fun id => ob_hide (σ := σ) [] kp.2 id
  have hV : (σ.lo kp).V = σ.V := by
    funext id
    simp only [St.V, hob]
    split <;> rfl
  have hF : ∀ id b, b ∈ (if kp.2.contains id then [] else g.F id) → b ∈ g.F id := by
    intro id b hb
    split at hb
    · simp at hb
    · exact hb
  have hh : ∀ id b, (if kp.2.contains id then [] else g.F id).head? = some b → (g.F id).head? = some b := by
    intro id b hb
    split at hb
    · simp at hb
    · exact hb
  have tr : Tr w w σ.V (σ.lo kp).V g ⟨g.H, fun id => if kp.2.contains id then [] else g.F id, g.Z⟩ := by
    refine ⟨Nat.le_refl _, fun id => by rw [hV]; exact Nat.le_refl _, fun _ _ _ => rfl, fun b _ hb => ⟨rfl, hb.1, fun id he => hb.2 id (hh id b he)⟩, fun b _ hb => ⟨hb.1, fun id he => hb.2 id (hF id b he)⟩, rfl⟩
  refine ⟨⟨g.H, fun id => if kp.2.contains id then [] else g.F id, g.Z⟩, R.len, fun k => ?_, fun id => ?_, fun id => ?_, fun b i j hi hj => R.dj b i j (hF i b hi) (hF j b hj), fun i b hi => R.frs i b (hF i b hi), R.grew, R.bs, R.zz, R.zb, R.tb⟩
  · exact tr.slot _ _ ((R.only kp.1).slot k)
  · rw [hob]
    by_cases hc : kp.2.contains id
    · rw [if_pos hc]
      simp only [ObjR, if_pos hc]
    · rw [if_neg hc]
      exact tr.obj id _ (Nat.le_refl _) (by simp only [if_neg hc]) (fun _ _ => rfl) _ (R.obj id)
  · simp only
    split
    · exact List.nodup_nil
    · exact R.nd id

/-! What is known of results of calls: their lists and numbers are within bounds. -/
def bdSC : SC → Prop
  | .pl t => bdT t
  | .bor t => bdT t
  | _ => True
def bdCs : List SC → Prop
  | [] => True
  | c :: cs => bdSC c ∧ bdCs cs
def bdVs : List (Bool × List SC) → Prop
  | [] => True
  | v :: vs => bdCs v.2 ∧ bdVs vs
def bdSV : SV → Prop
  | .val _ cs => bdCs cs
  | .tup vs => bdVs vs
  | _ => True
def bdOC : OC → Prop
  | .row _ _ es => es.length ≤ roomB ∧ bdR es
  | .lent _ es => es.length ≤ roomB ∧ bdR es
  | _ => True
def bdIds (σ : St) : List Nat → Prop
  | [] => True
  | id :: l => bdOC (σ.ob id).oc ∧ bdIds σ l
def bdM (σ : St) : MO → Prop
  | .call d ids _ _ => bdSV (σ.get d) ∧ bdIds σ ids
  | _ => True
def bdC (σ : St) : List MOp → Prop
  | [] => True
  | m :: ms => bdM σ m.o ∧ bdC σ ms

/-- What the code may do, as a transformer of what is wanted behind it. -/
def wpC (P : Program) : MC → (Xt → St → Prop) → St → Prop
  | .skip, Q, σ => Q .nrm σ
  | .reg ms keep, Q, σ => wpR P ms σ fun σ' => bdC σ' ms → Q .nrm (σ'.only keep)
  | .dreg ms keep, Q, σ => wpD P ms σ fun σ' => bdC σ' ms → Q .nrm (σ'.only keep)
  | .seq a b, Q, σ => wpC P a (fun x σ' => match x with
    | .nrm => wpC P b Q σ'
    | x => Q x σ') σ
  | .cond c a b, Q, σ => ∃ t, (σ.sca c).bind vBool = some t ∧ (t = true → wpC P a Q σ) ∧ (t = false → wpC P b Q σ)
  | .block id a, Q, σ => wpC P a (fun x σ' => match x with
    | .ex i => if i = id then Q .nrm σ' else Q (.ex i) σ'
    | x => Q x σ') σ
  | .loop keep a, Q, σ => ∃ (n : Nat) (S : Nat → St), 0 < n ∧ (σ.lo keep).re = some (S 0) ∧ ∀ k, k < n → wpC P a (fun x σ' => match x with
    | .nrm => k + 1 < n ∧ (σ'.lo keep).re = some (S (k + 1))
    | x => Q x σ') (S k)
  | .exit id, Q, σ => Q (.ex id) σ
  | .ret, Q, σ => Q .ret σ

def Xt.e : Xt → Exit
  | .nrm => .normal
  | .ex id => .exit id
  | .ret => .ret

section
variable {P : Program} {base : Nat → Prop} {Z : Nat → Prop} {w0 : World}

theorem CellR.bd_ {w : World} {V : Nat → Nat} {g : Gh} : ∀ {c : SC} {v : Value}, CellR w V g c v → bdSC c
  | .pl t, v, h => Rd.bd t v h
  | .bor t, v, h => Rd.bd t v h
  | .emp _, _, _ => trivial
  | .ref .., _, _ => trivial
  | .clo .., _, _ => trivial
theorem CellsR.bd_ {w : World} {V : Nat → Nat} {g : Gh} : ∀ {cs : List SC} {vs : List Value}, CellsR w V g cs vs → bdCs cs
  | [], [], _ => trivial
  | _ :: _, _ :: _, h => ⟨CellR.bd_ h.1, CellsR.bd_ h.2⟩
  | [], _ :: _, h => h.elim
  | _ :: _, [], h => h.elim
theorem ValR.bd_ {w : World} {V : Nat → Nat} {g : Gh} {ag : Bool} {cs : List SC} {v : Value} (h : ValR w V g ag cs v) : bdCs cs := by
  unfold ValR at h
  split at h
  · obtain ⟨vs, _, h⟩ := h; exact CellsR.bd_ h
  · obtain ⟨c, rfl, h⟩ := h; exact ⟨CellR.bd_ h, trivial⟩
theorem ValsR.bd_ {w : World} {V : Nat → Nat} {g : Gh} : ∀ {xs : List (Bool × List SC)} {vs : List Value}, ValsR w V g xs vs → bdVs xs
  | [], [], _ => trivial
  | _ :: _, _ :: _, h => ⟨ValR.bd_ h.1, ValsR.bd_ h.2⟩
  | [], _ :: _, h => h.elim
  | _ :: _, [], h => h.elim
theorem SlotR.bd_ {w : World} {V : Nat → Nat} {g : Gh} : ∀ {s : SV} {v : Value}, SlotR w V g s v → bdSV s
  | .undef, _, _ => trivial
  | .skp, _, _ => trivial
  | .val ag cs, v, h => ValR.bd_ (ag := ag) (v := v) h
  | .adr _, _, _ => trivial
  | .tup vs, _, h => by obtain ⟨us, _, h⟩ := h; exact ValsR.bd_ h
theorem Rel.bdO {w : World} {σ : St} {ts : Array Value} {g : Gh} (R : Rel base Z w0 w σ ts g) (id : Nat) : bdOC (σ.ob id).oc := by
  cases h : (σ.ob id).oc with
  | none => trivial
  | box cs => trivial
  | row dp sz es =>
    obtain ⟨A, cap, _, hl, hr⟩ := R.shown (.inl ⟨dp, h⟩)
    refine ⟨hl.2, ?_⟩
    rcases hr with hr | ⟨b, off, _, _, hr⟩
    · rw [hr]; trivial
    · exact RdRow.bd es off hr
  | lent sz es =>
    obtain ⟨A, cap, _, hl, hr⟩ := R.shown (.inr h)
    refine ⟨hl.2, ?_⟩
    rcases hr with hr | ⟨b, off, _, _, hr⟩
    · rw [hr]; trivial
    · exact RdRow.bd es off hr
theorem Rel.bdC_ {w : World} {σ : St} {ts : Array Value} {g : Gh} (R : Rel base Z w0 w σ ts g) : ∀ ms : List MOp, bdC σ ms
  | [] => trivial
  | m :: ms => by
    refine ⟨?_, R.bdC_ ms⟩
    unfold bdM
    split
    · rename_i d ids _ _ _
      refine ⟨(R.slot d).bd_, ?_⟩
      have key : ∀ ids : List Nat, bdIds σ ids := by
        intro ids
        induction ids with
        | nil => trivial
        | cons id l ih => exact ⟨R.bdO id, ih⟩
      exact key ids
    · trivial

theorem wpC_sound (hmix : P.follows .mixedOrders = true) : ∀ {M : MC} {c : Code} {Q : Xt → St → Prop} {Q' : Exit → Act → World → Prop} {σ : St} {a : Act} {w : World} {g : Gh} (_ : chkC P c M = true) (_ : Rel base Z w0 w σ a.tmps g) (_ : wpC P M Q σ)
    (_ : ∀ x σ' a' w' g', Q x σ' → a'.defers = a.defers → Rel base Z w0 w' σ' a'.tmps g' → Q' x.e a' w'), c.wp P Q' a w := by
  intro M
  induction M with
  | skip =>
    intro c Q Q' σ a w g hc R h hQ
    cases c <;> simp only [chkC, Bool.false_eq_true] at hc
    exact wp_skip (hQ .nrm σ a w g h rfl R)
  | reg ms keep =>
    intro c Q Q' σ a w g hc R h hQ
    cases c <;> simp only [chkC, Bool.false_eq_true] at hc
    rename_i n ops d
    simp only [Bool.and_eq_true, Bool.not_eq_true'] at hc
    obtain ⟨rfl, hc⟩ := hc
    exact wp_reg hc R h fun σ' a' w' g' hk hd R' => hQ .nrm _ a' w' g' (hk (R'.bdC_ ms)) hd (R'.only keep)
  | dreg ms keep =>
    intro c Q Q' σ a w g hc R h hQ
    cases c <;> simp only [chkC, Bool.false_eq_true] at hc
    rename_i n ops d
    simp only [Bool.and_eq_true] at hc
    obtain ⟨⟨rfl, hc⟩, hd⟩ := hc
    exact wp_dreg hmix hc hd R h fun σ' a' w' g' hk hd R' => hQ .nrm _ a' w' g' (hk (R'.bdC_ ms)) hd (R'.only keep)
  | seq x y ihx ihy =>
    intro c Q Q' σ a w g hc R h hQ
    cases c <;> simp only [chkC, Bool.false_eq_true] at hc
    simp only [Bool.and_eq_true] at hc
    refine wp_seq (ihx hc.1 R h fun x σ' a' w' g' hq hd R' => ?_)
    cases x with
    | nrm => exact ihy hc.2 R' hq fun x σ'' a'' w'' g'' hq' hd' R'' => hQ x σ'' a'' w'' g'' hq' (hd'.trans hd) R''
    | ex id => exact hQ (.ex id) σ' a' w' g' hq hd R'
    | ret => exact hQ .ret σ' a' w' g' hq hd R'
  | cond c' x y ihx ihy =>
    intro c Q Q' σ a w g hc R h hQ
    cases c <;> simp only [chkC, Bool.false_eq_true] at hc
    simp only [Bool.and_eq_true] at hc
    obtain ⟨t, ht, h1, h2⟩ := h
    obtain ⟨v, hv, hb⟩ := Option.bind_eq_some_iff.1 ht
    have hbv : v = .bool t := by unfold vBool at hb; split at hb <;> simp_all
    refine wp_cond_split (t := t) (by rw [(R.sca hc.1.1 hv).1, hbv]) (fun e => ihx hc.1.2 R (h1 e) hQ) (fun e => ihy hc.2 R (h2 e) hQ)
  | block id x ih =>
    intro c Q Q' σ a w g hc R h hQ
    cases c <;> simp only [chkC, Bool.false_eq_true] at hc
    simp only [Bool.and_eq_true, beq_iff_eq] at hc
    obtain ⟨rfl, hc⟩ := hc
    refine wp_block (ih hc R h fun x σ' a' w' g' hq hd R' => ?_)
    cases x with
    | nrm => exact hQ .nrm σ' a' w' g' hq hd R'
    | ret => exact hQ .ret σ' a' w' g' hq hd R'
    | ex i =>
      simp only [Xt.e, Exit.inBlock] at hq ⊢
      split at hq
      · rename_i hi; rw [if_pos hi]; exact hQ .nrm σ' a' w' g' hq hd R'
      · rename_i hi; rw [if_neg hi]; exact hQ (.ex i) σ' a' w' g' hq hd R'
  | loop keep x ih =>
    intro c Q Q' σ a w g hc R h hQ
    cases c <;> simp only [chkC, Bool.false_eq_true] at hc
    rename_i c
    obtain ⟨n, S, hn, h0, hS⟩ := h
    have key : ∀ (m k : Nat) (a' : Act) (w' : World) (g' : Gh), k + m = n → 0 < m → a'.defers = a.defers → Rel base Z w0 w' (S k) a'.tmps g' → Code.rounds P c Q' m a' w' := by
      intro m
      induction m with
      | zero => intro k a' w' g' _ h; omega
      | succ m ihm =>
        intro k a' w' g' hk _ hd R'
        rw [rounds_succ]
        refine ih hc R' (hS k (by omega)) fun x σ' a'' w'' g'' hq hd' R'' => ?_
        cases x with
        | nrm =>
          obtain ⟨g3, R3⟩ := R''.lo keep
          exact ihm (k + 1) a'' w'' _ (by omega) (by omega) (hd'.trans hd) (R3.re hq.2)
        | ex id => exact hQ (.ex id) σ' a'' w'' g'' hq (hd'.trans hd) R''
        | ret => exact hQ .ret σ' a'' w'' g'' hq (hd'.trans hd) R''
    obtain ⟨g3, R3⟩ := R.lo keep
    exact wp_loop_rounds n (key n 0 a w _ (by omega) hn rfl (R3.re h0))
  | exit id =>
    intro c Q Q' σ a w g hc R h hQ
    cases c <;> simp only [chkC, Bool.false_eq_true] at hc
    obtain rfl := beq_iff_eq.1 hc
    exact wp_exit (hQ (.ex _) σ a w g h rfl R)
  | ret =>
    intro c Q Q' σ a w g hc R h hQ
    cases c <;> simp only [chkC, Bool.false_eq_true] at hc
    exact wp_ret (hQ .ret σ a w g h rfl R)
end
end Go.Proofs.YtcbljemkihnmnaaDoorR
namespace Go.Proofs.YtcbljemkihnmnaaDoorR
open Go Go.RowKit

/-- Where a result stands at the end. -/
inductive MR where
  | tmp (t : Nat)
  | cell (a : Nat) (agg : Bool) (n : Nat)
  deriving Inhabited
def St.resv (σ : St) : MR → Option (Bool × List SC)
  | .tmp t => (σ.get t).all
  | .cell a agg n => (σ.adr (.s a)).bind fun ad => (σ.load n ad).bind fun cs => if agg = true ∨ n = 1 then some (agg, cs) else none
def chkRes (P : Program) : List ResultVar → List MR → Bool
  | [], [] => true
  | .tmp t :: l, .tmp k :: m => t == k && chkRes P l m
  | .cell a t :: l, .cell k agg n :: m => a == k && tyB P t agg n && chkRes P l m
  | _, _ => false

/-- The cells of a result as trees; fl: which are handed over as new memory of the caller's own. -/
def outC (σ : St) : List Bool → List SC → Option (List (Bool × T) × List Kd × Md)
  | [], [] => some ([], [], .e)
  | true :: fl, c :: cs => (σ.emb c).bind fun x => (outC σ fl cs).map fun y => ((true, x.1) :: y.1, x.2 :: y.2.1, y.2.2)
  | false :: fl, c :: cs => (σ.con1 c).bind fun t => (outC σ fl cs).map fun y => ((false, t) :: y.1, y.2.1, (c.md σ).join y.2.2)
  | _, _ => none
def outR (σ : St) : List (MR × List Bool) → Option (List RV × List Kd × Md)
  | [] => some ([], [], .e)
  | (r, fl) :: l => (σ.resv r).bind fun v => (outC σ fl v.2).bind fun x => (outR σ l).map fun y => (⟨v.1, x.1⟩ :: y.1, x.2.1 ++ y.2.1, x.2.2.join y.2.2)
/-- What is handed back. -/
def outs (σ : St) (rs : List (MR × List Bool)) : Option (List RV) := (outR σ rs).bind fun x =>
  if neuO x.2.1 = true ∧ distinct (owns x.2.1) = true ∧ (owns x.2.1 = [] ∨ x.2.2 = .e) then some x.1 else none

section
variable {P : Program} {base : Nat → Prop} {Z : Nat → Prop} {w0 w : World} {σ : St} {g : Gh} {ts : Array Value} {Y : Nat → Prop}

theorem Rel.outC (R : Rel base Z w0 w σ ts g) : ∀ {fl : List Bool} {cs : List SC} {vs : List Value} {x : List (Bool × T) × List Kd × Md}, CellsR w σ.V g cs vs → Go.Proofs.YtcbljemkihnmnaaDoorR.outC σ fl cs = some x → neuO x.2.1 = true →
    ∃ G, G.Sublist ((owns x.2.1).flatMap g.F) ∧ ∀ (m : Md) (Y : Nat → Prop), x.2.2.le m → (∀ b, Xm g m b → Y b) → ResC w Y x.1 vs G
  | [], [], [], x, _, h, _ => by
    simp [Go.Proofs.YtcbljemkihnmnaaDoorR.outC] at h; subst h
    exact ⟨[], by simp, fun _ _ _ _ => by simp [ResC]⟩
  | true :: fl, c :: cs, v :: vs, x, hr, h, hn => by
    simp only [Go.Proofs.YtcbljemkihnmnaaDoorR.outC] at h
    obtain ⟨e, he, h⟩ := Option.bind_eq_some_iff.1 h
    obtain ⟨y, hy, rfl⟩ := Option.map_eq_some_iff.1 h
    simp only [neuO, List.all_cons, Bool.and_eq_true] at hn
    obtain ⟨G, h1, h2⟩ := Rel.outC R hr.2 hy hn.2
    obtain ⟨t, k⟩ := e
    rcases R.emb hr.1 he with ⟨rfl, ho, _⟩ | ⟨id, F', rfl, ho, hs, _⟩ | ⟨rfl, _⟩
    · refine ⟨G, by simpa [owns] using h1, fun m Y hm hY => ?_⟩
      simp only [ResC]
      exact ⟨[], G, ho, h2 m Y hm hY, rfl⟩
    · refine ⟨F' ++ G, by simpa [owns] using hs.append h1, fun m Y hm hY => ?_⟩
      simp only [ResC]
      exact ⟨F', G, ho, h2 m Y hm hY, rfl⟩
    · simp at hn
  | false :: fl, c :: cs, v :: vs, x, hr, h, hn => by
    simp only [Go.Proofs.YtcbljemkihnmnaaDoorR.outC] at h
    obtain ⟨t, ht, h⟩ := Option.bind_eq_some_iff.1 h
    obtain ⟨y, hy, rfl⟩ := Option.map_eq_some_iff.1 h
    obtain ⟨G, h1, h2⟩ := Rel.outC R hr.2 hy hn
    refine ⟨G, h1, fun m Y hm hY => ?_⟩
    simp only [ResC]
    exact ⟨rd_wide (R.rd_con1 hr.1 ht (Md.le_trans (join_left _ _) hm)) hY, h2 m Y (Md.le_trans (join_right _ _) hm) hY⟩
  | [], _ :: _, _, _, _, h, _ => by simp [Go.Proofs.YtcbljemkihnmnaaDoorR.outC] at h
  | true :: _, [], _, _, _, h, _ => by simp [Go.Proofs.YtcbljemkihnmnaaDoorR.outC] at h
  | false :: _, [], _, _, _, h, _ => by simp [Go.Proofs.YtcbljemkihnmnaaDoorR.outC] at h
  | _, [], _ :: _, _, hr, _, _ => hr.elim
  | _, _ :: _, [], _, hr, _, _ => hr.elim

def resF (ts : Array Value) : ResultVar → Sem Value
  | .tmp t => pure (ts.getD t undef)
  | .cell a t => do loadVar t (← asAddr (ts.getD a undef))

theorem Rel.resv (R : Rel base Z w0 w σ ts g) {r : ResultVar} {m : MR} (hc : chkRes P [r] [m] = true) {v : Bool × List SC} (h : σ.resv m = some v) :
    ∃ u, (resF ts r).run P w = .ok u w ∧ ValR w σ.V g v.1 v.2 u := by
  cases r with
  | tmp t =>
    cases m <;> simp only [chkRes, Bool.and_true, Bool.false_eq_true] at hc
    obtain rfl := beq_iff_eq.1 hc
    simp only [St.resv] at h
    have hS := R.slot t
    rw [all_some h] at hS
    exact ⟨_, rfl, hS⟩
  | cell ad ty =>
    cases m <;> simp only [chkRes, Bool.and_true, Bool.false_eq_true] at hc
    rename_i k agg n
    simp only [Bool.and_eq_true, beq_iff_eq] at hc
    obtain ⟨rfl, ht⟩ := hc
    simp only [St.resv] at h
    obtain ⟨a1, h1, h⟩ := Option.bind_eq_some_iff.1 h
    obtain ⟨cs, h2, h⟩ := Option.bind_eq_some_iff.1 h
    obtain ⟨h3, h⟩ := Option.ite_none_right_eq_some.1 h
    simp only [Option.some.injEq] at h
    subst h
    have hA := Rel.adr (a := ⟨ts, []⟩) R (y := .tmp ad) (x := .s ad) (by simp [chkOd]) h1
    obtain ⟨b, o', vs, hv, hn, hcell, hr⟩ := R.load hA h2
    have hv' : ts.getD ad undef = .pointer (some ⟨b, o', none⟩) := hv
    refine ⟨if agg then .agg vs.toArray else vs.getD 0 undef, ?_, ?_⟩
    · simp only [resF, hv', asAddr, Sem.run_bind, Sem.run_pure, Result.andThen_ok]
      exact run_loadVar (tyB_ok ht) hn hcell h3
    · simp only [ValR]
      cases agg with
      | true => simp only [if_true]; exact ⟨vs, rfl, hr⟩
      | false =>
        simp only [Bool.false_eq_true, if_false]
        have hn1 : n = 1 := by simpa using h3
        subst hn1
        obtain ⟨u, rfl⟩ := List.length_eq_one_iff.1 hn
        cases cs with
        | nil => exact hr.elim
        | cons c cs =>
          cases cs with
          | nil => exact ⟨c, rfl, hr.1⟩
          | cons c' cs => exact hr.2.elim


theorem chkRes_cons {r : ResultVar} {l : List ResultVar} {m : MR} {ms : List MR} (h : chkRes P (r :: l) (m :: ms) = true) : chkRes P [r] [m] = true ∧ chkRes P l ms = true := by
  cases r <;> cases m <;> simp_all [chkRes]

theorem Rel.outR (R : Rel base Z w0 w σ ts g) : ∀ {l : List ResultVar} {rs : List (MR × List Bool)} {x : List RV × List Kd × Md}, chkRes P l (rs.map (·.1)) = true → Go.Proofs.YtcbljemkihnmnaaDoorR.outR σ rs = some x → neuO x.2.1 = true →
    ∃ us G, (l.mapM (resF ts)).run P w = .ok us w ∧ G.Sublist ((owns x.2.1).flatMap g.F) ∧ ∀ (m : Md) (Y : Nat → Prop), x.2.2.le m → (∀ b, Xm g m b → Y b) → ResVs w Y x.1 us G
  | [], [], x, _, h, _ => by
    simp [Go.Proofs.YtcbljemkihnmnaaDoorR.outR] at h; subst h
    exact ⟨[], [], by simp, by simp, fun _ _ _ _ => by simp [ResVs]⟩
  | r :: l, (m, fl) :: rs, x, hc, h, hn => by
    obtain ⟨c1, c2⟩ := chkRes_cons hc
    simp only [Go.Proofs.YtcbljemkihnmnaaDoorR.outR] at h
    obtain ⟨v, hv, h⟩ := Option.bind_eq_some_iff.1 h
    obtain ⟨y, hy, h⟩ := Option.bind_eq_some_iff.1 h
    obtain ⟨z, hz, rfl⟩ := Option.map_eq_some_iff.1 h
    simp only [neuO, List.all_append, Bool.and_eq_true] at hn
    obtain ⟨u, hu, hval⟩ := R.resv c1 hv
    obtain ⟨us, G2, hrun, hs2, hR2⟩ := Rel.outR R c2 hz hn.2
    have hcells : ∃ vs : List Value, CellsR w σ.V g v.2 vs ∧ ∀ (Y : Nat → Prop) (G : List Nat), ResC w Y y.1 vs G → ResV w Y ⟨v.1, y.1⟩ u G := by
      unfold ValR at hval
      unfold ResV
      cases hag : v.1 with
      | true =>
        simp only [hag, if_true] at hval ⊢
        obtain ⟨vs, hvs, hr⟩ := hval
        exact ⟨vs, hr, fun Y G h => ⟨vs, hvs, h⟩⟩
      | false =>
        simp only [hag, Bool.false_eq_true, if_false] at hval ⊢
        obtain ⟨c, hcs, hr⟩ := hval
        refine ⟨[u], by rw [hcs]; exact ⟨hr, trivial⟩, fun Y G h => ⟨?_, h⟩⟩
        rw [hcs] at hy
        cases fl with
        | nil => simp [Go.Proofs.YtcbljemkihnmnaaDoorR.outC] at hy
        | cons f fl =>
          cases f with
          | true =>
            simp only [Go.Proofs.YtcbljemkihnmnaaDoorR.outC] at hy
            obtain ⟨e, _, hy⟩ := Option.bind_eq_some_iff.1 hy
            obtain ⟨q, hq, rfl⟩ := Option.map_eq_some_iff.1 hy
            cases fl <;> simp [Go.Proofs.YtcbljemkihnmnaaDoorR.outC] at hq
            subst hq; exact ⟨_, rfl⟩
          | false =>
            simp only [Go.Proofs.YtcbljemkihnmnaaDoorR.outC] at hy
            obtain ⟨e, _, hy⟩ := Option.bind_eq_some_iff.1 hy
            obtain ⟨q, hq, rfl⟩ := Option.map_eq_some_iff.1 hy
            cases fl <;> simp [Go.Proofs.YtcbljemkihnmnaaDoorR.outC] at hq
            subst hq; exact ⟨_, rfl⟩
    obtain ⟨vs, hcr, hres⟩ := hcells
    obtain ⟨G1, hs1, hR1⟩ := R.outC hcr hy hn.1
    refine ⟨u :: us, G1 ++ G2, ?_, ?_, fun m Y hm hY => ?_⟩
    · simp only [List.mapM_cons, Sem.run_bind, hu, Result.andThen_ok, hrun, Sem.run_pure]
    · rw [owns_append, List.flatMap_append]
      exact hs1.append hs2
    · simp only [ResVs]
      exact ⟨G1, G2, hres Y G1 (hR1 m Y (Md.le_trans (join_left _ _) hm) hY), hR2 m Y (Md.le_trans (join_right _ _) hm) hY, rfl⟩
  | [], _ :: _, _, hc, _, _ => by simp [chkRes] at hc
  | r :: _, [], _, hc, _, _ => by cases r <;> simp [chkRes] at hc

end
end Go.Proofs.YtcbljemkihnmnaaDoorR
namespace Go.Proofs.YtcbljemkihnmnaaDoorR
open Go Go.RowKit

def argS : Nat → List (Bool × List T) → List (Nat × SV)
  | _, [] => []
  | i, x :: l => (i, .val x.1 (x.2.map .pl)) :: argS (i + 1) l
/-- The state at a function's start: n slots, m objects. -/
def startS (args : List (Bool × List T)) (n m : Nat) : St := ⟨argS 0 args, n, List.replicate m ⟨0, .none⟩⟩

section
variable {P : Program}

theorem lk_argS : ∀ (l : List (Bool × List T)) (i k : Nat), lk k (argS i l) = if k < i then .undef else match l[k - i]? with | some x => .val x.1 (x.2.map .pl) | none => .undef
  | [], i, k => by simp [argS, lk]
  | x :: l, i, k => by
    simp only [argS, lk]
    rw [lk_argS l (i + 1) k]
    by_cases h1 : k = i
    · subst h1; simp
    · rw [if_neg h1]
      by_cases h2 : k < i
      · rw [if_pos h2, if_pos (by omega)]
      · rw [if_neg h2, if_neg (by omega), show k - i = (k - (i + 1)) + 1 by omega]
        simp

theorem ArgsR.at_ {w : World} {X : Nat → Prop} : ∀ {xs : List (Bool × List T)} {vs : List Value}, ArgsR w X xs vs → xs.length = vs.length ∧ ∀ (i : Nat) (x : Bool × List T), xs[i]? = some x → ∃ v, vs[i]? = some v ∧ ArgR w X x v
  | [], [], _ => ⟨rfl, by simp⟩
  | x :: xs, v :: vs, h => by
    obtain ⟨h1, h2⟩ := ArgsR.at_ h.2
    refine ⟨by simp [h1], fun i y hy => ?_⟩
    cases i with
    | zero => simp at hy; subst hy; exact ⟨v, rfl, h.1⟩
    | succ i => simpa using h2 i y (by simpa using hy)
  | [], _ :: _, h => h.elim
  | _ :: _, [], h => h.elim

theorem start_rel {w : World} {X : Nat → Prop} {args : List (Bool × List T)} {vs : List Value} {n m : Nat} (ht : ∀ w', Below w.heap.size w w' → TabW w') (h : ArgsR w X args vs) (hn : args.length ≤ n) :
    Rel (· < w.heap.size) (fun b => b < w.heap.size ∧ ¬ X b) w w (startS args n m) (vs.toArray ++ Array.replicate (n - vs.toArray.size) undef) ⟨fun _ _ => undef, fun _ => [], fun b => b < w.heap.size ∧ ¬ X b⟩ := by
  obtain ⟨hl, hat⟩ := h.at_
  have hob : ∀ id, (startS args n m).ob id = ⟨0, .none⟩ := by
    intro id
    simp only [St.ob, startS, List.getD_eq_getElem?_getD, List.getElem?_replicate]
    split <;> rfl
  refine ⟨by simp [startS]; omega, fun k => ?_, fun id => by rw [hob]; rfl, fun _ => List.nodup_nil, fun _ _ _ h => by simp at h, fun _ _ h => by simp at h, Bel.refl _ _, fun _ h => h, rfl, fun b h => h.1, fun w' h' => ht w' h'.below⟩
  simp only [St.get, startS]
  rw [lk_argS]
  simp only [Nat.not_lt_zero, if_false, Nat.sub_zero]
  split
  · rename_i x hx
    obtain ⟨v, hv, hA⟩ := hat k x hx
    have hget : (vs.toArray ++ Array.replicate (n - vs.toArray.size) undef).getD k undef = v := by
      have := len_at hv
      simp only [Array.getD_eq_getD_getElem?]
      rw [Array.getElem?_append_left (by simpa using this)]
      simp [hv]
    rw [hget]
    have hX : ∀ b, X b → Xe (⟨fun _ _ => undef, fun _ => [], fun b => b < w.heap.size ∧ ¬ X b⟩ : Gh) b := fun b hb => ⟨fun h => h.2 hb, fun _ h => by simp at h⟩
    unfold ArgR at hA
    simp only [SlotR, ValR]
    split at hA
    · rename_i hag
      rw [if_pos hag]
      obtain ⟨us, hus, hr⟩ := hA
      exact ⟨us, hus, cells_pl _ _ (RdL.keep ⟨Nat.le_refl _, fun b hb _ => ⟨rfl, hX b hb⟩⟩ _ _ hr)⟩
    · rename_i hag
      rw [if_neg hag]
      obtain ⟨t, ht, hr⟩ := hA
      rw [ht]
      exact ⟨.pl t, rfl, rd_wide hr hX⟩
  · trivial

theorem run_mapM_toList {α β : Type} (f : α → Sem β) (xs : Array α) {w : World} {us : List β} (h : (xs.toList.mapM f).run P w = .ok us w) : (xs.mapM f).run P w = .ok us.toArray w := by
  rw [Array.mapM_eq_mapM_toList]
  simp [h]

theorem run_results {fn : Func} {ts : Array Value} {w : World} {us : List Value} (h : (fn.results.toList.mapM (resF ts)).run P w = .ok us w) : (results fn ts).run P w = .ok (tupV us) w := by
  have h1 := run_mapM_toList (resF ts) fn.results h
  have e : results fn ts = (do let vs ← fn.results.mapM (resF ts); pure (if h : vs.size = 1 then vs[0] else .tuple vs)) := by
    unfold results
    have hf : (fun r : ResultVar => (match r with | .tmp t => pure (ts.getD t undef) | .cell a t => do loadVar t (← asAddr (ts.getD a undef)) : Sem Value)) = resF ts := by
      funext r
      cases r <;> rfl
    rw [← hf]
    rfl
  rw [e]
  simp only [Sem.run_bind, h1, Result.andThen_ok, Sem.run_pure]
  congr 1
  cases us with
  | nil => rfl
  | cons u us =>
    cases us with
    | nil => rfl
    | cons u' us => simp [tupV]

def bdA : List (Bool × List T) → Prop
  | [] => True
  | x :: l => bdL x.2 ∧ bdA l
theorem ArgsR.bd_ {w : World} {X : Nat → Prop} : ∀ {xs : List (Bool × List T)} {vs : List Value}, ArgsR w X xs vs → bdA xs
  | [], [], _ => trivial
  | x :: xs, v :: vs, h => by
    refine ⟨?_, ArgsR.bd_ h.2⟩
    have h1 := h.1
    unfold ArgR at h1
    split at h1
    · obtain ⟨us, _, h1⟩ := h1; exact RdL.bd _ _ h1
    · obtain ⟨t, e, h1⟩ := h1; rw [e]; exact ⟨Rd.bd _ _ h1, trivial⟩
  | [], _ :: _, h => h.elim
  | _ :: _, [], h => h.elim
theorem ctr_of {f : FuncId} {fn : Func} {c : Code} {args : List (Bool × List T)} {rs : List RV} {M : MC} {m : Nat} {res : List (MR × List Bool)} (hmix : P.follows .mixedOrders = true) (hf : P.funcs[f]? = some fn) (hb : fn.body = some c)
    (hname : (fn.name == "runtime.NumGoroutine") = false) (hc : chkC P c M = true) (hres : chkRes P fn.results.toList (res.map (·.1)) = true) (hn : args.length ≤ fn.ntmps)
    (h : bdA args → wpC P M (fun x σ' => (x = .nrm ∨ x = .ret) ∧ outs σ' res = some rs) (startS args fn.ntmps m)) : Ctr P f args rs := by
  refine ⟨⟨fn, hf, by simp [hb], hname⟩, fun w X vs htab hargs => calls_of_wp hf hb ?_⟩
  refine wpC_sound hmix (a := ⟨vs.toArray ++ Array.replicate (fn.ntmps - vs.toArray.size) undef, []⟩) hc (start_rel htab hargs hn) (h hargs.bd_) fun x σ' a' w' g' hq hd R' => ?_
  obtain ⟨hx, hout⟩ := hq
  unfold outs at hout
  obtain ⟨y, hy, hout⟩ := Option.bind_eq_some_iff.1 hout
  obtain ⟨⟨h1, h2, h3⟩, hout⟩ := Option.ite_none_right_eq_some.1 hout
  simp only [Option.some.injEq] at hout
  subst hout
  obtain ⟨us, G, hrun, hsub, hR⟩ := R'.outR hres hy h1
  have hGF : ∀ b ∈ G, ∃ j, b ∈ g'.F j := fun b hb => by
    obtain ⟨j, _, hj⟩ := List.mem_flatMap.1 (hsub.subset hb); exact ⟨j, hj⟩
  have hZ : ∀ b, ¬ g'.Z b → b < w.heap.size → X b := by
    intro b hz hlt
    rw [R'.zz] at hz
    exact Classical.not_not.1 fun hx => hz ⟨hlt, hx⟩
  have hY : ResVs w' (fun b => (b < w.heap.size → X b) ∧ b ∉ G) y.1 us G := by
    rcases h3 with h3 | h3
    · have hG : G = [] := by rw [h3] at hsub; simpa using hsub
      refine hR .a _ (by cases y.2.2 <;> simp [Md.le]) fun b hb => ⟨hZ b hb, by rw [hG]; simp⟩
    · refine hR .e _ (by rw [h3]; simp [Md.le]) fun b hb => ⟨hZ b hb.1, fun hbG => ?_⟩
      obtain ⟨j, hj⟩ := hGF b hbG
      exact hb.2 j hj
  have key : a'.defers = [] ∧ ∃ v, (results fn a'.tmps).run P w' = .ok v w' ∧ Below w.heap.size w w' ∧ ∃ us G, v = tupV us ∧ G.Nodup ∧ (∀ b ∈ G, w.heap.size ≤ b) ∧ ResVs w' (fun b => (b < w.heap.size → X b) ∧ b ∉ G) y.1 us G :=
    ⟨hd, tupV us, run_results hrun, R'.grew.below, us, G, rfl, hsub.nodup (R'.flat_nodup _ (distinct_nodup h2)), fun b hb => by obtain ⟨j, hj⟩ := hGF b hb; exact Nat.le_of_not_lt (R'.frs j b hj).1, hY⟩
  rcases hx with rfl | rfl
  · exact key
  · exact key
end
end Go.Proofs.YtcbljemkihnmnaaDoorR
namespace Go.Proofs.YtcbljemkihnmnaaDoorR
open Go Go.RowKit

/-- There is something, and it is good. -/
def bk {α : Type} (o : Option α) (K : α → Prop) : Prop := ∃ a, o = some a ∧ K a
section
variable {α β : Type} {K : α → Prop}
@[go_sem] theorem bk_some (a : α) : bk (some a) K = K a := by simp [bk]
@[go_sem] theorem bk_none : bk (none : Option α) K = False := by simp [bk]
@[go_sem] theorem bk_bind (o : Option β) (f : β → Option α) : bk (o.bind f) K = bk o fun b => bk (f b) K := by
  simp only [bk, Option.bind_eq_some_iff, eq_iff_iff]
  constructor
  · rintro ⟨a, ⟨b, h1, h2⟩, h3⟩; exact ⟨b, h1, a, h2, h3⟩
  · rintro ⟨b, h1, a, h2, h3⟩; exact ⟨a, ⟨b, h1, h2⟩, h3⟩
@[go_sem] theorem bk_map (o : Option β) (f : β → α) : bk (o.map f) K = bk o fun b => K (f b) := by
  simp only [bk, Option.map_eq_some_iff, eq_iff_iff]
  constructor
  · rintro ⟨a, ⟨b, h1, h2⟩, h3⟩; exact ⟨b, h1, h2 ▸ h3⟩
  · rintro ⟨b, h1, h3⟩; exact ⟨f b, ⟨b, h1, rfl⟩, h3⟩
@[go_sem] theorem bk_ite {p : Prop} [Decidable p] (o : Option α) : bk (if p then o else none) K = (p ∧ bk o K) := by
  by_cases h : p <;> simp [bk, h]
end

def isCall : MO → Bool
  | .call .. => true
  | _ => false
/-- One operation, and what is wanted behind it. -/
def bkS (P : Program) (m : MOp) (σ : St) (L : Ef → Prop) : Prop := ∃ e, stepP P m σ e ∧ L e
/-- A call, and what is wanted behind it. -/
def callK (P : Program) (f : FuncId) (as_ : List (Bool × List T)) (σ : St) (m : Md) (d : Nat) (ids : List Nat) (L : Ef → Prop) : Prop := ∃ rs, Ctr P f as_ rs ∧ bk (resEf σ m d ids rs) L
/-! What is wanted behind, as constants: so that it is not looked into before its time. -/
def kR (P : Program) (ms : List MOp) (σ : St) (K : St → Prop) (e : Ef) : Prop := wpR P ms (σ.app e) K
def kD (P : Program) (m : MOp) (ms : List MOp) (σ : St) (K : St → Prop) (e : Ef) : Prop := inW m e = true ∧ wpD P ms (σ.app e) K
def kK (ms : List MOp) (keep : List Nat) (Q : Xt → St → Prop) (σ : St) : Prop := bdC σ ms → Q .nrm (σ.only keep)
def kS (P : Program) (b : MC) (Q : Xt → St → Prop) (x : Xt) (σ : St) : Prop := match x with
  | .nrm => wpC P b Q σ
  | x => Q x σ
def kB (id : Nat) (Q : Xt → St → Prop) (x : Xt) (σ : St) : Prop := match x with
  | .ex i => if i = id then Q .nrm σ else Q (.ex i) σ
  | x => Q x σ
/-- A function's end. -/
def kF (res : List (MR × List Bool)) (rs : List RV) (x : Xt) (σ : St) : Prop := (x = .nrm ∨ x = .ret) ∧ outs σ res = some rs
/-- The next round of a loop. -/
def kL (keep : List Nat × List Nat) (next : St → Prop) (Q : Xt → St → Prop) (x : Xt) (σ : St) : Prop := match x with
  | .nrm => bk ((σ.lo keep).re) next
  | x => Q x σ
/-- One way or the other. -/
def cS (P : Program) (a b : MC) (Q : Xt → St → Prop) (σ : St) (c : Bool) : Prop := (c = true → wpC P a Q σ) ∧ (c = false → wpC P b Q σ)
/-- A loop's start. -/
def loopK (P : Program) (keep : List Nat × List Nat) (a : MC) (Q : Xt → St → Prop) (σ : St) : Prop := wpC P (.loop keep a) Q σ

section
variable {P : Program} {σ σ' : St} {Q : Xt → St → Prop} {K : St → Prop} {L : Ef → Prop} {e : Ef} {x : Xt} {i id : Nat}
@[go_sem] theorem cS_split {a b : MC} {c : Bool} : cS P a b Q σ c = if c = true then wpC P a Q σ else wpC P b Q σ := by cases c <;> simp [cS]
@[go_sem] theorem ite_both {p A B : Prop} [Decidable p] : (if p then A else B) = ((p → A) ∧ (¬ p → B)) := by by_cases h : p <;> simp [h]

theorem bkS_plain {o : MO} {hs ho ws bf : List Nat} (h : isCall o = false) : bkS P ⟨none, o, hs, ho, ws, bf⟩ σ L = bk (eff o σ) L := by
  unfold bkS bk
  simp only [stepP, wantedM]
  cases o <;> simp only [isCall, Bool.true_eq_false] at h <;> rfl
section
variable {hs ho ws bf : List Nat}
@[go_sem] theorem bkS_mv {d x} : bkS P ⟨none, .mv d x, hs, ho, ws, bf⟩ σ L = bk (eff (.mv d x) σ) L := bkS_plain rfl
@[go_sem] theorem bkS_bin {d b o x y} : bkS P ⟨none, .bin d b o x y, hs, ho, ws, bf⟩ σ L = bk (eff (.bin d b o x y) σ) L := bkS_plain rfl
@[go_sem] theorem bkS_eqA {d b k x y} : bkS P ⟨none, .eqA d b k x y, hs, ho, ws, bf⟩ σ L = bk (eff (.eqA d b k x y) σ) L := bkS_plain rfl
@[go_sem] theorem bkS_un {d o x} : bkS P ⟨none, .un d o x, hs, ho, ws, bf⟩ σ L = bk (eff (.un d o x) σ) L := bkS_plain rfl
@[go_sem] theorem bkS_mm {d o x y} : bkS P ⟨none, .mm d o x y, hs, ho, ws, bf⟩ σ L = bk (eff (.mm d o x y) σ) L := bkS_plain rfl
@[go_sem] theorem bkS_pick {d c x y} : bkS P ⟨none, .pick d c x y, hs, ho, ws, bf⟩ σ L = bk (eff (.pick d c x y) σ) L := bkS_plain rfl
@[go_sem] theorem bkS_len {d c x} : bkS P ⟨none, .len d c x, hs, ho, ws, bf⟩ σ L = bk (eff (.len d c x) σ) L := bkS_plain rfl
@[go_sem] theorem bkS_alloc {d c x} : bkS P ⟨none, .alloc d c x, hs, ho, ws, bf⟩ σ L = bk (eff (.alloc d c x) σ) L := bkS_plain rfl
@[go_sem] theorem bkS_box {d c x} : bkS P ⟨none, .box d c x, hs, ho, ws, bf⟩ σ L = bk (eff (.box d c x) σ) L := bkS_plain rfl
@[go_sem] theorem bkS_build {d c x} : bkS P ⟨none, .build d c x, hs, ho, ws, bf⟩ σ L = bk (eff (.build d c x) σ) L := bkS_plain rfl
@[go_sem] theorem bkS_lit {d i z b x} : bkS P ⟨none, .lit d i z b x, hs, ho, ws, bf⟩ σ L = bk (eff (.lit d i z b x) σ) L := bkS_plain rfl
@[go_sem] theorem bkS_load {d i z b} : bkS P ⟨none, .load d i z b, hs, ho, ws, bf⟩ σ L = bk (eff (.load d i z b) σ) L := bkS_plain rfl
@[go_sem] theorem bkS_store {d i z} : bkS P ⟨none, .store d i z, hs, ho, ws, bf⟩ σ L = bk (eff (.store d i z) σ) L := bkS_plain rfl
@[go_sem] theorem bkS_fld {d i z} : bkS P ⟨none, .fld d i z, hs, ho, ws, bf⟩ σ L = bk (eff (.fld d i z) σ) L := bkS_plain rfl
@[go_sem] theorem bkS_idx {d i z b} : bkS P ⟨none, .idx d i z b, hs, ho, ws, bf⟩ σ L = bk (eff (.idx d i z b) σ) L := bkS_plain rfl
@[go_sem] theorem bkS_idxA {d i z b x} : bkS P ⟨none, .idxA d i z b x, hs, ho, ws, bf⟩ σ L = bk (eff (.idxA d i z b x) σ) L := bkS_plain rfl
@[go_sem] theorem bkS_fldv {d i z b x} : bkS P ⟨none, .fldv d i z b x, hs, ho, ws, bf⟩ σ L = bk (eff (.fldv d i z b x) σ) L := bkS_plain rfl
@[go_sem] theorem bkS_idxs {d i z} : bkS P ⟨none, .idxs d i z, hs, ho, ws, bf⟩ σ L = bk (eff (.idxs d i z) σ) L := bkS_plain rfl
@[go_sem] theorem bkS_mk {d i z b c x} : bkS P ⟨none, .mk d i z b c x, hs, ho, ws, bf⟩ σ L = bk (eff (.mk d i z b c x) σ) L := bkS_plain rfl
@[go_sem] theorem bkS_app {d i z b c x} : bkS P ⟨none, .app d i z b c x, hs, ho, ws, bf⟩ σ L = bk (eff (.app d i z b c x) σ) L := bkS_plain rfl
@[go_sem] theorem bkS_slc {d i z b c x} : bkS P ⟨none, .slc d i z b c x, hs, ho, ws, bf⟩ σ L = bk (eff (.slc d i z b c x) σ) L := bkS_plain rfl
@[go_sem] theorem bkS_slcs {d i z b} : bkS P ⟨none, .slcs d i z b, hs, ho, ws, bf⟩ σ L = bk (eff (.slcs d i z b) σ) L := bkS_plain rfl
@[go_sem] theorem bkS_ext {d i z} : bkS P ⟨none, .ext d i z, hs, ho, ws, bf⟩ σ L = bk (eff (.ext d i z) σ) L := bkS_plain rfl
@[go_sem] theorem bkS_clos {d i z} : bkS P ⟨none, .clos d i z, hs, ho, ws, bf⟩ σ L = bk (eff (.clos d i z) σ) L := bkS_plain rfl
@[go_sem] theorem bkS_nilo {d i z} : bkS P ⟨none, .nilo d i z, hs, ho, ws, bf⟩ σ L = bk (eff (.nilo d i z) σ) L := bkS_plain rfl
@[go_sem] theorem bkS_nilc {d i} : bkS P ⟨none, .nilc d i, hs, ho, ws, bf⟩ σ L = bk (eff (.nilc d i) σ) L := bkS_plain rfl
@[go_sem] theorem bkS_convS {d x} : bkS P ⟨none, .convS d x, hs, ho, ws, bf⟩ σ L = bk (eff (.convS d x) σ) L := bkS_plain rfl
@[go_sem] theorem bkS_convI {d k x} : bkS P ⟨none, .convI d k x, hs, ho, ws, bf⟩ σ L = bk (eff (.convI d k x) σ) L := bkS_plain rfl
@[go_sem] theorem bkS_call {d : Nat} {ids : List Nat} {f : Od} {xs : List Od} : bkS P ⟨none, .call d ids f xs, hs, ho, ws, bf⟩ σ L = bk (σ.callee f) fun c => bk (σ.args xs) fun as_ => callK P c.1 (as_ ++ c.2) σ (σ.mode (f :: xs)) d ids L := by
  unfold bkS bk callK
  simp only [stepP, wantedM, EffP, CallE, eq_iff_iff]
  constructor
  · rintro ⟨e, ⟨fid, caps, as_, rs, h1, h2, h3, h4⟩, h5⟩
    exact ⟨(fid, caps), h1, as_, h2, rs, h3, e, h4, h5⟩
  · rintro ⟨⟨fid, caps⟩, h1, as_, h2, rs, h3, e, h4, h5⟩
    exact ⟨e, ⟨fid, caps, as_, rs, h1, h2, h3, h4⟩, h5⟩
end

@[go_sem] theorem wpR_nil : wpR P [] σ K = K σ := rfl
theorem wpR_cons' {m : MOp} {ms : List MOp} : wpR P (m :: ms) σ K = bkS P m σ (kR P ms σ K) := rfl
@[go_sem] theorem wpR_cons {o : MO} {hs ho ws bf : List Nat} {ms : List MOp} : wpR P (⟨none, o, hs, ho, ws, bf⟩ :: ms) σ K = bkS P ⟨none, o, hs, ho, ws, bf⟩ σ (kR P ms σ K) := rfl
@[go_sem] theorem wpD_nil : wpD P [] σ K = K σ := rfl
theorem wpD_cons' {m : MOp} {ms : List MOp} : wpD P (m :: ms) σ K = bkS P m (σ.hide m.hs m.ho) (kD P m ms σ K) := rfl
@[go_sem] theorem wpD_cons {o : MO} {hs ho ws bf : List Nat} {ms : List MOp} : wpD P (⟨none, o, hs, ho, ws, bf⟩ :: ms) σ K = bkS P ⟨none, o, hs, ho, ws, bf⟩ (σ.hide hs ho) (kD P ⟨none, o, hs, ho, ws, bf⟩ ms σ K) := rfl
@[go_sem] theorem kR_app {ms : List MOp} : kR P ms σ K e = wpR P ms (σ.app e) K := rfl
@[go_sem] theorem kD_app {m : MOp} {ms : List MOp} : kD P m ms σ K e = (inW m e = true ∧ wpD P ms (σ.app e) K) := rfl
@[go_sem] theorem kK_app {ms : List MOp} {keep : List Nat} : kK ms keep Q σ = (bdC σ ms → Q .nrm (σ.only keep)) := rfl
@[go_sem] theorem bdC_nil : bdC σ [] = True := rfl
@[go_sem] theorem bdC_cons {g : Option (Nat × Bool)} {o : MO} {hs ho ws bf : List Nat} {ms : List MOp} : bdC σ (⟨g, o, hs, ho, ws, bf⟩ :: ms) = (bdM σ o ∧ bdC σ ms) := rfl
@[go_sem] theorem bdM_call {d ids f xs} : bdM σ (.call d ids f xs) = (bdSV (σ.get d) ∧ bdIds σ ids) := rfl
@[go_sem] theorem bdIds_nil : bdIds σ [] = True := rfl
@[go_sem] theorem bdIds_cons {k l} : bdIds σ (k :: l) = (bdOC (σ.ob k).oc ∧ bdIds σ l) := rfl
@[go_sem] theorem bdSV_val {a cs} : bdSV (.val a cs) = bdCs cs := rfl
@[go_sem] theorem bdSV_tup {vs} : bdSV (.tup vs) = bdVs vs := rfl
@[go_sem] theorem bdSV_adr {a} : bdSV (.adr a) = True := rfl
@[go_sem] theorem bdSV_skp : bdSV .skp = True := rfl
@[go_sem] theorem bdSV_undef : bdSV .undef = True := rfl
@[go_sem] theorem bdVs_nil : bdVs [] = True := rfl
@[go_sem] theorem bdVs_cons {v vs} : bdVs (v :: vs) = (bdCs v.2 ∧ bdVs vs) := rfl
@[go_sem] theorem bdCs_nil : bdCs [] = True := rfl
@[go_sem] theorem bdCs_cons {v vs} : bdCs (v :: vs) = (bdSC v ∧ bdCs vs) := rfl
@[go_sem] theorem bdSC_pl {t} : bdSC (.pl t) = bdT t := rfl
@[go_sem] theorem bdSC_bor {t} : bdSC (.bor t) = bdT t := rfl
@[go_sem] theorem bdSC_emp {k} : bdSC (.emp k) = True := rfl
@[go_sem] theorem bdSC_ref {a b c d e} : bdSC (.ref a b c d e) = True := rfl
@[go_sem] theorem bdSC_clo {a b} : bdSC (.clo a b) = True := rfl
@[go_sem] theorem bdOC_row {a b c} : bdOC (.row a b c) = (c.length ≤ roomB ∧ bdR c) := rfl
@[go_sem] theorem bdOC_lent {a b} : bdOC (.lent a b) = (b.length ≤ roomB ∧ bdR b) := rfl
@[go_sem] theorem bdOC_none : bdOC .none = True := rfl
@[go_sem] theorem bdOC_box {a} : bdOC (.box a) = True := rfl
@[go_sem] theorem bdM_mv {a b} : bdM σ (.mv a b) = True := rfl
@[go_sem] theorem bdM_bin {a b c d e} : bdM σ (.bin a b c d e) = True := rfl
@[go_sem] theorem bdM_eqA {a b c d e} : bdM σ (.eqA a b c d e) = True := rfl
@[go_sem] theorem bdM_un {a b c} : bdM σ (.un a b c) = True := rfl
@[go_sem] theorem bdM_mm {a b c d} : bdM σ (.mm a b c d) = True := rfl
@[go_sem] theorem bdM_pick {a b c d} : bdM σ (.pick a b c d) = True := rfl
@[go_sem] theorem bdM_len {a b c} : bdM σ (.len a b c) = True := rfl
@[go_sem] theorem bdM_alloc {a b c} : bdM σ (.alloc a b c) = True := rfl
@[go_sem] theorem bdM_box {a b c} : bdM σ (.box a b c) = True := rfl
@[go_sem] theorem bdM_build {a b c} : bdM σ (.build a b c) = True := rfl
@[go_sem] theorem bdM_lit {a b c d e} : bdM σ (.lit a b c d e) = True := rfl
@[go_sem] theorem bdM_load {a b c d} : bdM σ (.load a b c d) = True := rfl
@[go_sem] theorem bdM_store {a b c} : bdM σ (.store a b c) = True := rfl
@[go_sem] theorem bdM_fld {a b c} : bdM σ (.fld a b c) = True := rfl
@[go_sem] theorem bdM_idx {a b c d} : bdM σ (.idx a b c d) = True := rfl
@[go_sem] theorem bdM_idxA {a b c d e} : bdM σ (.idxA a b c d e) = True := rfl
@[go_sem] theorem bdM_fldv {a b c d e} : bdM σ (.fldv a b c d e) = True := rfl
@[go_sem] theorem bdM_idxs {a b c} : bdM σ (.idxs a b c) = True := rfl
@[go_sem] theorem bdM_mk {a b c d e f} : bdM σ (.mk a b c d e f) = True := rfl
@[go_sem] theorem bdM_app {a b c d e f} : bdM σ (.app a b c d e f) = True := rfl
@[go_sem] theorem bdM_slc {a b c d e f} : bdM σ (.slc a b c d e f) = True := rfl
@[go_sem] theorem bdM_slcs {a b c d} : bdM σ (.slcs a b c d) = True := rfl
@[go_sem] theorem bdM_ext {a b c} : bdM σ (.ext a b c) = True := rfl
@[go_sem] theorem bdM_clos {a b c} : bdM σ (.clos a b c) = True := rfl
@[go_sem] theorem bdM_nilo {a b c} : bdM σ (.nilo a b c) = True := rfl
@[go_sem] theorem bdM_nilc {a b} : bdM σ (.nilc a b) = True := rfl
@[go_sem] theorem bdM_convS {a b} : bdM σ (.convS a b) = True := rfl
@[go_sem] theorem bdM_convI {a b c} : bdM σ (.convI a b c) = True := rfl
@[go_sem] theorem wpC_skip : wpC P .skip Q σ = Q .nrm σ := rfl
@[go_sem] theorem wpC_reg {ms : List MOp} {keep : List Nat} : wpC P (.reg ms keep) Q σ = wpR P ms σ (kK ms keep Q) := rfl
@[go_sem] theorem wpC_dreg {ms : List MOp} {keep : List Nat} : wpC P (.dreg ms keep) Q σ = wpD P ms σ (kK ms keep Q) := rfl
@[go_sem] theorem wpC_seq {a b : MC} : wpC P (.seq a b) Q σ = wpC P a (kS P b Q) σ := by
  show wpC P a _ σ = _
  congr 1
@[go_sem] theorem kS_nrm {b : MC} : kS P b Q .nrm σ = wpC P b Q σ := rfl
@[go_sem] theorem kS_ex {b : MC} : kS P b Q (.ex i) σ = Q (.ex i) σ := rfl
@[go_sem] theorem kS_ret {b : MC} : kS P b Q .ret σ = Q .ret σ := rfl
@[go_sem] theorem wpC_cond {c : Od} {a b : MC} : wpC P (.cond c a b) Q σ = bk ((σ.sca c).bind vBool) (cS P a b Q σ) := rfl
@[go_sem] theorem wpC_block {id : Nat} {a : MC} : wpC P (.block id a) Q σ = wpC P a (kB id Q) σ := by
  show wpC P a _ σ = _
  congr 1
@[go_sem] theorem kB_nrm : kB id Q .nrm σ = Q .nrm σ := rfl
@[go_sem] theorem kB_ret : kB id Q .ret σ = Q .ret σ := rfl
@[go_sem] theorem kB_ex : kB id Q (.ex i) σ = if i = id then Q .nrm σ else Q (.ex i) σ := rfl
@[go_sem] theorem wpC_exit {id : Nat} : wpC P (.exit id) Q σ = Q (.ex id) σ := rfl
@[go_sem] theorem wpC_ret : wpC P .ret Q σ = Q .ret σ := rfl
@[go_sem] theorem wpC_loop {keep : List Nat × List Nat} {a : MC} : wpC P (.loop keep a) Q σ = loopK P keep a Q σ := rfl
@[go_sem] theorem kF_nrm {res : List (MR × List Bool)} {rs : List RV} : kF res rs .nrm σ = (outs σ res = some rs) := by simp [kF]
@[go_sem] theorem kF_ret {res : List (MR × List Bool)} {rs : List RV} : kF res rs .ret σ = (outs σ res = some rs) := by simp [kF]
@[go_sem] theorem kL_nrm {keep : List Nat × List Nat} {next : St → Prop} : kL keep next Q .nrm σ = bk ((σ.lo keep).re) next := rfl
@[go_sem] theorem kL_ex {keep : List Nat × List Nat} {next : St → Prop} : kL keep next Q (.ex i) σ = Q (.ex i) σ := rfl
@[go_sem] theorem kL_ret {keep : List Nat × List Nat} {next : St → Prop} : kL keep next Q .ret σ = Q .ret σ := rfl

theorem callK_of {f : FuncId} {as_ : List (Bool × List T)} {m : Md} {d : Nat} {ids : List Nat} {rs : List RV} (c : Ctr P f as_ rs) (h : bk (resEf σ m d ids rs) L) : callK P f as_ σ m d ids L := ⟨rs, c, h⟩
end

/-! Each piece of code takes one way. -/
theorem wpC_mono {P : Program} : ∀ {M : MC} {Q Q' : Xt → St → Prop} {σ : St}, wpC P M Q σ → (∀ x s, Q x s → Q' x s) → wpC P M Q' σ := by
  have hR : ∀ (ms : List MOp) (σ : St) (K K' : St → Prop), wpR P ms σ K → (∀ s, K s → K' s) → wpR P ms σ K' := by
    intro ms
    induction ms with
    | nil => intro σ K K' h hk; exact hk _ h
    | cons m ms ih => rintro σ K K' ⟨e, h1, h2⟩ hk; exact ⟨e, h1, ih _ _ _ h2 hk⟩
  have hD : ∀ (ms : List MOp) (σ : St) (K K' : St → Prop), wpD P ms σ K → (∀ s, K s → K' s) → wpD P ms σ K' := by
    intro ms
    induction ms with
    | nil => intro σ K K' h hk; exact hk _ h
    | cons m ms ih => rintro σ K K' ⟨e, h1, h2, h3⟩ hk; exact ⟨e, h1, h2, ih _ _ _ h3 hk⟩
  intro M
  induction M with
  | skip => intro Q Q' σ h hk; exact hk _ _ h
  | reg ms keep => intro Q Q' σ h hk; exact hR _ _ _ _ h fun s hs hb => hk _ _ (hs hb)
  | dreg ms keep => intro Q Q' σ h hk; exact hD _ _ _ _ h fun s hs hb => hk _ _ (hs hb)
  | seq a b iha ihb =>
    intro Q Q' σ h hk
    refine iha h fun x s hx => ?_
    cases x with
    | nrm => exact ihb hx hk
    | ex i => exact hk _ _ hx
    | ret => exact hk _ _ hx
  | cond c a b iha ihb =>
    rintro Q Q' σ ⟨t, h, h1, h2⟩ hk
    exact ⟨t, h, fun e => iha (h1 e) hk, fun e => ihb (h2 e) hk⟩
  | block id a ih =>
    intro Q Q' σ h hk
    refine ih h fun x s hx => ?_
    cases x with
    | nrm => exact hk _ _ hx
    | ex i =>
      simp only at hx ⊢
      split
      · rename_i he; rw [if_pos he] at hx; exact hk _ _ hx
      · rename_i he; rw [if_neg he] at hx; exact hk _ _ hx
    | ret => exact hk _ _ hx
  | loop keep a ih =>
    rintro Q Q' σ ⟨n, S, h0, h1, h2⟩ hk
    refine ⟨n, S, h0, h1, fun k hlt => ih (h2 k hlt) fun x s hx => ?_⟩
    cases x with
    | nrm => exact hx
    | ex i => exact hk _ _ hx
    | ret => exact hk _ _ hx
  | exit id => intro Q Q' σ h hk; exact hk _ _ h
  | ret => intro Q Q' σ h hk; exact hk _ _ h

/-- What a piece of code may do it does in one way (or it never comes to its end). -/
theorem wpC_one {P : Program} : ∀ {M : MC} {Q : Xt → St → Prop} {σ : St}, wpC P M Q σ → (∃ x s, Q x s ∧ wpC P M (fun y t => y = x ∧ t = s) σ) ∨ ∀ Q', wpC P M Q' σ := by
  have hR : ∀ (ms : List MOp) (σ : St) (K : St → Prop), wpR P ms σ K → ∃ s, K s ∧ wpR P ms σ (fun t => t = s) := by
    intro ms
    induction ms with
    | nil => intro σ K h; exact ⟨σ, h, rfl⟩
    | cons m ms ih =>
      rintro σ K ⟨e, h1, h2⟩
      obtain ⟨s, h3, h4⟩ := ih _ _ h2
      exact ⟨s, h3, e, h1, h4⟩
  have hD : ∀ (ms : List MOp) (σ : St) (K : St → Prop), wpD P ms σ K → ∃ s, K s ∧ wpD P ms σ (fun t => t = s) := by
    intro ms
    induction ms with
    | nil => intro σ K h; exact ⟨σ, h, rfl⟩
    | cons m ms ih =>
      rintro σ K ⟨e, h1, h2, h2'⟩
      obtain ⟨s, h3, h4⟩ := ih _ _ h2'
      exact ⟨s, h3, e, h1, h2, h4⟩
  have hRm : ∀ (ms : List MOp) (σ : St) (K K' : St → Prop), wpR P ms σ K → (∀ s, K s → K' s) → wpR P ms σ K' := by
    intro ms
    induction ms with
    | nil => intro σ K K' h hk; exact hk _ h
    | cons m ms ih => rintro σ K K' ⟨e, h1, h2⟩ hk; exact ⟨e, h1, ih _ _ _ h2 hk⟩
  have hDm : ∀ (ms : List MOp) (σ : St) (K K' : St → Prop), wpD P ms σ K → (∀ s, K s → K' s) → wpD P ms σ K' := by
    intro ms
    induction ms with
    | nil => intro σ K K' h hk; exact hk _ h
    | cons m ms ih => rintro σ K K' ⟨e, h1, h2, h3⟩ hk; exact ⟨e, h1, h2, ih _ _ _ h3 hk⟩
  intro M
  induction M with
  | skip => intro Q σ h; exact .inl ⟨_, _, h, rfl, rfl⟩
  | reg ms keep =>
    intro Q σ h
    obtain ⟨s, h1, h2⟩ := hR _ _ _ h
    by_cases hb : bdC s ms
    · exact .inl ⟨.nrm, _, h1 hb, hRm _ _ _ _ h2 fun t ht _ => ⟨rfl, by rw [ht]⟩⟩
    · exact .inr fun Q' => hRm _ _ _ _ h2 fun t ht hb' => (hb (ht ▸ hb')).elim
  | dreg ms keep =>
    intro Q σ h
    obtain ⟨s, h1, h2⟩ := hD _ _ _ h
    by_cases hb : bdC s ms
    · exact .inl ⟨.nrm, _, h1 hb, hDm _ _ _ _ h2 fun t ht _ => ⟨rfl, by rw [ht]⟩⟩
    · exact .inr fun Q' => hDm _ _ _ _ h2 fun t ht hb' => (hb (ht ▸ hb')).elim
  | seq a b iha ihb =>
    intro Q σ h
    rw [wpC_seq] at h
    rcases iha h with ⟨x, s, h1, h2⟩ | h2
    · cases x with
      | nrm =>
        rcases ihb h1 with ⟨y, t, h3, h4⟩ | h4
        · refine .inl ⟨y, t, h3, ?_⟩
          rw [wpC_seq]
          refine wpC_mono h2 fun x' s' he => ?_
          obtain ⟨rfl, rfl⟩ := he
          exact h4
        · refine .inr fun Q' => ?_
          rw [wpC_seq]
          refine wpC_mono h2 fun x' s' he => ?_
          obtain ⟨rfl, rfl⟩ := he
          exact h4 _
      | ex i =>
        refine .inl ⟨_, _, h1, ?_⟩
        rw [wpC_seq]
        refine wpC_mono h2 fun x' s' he => ?_
        obtain ⟨rfl, rfl⟩ := he
        exact ⟨rfl, rfl⟩
      | ret =>
        refine .inl ⟨_, _, h1, ?_⟩
        rw [wpC_seq]
        refine wpC_mono h2 fun x' s' he => ?_
        obtain ⟨rfl, rfl⟩ := he
        exact ⟨rfl, rfl⟩
    · refine .inr fun Q' => ?_
      rw [wpC_seq]
      exact h2 _
  | cond c a b iha ihb =>
    rintro Q σ ⟨t, h, h1, h2⟩
    cases t with
    | true =>
      rcases iha (h1 rfl) with ⟨x, s, h3, h4⟩ | h4
      · exact .inl ⟨x, s, h3, true, h, fun _ => h4, fun e => by simp at e⟩
      · exact .inr fun Q' => ⟨true, h, fun _ => h4 _, fun e => by simp at e⟩
    | false =>
      rcases ihb (h2 rfl) with ⟨x, s, h3, h4⟩ | h4
      · exact .inl ⟨x, s, h3, false, h, fun e => by simp at e, fun _ => h4⟩
      · exact .inr fun Q' => ⟨false, h, fun e => by simp at e, fun _ => h4 _⟩
  | block id a ih =>
    intro Q σ h
    rw [wpC_block] at h
    rcases ih h with ⟨x, s, h1, h2⟩ | h2
    · cases x with
      | nrm =>
        refine .inl ⟨_, _, h1, ?_⟩
        rw [wpC_block]
        refine wpC_mono h2 fun x' s' he => ?_
        obtain ⟨rfl, rfl⟩ := he
        exact ⟨rfl, rfl⟩
      | ret =>
        refine .inl ⟨_, _, h1, ?_⟩
        rw [wpC_block]
        refine wpC_mono h2 fun x' s' he => ?_
        obtain ⟨rfl, rfl⟩ := he
        exact ⟨rfl, rfl⟩
      | ex i =>
        rw [kB_ex] at h1
        by_cases hi : i = id
        · rw [if_pos hi] at h1
          refine .inl ⟨_, _, h1, ?_⟩
          rw [wpC_block]
          refine wpC_mono h2 fun x' s' he => ?_
          obtain ⟨rfl, rfl⟩ := he
          rw [kB_ex, if_pos hi]
          exact ⟨rfl, rfl⟩
        · rw [if_neg hi] at h1
          refine .inl ⟨_, _, h1, ?_⟩
          rw [wpC_block]
          refine wpC_mono h2 fun x' s' he => ?_
          obtain ⟨rfl, rfl⟩ := he
          rw [kB_ex, if_neg hi]
          exact ⟨rfl, rfl⟩
    · refine .inr fun Q' => ?_
      rw [wpC_block]
      exact h2 _
  | loop keep a ih =>
    rintro Q σ ⟨n, S, h0, h1, h2⟩
    -- the first round that leaves, or that never ends
    have key : ∀ (m k : Nat), k + m = n → 0 < m → (∃ (n' : Nat) (x : Xt) (s : St), k < n' ∧ n' ≤ n ∧ x ≠ .nrm ∧ Q x s ∧ ∀ j, k ≤ j → j < n' → wpC P a (fun y t => match y with
        | .nrm => j + 1 < n' ∧ (t.lo keep).re = some (S (j + 1))
        | y => y = x ∧ t = s) (S j)) ∨ ∃ n' : Nat, k < n' ∧ ∀ Q' : Xt → St → Prop, ∀ j, k ≤ j → j < n' → wpC P a (fun y t => match y with
        | .nrm => j + 1 < n' ∧ (t.lo keep).re = some (S (j + 1))
        | y => Q' y t) (S j) := by
      intro m
      induction m with
      | zero => intro k _ h; omega
      | succ m ihm =>
        intro k hk _
        rcases ih (h2 k (by omega)) with ⟨x, s, hx, hw⟩ | hw
        rotate_left
        · refine .inr ⟨k + 1, by omega, fun Q' j h3 h4 => ?_⟩
          obtain rfl : j = k := by omega
          exact hw _
        have hleave : x ≠ .nrm → Q x s → (∃ (n' : Nat) (x : Xt) (s : St), k < n' ∧ n' ≤ n ∧ x ≠ .nrm ∧ Q x s ∧ ∀ j, k ≤ j → j < n' → wpC P a (fun y t => match y with
          | .nrm => j + 1 < n' ∧ (t.lo keep).re = some (S (j + 1))
          | y => y = x ∧ t = s) (S j)) := fun hne hq => ⟨k + 1, x, s, by omega, by omega, hne, hq, fun j h3 h4 => by
            obtain rfl : j = k := by omega
            refine wpC_mono hw fun y t he => ?_
            obtain ⟨rfl, rfl⟩ := he
            cases y with
            | nrm => exact (hne rfl).elim
            | ex i => exact ⟨rfl, rfl⟩
            | ret => exact ⟨rfl, rfl⟩⟩
        cases x with
        | nrm =>
          simp only at hx
          rcases ihm (k + 1) (by omega) (by omega) with ⟨n', x, s', h5, h6, h7, h8, h9⟩ | ⟨n', h5, h9⟩
          · refine .inl ⟨n', x, s', by omega, h6, h7, h8, fun j h3 h4 => ?_⟩
            by_cases hj : j = k
            · subst hj
              refine wpC_mono hw fun y t he => ?_
              obtain ⟨rfl, rfl⟩ := he
              exact ⟨by omega, hx.2⟩
            · exact h9 j (by omega) h4
          · refine .inr ⟨n', by omega, fun Q' j h3 h4 => ?_⟩
            by_cases hj : j = k
            · subst hj
              refine wpC_mono hw fun y t he => ?_
              obtain ⟨rfl, rfl⟩ := he
              exact ⟨by omega, hx.2⟩
            · exact h9 Q' j (by omega) h4
        | ex i => exact .inl (hleave (by simp) hx)
        | ret => exact .inl (hleave (by simp) hx)
    rcases key n 0 (by omega) h0 with ⟨n', x, s, h5, h6, h7, h8, h9⟩ | ⟨n', h5, h9⟩
    · refine .inl ⟨x, s, h8, n', S, h5, h1, fun k hk => wpC_mono (h9 k (by omega) hk) fun y t he => ?_⟩
      cases y with
      | nrm => exact he
      | ex i => exact he
      | ret => exact he
    · refine .inr fun Q' => ⟨n', S, h5, h1, fun k hk => wpC_mono (h9 Q' k (by omega) hk) fun y t he => ?_⟩
      cases y with
      | nrm => exact he
      | ex i => exact he
      | ret => exact he
  | exit id => intro Q σ h; exact .inl ⟨_, _, h, rfl, rfl⟩
  | ret => intro Q σ h; exact .inl ⟨_, _, h, rfl, rfl⟩

/-- A loop, by an invariant that tells the state (S) and that goes down (μ). -/
theorem loopK_of {P : Program} {keep : List Nat × List Nat} {a : MC} {Q : Xt → St → Prop} {σ : St} {ι : Type} (S : ι → St) (I : ι → Prop) (μ : ι → Nat) (i0 : ι) (h0 : bk ((σ.lo keep).re) fun s => s = S i0) (hI : I i0)
    (step : ∀ i, I i → wpC P a (kL keep (fun s => ∃ j, s = S j ∧ I j ∧ μ j < μ i) Q) (S i)) : loopK P keep a Q σ := by
  obtain ⟨s0, hs0, rfl⟩ := h0
  -- one round, told
  have hstep : ∀ i, I i → (∃ j, I j ∧ μ j < μ i ∧ wpC P a (fun y t => y = .nrm ∧ (t.lo keep).re = some (S j)) (S i)) ∨ wpC P a (fun y t => y ≠ .nrm ∧ Q y t) (S i) := by
    intro i hi
    rcases wpC_one (step i hi) with ⟨x, s, hx, hw⟩ | hw
    rotate_left
    · exact .inr (hw _)
    cases x with
    | nrm =>
      left
      obtain ⟨s', hs', j, rfl, hj, hm⟩ := hx
      refine ⟨j, hj, hm, wpC_mono hw fun y t he => ?_⟩
      obtain ⟨rfl, rfl⟩ := he
      exact ⟨rfl, hs'⟩
    | ex k =>
      refine .inr (wpC_mono hw fun y t he => ?_)
      obtain ⟨rfl, rfl⟩ := he
      exact ⟨by simp, hx⟩
    | ret =>
      refine .inr (wpC_mono hw fun y t he => ?_)
      obtain ⟨rfl, rfl⟩ := he
      exact ⟨by simp, hx⟩
  have key : ∀ (m : Nat) (i : ι), μ i ≤ m → I i → ∃ (n : Nat) (f : Nat → ι), 0 < n ∧ f 0 = i ∧ ∀ k, k < n → wpC P a (fun x σ' => match x with
      | .nrm => k + 1 < n ∧ (σ'.lo keep).re = some (S (f (k + 1)))
      | x => Q x σ') (S (f k)) := by
    intro m
    induction m with
    | zero =>
      intro i hm hi
      rcases hstep i hi with ⟨j, _, hj, _⟩ | hw
      · omega
      · refine ⟨1, fun _ => i, by omega, rfl, fun k hk => wpC_mono hw fun y t he => ?_⟩
        obtain ⟨hne, hq⟩ := he
        cases y with
        | nrm => exact (hne rfl).elim
        | ex k => exact hq
        | ret => exact hq
    | succ m ih =>
      intro i hm hi
      rcases hstep i hi with ⟨j, hIj, hj, hw⟩ | hw
      · obtain ⟨n, f, hn, hf, h⟩ := ih j (by omega) hIj
        refine ⟨n + 1, fun k => match k with | 0 => i | k + 1 => f k, by omega, rfl, fun k hk => ?_⟩
        cases k with
        | zero =>
          refine wpC_mono hw fun y t he => ?_
          obtain ⟨rfl, he⟩ := he
          exact ⟨by omega, by simp only [hf]; exact he⟩
        | succ k =>
          refine wpC_mono (h k (by omega)) fun y t he => ?_
          cases y with
          | nrm => exact ⟨by omega, he.2⟩
          | ex k => exact he
          | ret => exact he
      · refine ⟨1, fun _ => i, by omega, rfl, fun k hk => wpC_mono hw fun y t he => ?_⟩
        obtain ⟨hne, hq⟩ := he
        cases y with
        | nrm => exact (hne rfl).elim
        | ex k => exact hq
        | ret => exact hq
  obtain ⟨n, f, hn, hf, h⟩ := key (μ i0) i0 (Nat.le_refl _) hI
  exact ⟨n, fun k => S (f k), hn, by simp only [hf]; exact hs0, h⟩

/-! The parts of a state. -/
def putS (n : Nat) : Option (Nat × SV) → List (Nat × SV) → List (Nat × SV)
  | some (k, v), s => if k < n then ins k v s else s
  | none, s => s
def putO : List (Nat × OV) → List OV → List OV
  | [], o => o
  | x :: l, o => putO l (o.set x.1 x.2)
@[go_sem] theorem app_mk (s : List (Nat × SV)) (n : Nat) (o : List OV) (d : Option (Nat × SV)) (l : List (Nat × OV)) : St.app ⟨s, n, o⟩ ⟨d, l⟩ = ⟨putS n d s, n, putO l o⟩ := by
  have h : ∀ (l : List (Nat × OV)) (o : List OV), l.foldl (fun o x => o.set x.1 x.2) o = putO l o := by
    intro l
    induction l with
    | nil => intro o; rfl
    | cons x l ih => intro o; exact ih _
  unfold St.app
  rw [h]
  cases d with
  | none => rfl
  | some x => rfl
@[go_sem] theorem putS_some (n k : Nat) (v : SV) (s : List (Nat × SV)) : putS n (some (k, v)) s = if k < n then ins k v s else s := rfl
@[go_sem] theorem putS_none (n : Nat) (s : List (Nat × SV)) : putS n none s = s := rfl
@[go_sem] theorem putO_nil (o : List OV) : putO [] o = o := rfl
@[go_sem] theorem putO_cons (k : Nat) (v : OV) (l : List (Nat × OV)) (o : List OV) : putO ((k, v) :: l) o = putO l (o.set k v) := rfl
@[go_sem] theorem get_mk (s : List (Nat × SV)) (n : Nat) (o : List OV) (k : Nat) : St.get ⟨s, n, o⟩ k = lk k s := rfl
@[go_sem] theorem lk_nil (k : Nat) : lk k [] = .undef := rfl
@[go_sem] theorem lk_cons (k j : Nat) (v : SV) (l : List (Nat × SV)) : lk k ((j, v) :: l) = if k = j then v else lk k l := rfl
@[go_sem] theorem ins_eq (k : Nat) (v : SV) (l : List (Nat × SV)) : ins k v l = (k, v) :: l := rfl
/-- Laid in place. -/
def insS (k : Nat) (v : SV) : List (Nat × SV) → List (Nat × SV)
  | [] => [(k, v)]
  | x :: l => if k = x.1 then (k, v) :: l else if k < x.1 then (k, v) :: x :: l else x :: insS k v l
@[go_sem] theorem insS_nil (k : Nat) (v : SV) : insS k v [] = [(k, v)] := rfl
@[go_sem] theorem insS_cons (k j : Nat) (v u : SV) (l : List (Nat × SV)) : insS k v ((j, u) :: l) = if k = j then (k, v) :: l else if k < j then (k, v) :: (j, u) :: l else (j, u) :: insS k v l := rfl
def hasN (k : Nat) : List Nat → Bool
  | [] => false
  | j :: l => if k = j then true else hasN k l
theorem hasN_eq (k : Nat) : ∀ l : List Nat, l.contains k = hasN k l
  | [] => rfl
  | j :: l => by
    rw [hasN, List.contains_cons, hasN_eq k l]
    by_cases h : k = j <;> simp [h]
@[go_sem] theorem hasN_nil (k : Nat) : hasN k [] = false := rfl
@[go_sem] theorem hasN_cons (k j : Nat) (l : List Nat) : hasN k (j :: l) = if k = j then true else hasN k l := rfl
def selv (k : Nat) (v : SV) (r : List (Nat × SV)) : List (Nat × SV) := match v with
  | .undef => r
  | v => (k, v) :: r
@[go_sem] theorem selv_undef {k r} : selv k .undef r = r := rfl
@[go_sem] theorem selv_val {k a c r} : selv k (.val a c) r = (k, .val a c) :: r := rfl
@[go_sem] theorem selv_adr {k a r} : selv k (.adr a) r = (k, .adr a) :: r := rfl
@[go_sem] theorem selv_tup {k a r} : selv k (.tup a) r = (k, .tup a) :: r := rfl
@[go_sem] theorem selv_skp {k r} : selv k .skp r = (k, .skp) :: r := rfl
@[go_sem] theorem sel_nil (s : List (Nat × SV)) : sel s [] = [] := rfl
@[go_sem] theorem sel_cons (s : List (Nat × SV)) (k : Nat) (ks : List Nat) : sel s (k :: ks) = selv k (lk k s) (sel s ks) := by
  cases h : lk k s <;> simp [sel, selv, h]
@[go_sem] theorem only_mk (s : List (Nat × SV)) (n : Nat) (o : List OV) (ks : List Nat) : St.only ⟨s, n, o⟩ ks = ⟨sel s ks, n, o⟩ := rfl
@[go_sem] theorem ob_mk (s : List (Nat × SV)) (n : Nat) (o : List OV) (id : Nat) : St.ob ⟨s, n, o⟩ id = o.getD id ⟨0, .none⟩ := rfl

attribute [go_sem] eff St.evd St.ev SV.def_ SV.one SV.all SC.sca St.sca vInt vBool vStr St.int St.opt binV binI binS unV minMaxV St.adr St.rows St.load sub vw List.getD_cons_zero List.getD_cons_succ List.set_cons_zero List.set_cons_succ
end Go.Proofs.YtcbljemkihnmnaaDoorR
namespace Go.Proofs.YtcbljemkihnmnaaDoorR
open Go Go.RowKit

section
variable {P : Program} {σ σ' : St} {Q : Xt → St → Prop} {L : Ef → Prop} {n id : Nat} {s : List (Nat × SV)} {o : List OV} {α β : Type}

@[go_sem] theorem bk_allS_nil {K : List α → Prop} : bk (allSome ([] : List (Option α))) K = K [] := bk_some _
@[go_sem] theorem bk_allS {K : List α → Prop} {x : Option α} {l : List (Option α)} : bk (allSome (x :: l)) K = bk x fun a => bk (allSome l) fun r => K (a :: r) := by
  cases x with
  | none => simp [allSome, bk]
  | some a => simp only [allSome, bk_map, bk_some]
@[go_sem] theorem bk_at {K : β → Prop} {f : α → β} {l : List α} {i : Nat} : bk ((l.map f)[i]?) K = bk (l[i]?) fun a => K (f a) := by
  rw [List.getElem?_map, bk_map]
theorem bk_eq {K : α → Prop} {x : Option α} {a : α} (h : x = some a) : bk x K = K a := by rw [h, bk_some]

/-! Versions told anew. -/
def reL (σ : St) (cs : List SC) : Option (List SC) := allSome (cs.map (SC.re σ))
def reS (σ : St) (s : List (Nat × SV)) : Option (List (Nat × SV)) := allSome (s.map fun x => (x.2.re σ).map fun v => (x.1, v))
def reO (σ : St) (o : List OV) : Option (List OV) := allSome (o.map (OV.re σ))
@[go_sem] theorem bk_re {K : St → Prop} : bk (St.re ⟨s, n, o⟩) K = bk (reS ⟨s, n, o⟩ s) fun s' => bk (reO ⟨s, n, o⟩ o) fun o' => K ⟨s', n, o'⟩ := by
  unfold St.re reS reO
  simp only [bk_bind, bk_map]
@[go_sem] theorem bk_reS_nil {K} : bk (reS σ []) K = K [] := bk_some _
@[go_sem] theorem bk_reS_cons {K} {k : Nat} {v : SV} : bk (reS σ ((k, v) :: s)) K = bk (v.re σ) fun v' => bk (reS σ s) fun s' => K ((k, v') :: s') := by
  unfold reS; simp only [List.map_cons, bk_allS, bk_map]
@[go_sem] theorem bk_reO_nil {K} : bk (reO σ []) K = K [] := bk_some _
@[go_sem] theorem bk_reO_cons {K} {x : OV} {l : List OV} : bk (reO σ (x :: l)) K = bk (x.re σ) fun x' => bk (reO σ l) fun l' => K (x' :: l') := by
  unfold reO; simp only [List.map_cons, bk_allS]
@[go_sem] theorem bk_reL_nil {K} : bk (reL σ []) K = K [] := bk_some _
@[go_sem] theorem bk_reL_cons {K} {x : SC} {l : List SC} : bk (reL σ (x :: l)) K = bk (x.re σ) fun x' => bk (reL σ l) fun l' => K (x' :: l') := by
  unfold reL; simp only [List.map_cons, bk_allS]
@[go_sem] theorem sre_undef : SV.re σ .undef = some .undef := rfl
@[go_sem] theorem sre_skp : SV.re σ .skp = some .skp := rfl
@[go_sem] theorem sre_val {a : Bool} {cs : List SC} : SV.re σ (.val a cs) = (reL σ cs).map (.val a) := rfl
@[go_sem] theorem sre_adr {a : Ad} : SV.re σ (.adr a) = (a.re σ).map .adr := rfl
@[go_sem] theorem sre_tup {vs : List (Bool × List SC)} : SV.re σ (.tup vs) = (allSome (vs.map fun v => (reL σ v.2).map fun cs => (v.1, cs))).map .tup := rfl
@[go_sem] theorem sre_pl {t : T} : SC.re σ (.pl t) = some (.pl t) := rfl
@[go_sem] theorem sre_bor {t : T} : SC.re σ (.bor t) = some (.bor t) := rfl
@[go_sem] theorem sre_emp {k : Nat} : SC.re σ (.emp k) = some (.emp k) := rfl
@[go_sem] theorem sre_ref {ver sz lo k : Nat} : SC.re σ (.ref id ver sz lo k) = if ver = (σ.ob id).ver then some (.ref id 0 sz lo k) else none := rfl
@[go_sem] theorem sre_clo0 {f : FuncId} : SC.re σ (.clo f []) = some (.clo f []) := rfl
@[go_sem] theorem sre_clo {f : FuncId} {bs : List (Nat × Nat)} : SC.re σ (.clo f bs) = if (bs.all fun b => b.2 == (σ.ob b.1).ver) = true then some (.clo f (bs.map fun b => (b.1, 0))) else none := rfl
@[go_sem] theorem sre_bx {ver k : Nat} : Ad.re σ (.bx id ver k) = if ver = (σ.ob id).ver then some (.bx id 0 k) else none := rfl
@[go_sem] theorem sre_el {ver sz i k : Nat} : Ad.re σ (.el id ver sz i k) = if ver = (σ.ob id).ver then some (.el id 0 sz i k) else none := rfl
@[go_sem] theorem sre_ex {bo : Bool} {sz : Nat} {es : List (List T)} {i k : Nat} : Ad.re σ (.ex bo sz es i k) = some (.ex bo sz es i k) := rfl
@[go_sem] theorem sre_pb {ts : List T} {k : Nat} : Ad.re σ (.pb ts k) = some (.pb ts k) := rfl
@[go_sem] theorem sre_none {v : Nat} : OV.re σ ⟨v, .none⟩ = some ⟨0, .none⟩ := rfl
@[go_sem] theorem sre_row {v : Nat} {d : Bool} {sz : Nat} {es : List (List T)} : OV.re σ ⟨v, .row d sz es⟩ = some ⟨0, .row d sz es⟩ := rfl
@[go_sem] theorem sre_lent {v : Nat} {sz : Nat} {es : List (List T)} : OV.re σ ⟨v, .lent sz es⟩ = some ⟨0, .lent sz es⟩ := rfl
@[go_sem] theorem sre_box {v : Nat} {cs : List SC} : OV.re σ ⟨v, .box cs⟩ = (reL σ cs).map fun cs => ⟨0, .box cs⟩ := rfl

/-! What is hidden. -/
def fltH (hs : List Nat) : List (Nat × SV) → List (Nat × SV)
  | [] => []
  | x :: l => if hasN x.1 hs = true then fltH hs l else x :: fltH hs l
def hidO (ho : List Nat) : Nat → List OV → List OV
  | _, [] => []
  | i, x :: l => (if hasN i ho = true then ⟨x.ver, .none⟩ else x) :: hidO ho (i + 1) l
theorem hidO_eq (ho : List Nat) : ∀ (l : List OV) (i : Nat), hideO ho i l = hidO ho i l
  | [], _ => rfl
  | x :: l, i => by rw [hideO, hidO, hidO_eq ho l, hasN_eq]
theorem hidO_nil' : ∀ (l : List OV) (i : Nat), hidO [] i l = l
  | [], _ => rfl
  | x :: l, i => by rw [hidO, hidO_nil' l, hasN]; simp
theorem fltH_nil' : ∀ (l : List (Nat × SV)), fltH [] l = l
  | [] => rfl
  | x :: l => by rw [fltH, fltH_nil' l, hasN]; simp
@[go_sem] theorem hide_mk {hs ho : List Nat} : St.hide ⟨s, n, o⟩ hs ho = ⟨fltH hs s, n, hidO ho 0 o⟩ := by
  have h : ∀ s : List (Nat × SV), s.filter (fun x => !hs.contains x.1) = fltH hs s := by
    intro s
    induction s with
    | nil => rfl
    | cons x s ih =>
      rw [List.filter_cons, fltH, ih, hasN_eq]
      cases hasN x.1 hs <;> simp
  unfold St.hide
  rw [h, hidO_eq]
@[go_sem] theorem fltH_nil {hs : List Nat} : fltH hs [] = [] := rfl
@[go_sem] theorem fltH_no {s : List (Nat × SV)} : fltH [] s = s := fltH_nil' s
@[go_sem] theorem fltH_cons {hs : List Nat} {k : Nat} {v : SV} {l : List (Nat × SV)} : fltH hs ((k, v) :: l) = if hasN k hs = true then fltH hs l else (k, v) :: fltH hs l := rfl
@[go_sem] theorem hidO_no {i : Nat} {l : List OV} : hidO [] i l = l := hidO_nil' l i
@[go_sem] theorem hidO_nil {ho : List Nat} {i : Nat} : hidO ho i [] = [] := rfl
@[go_sem] theorem hidO_cons {ho : List Nat} {i : Nat} {x : OV} {l : List OV} : hidO ho i (x :: l) = (if hasN i ho = true then ⟨x.ver, .none⟩ else x) :: hidO ho (i + 1) l := rfl
@[go_sem] theorem lo_mk {ks ho : List Nat} : St.lo ⟨s, n, o⟩ (ks, ho) = ⟨sel s ks, n, hidO ho 0 o⟩ := by
  unfold St.lo
  rw [only_mk, hidO_eq]
def allW : List (Nat × OV) → List Nat → Bool
  | [], _ => true
  | x :: l, ws => if hasN x.1 ws = true then allW l ws else false
@[go_sem] theorem inW_mk {m : MOp} {d : Option (Nat × SV)} {l : List (Nat × OV)} : (inW m ⟨d, l⟩ = true) = (d.map (·.1) = dstOf m.o ∧ allW l m.ws = true) := by
  have h : ∀ l : List (Nat × OV), (l.all fun x => m.ws.contains x.1) = allW l m.ws := by
    intro l
    induction l with
    | nil => rfl
    | cons x l ih =>
      rw [List.all_cons, allW, ih, hasN_eq]
      cases hasN x.1 m.ws <;> simp
  unfold inW
  simp only [h, Bool.and_eq_true, beq_iff_eq]
@[go_sem] theorem allW_nil {ws : List Nat} : allW [] ws = true := rfl
@[go_sem] theorem allW_cons {k : Nat} {x : OV} {l : List (Nat × OV)} {ws : List Nat} : allW ((k, x) :: l) ws = if hasN k ws = true then allW l ws else false := rfl

/-! Guards: where it is not known whether the operation is wanted, both ways; in each the slot that is looked at is known from then on. -/
def rpl (k : Nat) (v : SV) : List (Nat × SV) → List (Nat × SV)
  | [] => []
  | x :: l => if k = x.1 then (x.1, v) :: l else x :: rpl k v l
theorem rpl_same {k : Nat} {v : SV} : ∀ {l : List (Nat × SV)}, lk k l = v → rpl k v l = l
  | [], _ => rfl
  | x :: l, h => by
    unfold lk at h
    unfold rpl
    split at h
    · rename_i hk; rw [if_pos hk, ← h]
    · rename_i hk; rw [if_neg hk, rpl_same h]
@[go_sem] theorem rpl_nil {k v} : rpl k v [] = [] := rfl
@[go_sem] theorem rpl_cons {k v j u l} : rpl k v ((j, u) :: l) = if k = j then (j, v) :: l else (j, u) :: rpl k v l := rfl
def gbool : SV → Option (Option Bool)
  | .skp => some none
  | .val false [.pl (.sc (.bool b))] => some (some b)
  | _ => none
@[go_sem] theorem gbool_skp : gbool .skp = some none := rfl
@[go_sem] theorem gbool_val {b} : gbool (.val false [.pl (.sc (.bool b))]) = some (some b) := rfl
theorem gbool_some {v : SV} {b : Bool} (h : gbool v = some (some b)) : v = .val false [.pl (.sc (.bool b))] := by
  unfold gbool at h
  split at h <;> simp_all
theorem gbool_none {v : SV} (h : gbool v = some none) : v = .skp := by
  unfold gbool at h
  split at h <;> simp_all
def gR1 (P : Program) (w : Bool) (o : MO) (hs ho ws bf : List Nat) (ms : List MOp) (K : St → Prop) (t : Bool) (σ : St) : Prop := if (t == w) = true then bkS P ⟨none, o, hs, ho, ws, bf⟩ σ (kR P ms σ K) else wpR P ms (σ.app (skipE o)) K
def gR (P : Program) (s : Nat) (w : Bool) (o : MO) (hs ho ws bf : List Nat) (ms : List MOp) (σ : St) (K : St → Prop) : Option Bool → Prop
  | none => wpR P ms (σ.app (skipE o)) K
  | some b => (b = true → gR1 P w o hs ho ws bf ms K true ⟨rpl s (.val false [.pl (.sc (.bool true))]) σ.s, σ.n, σ.o⟩) ∧ (b = false → gR1 P w o hs ho ws bf ms K false ⟨rpl s (.val false [.pl (.sc (.bool false))]) σ.s, σ.n, σ.o⟩)
@[go_sem] theorem wpR_guard {P : Program} {s : Nat} {w : Bool} {o : MO} {hs ho ws bf : List Nat} {ms : List MOp} {K : St → Prop} : wpR P (⟨some (s, w), o, hs, ho, ws, bf⟩ :: ms) σ K = bk (gbool (σ.get s)) (gR P s w o hs ho ws bf ms σ K) := by
  rw [wpR_cons']
  unfold bkS bk
  simp only [stepP, wantedM]
  have e2 : ∀ b, σ.get s = .val false [.pl (.sc (.bool b))] → (⟨rpl s (.val false [.pl (.sc (.bool b))]) σ.s, σ.n, σ.o⟩ : St) = σ := by
    intro b h
    rw [rpl_same h]
  cases hg : gbool (σ.get s) with
  | none =>
    unfold gbool at hg
    split at hg <;> simp_all
  | some c =>
    cases c with
    | none =>
      rw [gbool_none hg]
      simp [gR, kR]
    | some b =>
      rw [gbool_some hg]
      have e := e2 b (gbool_some hg)
      cases b <;> cases w <;> simp [gR, gR1, e, kR, bkS, stepP, wantedM]
@[go_sem] theorem gR_split {P : Program} {s : Nat} {w : Bool} {o : MO} {hs ho ws bf : List Nat} {ms : List MOp} {K : St → Prop} {b : Bool} : gR P s w o hs ho ws bf ms σ K (some b) = if b = true then gR1 P w o hs ho ws bf ms K true ⟨rpl s (.val false [.pl (.sc (.bool true))]) σ.s, σ.n, σ.o⟩ else gR1 P w o hs ho ws bf ms K false ⟨rpl s (.val false [.pl (.sc (.bool false))]) σ.s, σ.n, σ.o⟩ := by cases b <;> simp [gR]
@[go_sem] theorem gR_none {P : Program} {s : Nat} {w : Bool} {o : MO} {hs ho ws bf : List Nat} {ms : List MOp} {K : St → Prop} : gR P s w o hs ho ws bf ms σ K none = wpR P ms (σ.app (skipE o)) K := rfl
@[go_sem] theorem gR1_tt {P : Program} {o : MO} {hs ho ws bf : List Nat} {ms : List MOp} {K : St → Prop} : gR1 P true o hs ho ws bf ms K true σ = bkS P ⟨none, o, hs, ho, ws, bf⟩ σ (kR P ms σ K) := rfl
@[go_sem] theorem gR1_ff {P : Program} {o : MO} {hs ho ws bf : List Nat} {ms : List MOp} {K : St → Prop} : gR1 P false o hs ho ws bf ms K false σ = bkS P ⟨none, o, hs, ho, ws, bf⟩ σ (kR P ms σ K) := rfl
@[go_sem] theorem gR1_tf {P : Program} {o : MO} {hs ho ws bf : List Nat} {ms : List MOp} {K : St → Prop} : gR1 P true o hs ho ws bf ms K false σ = wpR P ms (σ.app (skipE o)) K := rfl
@[go_sem] theorem gR1_ft {P : Program} {o : MO} {hs ho ws bf : List Nat} {ms : List MOp} {K : St → Prop} : gR1 P false o hs ho ws bf ms K true σ = wpR P ms (σ.app (skipE o)) K := rfl
def gD1 (P : Program) (w : Bool) (m : MOp) (ms : List MOp) (K : St → Prop) (t : Bool) (σ : St) : Prop := if (t == w) = true then bkS P ⟨none, m.o, m.hs, m.ho, m.ws, m.bf⟩ (σ.hide m.hs m.ho) (kD P m ms σ K) else (inW m (skipE m.o) = true ∧ wpD P ms (σ.app (skipE m.o)) K)
def gD (P : Program) (s : Nat) (w : Bool) (m : MOp) (ms : List MOp) (σ : St) (K : St → Prop) : Option Bool → Prop
  | none => inW m (skipE m.o) = true ∧ wpD P ms (σ.app (skipE m.o)) K
  | some b => (b = true → gD1 P w m ms K true ⟨rpl s (.val false [.pl (.sc (.bool true))]) σ.s, σ.n, σ.o⟩) ∧ (b = false → gD1 P w m ms K false ⟨rpl s (.val false [.pl (.sc (.bool false))]) σ.s, σ.n, σ.o⟩)
@[go_sem] theorem wpD_guard {P : Program} {s : Nat} {w : Bool} {o : MO} {hs ho ws bf : List Nat} {ms : List MOp} {K : St → Prop} : wpD P (⟨some (s, w), o, hs, ho, ws, bf⟩ :: ms) σ K = bk (gbool ((σ.hide hs ho).get s)) (gD P s w ⟨some (s, w), o, hs, ho, ws, bf⟩ ms σ K) := by
  rw [wpD_cons']
  unfold bkS bk
  simp only [stepP, wantedM]
  have e2 : ∀ b, (σ.hide hs ho).get s = .val false [.pl (.sc (.bool b))] → (⟨rpl s (.val false [.pl (.sc (.bool b))]) σ.s, σ.n, σ.o⟩ : St) = σ := by
    intro b h
    rw [get_hide] at h
    split at h
    · simp at h
    · rw [rpl_same h]
  cases hg : gbool ((σ.hide hs ho).get s) with
  | none =>
    unfold gbool at hg
    split at hg <;> simp_all
  | some c =>
    cases c with
    | none =>
      rw [gbool_none hg]
      simp [gD, kD]
    | some b =>
      rw [gbool_some hg]
      have e := e2 b (gbool_some hg)
      cases b <;> cases w <;> simp [gD, gD1, e, kD, bkS, stepP, wantedM]
section
variable {s : Nat} {m : MOp} {ms : List MOp} {K : St → Prop}
@[go_sem] theorem gD_split {w b : Bool} : gD P s w m ms σ K (some b) = if b = true then gD1 P w m ms K true ⟨rpl s (.val false [.pl (.sc (.bool true))]) σ.s, σ.n, σ.o⟩ else gD1 P w m ms K false ⟨rpl s (.val false [.pl (.sc (.bool false))]) σ.s, σ.n, σ.o⟩ := by cases b <;> simp [gD]
@[go_sem] theorem gD_none {w : Bool} : gD P s w m ms σ K none = (inW m (skipE m.o) = true ∧ wpD P ms (σ.app (skipE m.o)) K) := rfl
@[go_sem] theorem gD1_tt : gD1 P true m ms K true σ = bkS P ⟨none, m.o, m.hs, m.ho, m.ws, m.bf⟩ (σ.hide m.hs m.ho) (kD P m ms σ K) := rfl
@[go_sem] theorem gD1_ff : gD1 P false m ms K false σ = bkS P ⟨none, m.o, m.hs, m.ho, m.ws, m.bf⟩ (σ.hide m.hs m.ho) (kD P m ms σ K) := rfl
@[go_sem] theorem gD1_tf : gD1 P true m ms K false σ = (inW m (skipE m.o) = true ∧ wpD P ms (σ.app (skipE m.o)) K) := rfl
@[go_sem] theorem gD1_ft : gD1 P false m ms K true σ = (inW m (skipE m.o) = true ∧ wpD P ms (σ.app (skipE m.o)) K) := rfl
end

/-! Results. -/
@[go_sem] theorem outs_eq {res : List (MR × List Bool)} {rs : List RV} : (outs σ res = some rs) = bk (outR σ res) fun x => neuO x.2.1 = true ∧ distinct (owns x.2.1) = true ∧ (owns x.2.1 = [] ∨ x.2.2 = .e) ∧ x.1 = rs := by
  unfold outs bk
  simp only [Option.bind_eq_some_iff, Option.ite_none_right_eq_some, Option.some.injEq, eq_iff_iff]
  constructor
  · rintro ⟨a, h1, ⟨h2, h3, h4⟩, h5⟩; exact ⟨a, h1, h2, h3, h4, h5⟩
  · rintro ⟨a, h1, h2, h3, h4, h5⟩; exact ⟨a, h1, ⟨h2, h3, h4⟩, h5⟩
@[go_sem] theorem outR_nil : outR σ [] = some ([], [], .e) := rfl
@[go_sem] theorem outR_cons {r : MR} {fl : List Bool} {l : List (MR × List Bool)} : outR σ ((r, fl) :: l) = (σ.resv r).bind fun v => (outC σ fl v.2).bind fun x => (outR σ l).map fun y => (⟨v.1, x.1⟩ :: y.1, x.2.1 ++ y.2.1, x.2.2.join y.2.2) := rfl
@[go_sem] theorem outC_nil : outC σ [] [] = some ([], [], .e) := rfl
@[go_sem] theorem outC_true {fl : List Bool} {c : SC} {cs : List SC} : outC σ (true :: fl) (c :: cs) = (σ.emb c).bind fun x => (outC σ fl cs).map fun y => ((true, x.1) :: y.1, x.2 :: y.2.1, y.2.2) := rfl
@[go_sem] theorem outC_false {fl : List Bool} {c : SC} {cs : List SC} : outC σ (false :: fl) (c :: cs) = (σ.con1 c).bind fun t => (outC σ fl cs).map fun y => ((false, t) :: y.1, y.2.1, (c.md σ).join y.2.2) := rfl
@[go_sem] theorem resv_tmp {t : Nat} : σ.resv (.tmp t) = (σ.get t).all := rfl
@[go_sem] theorem resv_cell {a k : Nat} {agg : Bool} : σ.resv (.cell a agg k) = (σ.adr (.s a)).bind fun ad => (σ.load k ad).bind fun cs => if agg = true ∨ k = 1 then some (agg, cs) else none := rfl
@[go_sem] theorem con1_pl {t : T} : σ.con1 (.pl t) = some t := rfl
@[go_sem] theorem con1_bor {t : T} : σ.con1 (.bor t) = some t := rfl
@[go_sem] theorem con1_emp {sz : Nat} : σ.con1 (.emp sz) = some (.sl sz []) := rfl
@[go_sem] theorem con1_ref {ver sz lo k : Nat} : σ.con1 (.ref id ver sz lo k) = (σ.rows (.ref id ver sz lo k)).map fun x => .sl x.1 x.2 := rfl
@[go_sem] theorem con1_clo {g : FuncId} : σ.con1 (.clo g []) = some (.fn g []) := rfl
@[go_sem] theorem con_pl {t : T} : σ.con (.pl t) = some t := rfl
@[go_sem] theorem con_bor {t : T} : σ.con (.bor t) = some t := rfl
@[go_sem] theorem con_emp {sz : Nat} : σ.con (.emp sz) = some (.sl sz []) := rfl
@[go_sem] theorem con_ref {ver sz lo k : Nat} : σ.con (.ref id ver sz lo k) = (σ.rows (.ref id ver sz lo k)).map fun x => .sl x.1 x.2 := rfl
@[go_sem] theorem con_clo {g : FuncId} {bs : List (Nat × Nat)} : σ.con (.clo g bs) = (allSome (bs.map fun b => σ.boxed b.1 b.2)).map (.fn g) := rfl
@[go_sem] theorem boxed_eq {v : Nat} : σ.boxed id v = match σ.ob id with
  | ⟨w, .box cs⟩ => if w = v then (allSome (cs.map σ.con1)).map .pb else none
  | _ => none := rfl
@[go_sem] theorem emb_sc {v : Value} : σ.emb (.pl (.sc v)) = some (.sc v, .neu) := rfl
@[go_sem] theorem emb_bsc {v : Value} : σ.emb (.bor (.sc v)) = some (.sc v, .neu) := rfl
@[go_sem] theorem emb_emp {sz : Nat} : σ.emb (.emp sz) = some (.sl sz [], .neu) := rfl
@[go_sem] theorem emb_ref {ver sz lo k : Nat} : σ.emb (.ref id ver sz lo k) = match σ.ob id with
    | ⟨v, .row true sz' es⟩ => if v = ver ∧ sz = sz' ∧ lo = 0 ∧ k = es.length then some (.sl sz es, .own id) else none
    | _ => none := rfl
@[go_sem] theorem emb_sl {sz : Nat} {es : List (List T)} : σ.emb (.pl (.sl sz es)) = some (.sl sz es, .shr) := rfl
@[go_sem] theorem emb_bsl {sz : Nat} {es : List (List T)} : σ.emb (.bor (.sl sz es)) = some (.sl sz es, .shr) := rfl
@[go_sem] theorem embs_eq {cs : List SC} : σ.embs cs = (allSome (cs.map σ.emb)).map fun l => (l.map (·.1), l.map (·.2)) := by
  unfold St.embs
  congr 1
  funext l
  congr 1
  induction l with
  | nil => rfl
  | cons x l ih => simp [List.flatMap_cons, ih]
@[go_sem] theorem md_pl {t : T} : (SC.pl t).md σ = .e := rfl
@[go_sem] theorem md_bsc {v : Value} : (SC.bor (.sc v)).md σ = .e := rfl
@[go_sem] theorem md_bsl {sz : Nat} {es : List (List T)} : (SC.bor (.sl sz es)).md σ = .b := rfl
@[go_sem] theorem md_emp {sz : Nat} : (SC.emp sz).md σ = .e := rfl
@[go_sem] theorem md_ref {ver sz lo k : Nat} : (SC.ref id ver sz lo k).md σ = match (σ.ob id).oc with
    | .lent .. => .b
    | _ => .a := rfl
@[go_sem] theorem md_clo0 {f : FuncId} : (SC.clo f []).md σ = .e := rfl
@[go_sem] theorem md_clo {f : FuncId} {b : Nat × Nat} {bs : List (Nat × Nat)} : (SC.clo f (b :: bs)).md σ = .a := rfl
@[go_sem] theorem mdAll_nil : mdAll σ [] = .e := rfl
@[go_sem] theorem mdAll_cons {c : SC} {cs : List SC} : mdAll σ (c :: cs) = (c.md σ).join (mdAll σ cs) := rfl
@[go_sem] theorem svmd_val {a : Bool} {cs : List SC} : (SV.val a cs).md σ = mdAll σ cs := rfl
@[go_sem] theorem svmd_pb {ts : List T} {k : Nat} : (SV.adr (.pb ts k)).md σ = .e := rfl
@[go_sem] theorem svmd_bx {v k : Nat} : (SV.adr (.bx id v k)).md σ = .a := rfl
@[go_sem] theorem mode_nil : σ.mode [] = .e := rfl
@[go_sem] theorem mode_cons {x : Od} {xs : List Od} : σ.mode (x :: xs) = ((σ.ev x).md σ).join (σ.mode xs) := rfl
@[go_sem] theorem join_e {m : Md} : Md.join .e m = m := by cases m <;> rfl
@[go_sem] theorem join_e' {m : Md} : Md.join m .e = m := by cases m <;> rfl
@[go_sem] theorem join_a {m : Md} : Md.join .a m = .a := by cases m <;> rfl
@[go_sem] theorem join_a' {m : Md} : Md.join m .a = .a := by cases m <;> rfl
@[go_sem] theorem join_bb : Md.join .b .b = .b := rfl
@[go_sem] theorem args_nil : σ.args [] = some [] := rfl
@[go_sem] theorem bk_args {x : Od} {xs : List Od} {K} : bk (σ.args (x :: xs)) K = bk ((σ.ev x).arg σ) fun a => bk (σ.args xs) fun l => K (a :: l) := by
  unfold St.args; simp only [List.map_cons, bk_allS]
def conL (σ : St) (cs : List SC) : Option (List T) := allSome (cs.map σ.con)
@[go_sem] theorem conL_nil {K} : bk (conL σ []) K = K [] := bk_some _
@[go_sem] theorem conL_cons {c : SC} {cs : List SC} {K} : bk (conL σ (c :: cs)) K = bk (σ.con c) fun t => bk (conL σ cs) fun l => K (t :: l) := by
  unfold conL; simp only [List.map_cons, bk_allS]
@[go_sem] theorem arg_val {a : Bool} {cs : List SC} : SV.arg σ (.val a cs) = (conL σ cs).map fun ts => (a, ts) := rfl
@[go_sem] theorem arg_bx {v : Nat} : SV.arg σ (.adr (.bx id v 0)) = (σ.boxed id v).map fun t => (false, [t]) := rfl
@[go_sem] theorem arg_pb {ts : List T} : SV.arg σ (.adr (.pb ts 0)) = some (false, [.pb ts]) := rfl
@[go_sem] theorem callee_f {f : FuncId} : σ.callee (.f f) = some (f, []) := rfl
@[go_sem] theorem callee_s {k : Nat} : σ.callee (.s k) = match (σ.get k).one with
  | some (.clo g bs) => (allSome (bs.map fun b => σ.boxed b.1 b.2)).map fun l => (g, l.map fun t => (false, [t]))
  | some (.pl (.fn g cs)) => some (g, cs.map fun t => (false, [t]))
  | some (.bor (.fn g cs)) => some (g, cs.map fun t => (false, [t]))
  | _ => none := rfl
@[go_sem] theorem resEf_eq {m : Md} {d : Nat} {ids : List Nat} {rs : List RV} : resEf σ m d ids rs = if distinct ids = true then (placeAll σ m ids rs).map fun x => ⟨some (d, tupOf x.1), x.2.1⟩ else none := by
  unfold resEf; simp
@[go_sem] theorem distinct_nil : distinct [] = true := rfl
@[go_sem] theorem distinct_cons {k : Nat} {l : List Nat} : distinct (k :: l) = if hasN k l = true then false else distinct l := by
  rw [distinct, hasN_eq]; cases hasN k l <;> simp
@[go_sem] theorem placeAll_nil {m : Md} {ids : List Nat} : placeAll σ m ids [] = some ([], [], ids) := rfl
@[go_sem] theorem placeAll_cons {m : Md} {ids : List Nat} {a : Bool} {cs : List (Bool × T)} {rs : List RV} : placeAll σ m ids (⟨a, cs⟩ :: rs) = (place σ m ids cs).bind fun x => (placeAll σ m x.2.2 rs).map fun y => ((a, x.1) :: y.1, x.2.1 ++ y.2.1, y.2.2) := rfl
@[go_sem] theorem place_nil {m : Md} {ids : List Nat} : place σ m ids [] = some ([], [], ids) := by cases ids <;> rfl
@[go_sem] theorem place_false {m : Md} {ids : List Nat} {t : T} {l : List (Bool × T)} : place σ m ids ((false, t) :: l) = (extC m t).bind fun c => (place σ m ids l).map fun x => (c :: x.1, x.2.1, x.2.2) := by cases ids <;> rfl
@[go_sem] theorem place_true {m : Md} {ids : List Nat} {k sz : Nat} {es : List (List T)} {l : List (Bool × T)} : place σ m (k :: ids) ((true, .sl sz es) :: l) = if k < σ.o.length then
      (place σ m ids l).map fun x => (.ref k (σ.nw k) sz 0 es.length :: x.1, (k, ⟨σ.nw k, .row true sz es⟩) :: x.2.1, x.2.2) else none := rfl
@[go_sem] theorem extC_sc {m : Md} {v : Value} : extC m (.sc v) = some (.pl (.sc v)) := rfl
@[go_sem] theorem extC_sle {sz : Nat} {es : List (List T)} : extC .e (.sl sz es) = some (.pl (.sl sz es)) := rfl
@[go_sem] theorem extC_slb {sz : Nat} {es : List (List T)} : extC .b (.sl sz es) = some (.bor (.sl sz es)) := rfl
@[go_sem] theorem tupOf_one {v : Bool × List SC} : tupOf [v] = .val v.1 v.2 := rfl
@[go_sem] theorem tupOf_nil : tupOf [] = .tup [] := rfl
@[go_sem] theorem tupOf_two {v u : Bool × List SC} {l : List (Bool × List SC)} : tupOf (v :: u :: l) = .tup (v :: u :: l) := rfl
@[go_sem] theorem nw_mk : St.nw ⟨s, n, o⟩ id = (o.getD id ⟨0, .none⟩).ver + 1 := rfl
@[go_sem] theorem neuO_nil : neuO [] = true := rfl
@[go_sem] theorem neuO_neu {l : List Kd} : neuO (.neu :: l) = neuO l := by simp [neuO]
@[go_sem] theorem neuO_own {l : List Kd} {k : Nat} : neuO (.own k :: l) = neuO l := by simp [neuO]
@[go_sem] theorem neuO_shr {l : List Kd} : neuO (.shr :: l) = false := by simp [neuO]
@[go_sem] theorem neuS_nil : neuS [] = true := rfl
@[go_sem] theorem neuS_neu {l : List Kd} : neuS (.neu :: l) = neuS l := by simp [neuS]
@[go_sem] theorem neuS_own {l : List Kd} {k : Nat} : neuS (.own k :: l) = false := by simp [neuS]
@[go_sem] theorem neuS_shr {l : List Kd} : neuS (.shr :: l) = neuS l := by simp [neuS]
@[go_sem] theorem owns_nil : owns [] = [] := rfl
@[go_sem] theorem owns_neu {l : List Kd} : owns (.neu :: l) = owns l := rfl
@[go_sem] theorem owns_own {l : List Kd} {k : Nat} : owns (.own k :: l) = k :: owns l := rfl
@[go_sem] theorem owns_shr {l : List Kd} : owns (.shr :: l) = owns l := rfl
@[go_sem] theorem lend_nil : σ.lend [] = [] := rfl
@[go_sem] theorem lend_cons {k : Nat} {l : List Nat} : σ.lend (k :: l) = (k, match σ.ob k with
  | ⟨v, .row _ sz es⟩ => ⟨v, .lent sz es⟩
  | o => o) :: σ.lend l := rfl
@[go_sem] theorem drop_none : σ.drop none = [] := rfl
@[go_sem] theorem drop_some {k : Nat} : σ.drop (some k) = [(k, ⟨(σ.ob k).ver, .none⟩)] := rfl
@[go_sem] theorem skip_mv {d x} : skipE (.mv d x) = ⟨some (d, .skp), []⟩ := rfl
@[go_sem] theorem skip_st {n a x} : skipE (.store n a x) = ⟨none, []⟩ := rfl
@[go_sem] theorem skip_bin {b c e f d} : skipE (.bin d b c e f) = ⟨some (d, .skp), []⟩ := rfl
@[go_sem] theorem skip_eqA {b c e f d} : skipE (.eqA d b c e f) = ⟨some (d, .skp), []⟩ := rfl
@[go_sem] theorem skip_un {b c d} : skipE (.un d b c) = ⟨some (d, .skp), []⟩ := rfl
@[go_sem] theorem skip_mm {b c e d} : skipE (.mm d b c e) = ⟨some (d, .skp), []⟩ := rfl
@[go_sem] theorem skip_pick {b c e d} : skipE (.pick d b c e) = ⟨some (d, .skp), []⟩ := rfl
@[go_sem] theorem skip_len {b c d} : skipE (.len d b c) = ⟨some (d, .skp), []⟩ := rfl
@[go_sem] theorem skip_alloc {b c d} : skipE (.alloc d b c) = ⟨some (d, .skp), []⟩ := rfl
@[go_sem] theorem skip_box {b c d} : skipE (.box d b c) = ⟨some (d, .skp), []⟩ := rfl
@[go_sem] theorem skip_build {b c d} : skipE (.build d b c) = ⟨some (d, .skp), []⟩ := rfl
@[go_sem] theorem skip_lit {b c e f d} : skipE (.lit d b c e f) = ⟨some (d, .skp), []⟩ := rfl
@[go_sem] theorem skip_load {b c e d} : skipE (.load d b c e) = ⟨some (d, .skp), []⟩ := rfl
@[go_sem] theorem skip_fld {b c d} : skipE (.fld d b c) = ⟨some (d, .skp), []⟩ := rfl
@[go_sem] theorem skip_idx {b c e d} : skipE (.idx d b c e) = ⟨some (d, .skp), []⟩ := rfl
@[go_sem] theorem skip_idxA {b c e f d} : skipE (.idxA d b c e f) = ⟨some (d, .skp), []⟩ := rfl
@[go_sem] theorem skip_fldv {b c e f d} : skipE (.fldv d b c e f) = ⟨some (d, .skp), []⟩ := rfl
@[go_sem] theorem skip_idxs {b c d} : skipE (.idxs d b c) = ⟨some (d, .skp), []⟩ := rfl
@[go_sem] theorem skip_mk {b c e f g d} : skipE (.mk d b c e f g) = ⟨some (d, .skp), []⟩ := rfl
@[go_sem] theorem skip_app {b c e f g d} : skipE (.app d b c e f g) = ⟨some (d, .skp), []⟩ := rfl
@[go_sem] theorem skip_slc {b c e f g d} : skipE (.slc d b c e f g) = ⟨some (d, .skp), []⟩ := rfl
@[go_sem] theorem skip_slcs {b c e d} : skipE (.slcs d b c e) = ⟨some (d, .skp), []⟩ := rfl
@[go_sem] theorem skip_ext {b c d} : skipE (.ext d b c) = ⟨some (d, .skp), []⟩ := rfl
@[go_sem] theorem skip_clos {b c d} : skipE (.clos d b c) = ⟨some (d, .skp), []⟩ := rfl
@[go_sem] theorem skip_nilo {b c d} : skipE (.nilo d b c) = ⟨some (d, .skp), []⟩ := rfl
@[go_sem] theorem skip_nilc {b d} : skipE (.nilc d b) = ⟨some (d, .skp), []⟩ := rfl
@[go_sem] theorem skip_convS {b d} : skipE (.convS d b) = ⟨some (d, .skp), []⟩ := rfl
@[go_sem] theorem skip_convI {b c d} : skipE (.convI d b c) = ⟨some (d, .skp), []⟩ := rfl
@[go_sem] theorem skip_call {b c e d} : skipE (.call d b c e) = ⟨some (d, .skp), []⟩ := rfl
theorem skip_other {o : MO} {d : Nat} (h : dstOf o = some d) : skipE o = ⟨some (d, .skp), []⟩ := by unfold skipE; rw [h]; rfl
end

theorem len_cons' {α : Type} {a : α} {l : List α} : (a :: l).length = l.length + 1 := by rw [List.length_cons]
theorem len_nil' {α : Type} : ([] : List α).length = 0 := by rw [List.length_nil]
attribute [go_sem] dstOf wantedM St.fill splice flat St.appTo St.whole unV cut
  List.map_cons List.map_nil List.getD_nil List.drop_succ_cons List.drop_zero List.take_succ_cons List.take_zero len_cons' len_nil' List.length_map
  List.cons_append List.nil_append List.append_nil List.getElem?_cons_zero List.getElem?_cons_succ Option.map_some Option.map_none Option.bind_some Option.bind_none
  Int.toNat_natCast Int.toNat_zero
theorem ctr_at {P : Program} {f : FuncId} {fn : Func} {c : Code} {args : List (Bool × List T)} {rs : List RV} {M : MC} {m n : Nat} {res : List (MR × List Bool)} (hmix : P.follows .mixedOrders = true) (hf : P.funcs[f]? = some fn) (hb : fn.body = some c)
    (hname : (fn.name == "runtime.NumGoroutine") = false) (hnt : fn.ntmps = n) (hc : chkC P c M = true) (hres : chkRes P fn.results.toList (res.map (·.1)) = true) (hn : args.length ≤ n)
    (h : bdA args → wpC P M (kF res rs) (startS args n m)) : Ctr P f args rs := by
  subst hnt
  exact ctr_of hmix hf hb hname hc hres hn h
attribute [go_sem] startS argS
attribute [go_sem] Nat.zero_add true_implies false_implies implies_true not_true_eq_false not_false_eq_true Bool.not_eq_true Bool.not_eq_false List.nodup_nil List.nodup_cons List.mem_cons List.not_mem_nil List.all_cons List.all_nil Bool.and_true Nat.le_refl true_and and_true false_or or_false or_true true_or
  decide_eq_true_eq decide_eq_false_iff_not bne_iff_ne bne_eq_false_iff_eq beq_iff_eq beq_eq_false_iff_ne ne_eq Bool.not_eq_true' Bool.not_eq_false' Decidable.not_not
  St.mk.injEq List.cons.injEq Prod.mk.injEq SV.val.injEq SC.pl.injEq SC.bor.injEq SC.ref.injEq T.sc.injEq T.sl.injEq Value.int.injEq Value.bool.injEq Value.string.injEq RV.mk.injEq OV.mk.injEq OC.row.injEq OC.box.injEq OC.lent.injEq Option.some.injEq
abbrev tI (n : Int) : T := .sc (.int .i64 n)
abbrev tB (b : Bool) : T := .sc (.bool b)
abbrev tS (s : ByteArray) : T := .sc (.string s)
abbrev vI (n : Int) : SV := .val false [.pl (.sc (.int .i64 n))]
abbrev vB (b : Bool) : SV := .val false [.pl (.sc (.bool b))]
abbrev vL (sz : Nat) (es : List (List T)) : SV := .val false [.pl (.sl sz es)]
abbrev aI (n : Int) : Bool × List T := (false, [.sc (.int .i64 n)])
abbrev aB (b : Bool) : Bool × List T := (false, [.sc (.bool b)])
abbrev aL (sz : Nat) (es : List (List T)) : Bool × List T := (false, [.sl sz es])
abbrev rI (n : Int) : RV := ⟨false, [(false, .sc (.int .i64 n))]⟩
abbrev rB (b : Bool) : RV := ⟨false, [(false, .sc (.bool b))]⟩
/-- A region without guards, in text order. -/
def pr (l : List MO) (keep : List Nat) : MC := .reg (l.map fun o => ⟨none, o, [], [], [], []⟩) keep
attribute [go_sem] pr
attribute [go_sem] tI tB tS vI vB vL aI aB aL rI rB
/-- Slots and objects laid over a state. -/
def St.up (σ : St) (l : List (Nat × SV)) (o : List (Nat × OV)) : St := ⟨l.foldl (fun s x => insS x.1 x.2 s) σ.s, σ.n, putO o σ.o⟩
def upS : List (Nat × SV) → List (Nat × SV) → List (Nat × SV)
  | [], s => s
  | x :: l, s => upS l (insS x.1 x.2 s)
@[go_sem] theorem up_mk (s : List (Nat × SV)) (n : Nat) (o : List OV) (l : List (Nat × SV)) (q : List (Nat × OV)) : St.up ⟨s, n, o⟩ l q = ⟨upS l s, n, putO q o⟩ := by
  have h : ∀ (l s : List (Nat × SV)), l.foldl (fun s x => insS x.1 x.2 s) s = upS l s := by
    intro l
    induction l with
    | nil => intro s; rfl
    | cons x l ih => intro s; exact ih _
  unfold St.up
  rw [h]
@[go_sem] theorem upS_nil (s : List (Nat × SV)) : upS [] s = s := rfl
@[go_sem] theorem upS_cons (k : Nat) (v : SV) (l s : List (Nat × SV)) : upS ((k, v) :: l) s = upS l (insS k v s) := rfl
/-- A loop over a state of which a few slots and objects turn. -/
structure LoopB (P : Program) (keep : List Nat × List Nat) (a : MC) (Q : Xt → St → Prop) {ι : Type} (f : ι → List (Nat × SV)) (q : ι → List (Nat × OV)) (I : ι → Prop) (μ : ι → Nat) (i0 : ι) (σ : St) : Prop where
  start : σ = σ.up (f i0) (q i0)
  inv : I i0
  step : ∀ i, I i → wpC P a (kL keep (fun s => ∃ j, s = σ.up (f j) (q j) ∧ I j ∧ μ j < μ i) Q) (σ.up (f i) (q i))
theorem loopK_up {P : Program} {keep : List Nat × List Nat} {a : MC} {Q : Xt → St → Prop} {σ : St} {ι : Type} (f : ι → List (Nat × SV)) (q : ι → List (Nat × OV)) (I : ι → Prop) (μ : ι → Nat) (i0 : ι) (h : bk ((σ.lo keep).re) (LoopB P keep a Q f q I μ i0)) : loopK P keep a Q σ := by
  obtain ⟨s, h1, h2⟩ := h
  exact loopK_of (fun i => s.up (f i) (q i)) I μ i0 ⟨s, h1, h2.start⟩ h2.inv h2.step
theorem wI {n : Int} (h1 : -9223372036854775808 ≤ n) (h2 : n ≤ 9223372036854775807) : IntKind.i64.wrap n = n := by rw [IntKind.wrap_i64]; omega
theorem bdR_map {α : Type} {f : α → List T} {l : List α} : bdR (l.map f) ↔ ∀ x ∈ l, bdL (f x) := by
  rw [bdR_iff]; simp
theorem wfB_i64 {n : Int} : wfB (.int .i64 n) = true ↔ -9223372036854775808 ≤ n ∧ n ≤ 9223372036854775807 := by
  simp only [wfB, Bool.and_eq_true, i64_min, i64_max]
  exact and_congr decide_eq_true_iff decide_eq_true_iff
theorem wfB_bool {b : Bool} : wfB (.bool b) = true ↔ True := by simp [wfB]
@[go_sem] theorem bdT_i64 {n : Int} : bdT (.sc (.int .i64 n)) = (-9223372036854775808 ≤ n ∧ n ≤ 9223372036854775807) := by
  simp only [bdT]; exact propext wfB_i64
@[go_sem] theorem bdT_bool {b : Bool} : bdT (.sc (.bool b)) = True := by simp only [bdT]; exact propext wfB_bool
theorem wfB_str {s : ByteArray} : wfB (.string s) = true ↔ s.size ≤ 9223372036854775807 := decide_eq_true_iff
theorem at_some {α : Type} {l : List α} {k : Nat} (h : k < l.length) : ∃ x, l[k]? = some x := ⟨l[k], List.getElem?_eq_getElem h⟩
theorem take_snoc {α : Type} {l : List α} {k : Nat} {x : α} (h : l[k]? = some x) : l.take (k + 1) = l.take k ++ [x] := by
  rw [List.take_add_one, h]; rfl
theorem drop_cons {α : Type} {l : List α} {k : Nat} {x : α} (h : l[k]? = some x) : l.drop k = x :: l.drop (k + 1) := by
  obtain ⟨hk, rfl⟩ := List.getElem?_eq_some_iff.1 h
  exact List.drop_eq_getElem_cons hk
theorem at_mem {α : Type} {l : List α} {k : Nat} {x : α} (h : l[k]? = some x) : x ∈ l := List.mem_of_getElem? h
/-- A loop over the elements of a list, from the first to the last. -/
structure RngB (P : Program) (keep : List Nat × List Nat) (a : MC) (Q : Xt → St → Prop) {α : Type} (xs : List α) (f : Nat → List (Nat × SV)) (q : Nat → List (Nat × OV)) (I : Nat → Prop) (σ : St) : Prop where
  start : σ = σ.up (f 0) (q 0)
  inv : I 0
  step : ∀ (k : Nat) (x : α), xs[k]? = some x → I k → (0 : Int) ≤ k → (k : Int) < xs.length → IntKind.i64.wrap ((k : Int) + 1) = ((k + 1 : Nat) : Int) → wpC P a (kL keep (fun s => s = σ.up (f (k + 1)) (q (k + 1)) ∧ I (k + 1)) Q) (σ.up (f k) (q k))
  fin : I xs.length → wpC P a (kL keep (fun _ => False) Q) (σ.up (f xs.length) (q xs.length))
theorem loopK_rng {P : Program} {keep : List Nat × List Nat} {a : MC} {Q : Xt → St → Prop} {σ : St} {α : Type} (xs : List α) (f : Nat → List (Nat × SV)) (q : Nat → List (Nat × OV)) (I : Nat → Prop) (hl : xs.length ≤ roomB) (h : bk ((σ.lo keep).re) (RngB P keep a Q xs f q I)) : loopK P keep a Q σ := by
  obtain ⟨s, h1, h2⟩ := h
  refine loopK_of (fun i => s.up (f i) (q i)) (fun k => k ≤ xs.length ∧ I k) (fun k => xs.length - k) 0 ⟨s, h1, h2.start⟩ ⟨by omega, h2.inv⟩ ?_
  rintro k ⟨hk, hI⟩
  simp only [roomB] at hl
  rcases Nat.lt_or_ge k xs.length with hlt | hge
  · obtain ⟨x, hx⟩ := at_some hlt
    refine wpC_mono (h2.step k x hx hI (by omega) (by omega) (by rw [wI (by omega) (by omega)]; omega)) fun y t hy => ?_
    cases y with
    | nrm =>
      obtain ⟨s', e1, e2, e3⟩ := hy
      exact ⟨s', e1, k + 1, e2, ⟨by omega, e3⟩, by omega⟩
    | ex i => exact hy
    | ret => exact hy
  · obtain rfl : k = xs.length := by omega
    refine wpC_mono (h2.fin hI) fun y t hy => ?_
    cases y with
    | nrm => obtain ⟨_, _, e⟩ := hy; exact e.elim
    | ex i => exact hy
    | ret => exact hy
attribute [go_sem] List.flatMap_nil List.flatMap_cons Nat.zero_le Int.natCast_zero Int.lt_irrefl beq_true beq_false Bool.not_true Bool.not_false
end Go.Proofs.YtcbljemkihnmnaaDoorR
namespace Go.Proofs.YtcbljemkihnmnaaDoorR
open Go Go.RowKit Go.ChangeShapes

/-- Types of plain data. fn, fc: lists of fields. -/
inductive DT where
  | int
  | bool
  | str
  | sl (t : DT)
  | st (f : DT)
  | fn
  | fc (t f : DT)
def szT : DT → Nat
  | .int => 1
  | .bool => 1
  | .str => 1
  | .sl _ => 1
  | .st f => szT f
  | .fn => 0
  | .fc t f => szT t + szT f
mutual
def tyOk (P : Program) : DT → TypeId → Bool
  | .int, t => (match P.underlying t with | some (.int .i64) => true | _ => false)
  | .bool, t => (match P.underlying t with | some .bool => true | _ => false)
  | .str, t => (match P.underlying t with | some .string => true | _ => false)
  | .sl e, t => (match P.underlying t with | some (.slice e') => tyOk P e e' && szT e == P.cellsOf e' && decide (1 ≤ P.bytesOf e') && decide (0 < szT e) | _ => false)
  | .st f, t => (match P.underlying t with | some (.struct fs) => tyOkF P f fs.toList 0 && szT f == P.cellsOf t | _ => false)
  | .fn, _ => false
  | .fc _ _, _ => false
def tyOkF (P : Program) : DT → List Field → Nat → Bool
  | .fn, [], _ => true
  | .fc a f, fd :: fs, off => fd.offset == off && tyOk P a fd.type && szT a == P.cellsOf fd.type && tyOkF P f fs (off + szT a)
  | _, _, _ => false
end
/-- Trees of a type. -/
def IsT : DT → List T → Prop
  | .int, ts => ∃ n, ts = [tI n]
  | .bool, ts => ∃ b, ts = [tB b]
  | .str, ts => ∃ s, ts = [tS s]
  | .sl e, ts => ∃ es, ts = [.sl (szT e) es] ∧ ∀ x ∈ es, IsT e x
  | .st f, ts => IsT f ts
  | .fn, ts => ts = []
  | .fc a f, ts => ∃ u v, ts = u ++ v ∧ IsT a u ∧ IsT f v

theorem isT_len : ∀ {ty : DT} {ts : List T}, IsT ty ts → ts.length = szT ty
  | .int, _, h => by obtain ⟨n, rfl⟩ := h; rfl
  | .bool, _, h => by obtain ⟨n, rfl⟩ := h; rfl
  | .str, _, h => by obtain ⟨n, rfl⟩ := h; rfl
  | .sl e, _, h => by obtain ⟨n, rfl, _⟩ := h; rfl
  | .st f, _, h => isT_len (ty := f) h
  | .fn, _, h => by simp only [IsT] at h; subst h; rfl
  | .fc a f, _, h => by
    obtain ⟨u, v, rfl, h1, h2⟩ := h
    simp [szT, isT_len h1, isT_len h2]

theorem mapM_same {α β : Type} {f g : α → Option β} : ∀ {l : List α}, (∀ a ∈ l, f a = g a) → l.mapM f = l.mapM g
  | [], _ => rfl
  | a :: l, h => by
    rw [List.mapM_cons, List.mapM_cons, h a (by simp), mapM_same fun x hx => h x (by simp [hx])]
theorem mapM_each {α β : Type} {f : α → Option β} : ∀ {l : List α} {r : List β}, l.mapM f = some r → ∀ a ∈ l, ∃ b ∈ r, f a = some b
  | [], _, _ => by simp
  | a :: l, r, h => by
    rw [List.mapM_cons] at h
    simp only [Option.bind_eq_bind, Option.bind_eq_some_iff, Option.pure_def, Option.some.injEq] at h
    obtain ⟨b, h1, r', h2, rfl⟩ := h
    intro x hx
    rcases List.mem_cons.1 hx with rfl | hx
    · exact ⟨b, by simp, h1⟩
    · obtain ⟨y, hy, e⟩ := mapM_each h2 x hx
      exact ⟨y, by simp [hy], e⟩

section
variable {H : Type} {enc : TypeId × Value → H} {P : Program} {w w' : World}

theorem weightsAll_mem {e : TypeId} : ∀ {ds : List (DataW H)} {d : DataW H}, d ∈ ds → ∀ n ∈ d.weights P e, n ∈ DataW.weightsAll P e ds
  | x :: ds, d, h, n, hn => by
    simp only [DataW.weightsAll, List.mem_append]
    rcases List.mem_cons.1 h with rfl | h
    · exact .inl hn
    · exact .inr (weightsAll_mem h n hn)
  | [], _, h, _, _ => by simp at h

/-- What reading a value of plain data gives. -/
def Got (enc : TypeId × Value → H) (P : Program) (w w' : World) (ty : DT) (fuel : Nat) (t : TypeId) (cs : List Value) (x : DataW H × List MemPlace) : Prop :=
  (∃ ts, IsT ty ts ∧ RdL w (fun _ => True) ts cs) ∧ DataW.trod enc P w' 0 (fun b => decide (b < w.heap.size)) true fuel t cs = some x

theorem rdL_app {X : Nat → Prop} : ∀ {a b : List T} {u v : List Value}, RdL w X a u → RdL w X b v → RdL w X (a ++ b) (u ++ v)
  | [], _, [], _, _, h => by simpa using h
  | _ :: _, _, _ :: _, _, h, k => by
    simp only [RdL] at h
    simp only [List.cons_append, RdL]
    exact ⟨h.1, rdL_app h.2 k⟩
  | [], _, _ :: _, _, h, _ => by simp only [RdL] at h
  | _ :: _, _, [], _, h, _ => by simp only [RdL] at h
theorem rdL_len {X : Nat → Prop} : ∀ {a : List T} {u : List Value}, RdL w X a u → a.length = u.length
  | [], [], _ => rfl
  | _ :: _, _ :: _, h => by simp only [RdL] at h; simp [rdL_len h.2]
  | [], _ :: _, h => by simp only [RdL] at h
  | _ :: _, [], h => by simp only [RdL] at h
theorem rdEl_of {X : Nat → Prop} {b : Nat} : ∀ {ts : List T} {cs : List Value} {off : Nat}, RdL w X ts cs → (∀ i, i < cs.length → w.cell? ⟨b, off + i, none⟩ = cs[i]?) → RdEl w X b off ts
  | [], _, _, _, _ => by simp only [RdEl]
  | t :: ts, v :: cs, off, h, hc => by
    simp only [RdL] at h
    simp only [RdEl]
    refine ⟨⟨v, by simpa using hc 0 (by simp), h.1⟩, rdEl_of h.2 fun i hi => ?_⟩
    have := hc (i + 1) (by simpa using hi)
    rw [show off + 1 + i = off + (i + 1) by omega]
    simpa using this
  | _ :: _, [], _, h, _ => by simp only [RdL] at h

mutual
theorem entry (hw : ∀ b, b < w.heap.size → w'.heap[b]? = w.heap[b]?) : ∀ (ty : DT) (t : TypeId) (fuel : Nat) (cs : List Value) (x : DataW H × List MemPlace), tyOk P ty t = true → DataW.trod enc P w 0 (fun _ => true) true fuel t cs = some x →
    (∀ n ∈ x.1.weights P t, n ≤ reachBytes) → Got enc P w w' ty fuel t cs x
  | .int, t, fuel, cs, x, ht, h, _ => by
    have hu : P.underlying t = some (.int .i64) := by
      unfold tyOk at ht; split at ht <;> simp_all
    cases fuel with
    | zero => simp [DataW.trod] at h
    | succ m =>
    obtain ⟨n, rfl, rfl, hwf⟩ := DataW.trod_int hu h
    refine ⟨⟨[tI n], ⟨n, rfl⟩, ?_⟩, ?_⟩
    · simp only [RdL, Rd, and_true, true_and]
      exact oneW_int (int_range (k := .i64) hwf)
    · unfold DataW.trod
      simp only [hu]
      rw [if_pos ⟨trivial, hwf⟩]
  | .bool, t, fuel, cs, x, ht, h, _ => by
    have hu : P.underlying t = some .bool := by
      unfold tyOk at ht; split at ht <;> simp_all
    cases fuel with
    | zero => simp [DataW.trod] at h
    | succ m =>
    unfold DataW.trod at h
    simp only [hu] at h
    split at h
    all_goals first
      | (simp at h; done)
      | (rename_i hq; cases hq; done)
      | skip
    rename_i b hb
    simp only [Option.some.injEq] at h
    subst h
    refine ⟨⟨[tB b], ⟨b, rfl⟩, ?_⟩, ?_⟩
    · simp only [RdL, Rd, and_true, true_and]
      exact oneW_bool _
    · unfold DataW.trod
      simp only [hu]
  | .str, t, fuel, cs, x, ht, h, _ => by
    have hu : P.underlying t = some .string := by
      unfold tyOk at ht; split at ht <;> simp_all
    cases fuel with
    | zero => simp [DataW.trod] at h
    | succ m =>
    unfold DataW.trod at h
    simp only [hu] at h
    split at h
    all_goals first
      | (simp at h; done)
      | (rename_i hq; cases hq; done)
      | skip
    rename_i s hb
    obtain ⟨hs, h⟩ := Option.ite_none_right_eq_some.1 h
    simp only [Option.some.injEq] at h
    subst h
    refine ⟨⟨[tS s], ⟨s, rfl⟩, ?_⟩, ?_⟩
    · simp only [RdL, Rd, and_true, true_and]
      exact oneW_str (by unfold Go.maxLen at hs; omega)
    · unfold DataW.trod
      simp only [hu]
      rw [if_pos hs]
  | .sl e, t, fuel, cs, x, ht, h, hwt => by
    obtain ⟨e', hu, ht⟩ : ∃ e', P.underlying t = some (.slice e') ∧ (tyOk P e e' && szT e == P.cellsOf e' && decide (1 ≤ P.bytesOf e') && decide (0 < szT e)) = true := by
      unfold tyOk at ht
      split at ht
      · rename_i e' hu; exact ⟨e', hu, ht⟩
      · simp at ht
    simp only [Bool.and_eq_true, beq_iff_eq, decide_eq_true_eq] at ht
    obtain ⟨⟨⟨he, hsz⟩, hby⟩, hpz⟩ := ht
    cases fuel with
    | zero => simp [DataW.trod] at h
    | succ m =>
    rcases DataW.trod_slice hu h with ⟨rfl, rfl⟩ | ⟨a, len, cap, elems, rest, n, hfn, rfl, hx, _, hlc, hcm, hel, hget, hsp, _⟩
    · refine ⟨⟨[.sl (szT e) []], ⟨[], rfl, by simp⟩, ?_⟩, ?_⟩
      · simp only [RdL, and_true]
        unfold Rd
        exact ⟨none, 0, rfl, Ln.z _, .inl rfl⟩
      · unfold DataW.trod
        simp only [hu]
    · obtain rfl : n = m := by omega
      subst hx
      simp only [DataW.weights, hu] at hwt
      have hlen : (elems.length + rest.length) * P.bytesOf e' ≤ reachBytes := by simpa using hwt _ (List.mem_cons_self ..)
      have hlb : len ≤ roomB := by
        have h1 : len * 1 ≤ (elems.length + rest.length) * P.bytesOf e' := Nat.mul_le_mul (by omega) hby
        have h2 : reachBytes ≤ roomB := by decide
        omega
      -- each element
      have hone : ∀ i, i < cap → ∃ y : DataW H × List MemPlace, (w.cells? 0 (a.add (i * P.cellsOf e')) (P.cellsOf e')).bind (DataW.trod enc P w 0 (fun _ => true) true n e') = some y ∧ ∀ k ∈ y.1.weights P e', k ≤ reachBytes := by
        intro i hi
        by_cases hil : i < len
        · rw [hget i hil]
          have hie : i < elems.length := by omega
          refine ⟨elems[i], List.getElem?_eq_getElem hie, fun k hk => hwt k ?_⟩
          refine List.mem_cons_of_mem _ (List.mem_append.2 (.inl (weightsAll_mem (d := elems[i].1) ?_ k hk)))
          exact List.mem_map.2 ⟨elems[i], List.getElem_mem hie, rfl⟩
        · obtain ⟨hr1, hr2⟩ := hsp rfl
          have hj := hr2 (i - len) (by omega)
          rw [show len + (i - len) = i by omega] at hj
          rw [hj]
          have hir : i - len < rest.length := by omega
          refine ⟨rest[i - len], List.getElem?_eq_getElem hir, fun k hk => hwt k ?_⟩
          refine List.mem_cons_of_mem _ (List.mem_append.2 (.inr (weightsAll_mem (d := rest[i - len].1) ?_ k hk)))
          exact List.mem_map.2 ⟨rest[i - len], List.getElem_mem hir, rfl⟩
      have hgot : ∀ i, i < cap → ∃ cs' y, w.cells? 0 (a.add (i * P.cellsOf e')) (P.cellsOf e') = some cs' ∧ DataW.trod enc P w 0 (fun _ => true) true n e' cs' = some y ∧ Got enc P w w' e n e' cs' y := by
        intro i hi
        obtain ⟨y, h1, h2⟩ := hone i hi
        obtain ⟨cs', h3, h4⟩ := Option.bind_eq_some_iff.1 h1
        exact ⟨cs', y, h3, h4, entry hw e e' n cs' y he h4 h2⟩
      have hspot : 0 < cap → 0 < P.cellsOf e' → a.spot = none := by
        intro hi hp
        obtain ⟨cs', y, h3, _, _⟩ := hgot 0 hi
        obtain ⟨_, hcl, hc⟩ := World.cells?_some h3
        have h0 := hc 0 hp
        rw [List.getElem?_eq_getElem (by omega)] at h0
        obtain ⟨ab, ao, asp⟩ := a
        cases asp with
        | none => rfl
        | some s =>
          exfalso
          have e1 : (Addr.add (Addr.add ⟨ab, ao, some s⟩ (0 * P.cellsOf e')) 0) = ⟨ab, ao, some s⟩ := by simp [Addr.add]
          rw [e1] at h0
          unfold World.cell? at h0
          simp only at h0
          split at h0 <;> simp at h0
      have hadd : ∀ n, 0 < cap → 0 < P.cellsOf e' → a.add n = ⟨a.block, a.off + n, none⟩ := by
        intro n h1 h2
        have hs := hspot h1 h2
        obtain ⟨ab, ao, asp⟩ := a
        simp only at hs
        subst hs
        exact add_plain _ _ _
      have hcell : ∀ i, i < cap → 0 < P.cellsOf e' → a.spot = none ∧ a.block < w.heap.size := by
        intro i hi hp
        refine ⟨hspot (by omega) hp, ?_⟩
        obtain ⟨cs', y, h3, _, _⟩ := hgot i hi
        obtain ⟨_, hcl, hc⟩ := World.cells?_some h3
        have h0 := hc 0 hp
        rw [List.getElem?_eq_getElem (by omega), hadd _ (by omega) hp, add_plain] at h0
        simp only [World.cell?] at h0
        cases hb : w.heap[a.block]? with
        | none => rw [hb] at h0; simp at h0
        | some o => exact (Array.getElem?_eq_some_iff.1 hb).1
      -- the elements' trees
      have htrees : ∀ (m s : Nat), s + m ≤ cap → ∃ es : List (List T), es.length = m ∧ (∀ x ∈ es, IsT e x) ∧ (0 < m → 0 < P.cellsOf e' → RdRow w (fun _ => True) (szT e) a.block (a.off + s * szT e) es) ∧ (P.cellsOf e' = 0 → RdRow w (fun _ => True) (szT e) a.block (a.off + s * szT e) es) := by
        intro m
        induction m with
        | zero => intro s _; exact ⟨[], rfl, by simp, by simp, fun _ => by simp only [RdRow]⟩
        | succ m ih =>
          intro s hs
          obtain ⟨es, h1, h2, h3, h4⟩ := ih (s + 1) (by omega)
          obtain ⟨cs', y, h5, _, ⟨ts, h6, h7⟩, _⟩ := hgot s (by omega)
          obtain ⟨_, hcl, hc⟩ := World.cells?_some h5
          have hoff : a.off + (s + 1) * szT e = a.off + s * szT e + szT e := by rw [Nat.add_mul]; omega
          refine ⟨ts :: es, by simp [h1], by simpa using ⟨h6, h2⟩, fun _ hp => ?_, fun hz => ?_⟩
          · obtain ⟨hsp0, _⟩ := hcell s (by omega) hp
            simp only [RdRow]
            refine ⟨isT_len h6, rdEl_of h7 fun i hi => ?_, ?_⟩
            · have := hc i (by omega)
              rw [hadd _ (by omega) hp, add_plain] at this
              rw [hsz, ← this]
            · rw [← hoff]
              cases m with
              | zero =>
                have : es = [] := List.length_eq_zero_iff.1 h1
                rw [this]; simp only [RdRow]
              | succ m => exact h3 (by omega) hp
          · simp only [RdRow]
            refine ⟨isT_len h6, ?_, by rw [← hoff]; exact h4 hz⟩
            have : ts = [] := List.length_eq_zero_iff.1 (by rw [isT_len h6]; omega)
            rw [this]; simp only [RdEl]
      obtain ⟨es, h1, h2, h3, h4⟩ := htrees len 0 (by omega)
      refine ⟨⟨[.sl (szT e) es], ⟨es, rfl, h2⟩, ?_⟩, ?_⟩
      · simp only [RdL, and_true]
        unfold Rd
        refine ⟨some a, cap, by rw [h1], by rw [h1]; exact ⟨hlc, hlb⟩, ?_⟩
        by_cases h0 : es = []
        · exact .inl h0
        · right
          have hl0 : 0 < len := by rw [← h1]; exact List.length_pos_iff.2 h0
          have hpos : 0 < P.cellsOf e' := by
            rw [← hsz]
            exact hpz
          obtain ⟨hs0, hb0⟩ := hcell 0 (by omega) hpos
          obtain ⟨ab, ao, asp⟩ := a
          simp only at hs0
          subst hs0
          exact ⟨ab, ao, rfl, trivial, hb0, by simpa using h3 hl0 hpos⟩
      · -- read anew
        have hnew : ∀ i, i < cap → (w'.cells? 0 (a.add (i * P.cellsOf e')) (P.cellsOf e')).bind (DataW.trod enc P w' 0 (fun b => decide (b < w.heap.size)) true n e') = (w.cells? 0 (a.add (i * P.cellsOf e')) (P.cellsOf e')).bind (DataW.trod enc P w 0 (fun _ => true) true n e') := by
          intro i hi
          obtain ⟨cs', y, h5, h6, _, h7⟩ := hgot i hi
          have hc : w'.cells? 0 (a.add (i * P.cellsOf e')) (P.cellsOf e') = w.cells? 0 (a.add (i * P.cellsOf e')) (P.cellsOf e') := by
            unfold World.cells?
            have e0 : (0 : Nat) ≤ (a.add (i * P.cellsOf e')).block := Nat.zero_le _
            rw [if_pos e0, if_pos e0]
            refine mapM_same fun j hj => ?_
            have hj' : 0 < P.cellsOf e' := by have := List.mem_range.1 hj; omega
            have hb := (hcell i hi hj').2
            unfold World.cell?
            rw [hadd _ (by omega) hj', add_plain]
            simp only
            rw [hw a.block hb]
          rw [hc, h5, Option.bind_some, Option.bind_some, h6, h7]
        have hsp' : rest ≠ [] → decide (a.block < w.heap.size) = true := by
          intro hne
          obtain ⟨hr1, _⟩ := hsp rfl
          have : 0 < rest.length := List.length_pos_iff.2 hne
          have hpos : 0 < P.cellsOf e' := by rw [← hsz]; exact hpz
          exact decide_eq_true (hcell 0 (by omega) hpos).2
        unfold DataW.trod at h ⊢
        simp only [hu] at h ⊢
        split at h
        rotate_left
        · simp at h
        rename_i hcond
        rw [if_pos hcond]
        rw [← h]
        have e1 : (List.range len).mapM (fun i => (w'.cells? 0 (a.add (i * P.cellsOf e')) (P.cellsOf e')).bind (DataW.trod enc P w' 0 (fun b => decide (b < w.heap.size)) true n e')) = (List.range len).mapM (fun i => (w.cells? 0 (a.add (i * P.cellsOf e')) (P.cellsOf e')).bind (DataW.trod enc P w 0 (fun _ => true) true n e')) :=
          mapM_same fun i hi => hnew i (by have := List.mem_range.1 hi; omega)
        have e2 : (List.range (cap - len)).mapM (fun j => (w'.cells? 0 (a.add ((len + j) * P.cellsOf e')) (P.cellsOf e')).bind (DataW.trod enc P w' 0 (fun b => decide (b < w.heap.size)) true n e')) = (List.range (cap - len)).mapM (fun j => (w.cells? 0 (a.add ((len + j) * P.cellsOf e')) (P.cellsOf e')).bind (DataW.trod enc P w 0 (fun _ => true) true n e')) :=
          mapM_same fun i hi => hnew (len + i) (by have := List.mem_range.1 hi; omega)
        rw [e1, e2]
        congr 1
        funext es'
        congr 1
        by_cases hcl : cap = len
        · subst hcl
          simp
        · have hne : rest ≠ [] := by
            obtain ⟨hr1, _⟩ := hsp rfl
            intro h0
            rw [h0] at hr1
            simp at hr1
            omega
          rw [if_pos (hsp' hne)]
          simp
  | .st f, t, fuel, cs, x, ht, h, hwt => by
    obtain ⟨fs, hu, ht⟩ : ∃ fs, P.underlying t = some (.struct fs) ∧ (tyOkF P f fs.toList 0 && szT f == P.cellsOf t) = true := by
      unfold tyOk at ht
      split at ht
      · rename_i fs hu; exact ⟨fs, hu, ht⟩
      · simp at ht
    simp only [Bool.and_eq_true, beq_iff_eq] at ht
    obtain ⟨hf, hsz⟩ := ht
    cases fuel with
    | zero => simp [DataW.trod] at h
    | succ n =>
    unfold DataW.trod at h
    simp only [hu] at h
    obtain ⟨hlen, h⟩ := Option.ite_none_right_eq_some.1 h
    obtain ⟨xs, hxs, rfl⟩ := Option.map_eq_some_iff.1 h
    simp only [DataW.weights, hu] at hwt
    obtain ⟨⟨ts, h1, h2⟩, h3⟩ := entryF hw f fs.toList 0 n cs xs hf hxs hwt
    refine ⟨⟨ts, h1, ?_⟩, ?_⟩
    · rw [List.drop_zero, hsz, ← hlen, List.take_length] at h2
      exact h2
    · unfold DataW.trod
      simp only [hu]
      rw [if_pos hlen, h3]
      rfl
  | .fn, _, _, _, _, ht, _, _ => by simp [tyOk] at ht
  | .fc _ _, _, _, _, _, ht, _, _ => by simp [tyOk] at ht
theorem entryF (hw : ∀ b, b < w.heap.size → w'.heap[b]? = w.heap[b]?) : ∀ (f : DT) (fs : List Field) (off n : Nat) (cs : List Value) (xs : List (DataW H × List MemPlace)), tyOkF P f fs off = true →
    fs.mapM (fun fd => DataW.trod enc P w 0 (fun _ => true) true n fd.type ((cs.drop fd.offset).take (P.cellsOf fd.type))) = some xs → (∀ k ∈ DataW.weightsEach P (fs.map (·.type)) (xs.map (·.1)), k ≤ reachBytes) →
    (∃ ts, IsT f ts ∧ RdL w (fun _ => True) ts ((cs.drop off).take (szT f))) ∧ fs.mapM (fun fd => DataW.trod enc P w' 0 (fun b => decide (b < w.heap.size)) true n fd.type ((cs.drop fd.offset).take (P.cellsOf fd.type))) = some xs
  | .fn, [], off, n, cs, xs, _, h, _ => by
    simp at h
    subst h
    refine ⟨⟨[], rfl, ?_⟩, by simp⟩
    simp [szT, RdL]
  | .fc a f, fd :: fs, off, n, cs, xs, ht, h, hwt => by
    simp only [tyOkF, Bool.and_eq_true, beq_iff_eq] at ht
    obtain ⟨⟨⟨ho, ha⟩, hsz⟩, hf⟩ := ht
    rw [List.mapM_cons] at h
    simp only [Option.bind_eq_bind, Option.bind_eq_some_iff, Option.pure_def, Option.some.injEq] at h
    obtain ⟨y, h1, ys, h2, rfl⟩ := h
    simp only [List.map_cons, DataW.weightsEach, List.mem_append] at hwt
    obtain ⟨⟨t1, i1, r1⟩, g1⟩ := entry hw a fd.type n _ y ha h1 fun k hk => hwt k (.inl hk)
    obtain ⟨⟨t2, i2, r2⟩, g2⟩ := entryF hw f fs (off + szT a) n cs ys hf h2 fun k hk => hwt k (.inr hk)
    refine ⟨⟨t1 ++ t2, ⟨t1, t2, rfl, i1, i2⟩, ?_⟩, ?_⟩
    · rw [ho, ← hsz] at r1
      have hl := rdL_len r1
      rw [isT_len i1] at hl
      have e : (cs.drop off).take (szT a + szT f) = (cs.drop off).take (szT a) ++ (cs.drop (off + szT a)).take (szT f) := by
        rw [List.take_add, List.drop_drop]
      rw [szT, e]
      exact rdL_app r1 r2
    · rw [List.mapM_cons, g1, g2]
      rfl
  | .fn, _ :: _, _, _, _, _, ht, _, _ => by simp [tyOkF] at ht
  | .fc _ _, [], _, _, _, _, ht, _, _ => by simp [tyOkF] at ht
  | .int, _, _, _, _, _, ht, _, _ => by simp [tyOkF] at ht
  | .bool, _, _, _, _, _, ht, _, _ => by simp [tyOkF] at ht
  | .str, _, _, _, _, _, ht, _, _ => by simp [tyOkF] at ht
  | .sl _, _, _, _, _, _, ht, _, _ => by simp [tyOkF] at ht
  | .st _, _, _, _, _, _, ht, _, _ => by simp [tyOkF] at ht
end

def isSt : DT → Bool
  | .st _ => true
  | _ => false
/-- Arguments of types. -/
def IsA : List DT → List (Bool × List T) → Prop
  | [], [] => True
  | ty :: tys, x :: xs => x.1 = isSt ty ∧ IsT ty x.2 ∧ IsA tys xs
  | _, _ => False
def tysOk (P : Program) : List DT → List TypeId → Bool
  | [], [] => true
  | ty :: tys, t :: ts => tyOk P ty t && tysOk P tys ts
  | _, _ => false
theorem ok_cells {ty : DT} {t : TypeId} {r : Reach} {base : Nat} {v : Value} (h : tyOk P ty t = true) (hv : Value.okWide P w r base t v) : if isSt ty then ∃ cs : List Value, v = .agg cs.toArray ∧ v.cells.toList = cs else v.cells.toList = [v] := by
  have one : ∀ k, P.underlying t = some k → (match k with | .struct _ | .array .. | .interface _ | .map .. | .func .. | .chan .. | .unsafePointer => False | _ => True) → v.cells.toList = [v] := by
    intro k hk hn
    unfold Value.okWide at hv
    rw [hk] at hv
    cases v <;> try rfl
    exfalso
    cases k <;> simp only at hn <;> simp [Cell.okWide, Cell.ok, hk] at hv
  cases ty <;> simp only [isSt, if_true, Bool.false_eq_true, if_false]
  case st f =>
    unfold tyOk at h
    split at h
    · rename_i fs hu
      unfold Value.okWide at hv
      rw [hu] at hv
      obtain ⟨cs, rfl, _⟩ := hv
      exact ⟨cs.toList, by simp, by simp [Value.cells]⟩
    · simp at h
  case int =>
    unfold tyOk at h
    split at h
    · rename_i hu; exact one _ hu trivial
    · simp at h
  case bool =>
    unfold tyOk at h
    split at h
    · rename_i hu; exact one _ hu trivial
    · simp at h
  case str =>
    unfold tyOk at h
    split at h
    · rename_i hu; exact one _ hu trivial
    · simp at h
  case sl e =>
    unfold tyOk at h
    split at h
    · rename_i hu; exact one _ hu trivial
    · simp at h
  all_goals simp [tyOk] at h

theorem entryA (hw : ∀ b, b < w.heap.size → w'.heap[b]? = w.heap[b]?) {r : Reach} {base : Nat} : ∀ (tys : List DT) (ts : List TypeId) (vs : List Value) (ds : List (DataW H)) (p : List MemPlace), tysOk P tys ts = true →
    (∀ (j : Nat) t v, ts[j]? = some t → vs[j]? = some v → Value.okWide P w r base t v) → DataW.TrodAll enc P w 0 (fun _ => true) true ts vs ds p → (∀ n ∈ DataW.weightsEach P ts ds, n ≤ reachBytes) →
    ∃ as_, IsA tys as_ ∧ ArgsR w (fun _ => True) as_ vs ∧ DataW.TrodAll enc P w' 0 (fun b => decide (b < w.heap.size)) true ts vs ds p ∧ ds.length = tys.length
  | [], [], vs, ds, p, _, _, hA, _ => by
    obtain ⟨rfl, rfl, rfl⟩ := trodAll_nil hA
    exact ⟨[], trivial, trivial, rfl, rfl⟩
  | ty :: tys, t :: ts, vs, ds, p, ht, hok, hA, hwt => by
    simp only [tysOk, Bool.and_eq_true] at ht
    obtain ⟨v, vs', d, ds', p0, q0, rfl, rfl, rfl, ⟨fuel, h0⟩, h1⟩ := trodAll_cons hA
    simp only [DataW.weightsEach, List.mem_append] at hwt
    obtain ⟨⟨ts0, i0, r0⟩, g0⟩ := entry hw ty t fuel _ _ ht.1 h0 fun n hn => hwt n (.inl hn)
    obtain ⟨as_, i1, r1, g1, hl⟩ := entryA hw tys ts vs' ds' q0 ht.2 (fun j t v h2 h3 => hok (j + 1) t v (by simpa using h2) (by simpa using h3)) h1 fun n hn => hwt n (.inr hn)
    have hc := ok_cells ht.1 (hok 0 t v rfl rfl)
    refine ⟨(isSt ty, ts0) :: as_, ⟨rfl, i0, i1⟩, ⟨?_, r1⟩, ⟨p0, q0, ⟨fuel, g0⟩, g1, rfl⟩, by simp [hl]⟩
    unfold ArgR
    simp only
    split at hc
    · rename_i hs
      rw [if_pos hs]
      obtain ⟨cs, rfl, hcs⟩ := hc
      rw [hcs] at r0
      exact ⟨cs, rfl, r0⟩
    · rename_i hs
      rw [if_neg hs]
      rw [hc] at r0
      cases ts0 with
      | nil => simp only [RdL] at r0
      | cons t0 l =>
        cases l with
        | nil => simp only [RdL, and_true] at r0; exact ⟨t0, rfl, r0⟩
        | cons _ _ => simp only [RdL] at r0; exact r0.2.elim
  | [], _ :: _, _, _, _, ht, _, _, _ => by simp [tysOk] at ht
  | _ :: _, [], _, _, _, ht, _, _, _ => by simp [tysOk] at ht

/-- The law's contract, as the row wants it. -/
theorem law_contract_x {X : World → Prop} (hT : ∀ W, X W → ∀ w, Below W.heap.size W w → TabW w) {f : FuncId} {fn : Func} {s : ChangeSpec} {conds : List PathCond} {a : Assume} {tys : List DT} {tb : TypeId} (hty : tysOk P tys fn.params.toList = true) (hvars : s.vars = []) (hres : fn.resultTypes = #[tb]) (hb : P.underlying tb = some .bool)
    (hspec : ∀ ds : List (DataW H), ds.length = tys.length → s.fn H ds = { results := [.lit (.bool true)], args := ds }) (main : ∀ as_, IsA tys as_ → Ctr P f as_ [rB true]) :
    ∀ (W : World) (base : Nat) (args : Array Value) (ds gs : List (DataW H)) (before : List MemPlace),
      (∀ (j : Nat) t v, fn.params[j]? = some t → args[j]? = some v → Value.okWide P W .any base t v) →
      DataW.Whole enc P fn.params.toList s.vars false W args.toList ds gs before →
      conds.all (PathCond.test P ⟨fn.params.toList, ds, s.plain.varTypes P, gs⟩) = true →
      (DataW.weightsEach P (fn.params.toList ++ s.plain.varTypes P) (ds ++ gs)).all (· ≤ reachBytes) = true → X W →
      a.holds P (lone (Frame.enter P f args .normal) [] W) →
      Calls P f args W fun e W' => ∃ v, e = .returned v ∧ s.post enc P fn false true false false W args v W' := by
  intro W base args ds gs before hval hW _ hsz hX _
  have hW' := hW
  obtain ⟨p, q, hA, hV, rfl, hfz, hnd⟩ := hW
  have hgs : gs = [] := by
    rw [hvars] at hV
    obtain ⟨rfl, _⟩ := trodVars_none hV
    rfl
  subst hgs
  have hvt : s.plain.varTypes P = [] := by simp [ChangeSpec.plain, DataSpec.varTypes, hvars]
  rw [hvt, List.append_nil, List.append_nil] at hsz
  have hsz' : ∀ n ∈ DataW.weightsEach P fn.params.toList ds, n ≤ reachBytes := by
    intro n hn
    simpa using List.all_eq_true.1 hsz n hn
  have key := fun (W' : World) (hw : ∀ b, b < W.heap.size → W'.heap[b]? = W.heap[b]?) => entryA hw tys fn.params.toList args.toList ds p hty (fun j t v h1 h2 => hval j t v (by simpa using h1) (by simpa using h2)) hA hsz'
  obtain ⟨as_, i, r, _, _⟩ := key W fun _ _ => rfl
  have hc := (main as_ i).2 W (fun _ => True) args.toList (hT W hX) r
  rw [show args.toList.toArray = args by simp] at hc
  refine Calls.mono hc fun e W' he => ?_
  cases e with
  | outgrown => exact he.elim
  | panicked c => exact he.elim
  | returned v =>
    obtain ⟨hbel, us, G, rfl, hG, hGw, hrs⟩ := he
    obtain ⟨_, _, _, hA', hlen⟩ := key W' fun b hb => hbel.block b hb
    refine ⟨_, rfl, ?_⟩
    have hu : us = [.bool true] := by
      cases us with
      | nil => exact hrs.elim
      | cons u us =>
        obtain ⟨G1, G2, h1, h2, _⟩ := hrs
        cases us with
        | cons _ _ => exact h2.elim
        | nil =>
          unfold ResV at h1
          simp only [Bool.false_eq_true, if_false, ResC, Rd] at h1
          rw [h1.2.1.1]
    subst hu
    have hsp := hspec ds hlen
    refine ⟨ds, [], p ++ q, [], p, [], hW', ?_, ?_, ?_, hbel.frame _, fun h => by cases h⟩
    · rw [List.append_nil, hsp, hres]
      exact trodAll_mk1 (shut_bool hb _)
    · rw [List.append_nil, hsp]
      exact hA'
    · rw [List.append_nil, hsp, hvars]
      rfl
/-- The law's contract, as the row wants it. -/
theorem law_contract (hT : ∀ w, TabW w) {f : FuncId} {fn : Func} {s : ChangeSpec} {conds : List PathCond} {a : Assume} {tys : List DT} {tb : TypeId} (hty : tysOk P tys fn.params.toList = true) (hvars : s.vars = []) (hres : fn.resultTypes = #[tb]) (hb : P.underlying tb = some .bool)
    (hspec : ∀ ds : List (DataW H), ds.length = tys.length → s.fn H ds = { results := [.lit (.bool true)], args := ds }) (main : ∀ as_, IsA tys as_ → Ctr P f as_ [rB true]) :
    ∀ (W : World) (base : Nat) (args : Array Value) (ds gs : List (DataW H)) (before : List MemPlace),
      (∀ (j : Nat) t v, fn.params[j]? = some t → args[j]? = some v → Value.okWide P W .any base t v) →
      DataW.Whole enc P fn.params.toList s.vars false W args.toList ds gs before →
      conds.all (PathCond.test P ⟨fn.params.toList, ds, s.plain.varTypes P, gs⟩) = true →
      (DataW.weightsEach P (fn.params.toList ++ s.plain.varTypes P) (ds ++ gs)).all (· ≤ reachBytes) = true →
      a.holds P (lone (Frame.enter P f args .normal) [] W) →
      Calls P f args W fun e W' => ∃ v, e = .returned v ∧ s.post enc P fn false true false false W args v W' := by
  exact fun W base args ds gs before hval hW hc hsz ha => law_contract_x (X := fun _ => True) (fun _ _ w _ => hT w) hty hvars hres hb hspec main W base args ds gs before hval hW hc hsz trivial ha
end
end Go.Proofs.YtcbljemkihnmnaaDoorR
