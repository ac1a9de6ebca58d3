/- What the functions compute that the law of ServedCaptures reaches: contracts, function by function. Conditions stand in each theorem. -/
import Derived.Test.YtbnbgekjjbpljaaGreatProg
import Derived.KernelRfl
import Derived.Test.YtbnbgekjjbpljaaGreatTServedCapturesa
namespace Go.Proofs.YtbnbgekjjbpljaaGreatR
open Go Go.RowKit Go.Proofs
set_option linter.unusedSimpArgs false
set_option linter.unusedVariables false
/-- A list marked, one after another, from k on. -/
def mkL {α : Type} (mk : α → Int → α) (c : α → Nat) : List α → Int → List α
  | [], _ => []
  | x :: l, k => mk x k :: mkL mk c l (k + (c x : Nat))
def ctL {α : Type} (c : α → Nat) (l : List α) : Nat := (l.map c).sum
def iMk (_ : Int) (k : Int) : Int := k
def iCt (_ : Int) : Nat := 1
def bMk (_ : Bool) (k : Int) : Bool := k.tmod 3 == 0
def bCt (_ : Bool) : Nat := 1
section
variable {α : Type} {mk : α → Int → α} {c : α → Nat} {l : List α} {k : Int} {i : Nat} {x : α} {f : α → List T}
theorem mkL_nil : mkL mk c [] k = [] := rfl
theorem ctL_nil : ctL c [] = 0 := rfl
theorem ctL_snoc (h : l[i]? = some x) : ctL c (l.take (i + 1)) = ctL c (l.take i) + c x := sum_snoc h
theorem ctL_take_le (i : Nat) : ctL c (l.take i) ≤ ctL c l := sum_take_le l i
theorem mkL_len : ∀ {l : List α} {k : Int}, (mkL mk c l k).length = l.length
  | [], _ => rfl
  | x :: l, k => by simp [mkL, mkL_len (l := l)]
theorem mkL_append : ∀ {l m : List α} {k : Int}, mkL mk c (l ++ m) k = mkL mk c l k ++ mkL mk c m (k + (ctL c l : Nat))
  | [], m, k => by simp [mkL, ctL]
  | x :: l, m, k => by
    simp only [List.cons_append, mkL, mkL_append (l := l), ctL, List.map_cons, List.sum_cons]
    rw [show k + (c x : Nat) + (((l.map c).sum : Nat) : Int) = k + ((c x + (l.map c).sum : Nat) : Int) by omega]
theorem mkL_snoc (h : l[i]? = some x) : mkL mk c (l.take (i + 1)) k = mkL mk c (l.take i) k ++ [mk x (k + (ctL c (l.take i) : Nat))] := by
  rw [take_snoc h, mkL_append]; rfl
theorem mkL_get (h : l[i]? = some x) : (mkL mk c l k)[i]? = some (mk x (k + (ctL c (l.take i) : Nat))) := by
  have hi := len_at h
  have e : mkL mk c l k = mkL mk c (l.take i) k ++ mkL mk c (l.drop i) (k + (ctL c (l.take i) : Nat)) := by
    rw [← mkL_append, List.take_append_drop]
  rw [e, List.getElem?_append_right (by rw [mkL_len]; simp; omega), mkL_len, List.length_take, Nat.min_eq_left (Nat.le_of_lt hi), Nat.sub_self, drop_cons h]
  rfl
/-- A row around one element. -/
def mid (A : List (List T)) (e : List T) (B : List (List T)) : List (List T) := A ++ e :: B
theorem mid_of (h : l[i]? = some x) : (mkL mk c (l.take i) k).map f ++ (l.drop i).map f = mid ((mkL mk c (l.take i) k).map f) (f x) ((l.drop (i + 1)).map f) := by
  rw [drop_cons h]; rfl
theorem mid_at (h : l[i]? = some x) : (∀ e, (mid ((mkL mk c (l.take i) k).map f) e ((l.drop (i + 1)).map f))[i]? = some e) ∧
    (∀ e e', (mid ((mkL mk c (l.take i) k).map f) e ((l.drop (i + 1)).map f)).set i e' = mid ((mkL mk c (l.take i) k).map f) e' ((l.drop (i + 1)).map f)) ∧
    (∀ e, (mid ((mkL mk c (l.take i) k).map f) e ((l.drop (i + 1)).map f)).length = l.length) ∧
    (∀ e, (mid ((mkL mk c (l.take i) k).map f) e ((l.drop (i + 1)).map f)).getD i [] = e) := by
  have hi := len_at h
  have hl : ((mkL mk c (l.take i) k).map f).length = i := by rw [List.length_map, mkL_len]; simp; omega
  generalize (mkL mk c (l.take i) k).map f = A at hl
  subst hl
  have h1 : ∀ e, (mid A e ((l.drop (A.length + 1)).map f))[A.length]? = some e := fun e => by simp [mid]
  refine ⟨h1, fun e e' => by simp [mid], fun e => by simp [mid]; omega, fun e => by rw [List.getD_eq_getElem?_getD, h1]; rfl⟩
theorem mid_snoc (h : l[i]? = some x) : mid ((mkL mk c (l.take i) k).map f) (f (mk x (k + (ctL c (l.take i) : Nat)))) ((l.drop (i + 1)).map f) = (mkL mk c (l.take (i + 1)) k).map f ++ (l.drop (i + 1)).map f := by
  rw [mkL_snoc h]; simp [mid]
theorem len_of_bd {sz : Nat} {es : List α} {rs : List RV} (h : bdVA (oL sz (es.map f) :: rs)) : es.length ≤ roomB := by
  simp only [bdVA, oL, List.map_cons, bdL, bdT, List.length_map] at h
  exact h.1.1.1
theorem waK {K K' : Int} (h : K = K') (h1 : 0 ≤ K') (h2 : K' ≤ 9223372036854775807) : IntKind.i64.wrap K = K' := by
  subst h; rw [wI (by omega) (by omega)]
theorem ctL_le {s : α → Nat} (h : ∀ x, c x ≤ 16 * (1 + s x)) : ∀ l : List α, ctL c l ≤ 16 * (l.length + (l.map s).sum)
  | [] => by simp [ctL]
  | x :: l => by
    have h1 := h x
    have h2 := ctL_le h l
    simp only [ctL, List.map_cons, List.sum_cons, List.length_cons] at *
    omega
theorem ctL_le' (h : ∀ x, c x ≤ 16) : ∀ l : List α, ctL c l ≤ 16 * l.length
  | [] => by simp [ctL]
  | x :: l => by
    have h1 := h x
    have h2 := ctL_le' h l
    simp only [ctL, List.map_cons, List.sum_cons, List.length_cons] at *
    omega
end
/-- A struct of the caller's, its lists handed over. -/
abbrev oS (ts : List T) : RV := ⟨true, own ts⟩
attribute [go_sem] oS
theorem three_ne : ¬ (3 : Int) = 0 := by decide
attribute [go_sem] mkL_len
def m_laws_markIntS : MC :=
(.seq (pr [.mv 4 (.c (.int .i64 0))] [0,1])
(.seq (.seq (pr [.mv 5 (.c (.int .i64 0))] [0,1,5])
(.block 0 (.loop ([0,1,5], []) (.seq (.seq (pr [.mv 6 (.s 5), .mv 7 (.s 0), .len 8 false (.s 7), .bin 9 false .lss (.s 6) (.s 8)] [0,1,5,9])
(.cond (.s 9) .skip (.exit 0)))
(.seq (.block 1 (.seq (pr [.mv 12 (.s 0), .mv 13 (.s 5), .mv 14 (.s 1), .idx 15 1 (.s 12) (.s 13), .store 1 (.s 15) (.s 14)] [0,1,5])
(pr [.mv 16 (.s 1), .bin 17 false .add (.s 16) (.c (.int .i64 1)), .mv 1 (.s 17)] [0,1,5])))
(pr [.mv 10 (.s 5), .bin 11 false .add (.s 10) (.c (.int .i64 1)), .mv 5 (.s 11)] [0,1,5]))))))
(.seq (pr [.mv 18 (.s 1), .mv 4 (.s 18)] [4])
.ret)))
theorem c_laws_markIntS (xs : List Int) (k : Int) (hk : 0 ≤ k) (hN : k + (ctL iCt xs : Nat) ≤ 4611686018427387904) : CtrI Tryz.prog n_laws_markIntS [oL 1 (xs.map encI), iI k] [some (1, (mkL iMk iCt xs k).map encI)] [rI (k + (ctL iCt xs : Nat))] := by
  refine ctrI_at (M := m_laws_markIntS) (m := 0) (n := 19) (res := [(.tmp 4, [false])]) hmix Tryz.func102 rfl (by kernel_rfl) rfl (by kernel_rfl) (by kernel_rfl) (Nat.le_of_ble_eq_true rfl) rfl rfl ?_; unfold m_laws_markIntS
  intro hb
  have hl := len_of_bd hb
  clear hb
  simp only [↓bk_bind, ↓bk_map, ↓bk_ite, ↓bk_some, ↓reduceIte, Nat.reduceEqDiff, Nat.reduceLT, Nat.reduceLeDiff, Nat.reduceAdd, Nat.reduceMul, reduceCtorEq, List.reduceReplicate, go_sem]
  refine loopK_rng xs (fun i => [(1, vI (k + (ctL iCt (xs.take i) : Nat))), (5, vI i)]) (fun i => [(0, ⟨1, .row true 1 ((mkL iMk iCt (xs.take i) k).map encI ++ (xs.drop i).map encI)⟩)]) (fun _ => True) hl ?_
  simp only [↓bk_bind, ↓bk_map, ↓bk_ite, ↓bk_some, ↓reduceIte, Nat.reduceEqDiff, Nat.reduceLT, Nat.reduceLeDiff, Nat.reduceAdd, Nat.reduceMul, reduceCtorEq, List.reduceReplicate, go_sem]
  refine ⟨?_, trivial, ?_, ?_⟩
  · simp only [↓bk_bind, ↓bk_map, ↓bk_ite, ↓bk_some, ↓reduceIte, Nat.reduceEqDiff, Nat.reduceLT, Nat.reduceLeDiff, Nat.reduceAdd, Nat.reduceMul, reduceCtorEq, List.reduceReplicate, go_sem, List.take_zero, List.drop_zero, mkL_nil, ctL_nil]
    all_goals simp
  · intro i x hx _ h0 h1 hw
    have hR := mid_of (mk := iMk) (c := iCt) (k := k) (f := encI) hx
    have hA := mid_at (mk := iMk) (c := iCt) (k := k) (f := encI) hx
    generalize hAe : (mkL iMk iCt (xs.take i) k).map encI = A at hR hA
    generalize hBe : (xs.drop (i + 1)).map encI = B at hR hA
    obtain ⟨hg, hs, hl, hd⟩ := hA
    have hc := ctL_take_le (c := iCt) (i + 1) (l := xs)
    rw [ctL_snoc hx] at hc
    have hK0 : 0 ≤ k + ((ctL iCt (xs.take i) : Nat) : Int) := by omega
    have hK1 : k + ((ctL iCt (xs.take i) : Nat) : Int) + (iCt x : Nat) ≤ 4611686018427387904 := by omega
    generalize hK : k + ((ctL iCt (xs.take i) : Nat) : Int) = K at hK0 hK1
    simp only [iCt] at hK1
    simp only [↓bk_bind, ↓bk_map, ↓bk_ite, ↓bk_some, ↓reduceIte, Nat.reduceEqDiff, Nat.reduceLT, Nat.reduceLeDiff, Nat.reduceAdd, Nat.reduceMul, reduceCtorEq, List.reduceReplicate, go_sem, hw, hR, hg, hs, hl, hd, h0, h1, three_ne, hK, waK (K := K) (K' := K) rfl (by omega) (by omega), waK (K := K + 1) (K' := K + 1) (by omega) (by omega) (by omega), waK (K := K + 1) (K' := K + 1) rfl (by omega) (by omega), waK (K := K + 1 + 1) (K' := K + 2) (by omega) (by omega) (by omega)]
    subst hK hAe hBe
    refine ⟨?_, mid_snoc hx⟩
    rw [ctL_snoc hx]
    simp only [iCt]
    omega
  · intro _
    simp only [↓bk_bind, ↓bk_map, ↓bk_ite, ↓bk_some, ↓reduceIte, Nat.reduceEqDiff, Nat.reduceLT, Nat.reduceLeDiff, Nat.reduceAdd, Nat.reduceMul, reduceCtorEq, List.reduceReplicate, go_sem, List.take_length, List.drop_length, List.map_nil, List.append_nil, mkL_len]
def m_laws_heldIntS : MC :=
(.seq (pr [.mv 4 (.c (.int .i64 0))] [0,1])
(.seq (.seq (pr [.mv 5 (.c (.int .i64 0))] [0,1,5])
(.block 0 (.loop ([0,1,5], []) (.seq (.seq (pr [.mv 6 (.s 5), .mv 7 (.s 0), .len 8 false (.s 7), .bin 9 false .lss (.s 6) (.s 8)] [0,1,5,9])
(.cond (.s 9) .skip (.exit 0)))
(.seq (.block 1 (.seq (.seq (pr [.mv 12 (.s 0), .mv 13 (.s 5), .idx 14 1 (.s 12) (.s 13), .load 15 false 1 (.s 14), .mv 16 (.s 1), .bin 17 false .neq (.s 15) (.s 16)] [0,1,5,17])
(.cond (.s 17) (.seq (pr [.mv 4 (.c (.int .i64 (-1)))] [4])
.ret) .skip))
(pr [.mv 18 (.s 1), .bin 19 false .add (.s 18) (.c (.int .i64 1)), .mv 1 (.s 19)] [0,1,5])))
(pr [.mv 10 (.s 5), .bin 11 false .add (.s 10) (.c (.int .i64 1)), .mv 5 (.s 11)] [0,1,5]))))))
(.seq (pr [.mv 20 (.s 1), .mv 4 (.s 20)] [4])
.ret)))
theorem c_laws_heldIntS (xs : List Int) (k : Int) (hk : 0 ≤ k) (hN : k + (ctL iCt xs : Nat) ≤ 4611686018427387904) : Ctr Tryz.prog n_laws_heldIntS [aL 1 ((mkL iMk iCt xs k).map encI), aI k] [rI (k + (ctL iCt xs : Nat))] := by
  refine ctr_at (M := m_laws_heldIntS) (m := 0) (n := 21) (res := [(.tmp 4, [false])]) hmix Tryz.func104 rfl (by kernel_rfl) rfl (by kernel_rfl) (by kernel_rfl) (Nat.le_of_ble_eq_true rfl) ?_; unfold m_laws_heldIntS
  intro hb
  simp only [bdA, bdL, bdT, bdR, bdR_map, wfB_i64, wfB_bool, wfB_str, roomB, and_true, true_and, List.length_map] at hb
  have hl := hb.1.1
  rw [mkL_len] at hl
  clear hb
  simp only [↓bk_bind, ↓bk_map, ↓bk_ite, ↓bk_some, ↓reduceIte, Nat.reduceEqDiff, Nat.reduceLT, Nat.reduceLeDiff, Nat.reduceAdd, Nat.reduceMul, reduceCtorEq, List.reduceReplicate, go_sem]
  refine loopK_rng xs (fun i => [(1, vI (k + (ctL iCt (xs.take i) : Nat))), (5, vI i)]) (fun i => []) (fun _ => True) hl ?_
  simp only [↓bk_bind, ↓bk_map, ↓bk_ite, ↓bk_some, ↓reduceIte, Nat.reduceEqDiff, Nat.reduceLT, Nat.reduceLeDiff, Nat.reduceAdd, Nat.reduceMul, reduceCtorEq, List.reduceReplicate, go_sem]
  refine ⟨?_, trivial, ?_, ?_⟩
  · simp only [↓bk_bind, ↓bk_map, ↓bk_ite, ↓bk_some, ↓reduceIte, Nat.reduceEqDiff, Nat.reduceLT, Nat.reduceLeDiff, Nat.reduceAdd, Nat.reduceMul, reduceCtorEq, List.reduceReplicate, go_sem, List.take_zero, ctL_nil]
    all_goals simp
  · intro i x hx _ h0 h1 hw
    have hg := mkL_get (mk := iMk) (c := iCt) (k := k) hx
    have hc := ctL_take_le (c := iCt) (i + 1) (l := xs)
    rw [ctL_snoc hx] at hc
    have hK0 : 0 ≤ k + ((ctL iCt (xs.take i) : Nat) : Int) := by omega
    have hK1 : k + ((ctL iCt (xs.take i) : Nat) : Int) + (iCt x : Nat) ≤ 4611686018427387904 := by omega
    generalize hK : k + ((ctL iCt (xs.take i) : Nat) : Int) = K at hK0 hK1 hg
    simp only [iCt] at hK1
    simp only [↓bk_bind, ↓bk_map, ↓bk_ite, ↓bk_some, ↓reduceIte, Nat.reduceEqDiff, Nat.reduceLT, Nat.reduceLeDiff, Nat.reduceAdd, Nat.reduceMul, reduceCtorEq, List.reduceReplicate, go_sem, hw, bk_eq hg, h0, h1, mkL_len, hK, iMk, bne_self_eq_false, beq_self_eq_true, three_ne, bMk, waK (K := K) (K' := K) rfl (by omega) (by omega), waK (K := K + 1) (K' := K + 1) (by omega) (by omega) (by omega), waK (K := K + 1) (K' := K + 1) rfl (by omega) (by omega), waK (K := K + 1 + 1) (K' := K + 2) (by omega) (by omega) (by omega)]
    rw [ctL_snoc hx]
    simp only [iCt]
    omega
  · intro _
    simp only [↓bk_bind, ↓bk_map, ↓bk_ite, ↓bk_some, ↓reduceIte, Nat.reduceEqDiff, Nat.reduceLT, Nat.reduceLeDiff, Nat.reduceAdd, Nat.reduceMul, reduceCtorEq, List.reduceReplicate, go_sem, List.take_length, mkL_len]
def GAddress.mkd (x : GAddress) (k : Int) : GAddress := ⟨k, (k + 1), (k + 2)⟩
def GAddress.ct (x : GAddress) : Nat := 3
def GResource.mkd (x : GResource) (k : Int) : GResource := ⟨k, (mkL iMk iCt x.Body (k + 1)), ⟨((k + 1) + (ctL iCt x.Body : Nat)), (((k + 1) + (ctL iCt x.Body : Nat)) + 1), (((k + 1) + (ctL iCt x.Body : Nat)) + 2)⟩⟩
def GResource.ct (x : GResource) : Nat := 4 + ctL iCt x.Body
theorem GResource.ct_le (x : GResource) : x.ct ≤ 16 * (1 + x.size) := by
  simp only [GResource.ct, GResource.size]
  have h0 := ctL_le' (c := iCt) (fun y => by simp only [iCt]; omega) x.Body
  omega
def GResource.mks (x : GResource) (k : Int) : GResource := { x with Body := mkL iMk iCt x.Body (k) }
def GResource.cts (x : GResource) : Nat := ctL iCt x.Body
theorem GResource.cts_le (x : GResource) : x.cts ≤ 16 * x.size := by
  simp only [GResource.cts, GResource.size]
  have hBody := ctL_le' (c := iCt) (fun y => by simp only [iCt]; omega) x.Body
  omega
@[go_sem] theorem GResource.mks_len0 (x : GResource) (k : Int) : ((x.mks k).Body).length = x.Body.length := mkL_len
def GPart.mkd (x : GPart) (k : Int) : GPart := ⟨k, ⟨(k + 1), (mkL iMk iCt x.Resource.Body (k + 2)), ⟨((k + 2) + (ctL iCt x.Resource.Body : Nat)), (((k + 2) + (ctL iCt x.Resource.Body : Nat)) + 1), (((k + 2) + (ctL iCt x.Resource.Body : Nat)) + 2)⟩⟩, (((k + 2) + (ctL iCt x.Resource.Body : Nat)) + 3)⟩
def GPart.ct (x : GPart) : Nat := 6 + ctL iCt x.Resource.Body
theorem GPart.ct_le (x : GPart) : x.ct ≤ 16 * (1 + x.size) := by
  simp only [GPart.ct, GPart.size, GResource.size]
  have h0 := ctL_le' (c := iCt) (fun y => by simp only [iCt]; omega) x.Resource.Body
  omega
def GPart.mks (x : GPart) (k : Int) : GPart := { x with Resource := x.Resource.mks (k) }
def GPart.cts (x : GPart) : Nat := x.Resource.cts
theorem GPart.cts_le (x : GPart) : x.cts ≤ 16 * x.size := by
  simp only [GPart.cts, GPart.size]
  have hResource := GResource.cts_le x.Resource
  omega
@[go_sem] theorem GPart.mks_len0 (x : GPart) (k : Int) : ((x.mks k).Resource.Body).length = x.Resource.Body.length := mkL_len
def GPiece.mkd (x : GPiece) (k : Int) : GPiece := ⟨k, (k + 1), (mkL iMk iCt x.New (k + 2))⟩
def GPiece.ct (x : GPiece) : Nat := 2 + ctL iCt x.New
theorem GPiece.ct_le (x : GPiece) : x.ct ≤ 16 * (1 + x.size) := by
  simp only [GPiece.ct, GPiece.size]
  have h0 := ctL_le' (c := iCt) (fun y => by simp only [iCt]; omega) x.New
  omega
def GPiece.mks (x : GPiece) (k : Int) : GPiece := { x with New := mkL iMk iCt x.New (k) }
def GPiece.cts (x : GPiece) : Nat := ctL iCt x.New
theorem GPiece.cts_le (x : GPiece) : x.cts ≤ 16 * x.size := by
  simp only [GPiece.cts, GPiece.size]
  have hNew := ctL_le' (c := iCt) (fun y => by simp only [iCt]; omega) x.New
  omega
@[go_sem] theorem GPiece.mks_len0 (x : GPiece) (k : Int) : ((x.mks k).New).length = x.New.length := mkL_len
def GVersion.mkd (x : GVersion) (k : Int) : GVersion := ⟨⟨k, (k + 1), (k + 2)⟩, (k + 3), ⟨(k + 4), (mkL iMk iCt x.Resource.Body (k + 5)), ⟨((k + 5) + (ctL iCt x.Resource.Body : Nat)), (((k + 5) + (ctL iCt x.Resource.Body : Nat)) + 1), (((k + 5) + (ctL iCt x.Resource.Body : Nat)) + 2)⟩⟩⟩
def GVersion.ct (x : GVersion) : Nat := 8 + ctL iCt x.Resource.Body
theorem GVersion.ct_le (x : GVersion) : x.ct ≤ 16 * (1 + x.size) := by
  simp only [GVersion.ct, GVersion.size, GResource.size]
  have h0 := ctL_le' (c := iCt) (fun y => by simp only [iCt]; omega) x.Resource.Body
  omega
def m_laws_markVersionS : MC :=
(.seq (pr [.mv 4 (.c (.int .i64 0))] [0,1])
(.seq (.seq (pr [.mv 5 (.c (.int .i64 0))] [0,1,5])
(.block 0 (.loop ([0,1,5], [1]) (.seq (.seq (pr [.mv 6 (.s 5), .mv 7 (.s 0), .len 8 false (.s 7), .bin 9 false .lss (.s 6) (.s 8)] [0,1,5,9])
(.cond (.s 9) .skip (.exit 0)))
(.seq (.block 1 (.seq (pr [.mv 12 (.s 0), .mv 13 (.s 5), .mv 14 (.s 1), .idx 15 9 (.s 12) (.s 13), .fld 16 (.s 15) 0, .fld 17 (.s 16) 0, .store 1 (.s 17) (.s 14)] [0,1,5])
(.seq (pr [.mv 18 (.s 1), .bin 19 false .add (.s 18) (.c (.int .i64 1)), .mv 1 (.s 19)] [0,1,5])
(.seq (pr [.mv 20 (.s 0), .mv 21 (.s 5), .mv 22 (.s 1), .idx 23 9 (.s 20) (.s 21), .fld 24 (.s 23) 0, .fld 25 (.s 24) 1, .store 1 (.s 25) (.s 22)] [0,1,5])
(.seq (pr [.mv 26 (.s 1), .bin 27 false .add (.s 26) (.c (.int .i64 1)), .mv 1 (.s 27)] [0,1,5])
(.seq (pr [.mv 28 (.s 0), .mv 29 (.s 5), .mv 30 (.s 1), .idx 31 9 (.s 28) (.s 29), .fld 32 (.s 31) 0, .fld 33 (.s 32) 2, .store 1 (.s 33) (.s 30)] [0,1,5])
(.seq (pr [.mv 34 (.s 1), .bin 35 false .add (.s 34) (.c (.int .i64 1)), .mv 1 (.s 35)] [0,1,5])
(.seq (pr [.mv 36 (.s 0), .mv 37 (.s 5), .mv 38 (.s 1), .idx 39 9 (.s 36) (.s 37), .fld 40 (.s 39) 3, .store 1 (.s 40) (.s 38)] [0,1,5])
(.seq (pr [.mv 41 (.s 1), .bin 42 false .add (.s 41) (.c (.int .i64 1)), .mv 1 (.s 42)] [0,1,5])
(.seq (pr [.mv 43 (.s 0), .mv 44 (.s 5), .mv 45 (.s 1), .idx 46 9 (.s 43) (.s 44), .fld 47 (.s 46) 4, .fld 48 (.s 47) 0, .store 1 (.s 48) (.s 45)] [0,1,5])
(.seq (pr [.mv 49 (.s 1), .bin 50 false .add (.s 49) (.c (.int .i64 1)), .mv 1 (.s 50)] [0,1,5])
(.seq (pr [.mv 51 (.s 0), .mv 52 (.s 5), .idx 53 9 (.s 51) (.s 52), .fld 54 (.s 53) 4, .fld 55 (.s 54) 1, .loadT 56 1 (.s 55), .mv 57 (.s 1), .callI 58 [] (.f n_laws_markIntS) [.s 56, .s 57] [1] [0], .mv 1 (.s 58)] [0,1,5])
(.seq (pr [.mv 59 (.s 0), .mv 60 (.s 5), .mv 61 (.s 1), .idx 62 9 (.s 59) (.s 60), .fld 63 (.s 62) 4, .fld 64 (.s 63) 2, .fld 65 (.s 64) 0, .store 1 (.s 65) (.s 61)] [0,1,5])
(.seq (pr [.mv 66 (.s 1), .bin 67 false .add (.s 66) (.c (.int .i64 1)), .mv 1 (.s 67)] [0,1,5])
(.seq (pr [.mv 68 (.s 0), .mv 69 (.s 5), .mv 70 (.s 1), .idx 71 9 (.s 68) (.s 69), .fld 72 (.s 71) 4, .fld 73 (.s 72) 2, .fld 74 (.s 73) 1, .store 1 (.s 74) (.s 70)] [0,1,5])
(.seq (pr [.mv 75 (.s 1), .bin 76 false .add (.s 75) (.c (.int .i64 1)), .mv 1 (.s 76)] [0,1,5])
(.seq (pr [.mv 77 (.s 0), .mv 78 (.s 5), .mv 79 (.s 1), .idx 80 9 (.s 77) (.s 78), .fld 81 (.s 80) 4, .fld 82 (.s 81) 2, .fld 83 (.s 82) 2, .store 1 (.s 83) (.s 79)] [0,1,5])
(pr [.mv 84 (.s 1), .bin 85 false .add (.s 84) (.c (.int .i64 1)), .mv 1 (.s 85)] [0,1,5]))))))))))))))))))
(pr [.mv 10 (.s 5), .bin 11 false .add (.s 10) (.c (.int .i64 1)), .mv 5 (.s 11)] [0,1,5]))))))
(.seq (pr [.mv 86 (.s 1), .mv 4 (.s 86)] [4])
.ret)))
theorem c_laws_markVersionS (xs : List GVersion) (k : Int) (hk : 0 ≤ k) (hN : k + (ctL GVersion.ct xs : Nat) ≤ 4611686018427387904) : CtrI Tryz.prog n_laws_markVersionS [oL 9 (xs.map GVersion.enc), iI k] [some (9, (mkL GVersion.mkd GVersion.ct xs k).map GVersion.enc)] [rI (k + (ctL GVersion.ct xs : Nat))] := by
  refine ctrI_at (M := m_laws_markVersionS) (m := 1) (n := 87) (res := [(.tmp 4, [false])]) hmix Tryz.func98 rfl (by kernel_rfl) rfl (by kernel_rfl) (by kernel_rfl) (Nat.le_of_ble_eq_true rfl) rfl rfl ?_; unfold m_laws_markVersionS
  intro hb
  have hl := len_of_bd hb
  clear hb
  simp only [↓bk_bind, ↓bk_map, ↓bk_ite, ↓bk_some, ↓reduceIte, Nat.reduceEqDiff, Nat.reduceLT, Nat.reduceLeDiff, Nat.reduceAdd, Nat.reduceMul, reduceCtorEq, List.reduceReplicate, go_sem]
  refine loopK_rng xs (fun i => [(1, vI (k + (ctL GVersion.ct (xs.take i) : Nat))), (5, vI i)]) (fun i => [(0, ⟨1, .row true 9 ((mkL GVersion.mkd GVersion.ct (xs.take i) k).map GVersion.enc ++ (xs.drop i).map GVersion.enc)⟩)]) (fun _ => True) hl ?_
  simp only [↓bk_bind, ↓bk_map, ↓bk_ite, ↓bk_some, ↓reduceIte, Nat.reduceEqDiff, Nat.reduceLT, Nat.reduceLeDiff, Nat.reduceAdd, Nat.reduceMul, reduceCtorEq, List.reduceReplicate, go_sem]
  refine ⟨?_, trivial, ?_, ?_⟩
  · simp only [↓bk_bind, ↓bk_map, ↓bk_ite, ↓bk_some, ↓reduceIte, Nat.reduceEqDiff, Nat.reduceLT, Nat.reduceLeDiff, Nat.reduceAdd, Nat.reduceMul, reduceCtorEq, List.reduceReplicate, go_sem, List.take_zero, List.drop_zero, mkL_nil, ctL_nil]
    all_goals simp
  · intro i x hx _ h0 h1 hw
    have hR := mid_of (mk := GVersion.mkd) (c := GVersion.ct) (k := k) (f := GVersion.enc) hx
    have hA := mid_at (mk := GVersion.mkd) (c := GVersion.ct) (k := k) (f := GVersion.enc) hx
    generalize hAe : (mkL GVersion.mkd GVersion.ct (xs.take i) k).map GVersion.enc = A at hR hA
    generalize hBe : (xs.drop (i + 1)).map GVersion.enc = B at hR hA
    obtain ⟨hg, hs, hl, hd⟩ := hA
    have hc := ctL_take_le (c := GVersion.ct) (i + 1) (l := xs)
    rw [ctL_snoc hx] at hc
    have hK0 : 0 ≤ k + ((ctL GVersion.ct (xs.take i) : Nat) : Int) := by omega
    have hK1 : k + ((ctL GVersion.ct (xs.take i) : Nat) : Int) + (GVersion.ct x : Nat) ≤ 4611686018427387904 := by omega
    generalize hK : k + ((ctL GVersion.ct (xs.take i) : Nat) : Int) = K at hK0 hK1
    simp only [GVersion.ct] at hK1
    simp only [↓bk_bind, ↓bk_map, ↓bk_ite, ↓bk_some, ↓reduceIte, Nat.reduceEqDiff, Nat.reduceLT, Nat.reduceLeDiff, Nat.reduceAdd, Nat.reduceMul, reduceCtorEq, List.reduceReplicate, go_sem, hw, hR, hg, hs, hl, hd, h0, h1, three_ne, hK, waK (K := K) (K' := K) rfl (by omega) (by omega), waK (K := K + 1) (K' := K + 1) (by omega) (by omega) (by omega), waK (K := K + 1) (K' := K + 1) rfl (by omega) (by omega), waK (K := K + 1 + 1) (K' := K + 2) (by omega) (by omega) (by omega), waK (K := K + 2) (K' := K + 2) rfl (by omega) (by omega), waK (K := K + 2 + 1) (K' := K + 3) (by omega) (by omega) (by omega), waK (K := K + 3) (K' := K + 3) rfl (by omega) (by omega), waK (K := K + 3 + 1) (K' := K + 4) (by omega) (by omega) (by omega), waK (K := K + 4) (K' := K + 4) rfl (by omega) (by omega), waK (K := K + 4 + 1) (K' := K + 5) (by omega) (by omega) (by omega), waK (K := K + 5) (K' := K + 5) rfl (by omega) (by omega), waK (K := K + 5 + 1) (K' := K + 6) (by omega) (by omega) (by omega)]
    refine callIK_of (c_laws_markIntS x.Resource.Body (K + 5) (by omega) (by omega)) ?_
    have hK1 : 0 ≤ K + 5 + (ctL iCt x.Resource.Body : Nat) := by omega
    generalize eK1 : K + 5 + ((ctL iCt x.Resource.Body : Nat) : Int) = K1 at hK1
    simp only [↓bk_bind, ↓bk_map, ↓bk_ite, ↓bk_some, ↓reduceIte, Nat.reduceEqDiff, Nat.reduceLT, Nat.reduceLeDiff, Nat.reduceAdd, Nat.reduceMul, reduceCtorEq, List.reduceReplicate, go_sem, hw, hR, hg, hs, hl, hd, h0, h1, three_ne, hK, waK (K := K1) (K' := K1) rfl (by omega) (by omega), waK (K := K1 + 1) (K' := K1 + 1) (by omega) (by omega) (by omega), waK (K := K1 + 1) (K' := K1 + 1) rfl (by omega) (by omega), waK (K := K1 + 1 + 1) (K' := K1 + 2) (by omega) (by omega) (by omega), waK (K := K1 + 2) (K' := K1 + 2) rfl (by omega) (by omega), waK (K := K1 + 2 + 1) (K' := K1 + 3) (by omega) (by omega) (by omega), waK (K := K1 + 3) (K' := K1 + 3) rfl (by omega) (by omega), waK (K := K1 + 3 + 1) (K' := K1 + 4) (by omega) (by omega) (by omega)]
    subst eK1
    subst hK hAe hBe
    refine ⟨?_, mid_snoc hx⟩
    rw [ctL_snoc hx]
    simp only [GVersion.ct]
    omega
  · intro _
    simp only [↓bk_bind, ↓bk_map, ↓bk_ite, ↓bk_some, ↓reduceIte, Nat.reduceEqDiff, Nat.reduceLT, Nat.reduceLeDiff, Nat.reduceAdd, Nat.reduceMul, reduceCtorEq, List.reduceReplicate, go_sem, List.take_length, List.drop_length, List.map_nil, List.append_nil, mkL_len]
def GVersion.mks (x : GVersion) (k : Int) : GVersion := { x with Resource := x.Resource.mks (k) }
def GVersion.cts (x : GVersion) : Nat := x.Resource.cts
theorem GVersion.cts_le (x : GVersion) : x.cts ≤ 16 * x.size := by
  simp only [GVersion.cts, GVersion.size]
  have hResource := GResource.cts_le x.Resource
  omega
@[go_sem] theorem GVersion.mks_len0 (x : GVersion) (k : Int) : ((x.mks k).Resource.Body).length = x.Resource.Body.length := mkL_len
def GOp.mkd (x : GOp) (k : Int) : GOp := ⟨k, (k + 1), (k + 2), (k + 3)⟩
def GOp.ct (x : GOp) : Nat := 4
def m_laws_markOpS : MC :=
(.seq (pr [.mv 4 (.c (.int .i64 0))] [0,1])
(.seq (.seq (pr [.mv 5 (.c (.int .i64 0))] [0,1,5])
(.block 0 (.loop ([0,1,5], []) (.seq (.seq (pr [.mv 6 (.s 5), .mv 7 (.s 0), .len 8 false (.s 7), .bin 9 false .lss (.s 6) (.s 8)] [0,1,5,9])
(.cond (.s 9) .skip (.exit 0)))
(.seq (.block 1 (.seq (pr [.mv 12 (.s 0), .mv 13 (.s 5), .mv 14 (.s 1), .idx 15 4 (.s 12) (.s 13), .fld 16 (.s 15) 0, .store 1 (.s 16) (.s 14)] [0,1,5])
(.seq (pr [.mv 17 (.s 1), .bin 18 false .add (.s 17) (.c (.int .i64 1)), .mv 1 (.s 18)] [0,1,5])
(.seq (pr [.mv 19 (.s 0), .mv 20 (.s 5), .mv 21 (.s 1), .idx 22 4 (.s 19) (.s 20), .fld 23 (.s 22) 1, .store 1 (.s 23) (.s 21)] [0,1,5])
(.seq (pr [.mv 24 (.s 1), .bin 25 false .add (.s 24) (.c (.int .i64 1)), .mv 1 (.s 25)] [0,1,5])
(.seq (pr [.mv 26 (.s 0), .mv 27 (.s 5), .mv 28 (.s 1), .idx 29 4 (.s 26) (.s 27), .fld 30 (.s 29) 2, .store 1 (.s 30) (.s 28)] [0,1,5])
(.seq (pr [.mv 31 (.s 1), .bin 32 false .add (.s 31) (.c (.int .i64 1)), .mv 1 (.s 32)] [0,1,5])
(.seq (pr [.mv 33 (.s 0), .mv 34 (.s 5), .mv 35 (.s 1), .idx 36 4 (.s 33) (.s 34), .fld 37 (.s 36) 3, .store 1 (.s 37) (.s 35)] [0,1,5])
(pr [.mv 38 (.s 1), .bin 39 false .add (.s 38) (.c (.int .i64 1)), .mv 1 (.s 39)] [0,1,5])))))))))
(pr [.mv 10 (.s 5), .bin 11 false .add (.s 10) (.c (.int .i64 1)), .mv 5 (.s 11)] [0,1,5]))))))
(.seq (pr [.mv 40 (.s 1), .mv 4 (.s 40)] [4])
.ret)))
theorem c_laws_markOpS (xs : List GOp) (k : Int) (hk : 0 ≤ k) (hN : k + (ctL GOp.ct xs : Nat) ≤ 4611686018427387904) : CtrI Tryz.prog n_laws_markOpS [oL 4 (xs.map GOp.enc), iI k] [some (4, (mkL GOp.mkd GOp.ct xs k).map GOp.enc)] [rI (k + (ctL GOp.ct xs : Nat))] := by
  refine ctrI_at (M := m_laws_markOpS) (m := 0) (n := 41) (res := [(.tmp 4, [false])]) hmix Tryz.func99 rfl (by kernel_rfl) rfl (by kernel_rfl) (by kernel_rfl) (Nat.le_of_ble_eq_true rfl) rfl rfl ?_; unfold m_laws_markOpS
  intro hb
  have hl := len_of_bd hb
  clear hb
  simp only [↓bk_bind, ↓bk_map, ↓bk_ite, ↓bk_some, ↓reduceIte, Nat.reduceEqDiff, Nat.reduceLT, Nat.reduceLeDiff, Nat.reduceAdd, Nat.reduceMul, reduceCtorEq, List.reduceReplicate, go_sem]
  refine loopK_rng xs (fun i => [(1, vI (k + (ctL GOp.ct (xs.take i) : Nat))), (5, vI i)]) (fun i => [(0, ⟨1, .row true 4 ((mkL GOp.mkd GOp.ct (xs.take i) k).map GOp.enc ++ (xs.drop i).map GOp.enc)⟩)]) (fun _ => True) hl ?_
  simp only [↓bk_bind, ↓bk_map, ↓bk_ite, ↓bk_some, ↓reduceIte, Nat.reduceEqDiff, Nat.reduceLT, Nat.reduceLeDiff, Nat.reduceAdd, Nat.reduceMul, reduceCtorEq, List.reduceReplicate, go_sem]
  refine ⟨?_, trivial, ?_, ?_⟩
  · simp only [↓bk_bind, ↓bk_map, ↓bk_ite, ↓bk_some, ↓reduceIte, Nat.reduceEqDiff, Nat.reduceLT, Nat.reduceLeDiff, Nat.reduceAdd, Nat.reduceMul, reduceCtorEq, List.reduceReplicate, go_sem, List.take_zero, List.drop_zero, mkL_nil, ctL_nil]
    all_goals simp
  · intro i x hx _ h0 h1 hw
    have hR := mid_of (mk := GOp.mkd) (c := GOp.ct) (k := k) (f := GOp.enc) hx
    have hA := mid_at (mk := GOp.mkd) (c := GOp.ct) (k := k) (f := GOp.enc) hx
    generalize hAe : (mkL GOp.mkd GOp.ct (xs.take i) k).map GOp.enc = A at hR hA
    generalize hBe : (xs.drop (i + 1)).map GOp.enc = B at hR hA
    obtain ⟨hg, hs, hl, hd⟩ := hA
    have hc := ctL_take_le (c := GOp.ct) (i + 1) (l := xs)
    rw [ctL_snoc hx] at hc
    have hK0 : 0 ≤ k + ((ctL GOp.ct (xs.take i) : Nat) : Int) := by omega
    have hK1 : k + ((ctL GOp.ct (xs.take i) : Nat) : Int) + (GOp.ct x : Nat) ≤ 4611686018427387904 := by omega
    generalize hK : k + ((ctL GOp.ct (xs.take i) : Nat) : Int) = K at hK0 hK1
    simp only [GOp.ct] at hK1
    simp only [↓bk_bind, ↓bk_map, ↓bk_ite, ↓bk_some, ↓reduceIte, Nat.reduceEqDiff, Nat.reduceLT, Nat.reduceLeDiff, Nat.reduceAdd, Nat.reduceMul, reduceCtorEq, List.reduceReplicate, go_sem, hw, hR, hg, hs, hl, hd, h0, h1, three_ne, hK, waK (K := K) (K' := K) rfl (by omega) (by omega), waK (K := K + 1) (K' := K + 1) (by omega) (by omega) (by omega), waK (K := K + 1) (K' := K + 1) rfl (by omega) (by omega), waK (K := K + 1 + 1) (K' := K + 2) (by omega) (by omega) (by omega), waK (K := K + 2) (K' := K + 2) rfl (by omega) (by omega), waK (K := K + 2 + 1) (K' := K + 3) (by omega) (by omega) (by omega), waK (K := K + 3) (K' := K + 3) rfl (by omega) (by omega), waK (K := K + 3 + 1) (K' := K + 4) (by omega) (by omega) (by omega), waK (K := K + 4) (K' := K + 4) rfl (by omega) (by omega), waK (K := K + 4 + 1) (K' := K + 5) (by omega) (by omega) (by omega)]
    subst hK hAe hBe
    refine ⟨?_, mid_snoc hx⟩
    rw [ctL_snoc hx]
    simp only [GOp.ct]
    omega
  · intro _
    simp only [↓bk_bind, ↓bk_map, ↓bk_ite, ↓bk_some, ↓reduceIte, Nat.reduceEqDiff, Nat.reduceLT, Nat.reduceLeDiff, Nat.reduceAdd, Nat.reduceMul, reduceCtorEq, List.reduceReplicate, go_sem, List.take_length, List.drop_length, List.map_nil, List.append_nil, mkL_len]
def GState.mkd (x : GState) (k : Int) : GState := ⟨k, (mkL iMk iCt x.Regs (k + 1)), (mkL iMk iCt x.Slots ((k + 1) + (ctL iCt x.Regs : Nat))), (mkL iMk iCt x.Nodes (((k + 1) + (ctL iCt x.Regs : Nat)) + (ctL iCt x.Slots : Nat)))⟩
def GState.ct (x : GState) : Nat := 1 + ctL iCt x.Regs + ctL iCt x.Slots + ctL iCt x.Nodes
theorem GState.ct_le (x : GState) : x.ct ≤ 16 * (1 + x.size) := by
  simp only [GState.ct, GState.size]
  have h0 := ctL_le' (c := iCt) (fun y => by simp only [iCt]; omega) x.Regs
  have h1 := ctL_le' (c := iCt) (fun y => by simp only [iCt]; omega) x.Slots
  have h2 := ctL_le' (c := iCt) (fun y => by simp only [iCt]; omega) x.Nodes
  omega
def GState.mks (x : GState) (k : Int) : GState := { x with Regs := mkL iMk iCt x.Regs (k), Slots := mkL iMk iCt x.Slots (k + (ctL iCt x.Regs : Nat)), Nodes := mkL iMk iCt x.Nodes (k + (ctL iCt x.Regs : Nat) + (ctL iCt x.Slots : Nat)) }
def GState.cts (x : GState) : Nat := ctL iCt x.Regs + ctL iCt x.Slots + ctL iCt x.Nodes
theorem GState.cts_le (x : GState) : x.cts ≤ 16 * x.size := by
  simp only [GState.cts, GState.size]
  have hRegs := ctL_le' (c := iCt) (fun y => by simp only [iCt]; omega) x.Regs
  have hSlots := ctL_le' (c := iCt) (fun y => by simp only [iCt]; omega) x.Slots
  have hNodes := ctL_le' (c := iCt) (fun y => by simp only [iCt]; omega) x.Nodes
  omega
@[go_sem] theorem GState.mks_len0 (x : GState) (k : Int) : ((x.mks k).Regs).length = x.Regs.length := mkL_len
@[go_sem] theorem GState.mks_len1 (x : GState) (k : Int) : ((x.mks k).Slots).length = x.Slots.length := mkL_len
@[go_sem] theorem GState.mks_len2 (x : GState) (k : Int) : ((x.mks k).Nodes).length = x.Nodes.length := mkL_len
def GWant.mkd (x : GWant) (k : Int) : GWant := ⟨k, ⟨(k + 1), (k + 2), (k + 3)⟩⟩
def GWant.ct (x : GWant) : Nat := 4
def GEntry.mkd (x : GEntry) (k : Int) : GEntry := ⟨k, ⟨(k + 1), (k + 2), (k + 3)⟩, (k + 4)⟩
def GEntry.ct (x : GEntry) : Nat := 5
def m_laws_markEntryS : MC :=
(.seq (pr [.mv 4 (.c (.int .i64 0))] [0,1])
(.seq (.seq (pr [.mv 5 (.c (.int .i64 0))] [0,1,5])
(.block 0 (.loop ([0,1,5], []) (.seq (.seq (pr [.mv 6 (.s 5), .mv 7 (.s 0), .len 8 false (.s 7), .bin 9 false .lss (.s 6) (.s 8)] [0,1,5,9])
(.cond (.s 9) .skip (.exit 0)))
(.seq (.block 1 (.seq (pr [.mv 12 (.s 0), .mv 13 (.s 5), .mv 14 (.s 1), .idx 15 5 (.s 12) (.s 13), .fld 16 (.s 15) 0, .store 1 (.s 16) (.s 14)] [0,1,5])
(.seq (pr [.mv 17 (.s 1), .bin 18 false .add (.s 17) (.c (.int .i64 1)), .mv 1 (.s 18)] [0,1,5])
(.seq (pr [.mv 19 (.s 0), .mv 20 (.s 5), .mv 21 (.s 1), .idx 22 5 (.s 19) (.s 20), .fld 23 (.s 22) 1, .fld 24 (.s 23) 0, .store 1 (.s 24) (.s 21)] [0,1,5])
(.seq (pr [.mv 25 (.s 1), .bin 26 false .add (.s 25) (.c (.int .i64 1)), .mv 1 (.s 26)] [0,1,5])
(.seq (pr [.mv 27 (.s 0), .mv 28 (.s 5), .mv 29 (.s 1), .idx 30 5 (.s 27) (.s 28), .fld 31 (.s 30) 1, .fld 32 (.s 31) 1, .store 1 (.s 32) (.s 29)] [0,1,5])
(.seq (pr [.mv 33 (.s 1), .bin 34 false .add (.s 33) (.c (.int .i64 1)), .mv 1 (.s 34)] [0,1,5])
(.seq (pr [.mv 35 (.s 0), .mv 36 (.s 5), .mv 37 (.s 1), .idx 38 5 (.s 35) (.s 36), .fld 39 (.s 38) 1, .fld 40 (.s 39) 2, .store 1 (.s 40) (.s 37)] [0,1,5])
(.seq (pr [.mv 41 (.s 1), .bin 42 false .add (.s 41) (.c (.int .i64 1)), .mv 1 (.s 42)] [0,1,5])
(.seq (pr [.mv 43 (.s 0), .mv 44 (.s 5), .mv 45 (.s 1), .idx 46 5 (.s 43) (.s 44), .fld 47 (.s 46) 4, .store 1 (.s 47) (.s 45)] [0,1,5])
(pr [.mv 48 (.s 1), .bin 49 false .add (.s 48) (.c (.int .i64 1)), .mv 1 (.s 49)] [0,1,5])))))))))))
(pr [.mv 10 (.s 5), .bin 11 false .add (.s 10) (.c (.int .i64 1)), .mv 5 (.s 11)] [0,1,5]))))))
(.seq (pr [.mv 50 (.s 1), .mv 4 (.s 50)] [4])
.ret)))
theorem c_laws_markEntryS (xs : List GEntry) (k : Int) (hk : 0 ≤ k) (hN : k + (ctL GEntry.ct xs : Nat) ≤ 4611686018427387904) : CtrI Tryz.prog n_laws_markEntryS [oL 5 (xs.map GEntry.enc), iI k] [some (5, (mkL GEntry.mkd GEntry.ct xs k).map GEntry.enc)] [rI (k + (ctL GEntry.ct xs : Nat))] := by
  refine ctrI_at (M := m_laws_markEntryS) (m := 0) (n := 51) (res := [(.tmp 4, [false])]) hmix Tryz.func119 rfl (by kernel_rfl) rfl (by kernel_rfl) (by kernel_rfl) (Nat.le_of_ble_eq_true rfl) rfl rfl ?_; unfold m_laws_markEntryS
  intro hb
  have hl := len_of_bd hb
  clear hb
  simp only [↓bk_bind, ↓bk_map, ↓bk_ite, ↓bk_some, ↓reduceIte, Nat.reduceEqDiff, Nat.reduceLT, Nat.reduceLeDiff, Nat.reduceAdd, Nat.reduceMul, reduceCtorEq, List.reduceReplicate, go_sem]
  refine loopK_rng xs (fun i => [(1, vI (k + (ctL GEntry.ct (xs.take i) : Nat))), (5, vI i)]) (fun i => [(0, ⟨1, .row true 5 ((mkL GEntry.mkd GEntry.ct (xs.take i) k).map GEntry.enc ++ (xs.drop i).map GEntry.enc)⟩)]) (fun _ => True) hl ?_
  simp only [↓bk_bind, ↓bk_map, ↓bk_ite, ↓bk_some, ↓reduceIte, Nat.reduceEqDiff, Nat.reduceLT, Nat.reduceLeDiff, Nat.reduceAdd, Nat.reduceMul, reduceCtorEq, List.reduceReplicate, go_sem]
  refine ⟨?_, trivial, ?_, ?_⟩
  · simp only [↓bk_bind, ↓bk_map, ↓bk_ite, ↓bk_some, ↓reduceIte, Nat.reduceEqDiff, Nat.reduceLT, Nat.reduceLeDiff, Nat.reduceAdd, Nat.reduceMul, reduceCtorEq, List.reduceReplicate, go_sem, List.take_zero, List.drop_zero, mkL_nil, ctL_nil]
    all_goals simp
  · intro i x hx _ h0 h1 hw
    have hR := mid_of (mk := GEntry.mkd) (c := GEntry.ct) (k := k) (f := GEntry.enc) hx
    have hA := mid_at (mk := GEntry.mkd) (c := GEntry.ct) (k := k) (f := GEntry.enc) hx
    generalize hAe : (mkL GEntry.mkd GEntry.ct (xs.take i) k).map GEntry.enc = A at hR hA
    generalize hBe : (xs.drop (i + 1)).map GEntry.enc = B at hR hA
    obtain ⟨hg, hs, hl, hd⟩ := hA
    have hc := ctL_take_le (c := GEntry.ct) (i + 1) (l := xs)
    rw [ctL_snoc hx] at hc
    have hK0 : 0 ≤ k + ((ctL GEntry.ct (xs.take i) : Nat) : Int) := by omega
    have hK1 : k + ((ctL GEntry.ct (xs.take i) : Nat) : Int) + (GEntry.ct x : Nat) ≤ 4611686018427387904 := by omega
    generalize hK : k + ((ctL GEntry.ct (xs.take i) : Nat) : Int) = K at hK0 hK1
    simp only [GEntry.ct] at hK1
    simp only [↓bk_bind, ↓bk_map, ↓bk_ite, ↓bk_some, ↓reduceIte, Nat.reduceEqDiff, Nat.reduceLT, Nat.reduceLeDiff, Nat.reduceAdd, Nat.reduceMul, reduceCtorEq, List.reduceReplicate, go_sem, hw, hR, hg, hs, hl, hd, h0, h1, three_ne, hK, waK (K := K) (K' := K) rfl (by omega) (by omega), waK (K := K + 1) (K' := K + 1) (by omega) (by omega) (by omega), waK (K := K + 1) (K' := K + 1) rfl (by omega) (by omega), waK (K := K + 1 + 1) (K' := K + 2) (by omega) (by omega) (by omega), waK (K := K + 2) (K' := K + 2) rfl (by omega) (by omega), waK (K := K + 2 + 1) (K' := K + 3) (by omega) (by omega) (by omega), waK (K := K + 3) (K' := K + 3) rfl (by omega) (by omega), waK (K := K + 3 + 1) (K' := K + 4) (by omega) (by omega) (by omega), waK (K := K + 4) (K' := K + 4) rfl (by omega) (by omega), waK (K := K + 4 + 1) (K' := K + 5) (by omega) (by omega) (by omega), waK (K := K + 5) (K' := K + 5) rfl (by omega) (by omega), waK (K := K + 5 + 1) (K' := K + 6) (by omega) (by omega) (by omega)]
    subst hK hAe hBe
    refine ⟨?_, mid_snoc hx⟩
    rw [ctL_snoc hx]
    simp only [GEntry.ct]
    omega
  · intro _
    simp only [↓bk_bind, ↓bk_map, ↓bk_ite, ↓bk_some, ↓reduceIte, Nat.reduceEqDiff, Nat.reduceLT, Nat.reduceLeDiff, Nat.reduceAdd, Nat.reduceMul, reduceCtorEq, List.reduceReplicate, go_sem, List.take_length, List.drop_length, List.map_nil, List.append_nil, mkL_len]
def GCapture.mkd (x : GCapture) (k : Int) : GCapture := ⟨⟨k, (k + 1), (k + 2)⟩, (k + 3), ⟨(k + 4), (mkL iMk iCt x.Resource.Body (k + 5)), ⟨((k + 5) + (ctL iCt x.Resource.Body : Nat)), (((k + 5) + (ctL iCt x.Resource.Body : Nat)) + 1), (((k + 5) + (ctL iCt x.Resource.Body : Nat)) + 2)⟩⟩⟩
def GCapture.ct (x : GCapture) : Nat := 8 + ctL iCt x.Resource.Body
theorem GCapture.ct_le (x : GCapture) : x.ct ≤ 16 * (1 + x.size) := by
  simp only [GCapture.ct, GCapture.size, GResource.size]
  have h0 := ctL_le' (c := iCt) (fun y => by simp only [iCt]; omega) x.Resource.Body
  omega
def m_laws_markCaptureS : MC :=
(.seq (pr [.mv 4 (.c (.int .i64 0))] [0,1])
(.seq (.seq (pr [.mv 5 (.c (.int .i64 0))] [0,1,5])
(.block 0 (.loop ([0,1,5], [1]) (.seq (.seq (pr [.mv 6 (.s 5), .mv 7 (.s 0), .len 8 false (.s 7), .bin 9 false .lss (.s 6) (.s 8)] [0,1,5,9])
(.cond (.s 9) .skip (.exit 0)))
(.seq (.block 1 (.seq (pr [.mv 12 (.s 0), .mv 13 (.s 5), .mv 14 (.s 1), .idx 15 9 (.s 12) (.s 13), .fld 16 (.s 15) 0, .fld 17 (.s 16) 0, .store 1 (.s 17) (.s 14)] [0,1,5])
(.seq (pr [.mv 18 (.s 1), .bin 19 false .add (.s 18) (.c (.int .i64 1)), .mv 1 (.s 19)] [0,1,5])
(.seq (pr [.mv 20 (.s 0), .mv 21 (.s 5), .mv 22 (.s 1), .idx 23 9 (.s 20) (.s 21), .fld 24 (.s 23) 0, .fld 25 (.s 24) 1, .store 1 (.s 25) (.s 22)] [0,1,5])
(.seq (pr [.mv 26 (.s 1), .bin 27 false .add (.s 26) (.c (.int .i64 1)), .mv 1 (.s 27)] [0,1,5])
(.seq (pr [.mv 28 (.s 0), .mv 29 (.s 5), .mv 30 (.s 1), .idx 31 9 (.s 28) (.s 29), .fld 32 (.s 31) 0, .fld 33 (.s 32) 2, .store 1 (.s 33) (.s 30)] [0,1,5])
(.seq (pr [.mv 34 (.s 1), .bin 35 false .add (.s 34) (.c (.int .i64 1)), .mv 1 (.s 35)] [0,1,5])
(.seq (pr [.mv 36 (.s 0), .mv 37 (.s 5), .mv 38 (.s 1), .idx 39 9 (.s 36) (.s 37), .fld 40 (.s 39) 3, .store 1 (.s 40) (.s 38)] [0,1,5])
(.seq (pr [.mv 41 (.s 1), .bin 42 false .add (.s 41) (.c (.int .i64 1)), .mv 1 (.s 42)] [0,1,5])
(.seq (pr [.mv 43 (.s 0), .mv 44 (.s 5), .mv 45 (.s 1), .idx 46 9 (.s 43) (.s 44), .fld 47 (.s 46) 4, .fld 48 (.s 47) 0, .store 1 (.s 48) (.s 45)] [0,1,5])
(.seq (pr [.mv 49 (.s 1), .bin 50 false .add (.s 49) (.c (.int .i64 1)), .mv 1 (.s 50)] [0,1,5])
(.seq (pr [.mv 51 (.s 0), .mv 52 (.s 5), .idx 53 9 (.s 51) (.s 52), .fld 54 (.s 53) 4, .fld 55 (.s 54) 1, .loadT 56 1 (.s 55), .mv 57 (.s 1), .callI 58 [] (.f n_laws_markIntS) [.s 56, .s 57] [1] [0], .mv 1 (.s 58)] [0,1,5])
(.seq (pr [.mv 59 (.s 0), .mv 60 (.s 5), .mv 61 (.s 1), .idx 62 9 (.s 59) (.s 60), .fld 63 (.s 62) 4, .fld 64 (.s 63) 2, .fld 65 (.s 64) 0, .store 1 (.s 65) (.s 61)] [0,1,5])
(.seq (pr [.mv 66 (.s 1), .bin 67 false .add (.s 66) (.c (.int .i64 1)), .mv 1 (.s 67)] [0,1,5])
(.seq (pr [.mv 68 (.s 0), .mv 69 (.s 5), .mv 70 (.s 1), .idx 71 9 (.s 68) (.s 69), .fld 72 (.s 71) 4, .fld 73 (.s 72) 2, .fld 74 (.s 73) 1, .store 1 (.s 74) (.s 70)] [0,1,5])
(.seq (pr [.mv 75 (.s 1), .bin 76 false .add (.s 75) (.c (.int .i64 1)), .mv 1 (.s 76)] [0,1,5])
(.seq (pr [.mv 77 (.s 0), .mv 78 (.s 5), .mv 79 (.s 1), .idx 80 9 (.s 77) (.s 78), .fld 81 (.s 80) 4, .fld 82 (.s 81) 2, .fld 83 (.s 82) 2, .store 1 (.s 83) (.s 79)] [0,1,5])
(pr [.mv 84 (.s 1), .bin 85 false .add (.s 84) (.c (.int .i64 1)), .mv 1 (.s 85)] [0,1,5]))))))))))))))))))
(pr [.mv 10 (.s 5), .bin 11 false .add (.s 10) (.c (.int .i64 1)), .mv 5 (.s 11)] [0,1,5]))))))
(.seq (pr [.mv 86 (.s 1), .mv 4 (.s 86)] [4])
.ret)))
theorem c_laws_markCaptureS (xs : List GCapture) (k : Int) (hk : 0 ≤ k) (hN : k + (ctL GCapture.ct xs : Nat) ≤ 4611686018427387904) : CtrI Tryz.prog n_laws_markCaptureS [oL 9 (xs.map GCapture.enc), iI k] [some (9, (mkL GCapture.mkd GCapture.ct xs k).map GCapture.enc)] [rI (k + (ctL GCapture.ct xs : Nat))] := by
  refine ctrI_at (M := m_laws_markCaptureS) (m := 1) (n := 87) (res := [(.tmp 4, [false])]) hmix Tryz.func32 rfl (by kernel_rfl) rfl (by kernel_rfl) (by kernel_rfl) (Nat.le_of_ble_eq_true rfl) rfl rfl ?_; unfold m_laws_markCaptureS
  intro hb
  have hl := len_of_bd hb
  clear hb
  simp only [↓bk_bind, ↓bk_map, ↓bk_ite, ↓bk_some, ↓reduceIte, Nat.reduceEqDiff, Nat.reduceLT, Nat.reduceLeDiff, Nat.reduceAdd, Nat.reduceMul, reduceCtorEq, List.reduceReplicate, go_sem]
  refine loopK_rng xs (fun i => [(1, vI (k + (ctL GCapture.ct (xs.take i) : Nat))), (5, vI i)]) (fun i => [(0, ⟨1, .row true 9 ((mkL GCapture.mkd GCapture.ct (xs.take i) k).map GCapture.enc ++ (xs.drop i).map GCapture.enc)⟩)]) (fun _ => True) hl ?_
  simp only [↓bk_bind, ↓bk_map, ↓bk_ite, ↓bk_some, ↓reduceIte, Nat.reduceEqDiff, Nat.reduceLT, Nat.reduceLeDiff, Nat.reduceAdd, Nat.reduceMul, reduceCtorEq, List.reduceReplicate, go_sem]
  refine ⟨?_, trivial, ?_, ?_⟩
  · simp only [↓bk_bind, ↓bk_map, ↓bk_ite, ↓bk_some, ↓reduceIte, Nat.reduceEqDiff, Nat.reduceLT, Nat.reduceLeDiff, Nat.reduceAdd, Nat.reduceMul, reduceCtorEq, List.reduceReplicate, go_sem, List.take_zero, List.drop_zero, mkL_nil, ctL_nil]
    all_goals simp
  · intro i x hx _ h0 h1 hw
    have hR := mid_of (mk := GCapture.mkd) (c := GCapture.ct) (k := k) (f := GCapture.enc) hx
    have hA := mid_at (mk := GCapture.mkd) (c := GCapture.ct) (k := k) (f := GCapture.enc) hx
    generalize hAe : (mkL GCapture.mkd GCapture.ct (xs.take i) k).map GCapture.enc = A at hR hA
    generalize hBe : (xs.drop (i + 1)).map GCapture.enc = B at hR hA
    obtain ⟨hg, hs, hl, hd⟩ := hA
    have hc := ctL_take_le (c := GCapture.ct) (i + 1) (l := xs)
    rw [ctL_snoc hx] at hc
    have hK0 : 0 ≤ k + ((ctL GCapture.ct (xs.take i) : Nat) : Int) := by omega
    have hK1 : k + ((ctL GCapture.ct (xs.take i) : Nat) : Int) + (GCapture.ct x : Nat) ≤ 4611686018427387904 := by omega
    generalize hK : k + ((ctL GCapture.ct (xs.take i) : Nat) : Int) = K at hK0 hK1
    simp only [GCapture.ct] at hK1
    simp only [↓bk_bind, ↓bk_map, ↓bk_ite, ↓bk_some, ↓reduceIte, Nat.reduceEqDiff, Nat.reduceLT, Nat.reduceLeDiff, Nat.reduceAdd, Nat.reduceMul, reduceCtorEq, List.reduceReplicate, go_sem, hw, hR, hg, hs, hl, hd, h0, h1, three_ne, hK, waK (K := K) (K' := K) rfl (by omega) (by omega), waK (K := K + 1) (K' := K + 1) (by omega) (by omega) (by omega), waK (K := K + 1) (K' := K + 1) rfl (by omega) (by omega), waK (K := K + 1 + 1) (K' := K + 2) (by omega) (by omega) (by omega), waK (K := K + 2) (K' := K + 2) rfl (by omega) (by omega), waK (K := K + 2 + 1) (K' := K + 3) (by omega) (by omega) (by omega), waK (K := K + 3) (K' := K + 3) rfl (by omega) (by omega), waK (K := K + 3 + 1) (K' := K + 4) (by omega) (by omega) (by omega), waK (K := K + 4) (K' := K + 4) rfl (by omega) (by omega), waK (K := K + 4 + 1) (K' := K + 5) (by omega) (by omega) (by omega), waK (K := K + 5) (K' := K + 5) rfl (by omega) (by omega), waK (K := K + 5 + 1) (K' := K + 6) (by omega) (by omega) (by omega)]
    refine callIK_of (c_laws_markIntS x.Resource.Body (K + 5) (by omega) (by omega)) ?_
    have hK1 : 0 ≤ K + 5 + (ctL iCt x.Resource.Body : Nat) := by omega
    generalize eK1 : K + 5 + ((ctL iCt x.Resource.Body : Nat) : Int) = K1 at hK1
    simp only [↓bk_bind, ↓bk_map, ↓bk_ite, ↓bk_some, ↓reduceIte, Nat.reduceEqDiff, Nat.reduceLT, Nat.reduceLeDiff, Nat.reduceAdd, Nat.reduceMul, reduceCtorEq, List.reduceReplicate, go_sem, hw, hR, hg, hs, hl, hd, h0, h1, three_ne, hK, waK (K := K1) (K' := K1) rfl (by omega) (by omega), waK (K := K1 + 1) (K' := K1 + 1) (by omega) (by omega) (by omega), waK (K := K1 + 1) (K' := K1 + 1) rfl (by omega) (by omega), waK (K := K1 + 1 + 1) (K' := K1 + 2) (by omega) (by omega) (by omega), waK (K := K1 + 2) (K' := K1 + 2) rfl (by omega) (by omega), waK (K := K1 + 2 + 1) (K' := K1 + 3) (by omega) (by omega) (by omega), waK (K := K1 + 3) (K' := K1 + 3) rfl (by omega) (by omega), waK (K := K1 + 3 + 1) (K' := K1 + 4) (by omega) (by omega) (by omega)]
    subst eK1
    subst hK hAe hBe
    refine ⟨?_, mid_snoc hx⟩
    rw [ctL_snoc hx]
    simp only [GCapture.ct]
    omega
  · intro _
    simp only [↓bk_bind, ↓bk_map, ↓bk_ite, ↓bk_some, ↓reduceIte, Nat.reduceEqDiff, Nat.reduceLT, Nat.reduceLeDiff, Nat.reduceAdd, Nat.reduceMul, reduceCtorEq, List.reduceReplicate, go_sem, List.take_length, List.drop_length, List.map_nil, List.append_nil, mkL_len]
def m_laws_heldCaptureS : MC :=
(.seq (pr [.mv 4 (.c (.int .i64 0))] [0,1])
(.seq (.seq (pr [.mv 5 (.c (.int .i64 0))] [0,1,5])
(.block 0 (.loop ([0,1,5], []) (.seq (.seq (pr [.mv 6 (.s 5), .mv 7 (.s 0), .len 8 false (.s 7), .bin 9 false .lss (.s 6) (.s 8)] [0,1,5,9])
(.cond (.s 9) .skip (.exit 0)))
(.seq (.block 1 (.seq (.seq (pr [.mv 12 (.s 0), .mv 13 (.s 5), .idx 14 9 (.s 12) (.s 13), .fld 15 (.s 14) 0, .fld 16 (.s 15) 0, .load 17 false 1 (.s 16), .mv 18 (.s 1), .bin 19 false .neq (.s 17) (.s 18)] [0,1,5,19])
(.cond (.s 19) (.seq (pr [.mv 4 (.c (.int .i64 (-1)))] [4])
.ret) .skip))
(.seq (pr [.mv 20 (.s 1), .bin 21 false .add (.s 20) (.c (.int .i64 1)), .mv 1 (.s 21)] [0,1,5])
(.seq (.seq (pr [.mv 22 (.s 0), .mv 23 (.s 5), .idx 24 9 (.s 22) (.s 23), .fld 25 (.s 24) 0, .fld 26 (.s 25) 1, .load 27 false 1 (.s 26), .mv 28 (.s 1), .bin 29 false .neq (.s 27) (.s 28)] [0,1,5,29])
(.cond (.s 29) (.seq (pr [.mv 4 (.c (.int .i64 (-1)))] [4])
.ret) .skip))
(.seq (pr [.mv 30 (.s 1), .bin 31 false .add (.s 30) (.c (.int .i64 1)), .mv 1 (.s 31)] [0,1,5])
(.seq (.seq (pr [.mv 32 (.s 0), .mv 33 (.s 5), .idx 34 9 (.s 32) (.s 33), .fld 35 (.s 34) 0, .fld 36 (.s 35) 2, .load 37 false 1 (.s 36), .mv 38 (.s 1), .bin 39 false .neq (.s 37) (.s 38)] [0,1,5,39])
(.cond (.s 39) (.seq (pr [.mv 4 (.c (.int .i64 (-1)))] [4])
.ret) .skip))
(.seq (pr [.mv 40 (.s 1), .bin 41 false .add (.s 40) (.c (.int .i64 1)), .mv 1 (.s 41)] [0,1,5])
(.seq (.seq (pr [.mv 42 (.s 0), .mv 43 (.s 5), .idx 44 9 (.s 42) (.s 43), .fld 45 (.s 44) 3, .load 46 false 1 (.s 45), .mv 47 (.s 1), .bin 48 false .neq (.s 46) (.s 47)] [0,1,5,48])
(.cond (.s 48) (.seq (pr [.mv 4 (.c (.int .i64 (-1)))] [4])
.ret) .skip))
(.seq (pr [.mv 49 (.s 1), .bin 50 false .add (.s 49) (.c (.int .i64 1)), .mv 1 (.s 50)] [0,1,5])
(.seq (.seq (pr [.mv 51 (.s 0), .mv 52 (.s 5), .idx 53 9 (.s 51) (.s 52), .fld 54 (.s 53) 4, .fld 55 (.s 54) 0, .load 56 false 1 (.s 55), .mv 57 (.s 1), .bin 58 false .neq (.s 56) (.s 57)] [0,1,5,58])
(.cond (.s 58) (.seq (pr [.mv 4 (.c (.int .i64 (-1)))] [4])
.ret) .skip))
(.seq (pr [.mv 59 (.s 1), .bin 60 false .add (.s 59) (.c (.int .i64 1)), .mv 1 (.s 60)] [0,1,5])
(.seq (pr [.mv 61 (.s 0), .mv 62 (.s 5), .idx 63 9 (.s 61) (.s 62), .fld 64 (.s 63) 4, .fld 65 (.s 64) 1, .load 66 false 1 (.s 65), .mv 67 (.s 1), .call 68 [] (.f n_laws_heldIntS) [.s 66, .s 67], .mv 1 (.s 68)] [0,1,5])
(.seq (.seq (pr [.mv 69 (.s 1), .bin 70 false .lss (.s 69) (.c (.int .i64 0))] [0,1,5,70])
(.cond (.s 70) (.seq (pr [.mv 4 (.c (.int .i64 (-1)))] [4])
.ret) .skip))
(.seq (.seq (pr [.mv 71 (.s 0), .mv 72 (.s 5), .idx 73 9 (.s 71) (.s 72), .fld 74 (.s 73) 4, .fld 75 (.s 74) 2, .fld 76 (.s 75) 0, .load 77 false 1 (.s 76), .mv 78 (.s 1), .bin 79 false .neq (.s 77) (.s 78)] [0,1,5,79])
(.cond (.s 79) (.seq (pr [.mv 4 (.c (.int .i64 (-1)))] [4])
.ret) .skip))
(.seq (pr [.mv 80 (.s 1), .bin 81 false .add (.s 80) (.c (.int .i64 1)), .mv 1 (.s 81)] [0,1,5])
(.seq (.seq (pr [.mv 82 (.s 0), .mv 83 (.s 5), .idx 84 9 (.s 82) (.s 83), .fld 85 (.s 84) 4, .fld 86 (.s 85) 2, .fld 87 (.s 86) 1, .load 88 false 1 (.s 87), .mv 89 (.s 1), .bin 90 false .neq (.s 88) (.s 89)] [0,1,5,90])
(.cond (.s 90) (.seq (pr [.mv 4 (.c (.int .i64 (-1)))] [4])
.ret) .skip))
(.seq (pr [.mv 91 (.s 1), .bin 92 false .add (.s 91) (.c (.int .i64 1)), .mv 1 (.s 92)] [0,1,5])
(.seq (.seq (pr [.mv 93 (.s 0), .mv 94 (.s 5), .idx 95 9 (.s 93) (.s 94), .fld 96 (.s 95) 4, .fld 97 (.s 96) 2, .fld 98 (.s 97) 2, .load 99 false 1 (.s 98), .mv 100 (.s 1), .bin 101 false .neq (.s 99) (.s 100)] [0,1,5,101])
(.cond (.s 101) (.seq (pr [.mv 4 (.c (.int .i64 (-1)))] [4])
.ret) .skip))
(pr [.mv 102 (.s 1), .bin 103 false .add (.s 102) (.c (.int .i64 1)), .mv 1 (.s 103)] [0,1,5])))))))))))))))))))
(pr [.mv 10 (.s 5), .bin 11 false .add (.s 10) (.c (.int .i64 1)), .mv 5 (.s 11)] [0,1,5]))))))
(.seq (pr [.mv 104 (.s 1), .mv 4 (.s 104)] [4])
.ret)))
theorem c_laws_heldCaptureS (xs : List GCapture) (k : Int) (hk : 0 ≤ k) (hN : k + (ctL GCapture.ct xs : Nat) ≤ 4611686018427387904) : Ctr Tryz.prog n_laws_heldCaptureS [aL 9 ((mkL GCapture.mkd GCapture.ct xs k).map GCapture.enc), aI k] [rI (k + (ctL GCapture.ct xs : Nat))] := by
  refine ctr_at (M := m_laws_heldCaptureS) (m := 0) (n := 105) (res := [(.tmp 4, [false])]) hmix Tryz.func33 rfl (by kernel_rfl) rfl (by kernel_rfl) (by kernel_rfl) (Nat.le_of_ble_eq_true rfl) ?_; unfold m_laws_heldCaptureS
  intro hb
  simp only [bdA, bdL, bdT, bdR, bdR_map, wfB_i64, wfB_bool, wfB_str, roomB, and_true, true_and, List.length_map] at hb
  have hl := hb.1.1
  rw [mkL_len] at hl
  clear hb
  simp only [↓bk_bind, ↓bk_map, ↓bk_ite, ↓bk_some, ↓reduceIte, Nat.reduceEqDiff, Nat.reduceLT, Nat.reduceLeDiff, Nat.reduceAdd, Nat.reduceMul, reduceCtorEq, List.reduceReplicate, go_sem]
  refine loopK_rng xs (fun i => [(1, vI (k + (ctL GCapture.ct (xs.take i) : Nat))), (5, vI i)]) (fun i => []) (fun _ => True) hl ?_
  simp only [↓bk_bind, ↓bk_map, ↓bk_ite, ↓bk_some, ↓reduceIte, Nat.reduceEqDiff, Nat.reduceLT, Nat.reduceLeDiff, Nat.reduceAdd, Nat.reduceMul, reduceCtorEq, List.reduceReplicate, go_sem]
  refine ⟨?_, trivial, ?_, ?_⟩
  · simp only [↓bk_bind, ↓bk_map, ↓bk_ite, ↓bk_some, ↓reduceIte, Nat.reduceEqDiff, Nat.reduceLT, Nat.reduceLeDiff, Nat.reduceAdd, Nat.reduceMul, reduceCtorEq, List.reduceReplicate, go_sem, List.take_zero, ctL_nil]
    all_goals simp
  · intro i x hx _ h0 h1 hw
    have hg := mkL_get (mk := GCapture.mkd) (c := GCapture.ct) (k := k) hx
    have hc := ctL_take_le (c := GCapture.ct) (i + 1) (l := xs)
    rw [ctL_snoc hx] at hc
    have hK0 : 0 ≤ k + ((ctL GCapture.ct (xs.take i) : Nat) : Int) := by omega
    have hK1 : k + ((ctL GCapture.ct (xs.take i) : Nat) : Int) + (GCapture.ct x : Nat) ≤ 4611686018427387904 := by omega
    generalize hK : k + ((ctL GCapture.ct (xs.take i) : Nat) : Int) = K at hK0 hK1 hg
    simp only [GCapture.ct] at hK1
    try simp only [↓bk_bind, ↓bk_map, ↓bk_ite, ↓bk_some, ↓reduceIte, Nat.reduceEqDiff, Nat.reduceLT, Nat.reduceLeDiff, Nat.reduceAdd, Nat.reduceMul, reduceCtorEq, List.reduceReplicate, go_sem, hw, bk_eq hg, h0, h1, mkL_len, hK, GCapture.mkd, bne_self_eq_false, beq_self_eq_true, three_ne, bMk, waK (K := K) (K' := K) rfl (by omega) (by omega), waK (K := K + 1) (K' := K + 1) (by omega) (by omega) (by omega), waK (K := K + 1) (K' := K + 1) rfl (by omega) (by omega), waK (K := K + 1 + 1) (K' := K + 2) (by omega) (by omega) (by omega), waK (K := K + 2) (K' := K + 2) rfl (by omega) (by omega), waK (K := K + 2 + 1) (K' := K + 3) (by omega) (by omega) (by omega), waK (K := K + 3) (K' := K + 3) rfl (by omega) (by omega), waK (K := K + 3 + 1) (K' := K + 4) (by omega) (by omega) (by omega), waK (K := K + 4) (K' := K + 4) rfl (by omega) (by omega), waK (K := K + 4 + 1) (K' := K + 5) (by omega) (by omega) (by omega), waK (K := K + 5) (K' := K + 5) rfl (by omega) (by omega), waK (K := K + 5 + 1) (K' := K + 6) (by omega) (by omega) (by omega)]
    refine callK_of (c_laws_heldIntS x.Resource.Body (K + 5) (by omega) (by omega)) ?_
    have hK1 : 0 ≤ K + 5 + (ctL iCt x.Resource.Body : Nat) := by omega
    generalize eK1 : K + 5 + ((ctL iCt x.Resource.Body : Nat) : Int) = K1 at hK1
    have nK1 : ¬ K1 < 0 := by omega
    simp only [↓bk_bind, ↓bk_map, ↓bk_ite, ↓bk_some, ↓reduceIte, Nat.reduceEqDiff, Nat.reduceLT, Nat.reduceLeDiff, Nat.reduceAdd, Nat.reduceMul, reduceCtorEq, List.reduceReplicate, go_sem, hw, bk_eq hg, h0, h1, mkL_len, hK, GCapture.mkd, bne_self_eq_false, beq_self_eq_true, three_ne, bMk, nK1, eK1]
    intro _
    simp only [↓bk_bind, ↓bk_map, ↓bk_ite, ↓bk_some, ↓reduceIte, Nat.reduceEqDiff, Nat.reduceLT, Nat.reduceLeDiff, Nat.reduceAdd, Nat.reduceMul, reduceCtorEq, List.reduceReplicate, go_sem, hw, bk_eq hg, h0, h1, mkL_len, hK, GCapture.mkd, bne_self_eq_false, beq_self_eq_true, three_ne, bMk, nK1, eK1, waK (K := K1) (K' := K1) rfl (by omega) (by omega), waK (K := K1 + 1) (K' := K1 + 1) (by omega) (by omega) (by omega), waK (K := K1 + 1) (K' := K1 + 1) rfl (by omega) (by omega), waK (K := K1 + 1 + 1) (K' := K1 + 2) (by omega) (by omega) (by omega), waK (K := K1 + 2) (K' := K1 + 2) rfl (by omega) (by omega), waK (K := K1 + 2 + 1) (K' := K1 + 3) (by omega) (by omega) (by omega), waK (K := K1 + 3) (K' := K1 + 3) rfl (by omega) (by omega), waK (K := K1 + 3 + 1) (K' := K1 + 4) (by omega) (by omega) (by omega)]
    subst eK1
    rw [ctL_snoc hx]
    simp only [GCapture.ct]
    omega
  · intro _
    simp only [↓bk_bind, ↓bk_map, ↓bk_ite, ↓bk_some, ↓reduceIte, Nat.reduceEqDiff, Nat.reduceLT, Nat.reduceLeDiff, Nat.reduceAdd, Nat.reduceMul, reduceCtorEq, List.reduceReplicate, go_sem, List.take_length, mkL_len]
def GCapture.mks (x : GCapture) (k : Int) : GCapture := { x with Resource := x.Resource.mks (k) }
def GCapture.cts (x : GCapture) : Nat := x.Resource.cts
theorem GCapture.cts_le (x : GCapture) : x.cts ≤ 16 * x.size := by
  simp only [GCapture.cts, GCapture.size]
  have hResource := GResource.cts_le x.Resource
  omega
@[go_sem] theorem GCapture.mks_len0 (x : GCapture) (k : Int) : ((x.mks k).Resource.Body).length = x.Resource.Body.length := mkL_len
def GChoice.mkd (x : GChoice) (k : Int) : GChoice := ⟨k, (k + 1)⟩
def GChoice.ct (x : GChoice) : Nat := 2
def GWander.mks (x : GWander) (k : Int) : GWander := { x with State := x.State.mks (k), Choices := mkL GChoice.mkd GChoice.ct x.Choices (k + (x.State.cts : Nat)), Labels := mkL iMk iCt x.Labels (k + (x.State.cts : Nat) + (ctL GChoice.ct x.Choices : Nat)) }
def GWander.cts (x : GWander) : Nat := x.State.cts + ctL GChoice.ct x.Choices + ctL iCt x.Labels
theorem GWander.cts_le (x : GWander) : x.cts ≤ 16 * x.size := by
  simp only [GWander.cts, GWander.size]
  have hState := GState.cts_le x.State
  have hChoices := ctL_le' (c := GChoice.ct) (fun y => by simp only [GChoice.ct]; omega) x.Choices
  have hLabels := ctL_le' (c := iCt) (fun y => by simp only [iCt]; omega) x.Labels
  omega
@[go_sem] theorem GWander.mks_len0 (x : GWander) (k : Int) : ((x.mks k).State.Regs).length = x.State.Regs.length := mkL_len
@[go_sem] theorem GWander.mks_len1 (x : GWander) (k : Int) : ((x.mks k).State.Slots).length = x.State.Slots.length := mkL_len
@[go_sem] theorem GWander.mks_len2 (x : GWander) (k : Int) : ((x.mks k).State.Nodes).length = x.State.Nodes.length := mkL_len
@[go_sem] theorem GWander.mks_len3 (x : GWander) (k : Int) : ((x.mks k).Choices).length = x.Choices.length := mkL_len
@[go_sem] theorem GWander.mks_len4 (x : GWander) (k : Int) : ((x.mks k).Labels).length = x.Labels.length := mkL_len
def GModel.mkd (x : GModel) (k : Int) : GModel := ⟨k, (k + 1), (k + 2), (bMk x.Fits (k + 3))⟩
def GModel.ct (x : GModel) : Nat := 4
def GShown.mkd (x : GShown) (k : Int) : GShown := ⟨k, ⟨(k + 1), (k + 2), (k + 3)⟩⟩
def GShown.ct (x : GShown) : Nat := 4
def GLeaf.mkd (x : GLeaf) (k : Int) : GLeaf := ⟨k, (k + 1), (bMk x.Hidden (k + 2)), (k + 3)⟩
def GLeaf.ct (x : GLeaf) : Nat := 4
def GEdition.mks (x : GEdition) (k : Int) : GEdition := { x with Captures := mkL GCapture.mkd GCapture.ct x.Captures (k), Hidden := mkL GAddress.mkd GAddress.ct x.Hidden (k + (ctL GCapture.ct x.Captures : Nat)) }
def GEdition.cts (x : GEdition) : Nat := ctL GCapture.ct x.Captures + ctL GAddress.ct x.Hidden
theorem GEdition.cts_le (x : GEdition) : x.cts ≤ 16 * x.size := by
  simp only [GEdition.cts, GEdition.size]
  have hCaptures := ctL_le (c := GCapture.ct) (s := GCapture.size) GCapture.ct_le x.Captures
  have hHidden := ctL_le' (c := GAddress.ct) (fun y => by simp only [GAddress.ct]; omega) x.Hidden
  omega
@[go_sem] theorem GEdition.mks_len0 (x : GEdition) (k : Int) : ((x.mks k).Captures).length = x.Captures.length := mkL_len
@[go_sem] theorem GEdition.mks_len1 (x : GEdition) (k : Int) : ((x.mks k).Hidden).length = x.Hidden.length := mkL_len
def GExclusion.mkd (x : GExclusion) (k : Int) : GExclusion := ⟨k, (k + 1), (k + 2), (k + 3), (k + 4)⟩
def GExclusion.ct (x : GExclusion) : Nat := 5
def m_laws_markExclusionS : MC :=
(.seq (pr [.mv 4 (.c (.int .i64 0))] [0,1])
(.seq (.seq (pr [.mv 5 (.c (.int .i64 0))] [0,1,5])
(.block 0 (.loop ([0,1,5], []) (.seq (.seq (pr [.mv 6 (.s 5), .mv 7 (.s 0), .len 8 false (.s 7), .bin 9 false .lss (.s 6) (.s 8)] [0,1,5,9])
(.cond (.s 9) .skip (.exit 0)))
(.seq (.block 1 (.seq (pr [.mv 12 (.s 0), .mv 13 (.s 5), .mv 14 (.s 1), .idx 15 5 (.s 12) (.s 13), .fld 16 (.s 15) 0, .store 1 (.s 16) (.s 14)] [0,1,5])
(.seq (pr [.mv 17 (.s 1), .bin 18 false .add (.s 17) (.c (.int .i64 1)), .mv 1 (.s 18)] [0,1,5])
(.seq (pr [.mv 19 (.s 0), .mv 20 (.s 5), .mv 21 (.s 1), .idx 22 5 (.s 19) (.s 20), .fld 23 (.s 22) 1, .store 1 (.s 23) (.s 21)] [0,1,5])
(.seq (pr [.mv 24 (.s 1), .bin 25 false .add (.s 24) (.c (.int .i64 1)), .mv 1 (.s 25)] [0,1,5])
(.seq (pr [.mv 26 (.s 0), .mv 27 (.s 5), .mv 28 (.s 1), .idx 29 5 (.s 26) (.s 27), .fld 30 (.s 29) 2, .store 1 (.s 30) (.s 28)] [0,1,5])
(.seq (pr [.mv 31 (.s 1), .bin 32 false .add (.s 31) (.c (.int .i64 1)), .mv 1 (.s 32)] [0,1,5])
(.seq (pr [.mv 33 (.s 0), .mv 34 (.s 5), .mv 35 (.s 1), .idx 36 5 (.s 33) (.s 34), .fld 37 (.s 36) 3, .store 1 (.s 37) (.s 35)] [0,1,5])
(.seq (pr [.mv 38 (.s 1), .bin 39 false .add (.s 38) (.c (.int .i64 1)), .mv 1 (.s 39)] [0,1,5])
(.seq (pr [.mv 40 (.s 0), .mv 41 (.s 5), .mv 42 (.s 1), .idx 43 5 (.s 40) (.s 41), .fld 44 (.s 43) 4, .store 1 (.s 44) (.s 42)] [0,1,5])
(pr [.mv 45 (.s 1), .bin 46 false .add (.s 45) (.c (.int .i64 1)), .mv 1 (.s 46)] [0,1,5])))))))))))
(pr [.mv 10 (.s 5), .bin 11 false .add (.s 10) (.c (.int .i64 1)), .mv 5 (.s 11)] [0,1,5]))))))
(.seq (pr [.mv 47 (.s 1), .mv 4 (.s 47)] [4])
.ret)))
theorem c_laws_markExclusionS (xs : List GExclusion) (k : Int) (hk : 0 ≤ k) (hN : k + (ctL GExclusion.ct xs : Nat) ≤ 4611686018427387904) : CtrI Tryz.prog n_laws_markExclusionS [oL 5 (xs.map GExclusion.enc), iI k] [some (5, (mkL GExclusion.mkd GExclusion.ct xs k).map GExclusion.enc)] [rI (k + (ctL GExclusion.ct xs : Nat))] := by
  refine ctrI_at (M := m_laws_markExclusionS) (m := 0) (n := 48) (res := [(.tmp 4, [false])]) hmix Tryz.func100 rfl (by kernel_rfl) rfl (by kernel_rfl) (by kernel_rfl) (Nat.le_of_ble_eq_true rfl) rfl rfl ?_; unfold m_laws_markExclusionS
  intro hb
  have hl := len_of_bd hb
  clear hb
  simp only [↓bk_bind, ↓bk_map, ↓bk_ite, ↓bk_some, ↓reduceIte, Nat.reduceEqDiff, Nat.reduceLT, Nat.reduceLeDiff, Nat.reduceAdd, Nat.reduceMul, reduceCtorEq, List.reduceReplicate, go_sem]
  refine loopK_rng xs (fun i => [(1, vI (k + (ctL GExclusion.ct (xs.take i) : Nat))), (5, vI i)]) (fun i => [(0, ⟨1, .row true 5 ((mkL GExclusion.mkd GExclusion.ct (xs.take i) k).map GExclusion.enc ++ (xs.drop i).map GExclusion.enc)⟩)]) (fun _ => True) hl ?_
  simp only [↓bk_bind, ↓bk_map, ↓bk_ite, ↓bk_some, ↓reduceIte, Nat.reduceEqDiff, Nat.reduceLT, Nat.reduceLeDiff, Nat.reduceAdd, Nat.reduceMul, reduceCtorEq, List.reduceReplicate, go_sem]
  refine ⟨?_, trivial, ?_, ?_⟩
  · simp only [↓bk_bind, ↓bk_map, ↓bk_ite, ↓bk_some, ↓reduceIte, Nat.reduceEqDiff, Nat.reduceLT, Nat.reduceLeDiff, Nat.reduceAdd, Nat.reduceMul, reduceCtorEq, List.reduceReplicate, go_sem, List.take_zero, List.drop_zero, mkL_nil, ctL_nil]
    all_goals simp
  · intro i x hx _ h0 h1 hw
    have hR := mid_of (mk := GExclusion.mkd) (c := GExclusion.ct) (k := k) (f := GExclusion.enc) hx
    have hA := mid_at (mk := GExclusion.mkd) (c := GExclusion.ct) (k := k) (f := GExclusion.enc) hx
    generalize hAe : (mkL GExclusion.mkd GExclusion.ct (xs.take i) k).map GExclusion.enc = A at hR hA
    generalize hBe : (xs.drop (i + 1)).map GExclusion.enc = B at hR hA
    obtain ⟨hg, hs, hl, hd⟩ := hA
    have hc := ctL_take_le (c := GExclusion.ct) (i + 1) (l := xs)
    rw [ctL_snoc hx] at hc
    have hK0 : 0 ≤ k + ((ctL GExclusion.ct (xs.take i) : Nat) : Int) := by omega
    have hK1 : k + ((ctL GExclusion.ct (xs.take i) : Nat) : Int) + (GExclusion.ct x : Nat) ≤ 4611686018427387904 := by omega
    generalize hK : k + ((ctL GExclusion.ct (xs.take i) : Nat) : Int) = K at hK0 hK1
    simp only [GExclusion.ct] at hK1
    simp only [↓bk_bind, ↓bk_map, ↓bk_ite, ↓bk_some, ↓reduceIte, Nat.reduceEqDiff, Nat.reduceLT, Nat.reduceLeDiff, Nat.reduceAdd, Nat.reduceMul, reduceCtorEq, List.reduceReplicate, go_sem, hw, hR, hg, hs, hl, hd, h0, h1, three_ne, hK, waK (K := K) (K' := K) rfl (by omega) (by omega), waK (K := K + 1) (K' := K + 1) (by omega) (by omega) (by omega), waK (K := K + 1) (K' := K + 1) rfl (by omega) (by omega), waK (K := K + 1 + 1) (K' := K + 2) (by omega) (by omega) (by omega), waK (K := K + 2) (K' := K + 2) rfl (by omega) (by omega), waK (K := K + 2 + 1) (K' := K + 3) (by omega) (by omega) (by omega), waK (K := K + 3) (K' := K + 3) rfl (by omega) (by omega), waK (K := K + 3 + 1) (K' := K + 4) (by omega) (by omega) (by omega), waK (K := K + 4) (K' := K + 4) rfl (by omega) (by omega), waK (K := K + 4 + 1) (K' := K + 5) (by omega) (by omega) (by omega), waK (K := K + 5) (K' := K + 5) rfl (by omega) (by omega), waK (K := K + 5 + 1) (K' := K + 6) (by omega) (by omega) (by omega)]
    subst hK hAe hBe
    refine ⟨?_, mid_snoc hx⟩
    rw [ctL_snoc hx]
    simp only [GExclusion.ct]
    omega
  · intro _
    simp only [↓bk_bind, ↓bk_map, ↓bk_ite, ↓bk_some, ↓reduceIte, Nat.reduceEqDiff, Nat.reduceLT, Nat.reduceLeDiff, Nat.reduceAdd, Nat.reduceMul, reduceCtorEq, List.reduceReplicate, go_sem, List.take_length, List.drop_length, List.map_nil, List.append_nil, mkL_len]
def GStatement.mkd (x : GStatement) (k : Int) : GStatement := ⟨k, (k + 1), (k + 2), (k + 3)⟩
def GStatement.ct (x : GStatement) : Nat := 4
def m_laws_markStatementS : MC :=
(.seq (pr [.mv 4 (.c (.int .i64 0))] [0,1])
(.seq (.seq (pr [.mv 5 (.c (.int .i64 0))] [0,1,5])
(.block 0 (.loop ([0,1,5], []) (.seq (.seq (pr [.mv 6 (.s 5), .mv 7 (.s 0), .len 8 false (.s 7), .bin 9 false .lss (.s 6) (.s 8)] [0,1,5,9])
(.cond (.s 9) .skip (.exit 0)))
(.seq (.block 1 (.seq (pr [.mv 12 (.s 0), .mv 13 (.s 5), .mv 14 (.s 1), .idx 15 4 (.s 12) (.s 13), .fld 16 (.s 15) 0, .store 1 (.s 16) (.s 14)] [0,1,5])
(.seq (pr [.mv 17 (.s 1), .bin 18 false .add (.s 17) (.c (.int .i64 1)), .mv 1 (.s 18)] [0,1,5])
(.seq (pr [.mv 19 (.s 0), .mv 20 (.s 5), .mv 21 (.s 1), .idx 22 4 (.s 19) (.s 20), .fld 23 (.s 22) 1, .store 1 (.s 23) (.s 21)] [0,1,5])
(.seq (pr [.mv 24 (.s 1), .bin 25 false .add (.s 24) (.c (.int .i64 1)), .mv 1 (.s 25)] [0,1,5])
(.seq (pr [.mv 26 (.s 0), .mv 27 (.s 5), .mv 28 (.s 1), .idx 29 4 (.s 26) (.s 27), .fld 30 (.s 29) 2, .store 1 (.s 30) (.s 28)] [0,1,5])
(.seq (pr [.mv 31 (.s 1), .bin 32 false .add (.s 31) (.c (.int .i64 1)), .mv 1 (.s 32)] [0,1,5])
(.seq (pr [.mv 33 (.s 0), .mv 34 (.s 5), .mv 35 (.s 1), .idx 36 4 (.s 33) (.s 34), .fld 37 (.s 36) 3, .store 1 (.s 37) (.s 35)] [0,1,5])
(pr [.mv 38 (.s 1), .bin 39 false .add (.s 38) (.c (.int .i64 1)), .mv 1 (.s 39)] [0,1,5])))))))))
(pr [.mv 10 (.s 5), .bin 11 false .add (.s 10) (.c (.int .i64 1)), .mv 5 (.s 11)] [0,1,5]))))))
(.seq (pr [.mv 40 (.s 1), .mv 4 (.s 40)] [4])
.ret)))
theorem c_laws_markStatementS (xs : List GStatement) (k : Int) (hk : 0 ≤ k) (hN : k + (ctL GStatement.ct xs : Nat) ≤ 4611686018427387904) : CtrI Tryz.prog n_laws_markStatementS [oL 4 (xs.map GStatement.enc), iI k] [some (4, (mkL GStatement.mkd GStatement.ct xs k).map GStatement.enc)] [rI (k + (ctL GStatement.ct xs : Nat))] := by
  refine ctrI_at (M := m_laws_markStatementS) (m := 0) (n := 41) (res := [(.tmp 4, [false])]) hmix Tryz.func103 rfl (by kernel_rfl) rfl (by kernel_rfl) (by kernel_rfl) (Nat.le_of_ble_eq_true rfl) rfl rfl ?_; unfold m_laws_markStatementS
  intro hb
  have hl := len_of_bd hb
  clear hb
  simp only [↓bk_bind, ↓bk_map, ↓bk_ite, ↓bk_some, ↓reduceIte, Nat.reduceEqDiff, Nat.reduceLT, Nat.reduceLeDiff, Nat.reduceAdd, Nat.reduceMul, reduceCtorEq, List.reduceReplicate, go_sem]
  refine loopK_rng xs (fun i => [(1, vI (k + (ctL GStatement.ct (xs.take i) : Nat))), (5, vI i)]) (fun i => [(0, ⟨1, .row true 4 ((mkL GStatement.mkd GStatement.ct (xs.take i) k).map GStatement.enc ++ (xs.drop i).map GStatement.enc)⟩)]) (fun _ => True) hl ?_
  simp only [↓bk_bind, ↓bk_map, ↓bk_ite, ↓bk_some, ↓reduceIte, Nat.reduceEqDiff, Nat.reduceLT, Nat.reduceLeDiff, Nat.reduceAdd, Nat.reduceMul, reduceCtorEq, List.reduceReplicate, go_sem]
  refine ⟨?_, trivial, ?_, ?_⟩
  · simp only [↓bk_bind, ↓bk_map, ↓bk_ite, ↓bk_some, ↓reduceIte, Nat.reduceEqDiff, Nat.reduceLT, Nat.reduceLeDiff, Nat.reduceAdd, Nat.reduceMul, reduceCtorEq, List.reduceReplicate, go_sem, List.take_zero, List.drop_zero, mkL_nil, ctL_nil]
    all_goals simp
  · intro i x hx _ h0 h1 hw
    have hR := mid_of (mk := GStatement.mkd) (c := GStatement.ct) (k := k) (f := GStatement.enc) hx
    have hA := mid_at (mk := GStatement.mkd) (c := GStatement.ct) (k := k) (f := GStatement.enc) hx
    generalize hAe : (mkL GStatement.mkd GStatement.ct (xs.take i) k).map GStatement.enc = A at hR hA
    generalize hBe : (xs.drop (i + 1)).map GStatement.enc = B at hR hA
    obtain ⟨hg, hs, hl, hd⟩ := hA
    have hc := ctL_take_le (c := GStatement.ct) (i + 1) (l := xs)
    rw [ctL_snoc hx] at hc
    have hK0 : 0 ≤ k + ((ctL GStatement.ct (xs.take i) : Nat) : Int) := by omega
    have hK1 : k + ((ctL GStatement.ct (xs.take i) : Nat) : Int) + (GStatement.ct x : Nat) ≤ 4611686018427387904 := by omega
    generalize hK : k + ((ctL GStatement.ct (xs.take i) : Nat) : Int) = K at hK0 hK1
    simp only [GStatement.ct] at hK1
    simp only [↓bk_bind, ↓bk_map, ↓bk_ite, ↓bk_some, ↓reduceIte, Nat.reduceEqDiff, Nat.reduceLT, Nat.reduceLeDiff, Nat.reduceAdd, Nat.reduceMul, reduceCtorEq, List.reduceReplicate, go_sem, hw, hR, hg, hs, hl, hd, h0, h1, three_ne, hK, waK (K := K) (K' := K) rfl (by omega) (by omega), waK (K := K + 1) (K' := K + 1) (by omega) (by omega) (by omega), waK (K := K + 1) (K' := K + 1) rfl (by omega) (by omega), waK (K := K + 1 + 1) (K' := K + 2) (by omega) (by omega) (by omega), waK (K := K + 2) (K' := K + 2) rfl (by omega) (by omega), waK (K := K + 2 + 1) (K' := K + 3) (by omega) (by omega) (by omega), waK (K := K + 3) (K' := K + 3) rfl (by omega) (by omega), waK (K := K + 3 + 1) (K' := K + 4) (by omega) (by omega) (by omega), waK (K := K + 4) (K' := K + 4) rfl (by omega) (by omega), waK (K := K + 4 + 1) (K' := K + 5) (by omega) (by omega) (by omega)]
    subst hK hAe hBe
    refine ⟨?_, mid_snoc hx⟩
    rw [ctL_snoc hx]
    simp only [GStatement.ct]
    omega
  · intro _
    simp only [↓bk_bind, ↓bk_map, ↓bk_ite, ↓bk_some, ↓reduceIte, Nat.reduceEqDiff, Nat.reduceLT, Nat.reduceLeDiff, Nat.reduceAdd, Nat.reduceMul, reduceCtorEq, List.reduceReplicate, go_sem, List.take_length, List.drop_length, List.map_nil, List.append_nil, mkL_len]
def GLibrary.mkd (x : GLibrary) (k : Int) : GLibrary := ⟨k, (mkL iMk iCt x.Digests (k + 1)), (bMk x.Up ((k + 1) + (ctL iCt x.Digests : Nat))), (bMk x.Lies (((k + 1) + (ctL iCt x.Digests : Nat)) + 1))⟩
def GLibrary.ct (x : GLibrary) : Nat := 3 + ctL iCt x.Digests
theorem GLibrary.ct_le (x : GLibrary) : x.ct ≤ 16 * (1 + x.size) := by
  simp only [GLibrary.ct, GLibrary.size]
  have h0 := ctL_le' (c := iCt) (fun y => by simp only [iCt]; omega) x.Digests
  omega
def m_laws_markLibraryS : MC :=
(.seq (pr [.mv 4 (.c (.int .i64 0))] [0,1])
(.seq (.seq (pr [.mv 5 (.c (.int .i64 0))] [0,1,5])
(.block 0 (.loop ([0,1,5], [1]) (.seq (.seq (pr [.mv 6 (.s 5), .mv 7 (.s 0), .len 8 false (.s 7), .bin 9 false .lss (.s 6) (.s 8)] [0,1,5,9])
(.cond (.s 9) .skip (.exit 0)))
(.seq (.block 1 (.seq (pr [.mv 12 (.s 0), .mv 13 (.s 5), .mv 14 (.s 1), .idx 15 4 (.s 12) (.s 13), .fld 16 (.s 15) 0, .store 1 (.s 16) (.s 14)] [0,1,5])
(.seq (pr [.mv 17 (.s 1), .bin 18 false .add (.s 17) (.c (.int .i64 1)), .mv 1 (.s 18)] [0,1,5])
(.seq (pr [.mv 19 (.s 0), .mv 20 (.s 5), .idx 21 4 (.s 19) (.s 20), .fld 22 (.s 21) 1, .loadT 23 1 (.s 22), .mv 24 (.s 1), .callI 25 [] (.f n_laws_markIntS) [.s 23, .s 24] [1] [0], .mv 1 (.s 25)] [0,1,5])
(.seq (pr [.mv 26 (.s 0), .mv 27 (.s 5), .mv 28 (.s 1), .bin 29 false .rem (.s 28) (.c (.int .i64 3)), .bin 30 false .eql (.s 29) (.c (.int .i64 0)), .idx 31 4 (.s 26) (.s 27), .fld 32 (.s 31) 2, .store 1 (.s 32) (.s 30)] [0,1,5])
(.seq (pr [.mv 33 (.s 1), .bin 34 false .add (.s 33) (.c (.int .i64 1)), .mv 1 (.s 34)] [0,1,5])
(.seq (pr [.mv 35 (.s 0), .mv 36 (.s 5), .mv 37 (.s 1), .bin 38 false .rem (.s 37) (.c (.int .i64 3)), .bin 39 false .eql (.s 38) (.c (.int .i64 0)), .idx 40 4 (.s 35) (.s 36), .fld 41 (.s 40) 3, .store 1 (.s 41) (.s 39)] [0,1,5])
(pr [.mv 42 (.s 1), .bin 43 false .add (.s 42) (.c (.int .i64 1)), .mv 1 (.s 43)] [0,1,5]))))))))
(pr [.mv 10 (.s 5), .bin 11 false .add (.s 10) (.c (.int .i64 1)), .mv 5 (.s 11)] [0,1,5]))))))
(.seq (pr [.mv 44 (.s 1), .mv 4 (.s 44)] [4])
.ret)))
theorem c_laws_markLibraryS (xs : List GLibrary) (k : Int) (hk : 0 ≤ k) (hN : k + (ctL GLibrary.ct xs : Nat) ≤ 4611686018427387904) : CtrI Tryz.prog n_laws_markLibraryS [oL 4 (xs.map GLibrary.enc), iI k] [some (4, (mkL GLibrary.mkd GLibrary.ct xs k).map GLibrary.enc)] [rI (k + (ctL GLibrary.ct xs : Nat))] := by
  refine ctrI_at (M := m_laws_markLibraryS) (m := 1) (n := 45) (res := [(.tmp 4, [false])]) hmix Tryz.func101 rfl (by kernel_rfl) rfl (by kernel_rfl) (by kernel_rfl) (Nat.le_of_ble_eq_true rfl) rfl rfl ?_; unfold m_laws_markLibraryS
  intro hb
  have hl := len_of_bd hb
  clear hb
  simp only [↓bk_bind, ↓bk_map, ↓bk_ite, ↓bk_some, ↓reduceIte, Nat.reduceEqDiff, Nat.reduceLT, Nat.reduceLeDiff, Nat.reduceAdd, Nat.reduceMul, reduceCtorEq, List.reduceReplicate, go_sem]
  refine loopK_rng xs (fun i => [(1, vI (k + (ctL GLibrary.ct (xs.take i) : Nat))), (5, vI i)]) (fun i => [(0, ⟨1, .row true 4 ((mkL GLibrary.mkd GLibrary.ct (xs.take i) k).map GLibrary.enc ++ (xs.drop i).map GLibrary.enc)⟩)]) (fun _ => True) hl ?_
  simp only [↓bk_bind, ↓bk_map, ↓bk_ite, ↓bk_some, ↓reduceIte, Nat.reduceEqDiff, Nat.reduceLT, Nat.reduceLeDiff, Nat.reduceAdd, Nat.reduceMul, reduceCtorEq, List.reduceReplicate, go_sem]
  refine ⟨?_, trivial, ?_, ?_⟩
  · simp only [↓bk_bind, ↓bk_map, ↓bk_ite, ↓bk_some, ↓reduceIte, Nat.reduceEqDiff, Nat.reduceLT, Nat.reduceLeDiff, Nat.reduceAdd, Nat.reduceMul, reduceCtorEq, List.reduceReplicate, go_sem, List.take_zero, List.drop_zero, mkL_nil, ctL_nil]
    all_goals simp
  · intro i x hx _ h0 h1 hw
    have hR := mid_of (mk := GLibrary.mkd) (c := GLibrary.ct) (k := k) (f := GLibrary.enc) hx
    have hA := mid_at (mk := GLibrary.mkd) (c := GLibrary.ct) (k := k) (f := GLibrary.enc) hx
    generalize hAe : (mkL GLibrary.mkd GLibrary.ct (xs.take i) k).map GLibrary.enc = A at hR hA
    generalize hBe : (xs.drop (i + 1)).map GLibrary.enc = B at hR hA
    obtain ⟨hg, hs, hl, hd⟩ := hA
    have hc := ctL_take_le (c := GLibrary.ct) (i + 1) (l := xs)
    rw [ctL_snoc hx] at hc
    have hK0 : 0 ≤ k + ((ctL GLibrary.ct (xs.take i) : Nat) : Int) := by omega
    have hK1 : k + ((ctL GLibrary.ct (xs.take i) : Nat) : Int) + (GLibrary.ct x : Nat) ≤ 4611686018427387904 := by omega
    generalize hK : k + ((ctL GLibrary.ct (xs.take i) : Nat) : Int) = K at hK0 hK1
    simp only [GLibrary.ct] at hK1
    simp only [↓bk_bind, ↓bk_map, ↓bk_ite, ↓bk_some, ↓reduceIte, Nat.reduceEqDiff, Nat.reduceLT, Nat.reduceLeDiff, Nat.reduceAdd, Nat.reduceMul, reduceCtorEq, List.reduceReplicate, go_sem, hw, hR, hg, hs, hl, hd, h0, h1, three_ne, hK, waK (K := K) (K' := K) rfl (by omega) (by omega), waK (K := K + 1) (K' := K + 1) (by omega) (by omega) (by omega), waK (K := K + 1) (K' := K + 1) rfl (by omega) (by omega), waK (K := K + 1 + 1) (K' := K + 2) (by omega) (by omega) (by omega)]
    refine callIK_of (c_laws_markIntS x.Digests (K + 1) (by omega) (by omega)) ?_
    have hK1 : 0 ≤ K + 1 + (ctL iCt x.Digests : Nat) := by omega
    generalize eK1 : K + 1 + ((ctL iCt x.Digests : Nat) : Int) = K1 at hK1
    simp only [↓bk_bind, ↓bk_map, ↓bk_ite, ↓bk_some, ↓reduceIte, Nat.reduceEqDiff, Nat.reduceLT, Nat.reduceLeDiff, Nat.reduceAdd, Nat.reduceMul, reduceCtorEq, List.reduceReplicate, go_sem, hw, hR, hg, hs, hl, hd, h0, h1, three_ne, hK, waK (K := K1) (K' := K1) rfl (by omega) (by omega), waK (K := K1 + 1) (K' := K1 + 1) (by omega) (by omega) (by omega), waK (K := K1 + 1) (K' := K1 + 1) rfl (by omega) (by omega), waK (K := K1 + 1 + 1) (K' := K1 + 2) (by omega) (by omega) (by omega), waK (K := K1 + 2) (K' := K1 + 2) rfl (by omega) (by omega), waK (K := K1 + 2 + 1) (K' := K1 + 3) (by omega) (by omega) (by omega)]
    subst eK1
    subst hK hAe hBe
    refine ⟨?_, mid_snoc hx⟩
    rw [ctL_snoc hx]
    simp only [GLibrary.ct]
    omega
  · intro _
    simp only [↓bk_bind, ↓bk_map, ↓bk_ite, ↓bk_some, ↓reduceIte, Nat.reduceEqDiff, Nat.reduceLT, Nat.reduceLeDiff, Nat.reduceAdd, Nat.reduceMul, reduceCtorEq, List.reduceReplicate, go_sem, List.take_length, List.drop_length, List.map_nil, List.append_nil, mkL_len]
def GLibrary.mks (x : GLibrary) (k : Int) : GLibrary := { x with Digests := mkL iMk iCt x.Digests (k) }
def GLibrary.cts (x : GLibrary) : Nat := ctL iCt x.Digests
theorem GLibrary.cts_le (x : GLibrary) : x.cts ≤ 16 * x.size := by
  simp only [GLibrary.cts, GLibrary.size]
  have hDigests := ctL_le' (c := iCt) (fun y => by simp only [iCt]; omega) x.Digests
  omega
@[go_sem] theorem GLibrary.mks_len0 (x : GLibrary) (k : Int) : ((x.mks k).Digests).length = x.Digests.length := mkL_len
def GContainer.mkd (x : GContainer) (k : Int) : GContainer := ⟨(mkL GOp.mkd GOp.ct x.Script k), (mkL GEntry.mkd GEntry.ct x.Entries (k + (ctL GOp.ct x.Script : Nat))), (mkL GCapture.mkd GCapture.ct x.Captures ((k + (ctL GOp.ct x.Script : Nat)) + (ctL GEntry.ct x.Entries : Nat))), (((k + (ctL GOp.ct x.Script : Nat)) + (ctL GEntry.ct x.Entries : Nat)) + (ctL GCapture.ct x.Captures : Nat))⟩
def GContainer.ct (x : GContainer) : Nat := 1 + ctL GOp.ct x.Script + ctL GEntry.ct x.Entries + ctL GCapture.ct x.Captures
theorem GContainer.ct_le (x : GContainer) : x.ct ≤ 16 * (1 + x.size) := by
  simp only [GContainer.ct, GContainer.size]
  have h0 := ctL_le' (c := GOp.ct) (fun y => by simp only [GOp.ct]; omega) x.Script
  have h1 := ctL_le' (c := GEntry.ct) (fun y => by simp only [GEntry.ct]; omega) x.Entries
  have h2 := ctL_le (c := GCapture.ct) (s := GCapture.size) GCapture.ct_le x.Captures
  omega
def m_laws_markContainerS : MC :=
(.seq (pr [.mv 4 (.c (.int .i64 0))] [0,1])
(.seq (.seq (pr [.mv 5 (.c (.int .i64 0))] [0,1,5])
(.block 0 (.loop ([0,1,5], [1,2,3]) (.seq (.seq (pr [.mv 6 (.s 5), .mv 7 (.s 0), .len 8 false (.s 7), .bin 9 false .lss (.s 6) (.s 8)] [0,1,5,9])
(.cond (.s 9) .skip (.exit 0)))
(.seq (.block 1 (.seq (pr [.mv 12 (.s 0), .mv 13 (.s 5), .idx 14 4 (.s 12) (.s 13), .fld 15 (.s 14) 0, .loadT 16 1 (.s 15), .mv 17 (.s 1), .callI 18 [] (.f n_laws_markOpS) [.s 16, .s 17] [1] [0], .mv 1 (.s 18)] [0,1,5])
(.seq (pr [.mv 19 (.s 0), .mv 20 (.s 5), .idx 21 4 (.s 19) (.s 20), .fld 22 (.s 21) 1, .loadT 23 2 (.s 22), .mv 24 (.s 1), .callI 25 [] (.f n_laws_markEntryS) [.s 23, .s 24] [2] [0], .mv 1 (.s 25)] [0,1,5])
(.seq (pr [.mv 26 (.s 0), .mv 27 (.s 5), .idx 28 4 (.s 26) (.s 27), .fld 29 (.s 28) 2, .loadT 30 3 (.s 29), .mv 31 (.s 1), .callI 32 [] (.f n_laws_markCaptureS) [.s 30, .s 31] [3] [0], .mv 1 (.s 32)] [0,1,5])
(.seq (pr [.mv 33 (.s 0), .mv 34 (.s 5), .mv 35 (.s 1), .idx 36 4 (.s 33) (.s 34), .fld 37 (.s 36) 3, .store 1 (.s 37) (.s 35)] [0,1,5])
(pr [.mv 38 (.s 1), .bin 39 false .add (.s 38) (.c (.int .i64 1)), .mv 1 (.s 39)] [0,1,5]))))))
(pr [.mv 10 (.s 5), .bin 11 false .add (.s 10) (.c (.int .i64 1)), .mv 5 (.s 11)] [0,1,5]))))))
(.seq (pr [.mv 40 (.s 1), .mv 4 (.s 40)] [4])
.ret)))
theorem c_laws_markContainerS (xs : List GContainer) (k : Int) (hk : 0 ≤ k) (hN : k + (ctL GContainer.ct xs : Nat) ≤ 4611686018427387904) : CtrI Tryz.prog n_laws_markContainerS [oL 4 (xs.map GContainer.enc), iI k] [some (4, (mkL GContainer.mkd GContainer.ct xs k).map GContainer.enc)] [rI (k + (ctL GContainer.ct xs : Nat))] := by
  refine ctrI_at (M := m_laws_markContainerS) (m := 3) (n := 41) (res := [(.tmp 4, [false])]) hmix Tryz.func107 rfl (by kernel_rfl) rfl (by kernel_rfl) (by kernel_rfl) (Nat.le_of_ble_eq_true rfl) rfl rfl ?_; unfold m_laws_markContainerS
  intro hb
  have hl := len_of_bd hb
  clear hb
  simp only [↓bk_bind, ↓bk_map, ↓bk_ite, ↓bk_some, ↓reduceIte, Nat.reduceEqDiff, Nat.reduceLT, Nat.reduceLeDiff, Nat.reduceAdd, Nat.reduceMul, reduceCtorEq, List.reduceReplicate, go_sem]
  refine loopK_rng xs (fun i => [(1, vI (k + (ctL GContainer.ct (xs.take i) : Nat))), (5, vI i)]) (fun i => [(0, ⟨1, .row true 4 ((mkL GContainer.mkd GContainer.ct (xs.take i) k).map GContainer.enc ++ (xs.drop i).map GContainer.enc)⟩)]) (fun _ => True) hl ?_
  simp only [↓bk_bind, ↓bk_map, ↓bk_ite, ↓bk_some, ↓reduceIte, Nat.reduceEqDiff, Nat.reduceLT, Nat.reduceLeDiff, Nat.reduceAdd, Nat.reduceMul, reduceCtorEq, List.reduceReplicate, go_sem]
  refine ⟨?_, trivial, ?_, ?_⟩
  · simp only [↓bk_bind, ↓bk_map, ↓bk_ite, ↓bk_some, ↓reduceIte, Nat.reduceEqDiff, Nat.reduceLT, Nat.reduceLeDiff, Nat.reduceAdd, Nat.reduceMul, reduceCtorEq, List.reduceReplicate, go_sem, List.take_zero, List.drop_zero, mkL_nil, ctL_nil]
    all_goals simp
  · intro i x hx _ h0 h1 hw
    have hR := mid_of (mk := GContainer.mkd) (c := GContainer.ct) (k := k) (f := GContainer.enc) hx
    have hA := mid_at (mk := GContainer.mkd) (c := GContainer.ct) (k := k) (f := GContainer.enc) hx
    generalize hAe : (mkL GContainer.mkd GContainer.ct (xs.take i) k).map GContainer.enc = A at hR hA
    generalize hBe : (xs.drop (i + 1)).map GContainer.enc = B at hR hA
    obtain ⟨hg, hs, hl, hd⟩ := hA
    have hc := ctL_take_le (c := GContainer.ct) (i + 1) (l := xs)
    rw [ctL_snoc hx] at hc
    have hK0 : 0 ≤ k + ((ctL GContainer.ct (xs.take i) : Nat) : Int) := by omega
    have hK1 : k + ((ctL GContainer.ct (xs.take i) : Nat) : Int) + (GContainer.ct x : Nat) ≤ 4611686018427387904 := by omega
    generalize hK : k + ((ctL GContainer.ct (xs.take i) : Nat) : Int) = K at hK0 hK1
    simp only [GContainer.ct] at hK1
    simp only [↓bk_bind, ↓bk_map, ↓bk_ite, ↓bk_some, ↓reduceIte, Nat.reduceEqDiff, Nat.reduceLT, Nat.reduceLeDiff, Nat.reduceAdd, Nat.reduceMul, reduceCtorEq, List.reduceReplicate, go_sem, hw, hR, hg, hs, hl, hd, h0, h1, three_ne, hK, waK (K := K) (K' := K) rfl (by omega) (by omega), waK (K := K + 1) (K' := K + 1) (by omega) (by omega) (by omega)]
    refine callIK_of (c_laws_markOpS x.Script K (by omega) (by omega)) ?_
    have hK1 : 0 ≤ K + (ctL GOp.ct x.Script : Nat) := by omega
    generalize eK1 : K + ((ctL GOp.ct x.Script : Nat) : Int) = K1 at hK1
    simp only [↓bk_bind, ↓bk_map, ↓bk_ite, ↓bk_some, ↓reduceIte, Nat.reduceEqDiff, Nat.reduceLT, Nat.reduceLeDiff, Nat.reduceAdd, Nat.reduceMul, reduceCtorEq, List.reduceReplicate, go_sem, hw, hR, hg, hs, hl, hd, h0, h1, three_ne, hK, waK (K := K1) (K' := K1) rfl (by omega) (by omega), waK (K := K1 + 1) (K' := K1 + 1) (by omega) (by omega) (by omega)]
    refine callIK_of (c_laws_markEntryS x.Entries K1 (by omega) (by omega)) ?_
    have hK2 : 0 ≤ K1 + (ctL GEntry.ct x.Entries : Nat) := by omega
    generalize eK2 : K1 + ((ctL GEntry.ct x.Entries : Nat) : Int) = K2 at hK2
    simp only [↓bk_bind, ↓bk_map, ↓bk_ite, ↓bk_some, ↓reduceIte, Nat.reduceEqDiff, Nat.reduceLT, Nat.reduceLeDiff, Nat.reduceAdd, Nat.reduceMul, reduceCtorEq, List.reduceReplicate, go_sem, hw, hR, hg, hs, hl, hd, h0, h1, three_ne, hK, waK (K := K2) (K' := K2) rfl (by omega) (by omega), waK (K := K2 + 1) (K' := K2 + 1) (by omega) (by omega) (by omega)]
    refine callIK_of (c_laws_markCaptureS x.Captures K2 (by omega) (by omega)) ?_
    have hK3 : 0 ≤ K2 + (ctL GCapture.ct x.Captures : Nat) := by omega
    generalize eK3 : K2 + ((ctL GCapture.ct x.Captures : Nat) : Int) = K3 at hK3
    simp only [↓bk_bind, ↓bk_map, ↓bk_ite, ↓bk_some, ↓reduceIte, Nat.reduceEqDiff, Nat.reduceLT, Nat.reduceLeDiff, Nat.reduceAdd, Nat.reduceMul, reduceCtorEq, List.reduceReplicate, go_sem, hw, hR, hg, hs, hl, hd, h0, h1, three_ne, hK, waK (K := K3) (K' := K3) rfl (by omega) (by omega), waK (K := K3 + 1) (K' := K3 + 1) (by omega) (by omega) (by omega), waK (K := K3 + 1) (K' := K3 + 1) rfl (by omega) (by omega), waK (K := K3 + 1 + 1) (K' := K3 + 2) (by omega) (by omega) (by omega)]
    subst eK3
    subst eK2
    subst eK1
    subst hK hAe hBe
    refine ⟨?_, mid_snoc hx⟩
    rw [ctL_snoc hx]
    simp only [GContainer.ct]
    omega
  · intro _
    simp only [↓bk_bind, ↓bk_map, ↓bk_ite, ↓bk_some, ↓reduceIte, Nat.reduceEqDiff, Nat.reduceLT, Nat.reduceLeDiff, Nat.reduceAdd, Nat.reduceMul, reduceCtorEq, List.reduceReplicate, go_sem, List.take_length, List.drop_length, List.map_nil, List.append_nil, mkL_len]
def GContainer.mks (x : GContainer) (k : Int) : GContainer := { x with Script := mkL GOp.mkd GOp.ct x.Script (k), Entries := mkL GEntry.mkd GEntry.ct x.Entries (k + (ctL GOp.ct x.Script : Nat)), Captures := mkL GCapture.mkd GCapture.ct x.Captures (k + (ctL GOp.ct x.Script : Nat) + (ctL GEntry.ct x.Entries : Nat)) }
def GContainer.cts (x : GContainer) : Nat := ctL GOp.ct x.Script + ctL GEntry.ct x.Entries + ctL GCapture.ct x.Captures
theorem GContainer.cts_le (x : GContainer) : x.cts ≤ 16 * x.size := by
  simp only [GContainer.cts, GContainer.size]
  have hScript := ctL_le' (c := GOp.ct) (fun y => by simp only [GOp.ct]; omega) x.Script
  have hEntries := ctL_le' (c := GEntry.ct) (fun y => by simp only [GEntry.ct]; omega) x.Entries
  have hCaptures := ctL_le (c := GCapture.ct) (s := GCapture.size) GCapture.ct_le x.Captures
  omega
@[go_sem] theorem GContainer.mks_len0 (x : GContainer) (k : Int) : ((x.mks k).Script).length = x.Script.length := mkL_len
@[go_sem] theorem GContainer.mks_len1 (x : GContainer) (k : Int) : ((x.mks k).Entries).length = x.Entries.length := mkL_len
@[go_sem] theorem GContainer.mks_len2 (x : GContainer) (k : Int) : ((x.mks k).Captures).length = x.Captures.length := mkL_len
def GFound.mkd (x : GFound) (k : Int) : GFound := ⟨⟨k, (k + 1), (k + 2)⟩, (k + 3), (k + 4), (k + 5)⟩
def GFound.ct (x : GFound) : Nat := 6
def m_laws_markFoundS : MC :=
(.seq (pr [.mv 4 (.c (.int .i64 0))] [0,1])
(.seq (.seq (pr [.mv 5 (.c (.int .i64 0))] [0,1,5])
(.block 0 (.loop ([0,1,5], []) (.seq (.seq (pr [.mv 6 (.s 5), .mv 7 (.s 0), .len 8 false (.s 7), .bin 9 false .lss (.s 6) (.s 8)] [0,1,5,9])
(.cond (.s 9) .skip (.exit 0)))
(.seq (.block 1 (.seq (pr [.mv 12 (.s 0), .mv 13 (.s 5), .mv 14 (.s 1), .idx 15 6 (.s 12) (.s 13), .fld 16 (.s 15) 0, .fld 17 (.s 16) 0, .store 1 (.s 17) (.s 14)] [0,1,5])
(.seq (pr [.mv 18 (.s 1), .bin 19 false .add (.s 18) (.c (.int .i64 1)), .mv 1 (.s 19)] [0,1,5])
(.seq (pr [.mv 20 (.s 0), .mv 21 (.s 5), .mv 22 (.s 1), .idx 23 6 (.s 20) (.s 21), .fld 24 (.s 23) 0, .fld 25 (.s 24) 1, .store 1 (.s 25) (.s 22)] [0,1,5])
(.seq (pr [.mv 26 (.s 1), .bin 27 false .add (.s 26) (.c (.int .i64 1)), .mv 1 (.s 27)] [0,1,5])
(.seq (pr [.mv 28 (.s 0), .mv 29 (.s 5), .mv 30 (.s 1), .idx 31 6 (.s 28) (.s 29), .fld 32 (.s 31) 0, .fld 33 (.s 32) 2, .store 1 (.s 33) (.s 30)] [0,1,5])
(.seq (pr [.mv 34 (.s 1), .bin 35 false .add (.s 34) (.c (.int .i64 1)), .mv 1 (.s 35)] [0,1,5])
(.seq (pr [.mv 36 (.s 0), .mv 37 (.s 5), .mv 38 (.s 1), .idx 39 6 (.s 36) (.s 37), .fld 40 (.s 39) 3, .store 1 (.s 40) (.s 38)] [0,1,5])
(.seq (pr [.mv 41 (.s 1), .bin 42 false .add (.s 41) (.c (.int .i64 1)), .mv 1 (.s 42)] [0,1,5])
(.seq (pr [.mv 43 (.s 0), .mv 44 (.s 5), .mv 45 (.s 1), .idx 46 6 (.s 43) (.s 44), .fld 47 (.s 46) 4, .store 1 (.s 47) (.s 45)] [0,1,5])
(.seq (pr [.mv 48 (.s 1), .bin 49 false .add (.s 48) (.c (.int .i64 1)), .mv 1 (.s 49)] [0,1,5])
(.seq (pr [.mv 50 (.s 0), .mv 51 (.s 5), .mv 52 (.s 1), .idx 53 6 (.s 50) (.s 51), .fld 54 (.s 53) 5, .store 1 (.s 54) (.s 52)] [0,1,5])
(pr [.mv 55 (.s 1), .bin 56 false .add (.s 55) (.c (.int .i64 1)), .mv 1 (.s 56)] [0,1,5])))))))))))))
(pr [.mv 10 (.s 5), .bin 11 false .add (.s 10) (.c (.int .i64 1)), .mv 5 (.s 11)] [0,1,5]))))))
(.seq (pr [.mv 57 (.s 1), .mv 4 (.s 57)] [4])
.ret)))
theorem c_laws_markFoundS (xs : List GFound) (k : Int) (hk : 0 ≤ k) (hN : k + (ctL GFound.ct xs : Nat) ≤ 4611686018427387904) : CtrI Tryz.prog n_laws_markFoundS [oL 6 (xs.map GFound.enc), iI k] [some (6, (mkL GFound.mkd GFound.ct xs k).map GFound.enc)] [rI (k + (ctL GFound.ct xs : Nat))] := by
  refine ctrI_at (M := m_laws_markFoundS) (m := 0) (n := 58) (res := [(.tmp 4, [false])]) hmix Tryz.func108 rfl (by kernel_rfl) rfl (by kernel_rfl) (by kernel_rfl) (Nat.le_of_ble_eq_true rfl) rfl rfl ?_; unfold m_laws_markFoundS
  intro hb
  have hl := len_of_bd hb
  clear hb
  simp only [↓bk_bind, ↓bk_map, ↓bk_ite, ↓bk_some, ↓reduceIte, Nat.reduceEqDiff, Nat.reduceLT, Nat.reduceLeDiff, Nat.reduceAdd, Nat.reduceMul, reduceCtorEq, List.reduceReplicate, go_sem]
  refine loopK_rng xs (fun i => [(1, vI (k + (ctL GFound.ct (xs.take i) : Nat))), (5, vI i)]) (fun i => [(0, ⟨1, .row true 6 ((mkL GFound.mkd GFound.ct (xs.take i) k).map GFound.enc ++ (xs.drop i).map GFound.enc)⟩)]) (fun _ => True) hl ?_
  simp only [↓bk_bind, ↓bk_map, ↓bk_ite, ↓bk_some, ↓reduceIte, Nat.reduceEqDiff, Nat.reduceLT, Nat.reduceLeDiff, Nat.reduceAdd, Nat.reduceMul, reduceCtorEq, List.reduceReplicate, go_sem]
  refine ⟨?_, trivial, ?_, ?_⟩
  · simp only [↓bk_bind, ↓bk_map, ↓bk_ite, ↓bk_some, ↓reduceIte, Nat.reduceEqDiff, Nat.reduceLT, Nat.reduceLeDiff, Nat.reduceAdd, Nat.reduceMul, reduceCtorEq, List.reduceReplicate, go_sem, List.take_zero, List.drop_zero, mkL_nil, ctL_nil]
    all_goals simp
  · intro i x hx _ h0 h1 hw
    have hR := mid_of (mk := GFound.mkd) (c := GFound.ct) (k := k) (f := GFound.enc) hx
    have hA := mid_at (mk := GFound.mkd) (c := GFound.ct) (k := k) (f := GFound.enc) hx
    generalize hAe : (mkL GFound.mkd GFound.ct (xs.take i) k).map GFound.enc = A at hR hA
    generalize hBe : (xs.drop (i + 1)).map GFound.enc = B at hR hA
    obtain ⟨hg, hs, hl, hd⟩ := hA
    have hc := ctL_take_le (c := GFound.ct) (i + 1) (l := xs)
    rw [ctL_snoc hx] at hc
    have hK0 : 0 ≤ k + ((ctL GFound.ct (xs.take i) : Nat) : Int) := by omega
    have hK1 : k + ((ctL GFound.ct (xs.take i) : Nat) : Int) + (GFound.ct x : Nat) ≤ 4611686018427387904 := by omega
    generalize hK : k + ((ctL GFound.ct (xs.take i) : Nat) : Int) = K at hK0 hK1
    simp only [GFound.ct] at hK1
    simp only [↓bk_bind, ↓bk_map, ↓bk_ite, ↓bk_some, ↓reduceIte, Nat.reduceEqDiff, Nat.reduceLT, Nat.reduceLeDiff, Nat.reduceAdd, Nat.reduceMul, reduceCtorEq, List.reduceReplicate, go_sem, hw, hR, hg, hs, hl, hd, h0, h1, three_ne, hK, waK (K := K) (K' := K) rfl (by omega) (by omega), waK (K := K + 1) (K' := K + 1) (by omega) (by omega) (by omega), waK (K := K + 1) (K' := K + 1) rfl (by omega) (by omega), waK (K := K + 1 + 1) (K' := K + 2) (by omega) (by omega) (by omega), waK (K := K + 2) (K' := K + 2) rfl (by omega) (by omega), waK (K := K + 2 + 1) (K' := K + 3) (by omega) (by omega) (by omega), waK (K := K + 3) (K' := K + 3) rfl (by omega) (by omega), waK (K := K + 3 + 1) (K' := K + 4) (by omega) (by omega) (by omega), waK (K := K + 4) (K' := K + 4) rfl (by omega) (by omega), waK (K := K + 4 + 1) (K' := K + 5) (by omega) (by omega) (by omega), waK (K := K + 5) (K' := K + 5) rfl (by omega) (by omega), waK (K := K + 5 + 1) (K' := K + 6) (by omega) (by omega) (by omega), waK (K := K + 6) (K' := K + 6) rfl (by omega) (by omega), waK (K := K + 6 + 1) (K' := K + 7) (by omega) (by omega) (by omega)]
    subst hK hAe hBe
    refine ⟨?_, mid_snoc hx⟩
    rw [ctL_snoc hx]
    simp only [GFound.ct]
    omega
  · intro _
    simp only [↓bk_bind, ↓bk_map, ↓bk_ite, ↓bk_some, ↓reduceIte, Nat.reduceEqDiff, Nat.reduceLT, Nat.reduceLeDiff, Nat.reduceAdd, Nat.reduceMul, reduceCtorEq, List.reduceReplicate, go_sem, List.take_length, List.drop_length, List.map_nil, List.append_nil, mkL_len]
def GDisk.mks (x : GDisk) (k : Int) : GDisk := { x with Containers := mkL GContainer.mkd GContainer.ct x.Containers (k), Index := mkL GFound.mkd GFound.ct x.Index (k + (ctL GContainer.ct x.Containers : Nat)), Wanted := mkL GContainer.mkd GContainer.ct x.Wanted (k + (ctL GContainer.ct x.Containers : Nat) + (ctL GFound.ct x.Index : Nat)) }
def GDisk.cts (x : GDisk) : Nat := ctL GContainer.ct x.Containers + ctL GFound.ct x.Index + ctL GContainer.ct x.Wanted
theorem GDisk.cts_le (x : GDisk) : x.cts ≤ 16 * x.size := by
  simp only [GDisk.cts, GDisk.size]
  have hContainers := ctL_le (c := GContainer.ct) (s := GContainer.size) GContainer.ct_le x.Containers
  have hIndex := ctL_le' (c := GFound.ct) (fun y => by simp only [GFound.ct]; omega) x.Index
  have hWanted := ctL_le (c := GContainer.ct) (s := GContainer.size) GContainer.ct_le x.Wanted
  omega
@[go_sem] theorem GDisk.mks_len0 (x : GDisk) (k : Int) : ((x.mks k).Containers).length = x.Containers.length := mkL_len
@[go_sem] theorem GDisk.mks_len1 (x : GDisk) (k : Int) : ((x.mks k).Index).length = x.Index.length := mkL_len
@[go_sem] theorem GDisk.mks_len2 (x : GDisk) (k : Int) : ((x.mks k).Wanted).length = x.Wanted.length := mkL_len
def m_laws_markDisk : MC :=
(.seq (pr [.box 2 3 (.s 0), .mv 4 (.c (.int .i64 0))] [1,2])
(.seq (pr [.fld 5 (.s 2) 0, .load 6 false 1 (.s 5), .mv 7 (.s 1), .callI 8 [] (.f n_laws_markContainerS) [.s 6, .s 7] [0] [], .mv 1 (.s 8)] [1,2])
(.seq (pr [.fld 9 (.s 2) 1, .load 10 false 1 (.s 9), .mv 11 (.s 1), .callI 12 [] (.f n_laws_markFoundS) [.s 10, .s 11] [1] [], .mv 1 (.s 12)] [1,2])
(.seq (pr [.fld 13 (.s 2) 2, .load 14 false 1 (.s 13), .mv 15 (.s 1), .callI 16 [] (.f n_laws_markContainerS) [.s 14, .s 15] [2] [], .mv 1 (.s 16)] [1])
(.seq (pr [.mv 17 (.s 1), .mv 4 (.s 17)] [4])
.ret)))))
theorem c_laws_markDisk (x : GDisk) (k : Int) (hk : 0 ≤ k) (hN : k + (x.cts : Nat) ≤ 4611686018427387904) : CtrI Tryz.prog n_laws_markDisk [oS x.enc, iI k] [some (4, (x.mks k).Containers.map GContainer.enc), some (6, (x.mks k).Index.map GFound.enc), some (4, (x.mks k).Wanted.map GContainer.enc)] [rI (k + (x.cts : Nat))] := by
  refine ctrI_at (M := m_laws_markDisk) (m := 1) (n := 18) (res := [(.tmp 4, [false])]) hmix Tryz.func36 rfl (by kernel_rfl) rfl (by kernel_rfl) (by kernel_rfl) (Nat.le_of_ble_eq_true rfl) rfl rfl ?_; unfold m_laws_markDisk
  intro hb
  clear hb
  simp only [GDisk.cts] at hN ⊢
  simp only [↓bk_bind, ↓bk_map, ↓bk_ite, ↓bk_some, ↓reduceIte, Nat.reduceEqDiff, Nat.reduceLT, Nat.reduceLeDiff, Nat.reduceAdd, Nat.reduceMul, reduceCtorEq, List.reduceReplicate, go_sem]
  refine callIK_of (c_laws_markContainerS x.Containers (k) (by omega) (by omega)) ?_
  simp only [↓bk_bind, ↓bk_map, ↓bk_ite, ↓bk_some, ↓reduceIte, Nat.reduceEqDiff, Nat.reduceLT, Nat.reduceLeDiff, Nat.reduceAdd, Nat.reduceMul, reduceCtorEq, List.reduceReplicate, go_sem]
  refine callIK_of (c_laws_markFoundS x.Index (k + (ctL GContainer.ct x.Containers : Nat)) (by omega) (by omega)) ?_
  simp only [↓bk_bind, ↓bk_map, ↓bk_ite, ↓bk_some, ↓reduceIte, Nat.reduceEqDiff, Nat.reduceLT, Nat.reduceLeDiff, Nat.reduceAdd, Nat.reduceMul, reduceCtorEq, List.reduceReplicate, go_sem]
  refine callIK_of (c_laws_markContainerS x.Wanted (k + (ctL GContainer.ct x.Containers : Nat) + (ctL GFound.ct x.Index : Nat)) (by omega) (by omega)) ?_
  simp only [↓bk_bind, ↓bk_map, ↓bk_ite, ↓bk_some, ↓reduceIte, Nat.reduceEqDiff, Nat.reduceLT, Nat.reduceLeDiff, Nat.reduceAdd, Nat.reduceMul, reduceCtorEq, List.reduceReplicate, go_sem]
  all_goals (try omega)
  repeat' (first | rfl | omega | refine And.intro ?_ ?_)
def GArchive.mks (x : GArchive) (k : Int) : GArchive := { x with Site := mkL GVersion.mkd GVersion.ct x.Site (k), Script := mkL GOp.mkd GOp.ct x.Script (k + (ctL GVersion.ct x.Site : Nat)), Disk := x.Disk.mks (k + (ctL GVersion.ct x.Site : Nat) + (ctL GOp.ct x.Script : Nat)), Exclusions := mkL GExclusion.mkd GExclusion.ct x.Exclusions (k + (ctL GVersion.ct x.Site : Nat) + (ctL GOp.ct x.Script : Nat) + (x.Disk.cts : Nat)), Libraries := mkL GLibrary.mkd GLibrary.ct x.Libraries (k + (ctL GVersion.ct x.Site : Nat) + (ctL GOp.ct x.Script : Nat) + (x.Disk.cts : Nat) + (ctL GExclusion.ct x.Exclusions : Nat)), Keys := mkL iMk iCt x.Keys (k + (ctL GVersion.ct x.Site : Nat) + (ctL GOp.ct x.Script : Nat) + (x.Disk.cts : Nat) + (ctL GExclusion.ct x.Exclusions : Nat) + (ctL GLibrary.ct x.Libraries : Nat)), Statements := mkL GStatement.mkd GStatement.ct x.Statements (k + (ctL GVersion.ct x.Site : Nat) + (ctL GOp.ct x.Script : Nat) + (x.Disk.cts : Nat) + (ctL GExclusion.ct x.Exclusions : Nat) + (ctL GLibrary.ct x.Libraries : Nat) + (ctL iCt x.Keys : Nat)) }
def GArchive.cts (x : GArchive) : Nat := ctL GVersion.ct x.Site + ctL GOp.ct x.Script + x.Disk.cts + ctL GExclusion.ct x.Exclusions + ctL GLibrary.ct x.Libraries + ctL iCt x.Keys + ctL GStatement.ct x.Statements
theorem GArchive.cts_le (x : GArchive) : x.cts ≤ 16 * x.size := by
  simp only [GArchive.cts, GArchive.size]
  have hSite := ctL_le (c := GVersion.ct) (s := GVersion.size) GVersion.ct_le x.Site
  have hScript := ctL_le' (c := GOp.ct) (fun y => by simp only [GOp.ct]; omega) x.Script
  have hDisk := GDisk.cts_le x.Disk
  have hExclusions := ctL_le' (c := GExclusion.ct) (fun y => by simp only [GExclusion.ct]; omega) x.Exclusions
  have hLibraries := ctL_le (c := GLibrary.ct) (s := GLibrary.size) GLibrary.ct_le x.Libraries
  have hKeys := ctL_le' (c := iCt) (fun y => by simp only [iCt]; omega) x.Keys
  have hStatements := ctL_le' (c := GStatement.ct) (fun y => by simp only [GStatement.ct]; omega) x.Statements
  omega
@[go_sem] theorem GArchive.mks_len0 (x : GArchive) (k : Int) : ((x.mks k).Site).length = x.Site.length := mkL_len
@[go_sem] theorem GArchive.mks_len1 (x : GArchive) (k : Int) : ((x.mks k).Script).length = x.Script.length := mkL_len
@[go_sem] theorem GArchive.mks_len2 (x : GArchive) (k : Int) : ((x.mks k).Disk.Containers).length = x.Disk.Containers.length := mkL_len
@[go_sem] theorem GArchive.mks_len3 (x : GArchive) (k : Int) : ((x.mks k).Disk.Index).length = x.Disk.Index.length := mkL_len
@[go_sem] theorem GArchive.mks_len4 (x : GArchive) (k : Int) : ((x.mks k).Disk.Wanted).length = x.Disk.Wanted.length := mkL_len
@[go_sem] theorem GArchive.mks_len5 (x : GArchive) (k : Int) : ((x.mks k).Exclusions).length = x.Exclusions.length := mkL_len
@[go_sem] theorem GArchive.mks_len6 (x : GArchive) (k : Int) : ((x.mks k).Libraries).length = x.Libraries.length := mkL_len
@[go_sem] theorem GArchive.mks_len7 (x : GArchive) (k : Int) : ((x.mks k).Keys).length = x.Keys.length := mkL_len
@[go_sem] theorem GArchive.mks_len8 (x : GArchive) (k : Int) : ((x.mks k).Statements).length = x.Statements.length := mkL_len
def m_laws_markArchive : MC :=
(.seq (pr [.box 2 9 (.s 0), .mv 4 (.c (.int .i64 0))] [1,2])
(.seq (pr [.fld 5 (.s 2) 0, .load 6 false 1 (.s 5), .mv 7 (.s 1), .callI 8 [] (.f n_laws_markVersionS) [.s 6, .s 7] [0] [], .mv 1 (.s 8)] [1,2])
(.seq (pr [.fld 9 (.s 2) 1, .load 10 false 1 (.s 9), .mv 11 (.s 1), .callI 12 [] (.f n_laws_markOpS) [.s 10, .s 11] [1] [], .mv 1 (.s 12)] [1,2])
(.seq (pr [.fld 13 (.s 2) 2, .load 14 true 3 (.s 13), .mv 15 (.s 1), .callI 16 [] (.f n_laws_markDisk) [.s 14, .s 15] [2,3,4] [], .mv 1 (.s 16)] [1,2])
(.seq (pr [.fld 17 (.s 2) 5, .load 18 false 1 (.s 17), .mv 19 (.s 1), .callI 20 [] (.f n_laws_markExclusionS) [.s 18, .s 19] [5] [], .mv 1 (.s 20)] [1,2])
(.seq (pr [.fld 21 (.s 2) 6, .load 22 false 1 (.s 21), .mv 23 (.s 1), .callI 24 [] (.f n_laws_markLibraryS) [.s 22, .s 23] [6] [], .mv 1 (.s 24)] [1,2])
(.seq (pr [.fld 25 (.s 2) 7, .load 26 false 1 (.s 25), .mv 27 (.s 1), .callI 28 [] (.f n_laws_markIntS) [.s 26, .s 27] [7] [], .mv 1 (.s 28)] [1,2])
(.seq (pr [.fld 29 (.s 2) 8, .load 30 false 1 (.s 29), .mv 31 (.s 1), .callI 32 [] (.f n_laws_markStatementS) [.s 30, .s 31] [8] [], .mv 1 (.s 32)] [1])
(.seq (pr [.mv 33 (.s 1), .mv 4 (.s 33)] [4])
.ret)))))))))
theorem c_laws_markArchive (x : GArchive) (k : Int) (hk : 0 ≤ k) (hN : k + (x.cts : Nat) ≤ 4611686018427387904) : CtrI Tryz.prog n_laws_markArchive [oS x.enc, iI k] [some (9, (x.mks k).Site.map GVersion.enc), some (4, (x.mks k).Script.map GOp.enc), some (4, (x.mks k).Disk.Containers.map GContainer.enc), some (6, (x.mks k).Disk.Index.map GFound.enc), some (4, (x.mks k).Disk.Wanted.map GContainer.enc), some (5, (x.mks k).Exclusions.map GExclusion.enc), some (4, (x.mks k).Libraries.map GLibrary.enc), some (1, (x.mks k).Keys.map encI), some (4, (x.mks k).Statements.map GStatement.enc)] [rI (k + (x.cts : Nat))] := by
  refine ctrI_at (M := m_laws_markArchive) (m := 1) (n := 34) (res := [(.tmp 4, [false])]) hmix Tryz.func31 rfl (by kernel_rfl) rfl (by kernel_rfl) (by kernel_rfl) (Nat.le_of_ble_eq_true rfl) rfl rfl ?_; unfold m_laws_markArchive
  intro hb
  clear hb
  simp only [GArchive.cts] at hN ⊢
  simp only [↓bk_bind, ↓bk_map, ↓bk_ite, ↓bk_some, ↓reduceIte, Nat.reduceEqDiff, Nat.reduceLT, Nat.reduceLeDiff, Nat.reduceAdd, Nat.reduceMul, reduceCtorEq, List.reduceReplicate, go_sem]
  refine callIK_of (c_laws_markVersionS x.Site (k) (by omega) (by omega)) ?_
  simp only [↓bk_bind, ↓bk_map, ↓bk_ite, ↓bk_some, ↓reduceIte, Nat.reduceEqDiff, Nat.reduceLT, Nat.reduceLeDiff, Nat.reduceAdd, Nat.reduceMul, reduceCtorEq, List.reduceReplicate, go_sem]
  refine callIK_of (c_laws_markOpS x.Script (k + (ctL GVersion.ct x.Site : Nat)) (by omega) (by omega)) ?_
  simp only [↓bk_bind, ↓bk_map, ↓bk_ite, ↓bk_some, ↓reduceIte, Nat.reduceEqDiff, Nat.reduceLT, Nat.reduceLeDiff, Nat.reduceAdd, Nat.reduceMul, reduceCtorEq, List.reduceReplicate, go_sem]
  refine callIK_of (c_laws_markDisk x.Disk (k + (ctL GVersion.ct x.Site : Nat) + (ctL GOp.ct x.Script : Nat)) (by omega) (by omega)) ?_
  simp only [↓bk_bind, ↓bk_map, ↓bk_ite, ↓bk_some, ↓reduceIte, Nat.reduceEqDiff, Nat.reduceLT, Nat.reduceLeDiff, Nat.reduceAdd, Nat.reduceMul, reduceCtorEq, List.reduceReplicate, go_sem]
  refine callIK_of (c_laws_markExclusionS x.Exclusions (k + (ctL GVersion.ct x.Site : Nat) + (ctL GOp.ct x.Script : Nat) + (x.Disk.cts : Nat)) (by omega) (by omega)) ?_
  simp only [↓bk_bind, ↓bk_map, ↓bk_ite, ↓bk_some, ↓reduceIte, Nat.reduceEqDiff, Nat.reduceLT, Nat.reduceLeDiff, Nat.reduceAdd, Nat.reduceMul, reduceCtorEq, List.reduceReplicate, go_sem]
  refine callIK_of (c_laws_markLibraryS x.Libraries (k + (ctL GVersion.ct x.Site : Nat) + (ctL GOp.ct x.Script : Nat) + (x.Disk.cts : Nat) + (ctL GExclusion.ct x.Exclusions : Nat)) (by omega) (by omega)) ?_
  simp only [↓bk_bind, ↓bk_map, ↓bk_ite, ↓bk_some, ↓reduceIte, Nat.reduceEqDiff, Nat.reduceLT, Nat.reduceLeDiff, Nat.reduceAdd, Nat.reduceMul, reduceCtorEq, List.reduceReplicate, go_sem]
  refine callIK_of (c_laws_markIntS x.Keys (k + (ctL GVersion.ct x.Site : Nat) + (ctL GOp.ct x.Script : Nat) + (x.Disk.cts : Nat) + (ctL GExclusion.ct x.Exclusions : Nat) + (ctL GLibrary.ct x.Libraries : Nat)) (by omega) (by omega)) ?_
  simp only [↓bk_bind, ↓bk_map, ↓bk_ite, ↓bk_some, ↓reduceIte, Nat.reduceEqDiff, Nat.reduceLT, Nat.reduceLeDiff, Nat.reduceAdd, Nat.reduceMul, reduceCtorEq, List.reduceReplicate, go_sem]
  refine callIK_of (c_laws_markStatementS x.Statements (k + (ctL GVersion.ct x.Site : Nat) + (ctL GOp.ct x.Script : Nat) + (x.Disk.cts : Nat) + (ctL GExclusion.ct x.Exclusions : Nat) + (ctL GLibrary.ct x.Libraries : Nat) + (ctL iCt x.Keys : Nat)) (by omega) (by omega)) ?_
  simp only [↓bk_bind, ↓bk_map, ↓bk_ite, ↓bk_some, ↓reduceIte, Nat.reduceEqDiff, Nat.reduceLT, Nat.reduceLeDiff, Nat.reduceAdd, Nat.reduceMul, reduceCtorEq, List.reduceReplicate, go_sem]
  all_goals (try omega)
  repeat' (first | rfl | omega | refine And.intro ?_ ?_)
def GChange.mkd (x : GChange) (k : Int) : GChange := ⟨k, (k + 1)⟩
def GChange.ct (x : GChange) : Nat := 2
def GPlayed.mks (x : GPlayed) (k : Int) : GPlayed := { x with State := x.State.mks (k) }
def GPlayed.cts (x : GPlayed) : Nat := x.State.cts
theorem GPlayed.cts_le (x : GPlayed) : x.cts ≤ 16 * x.size := by
  simp only [GPlayed.cts, GPlayed.size]
  have hState := GState.cts_le x.State
  omega
@[go_sem] theorem GPlayed.mks_len0 (x : GPlayed) (k : Int) : ((x.mks k).State.Regs).length = x.State.Regs.length := mkL_len
@[go_sem] theorem GPlayed.mks_len1 (x : GPlayed) (k : Int) : ((x.mks k).State.Slots).length = x.State.Slots.length := mkL_len
@[go_sem] theorem GPlayed.mks_len2 (x : GPlayed) (k : Int) : ((x.mks k).State.Nodes).length = x.State.Nodes.length := mkL_len
end Go.Proofs.YtbnbgekjjbpljaaGreatR
namespace Go.Proofs.YtbnbgekjjbpljaaGreatR
open Go Go.RowKit Go.Proofs
set_option linter.unusedSimpArgs false
set_option linter.unusedVariables false
def m_slices_Clone_int_int : MC :=
(.seq (pr [.nilo 2 0 1] [0])
(.seq (.condN 3 4 (.s 0) (.seq (pr [.nilo 2 0 1] [2])
.ret) .skip)
(.seq (pr [.lit 5 0 1 8 [], .mv 6 (.s 0), .app 7 0 1 8 (.s 5) (.s 6), .mv 2 (.s 7)] [2])
.ret)))
theorem c_slices_Clone_int (xs : List Int) (hs : xs.length ≤ 1073741824) : Ctr Tryz.prog n_slices_Clone_int_int [aL 1 (xs.map encI)] [rL 1 (xs.map encI)] := by
  refine ctr_at (M := m_slices_Clone_int_int) (m := 1) (n := 8) (res := [(.tmp 2, [true])]) hmix Tryz.func205 rfl (by kernel_rfl) rfl (by kernel_rfl) (by kernel_rfl) (Nat.le_of_ble_eq_true rfl) ?_; unfold m_slices_Clone_int_int
  intro hb
  clear hb
  simp only [↓bk_bind, ↓bk_map, ↓bk_ite, ↓bk_some, ↓reduceIte, Nat.reduceEqDiff, Nat.reduceLT, Nat.reduceLeDiff, Nat.reduceAdd, Nat.reduceMul, reduceCtorEq, List.reduceReplicate, go_sem, ↓flat_of (f := encI) (fun _ => rfl) xs]
  refine ⟨fun h => ?_, ?_⟩
  · rw [h]
  · simp only [roomB, List.length_map]
    first | done | omega | (refine ⟨?_, ?_⟩ <;> first | omega | simp)
end Go.Proofs.YtbnbgekjjbpljaaGreatR
namespace Go.Proofs.YtbnbgekjjbpljaaGreatR
open Go Go.RowKit Go.Proofs
set_option linter.unusedSimpArgs false
set_option linter.unusedVariables false
theorem ff {p : Prop} [Decidable p] (h : ¬ p) : false = decide p := (decide_eq_false h).symm
theorem tt {p : Prop} [Decidable p] (h : p) : true = decide p := (decide_eq_true h).symm
/-- No element of the first k is so. -/
theorem anyF_step {α : Type} {p : α → Bool} {l : List α} {k : Nat} {x : α} (hx : l[k]? = some x) (h : (l.take k).any p = false) (hn : p x = false) : (l.take (k + 1)).any p = false := by
  rw [take_snoc hx, List.any_append, h]
  simp [hn]
theorem any_here {α : Type} {p : α → Bool} {l : List α} {k : Nat} {x : α} (hx : l[k]? = some x) (hn : p x = true) : l.any p = true := List.any_eq_true.2 ⟨x, at_mem hx, hn⟩
/-- The place of the first element that is so. -/
def idxF {α : Type} (p : α → Bool) (l : List α) : Int := if l.any p then (l.takeWhile fun x => !p x).length else -1
theorem idxF_here {α : Type} {p : α → Bool} {l : List α} {k : Nat} {x : α} (hx : l[k]? = some x) (h : (l.take k).any p = false) (hn : p x = true) : idxF p l = k := by
  unfold idxF
  rw [any_here hx hn, if_pos rfl]
  congr 1
  have e : l = l.take k ++ x :: l.drop (k + 1) := take_drop_at hx
  rw [e, List.takeWhile_append_of_pos]
  · simp [hn]
    have := len_at hx
    omega
  · intro a ha
    have := List.any_eq_false.1 h a ha
    simpa using this
theorem idxF_none {α : Type} {p : α → Bool} {l : List α} (h : l.any p = false) : idxF p l = -1 := by
  unfold idxF; rw [h]; rfl
theorem idxF_ge {α : Type} {p : α → Bool} {l : List α} : decide (idxF p l ≥ 0) = l.any p := by
  unfold idxF
  cases l.any p <;> simp
/-- Are two lists alike, element by element? -/
def eqF {α : Type} (p : α → α → Bool) : List α → List α → Bool
  | [], [] => true
  | x :: xs, y :: ys => p x y && eqF p xs ys
  | _, _ => false
theorem eqF_len {α : Type} {p : α → α → Bool} : ∀ {xs ys : List α}, ¬ (xs.length : Int) = ys.length → false = eqF p xs ys
  | [], [], h => by simp at h
  | _ :: _, _ :: _, h => by
    simp only [eqF]
    rw [← eqF_len (fun e => h (by simp only [List.length_cons]; omega)), Bool.and_false]
  | [], _ :: _, _ => rfl
  | _ :: _, [], _ => rfl
theorem eqF_take {α : Type} {p : α → α → Bool} : ∀ {xs ys : List α} {k : Nat} {x y : α}, xs[k]? = some x → ys[k]? = some y → eqF p (xs.take k) (ys.take k) = true → eqF p (xs.take (k + 1)) (ys.take (k + 1)) = p x y
  | x0 :: xs, y0 :: ys, 0, x, y, hx, hy, _ => by
    simp at hx hy
    subst hx hy
    simp [eqF]
  | x0 :: xs, y0 :: ys, k + 1, x, y, hx, hy, h => by
    simp only [List.take_succ_cons, eqF, Bool.and_eq_true] at h ⊢
    rw [eqF_take (by simpa using hx) (by simpa using hy) h.2, h.1, Bool.true_and]
  | [], _, _, _, _, hx, _, _ => by simp at hx
  | _ :: _, [], _, _, _, _, hy, _ => by simp at hy
theorem eqF_false {α : Type} {p : α → α → Bool} : ∀ {xs ys : List α} {k : Nat} {x y : α}, xs[k]? = some x → ys[k]? = some y → p x y = false → false = eqF p xs ys
  | x0 :: xs, y0 :: ys, 0, x, y, hx, hy, h => by
    simp at hx hy
    subst hx hy
    simp [eqF, h]
  | x0 :: xs, y0 :: ys, k + 1, x, y, hx, hy, h => by
    simp only [eqF]
    rw [← eqF_false (by simpa using hx) (by simpa using hy) h, Bool.and_false]
  | [], _, _, _, _, hx, _, _ => by simp at hx
  | _ :: _, [], _, _, _, _, hy, _ => by simp at hy
theorem eqF_all {α : Type} {p : α → α → Bool} {xs ys : List α} (h : eqF p (xs.take xs.length) (ys.take xs.length) = true) (hl : xs.length = ys.length) : true = eqF p xs ys := by
  rw [List.take_length, hl, List.take_length] at h
  exact h.symm
theorem eqF_eq {α : Type} [DecidableEq α] : ∀ (xs ys : List α), eqF (fun x y => decide (x = y)) xs ys = decide (xs = ys)
  | [], [] => by simp [eqF]
  | x :: xs, y :: ys => by
    simp only [eqF, eqF_eq xs ys]
    by_cases h : x = y <;> by_cases h2 : xs = ys <;> simp [h, h2]
  | [], _ :: _ => by simp [eqF]
  | _ :: _, [] => by simp [eqF]
/-- The place of the first element that is it. -/
def idxO {α : Type} [DecidableEq α] (n : α) (l : List α) : Int := idxF (fun x => decide (n = x)) l
theorem idxO_ge {α : Type} [DecidableEq α] {n : α} {l : List α} : decide (idxO n l ≥ 0) = decide (n ∈ l) := by
  unfold idxO
  rw [idxF_ge]
  rw [Bool.eq_iff_iff]
  simp
def encS (s : ByteArray) : List T := [tS s]
attribute [go_sem] encS
abbrev aStr (s : ByteArray) : Bool × List T := (false, [tS s])
attribute [go_sem] aStr
def m_slices_IndexFunc_impl_Exclusion_impl_Exclusion : MC :=
(.seq (pr [.mv 4 (.c (.int .i64 0))] [0,1])
(.seq (.seq (pr [.mv 6 (.s 0), .len 7 false (.s 6), .mv 8 (.c (.int .i64 0))] [0,1,7,8])
(.block 0 (.loop ([0,1,7,8], []) (.seq (pr [.bin 9 false .lss (.s 8) (.s 7)] [0,1,7,8,9])
(.seq (.cond (.s 9) .skip (.exit 0))
(.seq (.block 1 (.seq (pr [.mv 10 (.s 8), .mv 5 (.s 10)] [0,1,5,7,8])
(.seq (pr [.mv 11 (.s 1), .mv 12 (.s 0), .mv 13 (.s 5), .idx 14 5 (.s 12) (.s 13), .load 15 true 5 (.s 14), .call 16 [] (.s 11) [.s 15]] [0,1,5,7,8,16])
(.cond (.s 16) (.seq (pr [.mv 17 (.s 5), .mv 4 (.s 17)] [4])
.ret) .skip))))
(pr [.bin 18 false .add (.s 8) (.c (.int .i64 1)), .mv 8 (.s 18)] [0,1,7,8])))))))
(.seq (pr [.mv 4 (.c (.int .i64 (-1)))] [4])
.ret)))
theorem c_slices_IndexFunc_Exclusion (xs : List GExclusion) (f : FuncId) (cs : List T) (p : GExclusion → Bool) (hp : ∀ x, x ∈ xs → Ctr Tryz.prog f (aS (GExclusion.enc x) :: cs.map (fun t => (false, [t]))) [rB (p x)]) : Ctr Tryz.prog n_slices_IndexFunc_impl_Exclusion_impl_Exclusion [aL 5 (xs.map GExclusion.enc), (false, [.fn f cs])] [rI (idxF p xs)] := by
  refine ctr_at (M := m_slices_IndexFunc_impl_Exclusion_impl_Exclusion) (m := 0) (n := 19) (res := [(.tmp 4, [false])]) hmix Tryz.func221 rfl (by kernel_rfl) rfl (by kernel_rfl) (by kernel_rfl) (Nat.le_of_ble_eq_true rfl) ?_; unfold m_slices_IndexFunc_impl_Exclusion_impl_Exclusion
  intro hb
  simp only [bdA, bdL, bdT, bdR, bdR_map, wfB_i64, wfB_bool, wfB_str, roomB, and_true, true_and, List.length_map] at hb
  obtain ⟨⟨hl, -⟩, -⟩ := hb
  simp only [↓bk_bind, ↓bk_map, ↓bk_ite, ↓bk_some, ↓reduceIte, Nat.reduceEqDiff, Nat.reduceLT, Nat.reduceLeDiff, Nat.reduceAdd, Nat.reduceMul, reduceCtorEq, List.reduceReplicate, go_sem]
  refine loopK_rng xs (fun k => [(8, vI k)]) (fun k => []) (fun k => (xs.take k).any p = false) hl ?_
  simp only [↓bk_bind, ↓bk_map, ↓bk_ite, ↓bk_some, ↓reduceIte, Nat.reduceEqDiff, Nat.reduceLT, Nat.reduceLeDiff, Nat.reduceAdd, Nat.reduceMul, reduceCtorEq, List.reduceReplicate, go_sem]
  refine ⟨?_, by simp, ?_, ?_⟩
  · simp only [↓bk_bind, ↓bk_map, ↓bk_ite, ↓bk_some, ↓reduceIte, Nat.reduceEqDiff, Nat.reduceLT, Nat.reduceLeDiff, Nat.reduceAdd, Nat.reduceMul, reduceCtorEq, List.reduceReplicate, go_sem]
  · intro k x hx h h0 h1 hw
    simp only [↓bk_bind, ↓bk_map, ↓bk_ite, ↓bk_some, ↓reduceIte, Nat.reduceEqDiff, Nat.reduceLT, Nat.reduceLeDiff, Nat.reduceAdd, Nat.reduceMul, reduceCtorEq, List.reduceReplicate, go_sem, bk_eq hx, h0, h1, hw]
    refine callK_of (hp x (at_mem hx)) ?_
    simp only [↓bk_bind, ↓bk_map, ↓bk_ite, ↓bk_some, ↓reduceIte, Nat.reduceEqDiff, Nat.reduceLT, Nat.reduceLeDiff, Nat.reduceAdd, Nat.reduceMul, reduceCtorEq, List.reduceReplicate, go_sem, hw]
    exact ⟨fun hn => (idxF_here hx h hn).symm, fun hn => anyF_step hx h hn⟩
  · intro h
    simp only [↓bk_bind, ↓bk_map, ↓bk_ite, ↓bk_some, ↓reduceIte, Nat.reduceEqDiff, Nat.reduceLT, Nat.reduceLeDiff, Nat.reduceAdd, Nat.reduceMul, reduceCtorEq, List.reduceReplicate, go_sem]
    rw [List.take_length] at h
    rw [idxF_none h]
def m_slices_ContainsFunc_impl_Exclusion_impl_Exclusion : MC :=
(.seq (pr [.mv 4 (.c (.bool false))] [0,1])
(.seq (pr [.mv 5 (.s 0), .mv 6 (.s 1), .call 7 [] (.f n_slices_IndexFunc_impl_Exclusion_impl_Exclusion) [.s 5, .s 6], .bin 8 false .geq (.s 7) (.c (.int .i64 0)), .mv 4 (.s 8)] [4])
.ret))
theorem c_slices_ContainsFunc_Exclusion (xs : List GExclusion) (f : FuncId) (cs : List T) (p : GExclusion → Bool) (hp : ∀ x, x ∈ xs → Ctr Tryz.prog f (aS (GExclusion.enc x) :: cs.map (fun t => (false, [t]))) [rB (p x)]) : Ctr Tryz.prog n_slices_ContainsFunc_impl_Exclusion_impl_Exclusion [aL 5 (xs.map GExclusion.enc), (false, [.fn f cs])] [rB (xs.any p)] := by
  refine ctr_at (M := m_slices_ContainsFunc_impl_Exclusion_impl_Exclusion) (m := 0) (n := 9) (res := [(.tmp 4, [false])]) hmix Tryz.func179 rfl (by kernel_rfl) rfl (by kernel_rfl) (by kernel_rfl) (Nat.le_of_ble_eq_true rfl) ?_; unfold m_slices_ContainsFunc_impl_Exclusion_impl_Exclusion
  intro hb
  clear hb
  simp only [↓bk_bind, ↓bk_map, ↓bk_ite, ↓bk_some, ↓reduceIte, Nat.reduceEqDiff, Nat.reduceLT, Nat.reduceLeDiff, Nat.reduceAdd, Nat.reduceMul, reduceCtorEq, List.reduceReplicate, go_sem]
  refine callK_of (c_slices_IndexFunc_Exclusion xs f cs p hp) ?_
  simp only [↓bk_bind, ↓bk_map, ↓bk_ite, ↓bk_some, ↓reduceIte, Nat.reduceEqDiff, Nat.reduceLT, Nat.reduceLeDiff, Nat.reduceAdd, Nat.reduceMul, reduceCtorEq, List.reduceReplicate, go_sem]
  intros
  exact idxF_ge
def m_slices_Equal_impl_Found_impl_Found : MC :=
(.seq (pr [.mv 4 (.c (.bool false))] [0,1])
(.seq (.seq (pr [.mv 6 (.s 0), .len 7 false (.s 6), .mv 8 (.s 1), .len 9 false (.s 8), .bin 10 false .neq (.s 7) (.s 9)] [0,1,10])
(.cond (.s 10) (.seq (pr [.mv 4 (.c (.bool false))] [4])
.ret) .skip))
(.seq (.seq (pr [.mv 11 (.s 0), .len 12 false (.s 11), .mv 13 (.c (.int .i64 0))] [0,1,12,13])
(.block 0 (.loop ([0,1,12,13], []) (.seq (pr [.bin 14 false .lss (.s 13) (.s 12)] [0,1,12,13,14])
(.seq (.cond (.s 14) .skip (.exit 0))
(.seq (.block 1 (.seq (pr [.mv 15 (.s 13), .mv 5 (.s 15)] [0,1,5,12,13])
(.seq (.dreg [{ o := .mv 16 (.s 0), hs := [17,20,21,22,23] }, { o := .mv 17 (.s 5), hs := [16,20,21,22,23] }, { o := .idx 18 6 (.s 16) (.s 17), hs := [20,21,22,23], bf := [0,1] }, { o := .load 19 true 6 (.s 18), hs := [20,21,22,23], bf := [0,1,2] }, { o := .mv 20 (.s 1), hs := [16,17,18,19,21] }, { o := .mv 21 (.s 5), hs := [16,17,18,19,20] }, { o := .idx 22 6 (.s 20) (.s 21), hs := [16,17,18,19], bf := [4,5] }, { o := .load 23 true 6 (.s 22), hs := [16,17,18,19], bf := [4,5,6] }, { o := .eqA 24 true [.i .i64, .i .i64, .i .i64, .i .i64, .i .i64, .i .i64] (.s 19) (.s 23), bf := [0,1,2,3,4,5,6,7] }] [0,1,12,13,24])
(.cond (.s 24) (.seq (pr [.mv 4 (.c (.bool false))] [4])
.ret) .skip))))
(pr [.bin 25 false .add (.s 13) (.c (.int .i64 1)), .mv 13 (.s 25)] [0,1,12,13])))))))
(.seq (pr [.mv 4 (.c (.bool true))] [4])
.ret))))
theorem c_slices_Equal_Found (xs ys : List GFound) : Ctr Tryz.prog n_slices_Equal_impl_Found_impl_Found [aL 6 (xs.map GFound.enc), aL 6 (ys.map GFound.enc)] [rB (decide (xs = ys))] := by
  refine ctr_at (M := m_slices_Equal_impl_Found_impl_Found) (m := 0) (n := 26) (res := [(.tmp 4, [false])]) hmix Tryz.func64 rfl (by kernel_rfl) rfl (by kernel_rfl) (by kernel_rfl) (Nat.le_of_ble_eq_true rfl) ?_; unfold m_slices_Equal_impl_Found_impl_Found
  intro hb
  simp only [bdA, bdL, bdT, bdR, bdR_map, wfB_i64, wfB_bool, wfB_str, roomB, and_true, true_and, List.length_map] at hb
  obtain ⟨⟨hl, -⟩, ⟨hl2, -⟩⟩ := hb
  simp only [↓bk_bind, ↓bk_map, ↓bk_ite, ↓bk_some, ↓reduceIte, Nat.reduceEqDiff, Nat.reduceLT, Nat.reduceLeDiff, Nat.reduceAdd, Nat.reduceMul, reduceCtorEq, List.reduceReplicate, go_sem]
  refine ⟨fun h => ne_len h, fun h => ?_⟩
  have hle : xs.length = ys.length := by omega
  refine loopK_rng xs (fun k => [(13, vI k)]) (fun k => []) (fun k => xs.take k = ys.take k) hl ?_
  simp only [↓bk_bind, ↓bk_map, ↓bk_ite, ↓bk_some, ↓reduceIte, Nat.reduceEqDiff, Nat.reduceLT, Nat.reduceLeDiff, Nat.reduceAdd, Nat.reduceMul, reduceCtorEq, List.reduceReplicate, go_sem]
  refine ⟨?_, rfl, ?_, ?_⟩
  · simp only [↓bk_bind, ↓bk_map, ↓bk_ite, ↓bk_some, ↓reduceIte, Nat.reduceEqDiff, Nat.reduceLT, Nat.reduceLeDiff, Nat.reduceAdd, Nat.reduceMul, reduceCtorEq, List.reduceReplicate, go_sem]
  · intro k x hx he h0 h1 hw
    obtain ⟨y, hy⟩ := at_some (show k < ys.length by omega)
    have h2 : (k : Int) < ys.length := by omega
    simp only [↓bk_bind, ↓bk_map, ↓bk_ite, ↓bk_some, ↓reduceIte, Nat.reduceEqDiff, Nat.reduceLT, Nat.reduceLeDiff, Nat.reduceAdd, Nat.reduceMul, reduceCtorEq, List.reduceReplicate, go_sem, bk_eq hx, bk_eq hy, h0, h1, h2, hw, eqB]
    exact ⟨fun hn => ne_at hx hy (by rintro rfl; simp at hn), fun hn => (take_eq_step hx hy he).2 (by exact GFound.eqv.2 (by simpa using hn))⟩
  · intro he
    simp only [↓bk_bind, ↓bk_map, ↓bk_ite, ↓bk_some, ↓reduceIte, Nat.reduceEqDiff, Nat.reduceLT, Nat.reduceLeDiff, Nat.reduceAdd, Nat.reduceMul, reduceCtorEq, List.reduceReplicate, go_sem]
    exact eq_all he hle
end Go.Proofs.YtbnbgekjjbpljaaGreatR
namespace Go.Proofs.YtbnbgekjjbpljaaGreatR
open Go Go.RowKit Go.Proofs
set_option linter.unusedSimpArgs false
set_option linter.unusedVariables false
attribute [go_sem] eqB
def m_spec_l1In : MC :=
(.seq (pr [.mv 6 (.c (.bool false))] [0,1,2])
(.seq (.reg [{ o := .mv 7 (.s 0) }, { o := .mv 8 (.s 1) }, { o := .bin 9 false .geq (.s 7) (.s 8) }, { o := .mv 10 (.s 9) }, { o := .mv 11 (.s 0), g := some (10, true) }, { o := .mv 12 (.s 2), g := some (10, true) }, { o := .bin 13 false .leq (.s 11) (.s 12), g := some (10, true) }, { o := .pick 14 (.s 10) (.s 13) (.c (.bool false)) }, { o := .mv 6 (.s 14) }] [6])
.ret))
theorem c_spec_l1In (x a b : Int) : Ctr Tryz.prog n_spec_l1In [aI x, aI a, aI b] [rB (decide (a ≤ x ∧ x ≤ b))] := by
  refine ctr_at (M := m_spec_l1In) (m := 0) (n := 15) (res := [(.tmp 6, [false])]) hmix Tryz.func182 rfl (by kernel_rfl) rfl (by kernel_rfl) (by kernel_rfl) (Nat.le_of_ble_eq_true rfl) ?_; unfold m_spec_l1In
  intro hb
  clear hb
  simp only [↓bk_bind, ↓bk_map, ↓bk_ite, ↓bk_some, ↓reduceIte, Nat.reduceEqDiff, Nat.reduceLT, Nat.reduceLeDiff, Nat.reduceAdd, Nat.reduceMul, reduceCtorEq, List.reduceReplicate, go_sem]
  exact ⟨fun h => by simp [h], fun h => by simp; omega⟩
def m_impl_InRange : MC :=
(.seq (pr [.mv 6 (.c (.bool false))] [0,1,2])
(.seq (.reg [{ o := .mv 7 (.s 1) }, { o := .mv 8 (.s 0) }, { o := .bin 9 false .leq (.s 7) (.s 8) }, { o := .mv 10 (.s 9) }, { o := .mv 11 (.s 0), g := some (10, true) }, { o := .mv 12 (.s 2), g := some (10, true) }, { o := .bin 13 false .leq (.s 11) (.s 12), g := some (10, true) }, { o := .pick 14 (.s 10) (.s 13) (.c (.bool false)) }, { o := .mv 6 (.s 14) }] [6])
.ret))
theorem c_impl_InRange (x a b : Int) : Ctr Tryz.prog n_impl_InRange [aI x, aI a, aI b] [rB (decide (a ≤ x ∧ x ≤ b))] := by
  refine ctr_at (M := m_impl_InRange) (m := 0) (n := 15) (res := [(.tmp 6, [false])]) hmix Tryz.func212 rfl (by kernel_rfl) rfl (by kernel_rfl) (by kernel_rfl) (Nat.le_of_ble_eq_true rfl) ?_; unfold m_impl_InRange
  intro hb
  clear hb
  simp only [↓bk_bind, ↓bk_map, ↓bk_ite, ↓bk_some, ↓reduceIte, Nat.reduceEqDiff, Nat.reduceLT, Nat.reduceLeDiff, Nat.reduceAdd, Nat.reduceMul, reduceCtorEq, List.reduceReplicate, go_sem]
  exact ⟨fun h => by simp [h], fun h => by simp; omega⟩
def allIn (l : List Int) (a b : Int) : Bool := l.all fun x => decide (a ≤ x ∧ x ≤ b)
theorem all_step {α : Type} {p : α → Bool} {l : List α} {k : Nat} {x : α} (hx : l[k]? = some x) (h : (l.take k).all p = true) (hn : p x = true) : (l.take (k + 1)).all p = true := by
  rw [take_snoc hx, List.all_append, h]; simp [hn]
theorem all_not {α : Type} {p : α → Bool} {l : List α} {k : Nat} {x : α} (hx : l[k]? = some x) (hn : p x = false) : false = l.all p := by
  symm; rw [List.all_eq_false]; exact ⟨x, at_mem hx, by simp [hn]⟩
/-- Addresses within range. -/
def isAddr (a : GAddress) : Bool := decide (1 ≤ a.Host ∧ a.Host ≤ 9) && (decide (0 ≤ a.Path ∧ a.Path ≤ 99) && decide (0 ≤ a.Query ∧ a.Query ≤ 99))
def noAddr (a : GAddress) : Bool := a.Host == 0 && (a.Path == 0 && a.Query == 0)
/-- Resources within range. -/
def isRes (r : GResource) : Bool :=
  if r.Kind = 1 ∨ r.Kind = 2 then decide (r.Body.length ≤ 6) && (allIn r.Body 0 255 && noAddr r.To)
  else if r.Kind = 3 then decide (r.Body.length = 0) && isAddr r.To
  else if r.Kind = 4 then decide (r.Body.length = 0) && noAddr r.To else false
end Go.Proofs.YtbnbgekjjbpljaaGreatR
namespace Go.Proofs.YtbnbgekjjbpljaaGreatR
open Go Go.RowKit Go.Proofs
set_option linter.unusedSimpArgs false
set_option linter.unusedVariables false
def m_impl_copyResource : MC :=
(.seq (pr [.box 1 0 (.s 0), .alloc 2 1 [.pl (.sc (.int .i64 0)), .emp 1, .pl (.sc (.int .i64 0)), .pl (.sc (.int .i64 0)), .pl (.sc (.int .i64 0))]] [1,2])
(.seq (pr [.fld 3 (.s 1) 1, .load 4 false 1 (.s 3), .call 5 [2] (.f n_slices_Clone_int_int) [.s 4], .fld 6 (.s 1) 1, .store 1 (.s 6) (.s 5)] [1,2])
(.seq (pr [.load 7 true 5 (.s 1), .store 5 (.s 2) (.s 7)] [2])
.ret)))
theorem c_impl_copyResource (r : GResource) (hs : r.Body.length ≤ 1073741824) : Ctr Tryz.prog n_impl_copyResource [aS r.enc] [rS r.enc] := by
  refine ctr_at (M := m_impl_copyResource) (m := 3) (n := 8) (res := [(.cell 2 true 5, [false, true, false, false, false])]) hmix Tryz.func162 rfl (by kernel_rfl) rfl (by kernel_rfl) (by kernel_rfl) (Nat.le_of_ble_eq_true rfl) ?_; unfold m_impl_copyResource
  intro hb
  clear hb
  simp only [↓bk_bind, ↓bk_map, ↓bk_ite, ↓bk_some, ↓reduceIte, Nat.reduceEqDiff, Nat.reduceLT, Nat.reduceLeDiff, Nat.reduceAdd, Nat.reduceMul, reduceCtorEq, List.reduceReplicate, go_sem]
  refine callK_of (c_slices_Clone_int r.Body hs) ?_
  simp only [↓bk_bind, ↓bk_map, ↓bk_ite, ↓bk_some, ↓reduceIte, Nat.reduceEqDiff, Nat.reduceLT, Nat.reduceLeDiff, Nat.reduceAdd, Nat.reduceMul, reduceCtorEq, List.reduceReplicate, go_sem]
  try intros
  try trivial
def m_spec_l5Copy : MC :=
(.seq (pr [.box 1 0 (.s 0), .alloc 2 1 [.pl (.sc (.int .i64 0)), .emp 1, .pl (.sc (.int .i64 0)), .pl (.sc (.int .i64 0)), .pl (.sc (.int .i64 0))]] [1,2])
(.seq (.dreg [{ o := .fld 3 (.s 1) 0, hs := [5,6,7,8,9,10], ho := [2] }, { o := .load 4 false 1 (.s 3), hs := [5,6,7,8,9,10], ho := [2], bf := [0] }, { o := .lit 5 2 1 8 [], hs := [3,4,6,7,9,10], ws := [2] }, { o := .fld 6 (.s 1) 1, hs := [3,4,5,9,10], ho := [2] }, { o := .load 7 false 1 (.s 6), hs := [3,4,5,9,10], ho := [2], bf := [3] }, { o := .app 8 2 1 8 (.s 5) (.s 7), hs := [3,4,9,10], ws := [2], bf := [2,3,4] }, { o := .fld 9 (.s 1) 2, hs := [3,4,5,6,7,8], ho := [2] }, { o := .load 10 true 3 (.s 9), hs := [3,4,5,6,7,8], ho := [2], bf := [6] }, { o := .build 11 [.pl (.sc (.int .i64 0)), .emp 1, .pl (.sc (.int .i64 0)), .pl (.sc (.int .i64 0)), .pl (.sc (.int .i64 0))] [(0, 1, .s 4), (1, 1, .s 8), (2, 3, .s 10)], bf := [0,1,2,3,4,5,6,7] }, { o := .store 5 (.s 2) (.s 11), ws := [1,2], bf := [0,1,2,3,4,5,6,7,8] }] [2])
.ret))
theorem c_spec_l5Copy (r : GResource) (hs : r.Body.length ≤ 1073741824) : Ctr Tryz.prog n_spec_l5Copy [aS r.enc] [rS r.enc] := by
  refine ctr_at (M := m_spec_l5Copy) (m := 3) (n := 12) (res := [(.cell 2 true 5, [false, true, false, false, false])]) hmix Tryz.func161 rfl (by kernel_rfl) rfl (by kernel_rfl) (by kernel_rfl) (Nat.le_of_ble_eq_true rfl) ?_; unfold m_spec_l5Copy
  intro hb
  clear hb
  simp only [↓bk_bind, ↓bk_map, ↓bk_ite, ↓bk_some, ↓reduceIte, Nat.reduceEqDiff, Nat.reduceLT, Nat.reduceLeDiff, Nat.reduceAdd, Nat.reduceMul, reduceCtorEq, List.reduceReplicate, go_sem, ↓flat_of (f := encI) (fun _ => rfl) r.Body]
  simp only [roomB]
  omega
def m_impl_copyCaptures : MC :=
(.seq (pr [.nilo 2 0 9] [0])
(.seq (pr [.nilo 3 0 9] [0,3])
(.seq (.seq (pr [.mv 6 (.s 0), .len 7 false (.s 6), .mv 8 (.c (.int .i64 0))] [3,6,7,8])
(.block 0 (.loop ([3,6,7,8], [1,2,3]) (.seq (pr [.bin 9 false .lss (.s 8) (.s 7)] [3,6,7,8,9])
(.seq (.cond (.s 9) .skip (.exit 0))
(.seq (.block 1 (.seq (pr [.idx 10 9 (.s 6) (.s 8), .load 11 true 9 (.s 10), .alloc 5 1 [.pl (.sc (.int .i64 0)), .pl (.sc (.int .i64 0)), .pl (.sc (.int .i64 0)), .pl (.sc (.int .i64 0)), .pl (.sc (.int .i64 0)), .emp 1, .pl (.sc (.int .i64 0)), .pl (.sc (.int .i64 0)), .pl (.sc (.int .i64 0))], .store 9 (.s 5) (.s 11)] [3,5,6,7,8])
(.dreg [{ o := .mv 12 (.s 3), hs := [13,14,15,16,17,18,19,20,21], ho := [2,3] }, { o := .fld 13 (.s 5) 0, hs := [12,15,16,17,18,19], ho := [2] }, { o := .load 14 true 3 (.s 13), hs := [12,15,16,17,18,19], ho := [2], bf := [1] }, { o := .fld 15 (.s 5) 3, hs := [12,13,14,17,18,19], ho := [2] }, { o := .load 16 false 1 (.s 15), hs := [12,13,14,17,18,19], ho := [2], bf := [3] }, { o := .fld 17 (.s 5) 4, hs := [12,13,14,15,16] }, { o := .load 18 true 5 (.s 17), hs := [12,13,14,15,16], bf := [5] }, { o := .call 19 [2] (.f n_impl_copyResource) [.s 18], hs := [12,13,14,15,16], ws := [2], bf := [5,6] }, { o := .build 20 [.pl (.sc (.int .i64 0)), .pl (.sc (.int .i64 0)), .pl (.sc (.int .i64 0)), .pl (.sc (.int .i64 0)), .pl (.sc (.int .i64 0)), .emp 1, .pl (.sc (.int .i64 0)), .pl (.sc (.int .i64 0)), .pl (.sc (.int .i64 0))] [(0, 3, .s 14), (3, 1, .s 16), (4, 5, .s 19)], hs := [12], bf := [1,2,3,4,5,6,7] }, { o := .lit 21 3 9 88 [.s 20], hs := [12], ws := [2,3], bf := [1,2,3,4,5,6,7,8] }, { o := .app 22 0 9 88 (.s 12) (.s 21), ws := [0,3], bf := [0,1,2,3,4,5,6,7,8,9] }, { o := .mv 3 (.s 22), bf := [0,1,2,3,4,5,6,7,8,9,10] }] [3,6,7,8])))
(pr [.bin 23 false .add (.s 8) (.c (.int .i64 1)), .mv 8 (.s 23)] [3,6,7,8])))))))
(.seq (pr [.mv 24 (.s 3), .mv 2 (.s 24)] [2])
.ret))))
theorem c_impl_copyCaptures (xs : List GCapture) (hs : xs.length + (xs.map GCapture.size).sum ≤ 1073741824) : Ctr Tryz.prog n_impl_copyCaptures [aL 9 (xs.map GCapture.enc)] [rL 9 (xs.map GCapture.enc)] := by
  refine ctr_at (M := m_impl_copyCaptures) (m := 4) (n := 25) (res := [(.tmp 2, [true])]) hmix Tryz.func96 rfl (by kernel_rfl) rfl (by kernel_rfl) (by kernel_rfl) (Nat.le_of_ble_eq_true rfl) ?_; unfold m_impl_copyCaptures
  intro hb
  clear hb
  simp only [↓bk_bind, ↓bk_map, ↓bk_ite, ↓bk_some, ↓reduceIte, Nat.reduceEqDiff, Nat.reduceLT, Nat.reduceLeDiff, Nat.reduceAdd, Nat.reduceMul, reduceCtorEq, List.reduceReplicate, go_sem]
  refine loopK_rng xs (fun k => [(3, .val false [.ref 0 0 9 0 (xs.take k).length]), (8, vI k)]) (fun k => [(0, ⟨0, .row true 9 ((xs.take k).map GCapture.enc)⟩)]) (fun _ => True) (by simp only [roomB]; omega) ?_
  simp only [↓bk_bind, ↓bk_map, ↓bk_ite, ↓bk_some, ↓reduceIte, Nat.reduceEqDiff, Nat.reduceLT, Nat.reduceLeDiff, Nat.reduceAdd, Nat.reduceMul, reduceCtorEq, List.reduceReplicate, go_sem]
  refine ⟨?_, trivial, ?_, ?_⟩
  · simp only [↓bk_bind, ↓bk_map, ↓bk_ite, ↓bk_some, ↓reduceIte, Nat.reduceEqDiff, Nat.reduceLT, Nat.reduceLeDiff, Nat.reduceAdd, Nat.reduceMul, reduceCtorEq, List.reduceReplicate, go_sem, List.take_zero]
  · intro k x hx _ h0 h1 hw
    have hk : k < xs.length := by omega
    have hlt := List.length_take_le k xs
    have hx1 := mem_sum (f := GCapture.size) (at_mem hx)
    simp only [↓bk_bind, ↓bk_map, ↓bk_ite, ↓bk_some, ↓reduceIte, Nat.reduceEqDiff, Nat.reduceLT, Nat.reduceLeDiff, Nat.reduceAdd, Nat.reduceMul, reduceCtorEq, List.reduceReplicate, go_sem, bk_eq hx, h0, h1, hw]
    refine callK_of (c_impl_copyResource x.Resource (by simp only [GCapture.size, GResource.size] at hx1; omega)) ?_
    simp only [↓bk_bind, ↓bk_map, ↓bk_ite, ↓bk_some, ↓reduceIte, Nat.reduceEqDiff, Nat.reduceLT, Nat.reduceLeDiff, Nat.reduceAdd, Nat.reduceMul, reduceCtorEq, List.reduceReplicate, go_sem, hw]
    simp only [roomB]
    exact ⟨by omega, by omega, fun _ => ⟨snoc_len hx, snoc_map hx⟩⟩
  · intro _
    simp only [↓bk_bind, ↓bk_map, ↓bk_ite, ↓bk_some, ↓reduceIte, Nat.reduceEqDiff, Nat.reduceLT, Nat.reduceLeDiff, Nat.reduceAdd, Nat.reduceMul, reduceCtorEq, List.reduceReplicate, go_sem, List.take_length]
def m_spec_l15Copy : MC :=
(.seq (pr [.nilo 2 0 9] [0])
(.seq (pr [.lit 5 0 9 88 [], .mv 3 (.s 5)] [0,3])
(.seq (.seq (pr [.mv 4 (.c (.int .i64 0))] [0,3,4])
(.block 0 (.loop ([0,3,4], [1,2]) (.seq (.seq (pr [.mv 6 (.s 4), .mv 7 (.s 0), .len 8 false (.s 7), .bin 9 false .lss (.s 6) (.s 8)] [0,3,4,9])
(.cond (.s 9) .skip (.exit 0)))
(.seq (.block 1 (.dreg [{ o := .mv 12 (.s 3), hs := [13,14,15,16,17,18,19,20,21,22,23,24,25,26,27,28,29,30], ho := [1,2] }, { o := .mv 13 (.s 0), hs := [12,14,18,19,20,21,22,23,24,25,26,27,28], ho := [1] }, { o := .mv 14 (.s 4), hs := [12,13,18,19,20,21,22,23,24,25,26,27,28], ho := [1] }, { o := .idx 15 9 (.s 13) (.s 14), hs := [12,18,19,20,21,22,23,24,25,26,27,28], ho := [1], bf := [1,2] }, { o := .fld 16 (.s 15) 0, hs := [12,18,19,20,21,22,23,24,25,26,27,28], ho := [1], bf := [1,2,3] }, { o := .load 17 true 3 (.s 16), hs := [12,18,19,20,21,22,23,24,25,26,27,28], ho := [1], bf := [1,2,3,4] }, { o := .mv 18 (.s 0), hs := [12,13,14,15,16,17,19,23,24,25,26,27,28], ho := [1] }, { o := .mv 19 (.s 4), hs := [12,13,14,15,16,17,18,23,24,25,26,27,28], ho := [1] }, { o := .idx 20 9 (.s 18) (.s 19), hs := [12,13,14,15,16,17,23,24,25,26,27,28], ho := [1], bf := [6,7] }, { o := .fld 21 (.s 20) 3, hs := [12,13,14,15,16,17,23,24,25,26,27,28], ho := [1], bf := [6,7,8] }, { o := .load 22 false 1 (.s 21), hs := [12,13,14,15,16,17,23,24,25,26,27,28], ho := [1], bf := [6,7,8,9] }, { o := .mv 23 (.s 0), hs := [12,13,14,15,16,17,18,19,20,21,22,24] }, { o := .mv 24 (.s 4), hs := [12,13,14,15,16,17,18,19,20,21,22,23] }, { o := .idx 25 9 (.s 23) (.s 24), hs := [12,13,14,15,16,17,18,19,20,21,22], bf := [11,12] }, { o := .fld 26 (.s 25) 4, hs := [12,13,14,15,16,17,18,19,20,21,22], bf := [11,12,13] }, { o := .load 27 true 5 (.s 26), hs := [12,13,14,15,16,17,18,19,20,21,22], bf := [11,12,13,14] }, { o := .call 28 [1] (.f n_spec_l5Copy) [.s 27], hs := [12,13,14,15,16,17,18,19,20,21,22], ws := [1], bf := [11,12,13,14,15] }, { o := .build 29 [.pl (.sc (.int .i64 0)), .pl (.sc (.int .i64 0)), .pl (.sc (.int .i64 0)), .pl (.sc (.int .i64 0)), .pl (.sc (.int .i64 0)), .emp 1, .pl (.sc (.int .i64 0)), .pl (.sc (.int .i64 0)), .pl (.sc (.int .i64 0))] [(0, 3, .s 17), (3, 1, .s 22), (4, 5, .s 28)], hs := [12], bf := [1,2,3,4,5,6,7,8,9,10,11,12,13,14,15,16] }, { o := .lit 30 2 9 88 [.s 29], hs := [12], ws := [1,2], bf := [1,2,3,4,5,6,7,8,9,10,11,12,13,14,15,16,17] }, { o := .app 31 0 9 88 (.s 12) (.s 30), ws := [0,2], bf := [0,1,2,3,4,5,6,7,8,9,10,11,12,13,14,15,16,17,18] }, { o := .mv 3 (.s 31), bf := [0,1,2,3,4,5,6,7,8,9,10,11,12,13,14,15,16,17,18,19] }] [0,3,4]))
(pr [.mv 10 (.s 4), .bin 11 false .add (.s 10) (.c (.int .i64 1)), .mv 4 (.s 11)] [0,3,4]))))))
(.seq (pr [.mv 32 (.s 3), .mv 2 (.s 32)] [2])
.ret))))
theorem c_spec_l15Copy (xs : List GCapture) (hs : xs.length + (xs.map GCapture.size).sum ≤ 1073741824) : Ctr Tryz.prog n_spec_l15Copy [aL 9 (xs.map GCapture.enc)] [rL 9 (xs.map GCapture.enc)] := by
  refine ctr_at (M := m_spec_l15Copy) (m := 3) (n := 33) (res := [(.tmp 2, [true])]) hmix Tryz.func95 rfl (by kernel_rfl) rfl (by kernel_rfl) (by kernel_rfl) (Nat.le_of_ble_eq_true rfl) ?_; unfold m_spec_l15Copy
  intro hb
  clear hb
  simp only [↓bk_bind, ↓bk_map, ↓bk_ite, ↓bk_some, ↓reduceIte, Nat.reduceEqDiff, Nat.reduceLT, Nat.reduceLeDiff, Nat.reduceAdd, Nat.reduceMul, reduceCtorEq, List.reduceReplicate, go_sem]
  refine loopK_rng xs (fun k => [(3, .val false [.ref 0 0 9 0 (xs.take k).length]), (4, vI k)]) (fun k => [(0, ⟨0, .row true 9 ((xs.take k).map GCapture.enc)⟩)]) (fun _ => True) (by simp only [roomB]; omega) ?_
  simp only [↓bk_bind, ↓bk_map, ↓bk_ite, ↓bk_some, ↓reduceIte, Nat.reduceEqDiff, Nat.reduceLT, Nat.reduceLeDiff, Nat.reduceAdd, Nat.reduceMul, reduceCtorEq, List.reduceReplicate, go_sem]
  refine ⟨?_, trivial, ?_, ?_⟩
  · simp only [↓bk_bind, ↓bk_map, ↓bk_ite, ↓bk_some, ↓reduceIte, Nat.reduceEqDiff, Nat.reduceLT, Nat.reduceLeDiff, Nat.reduceAdd, Nat.reduceMul, reduceCtorEq, List.reduceReplicate, go_sem, List.take_zero]
  · intro k x hx _ h0 h1 hw
    have hk : k < xs.length := by omega
    have hlt := List.length_take_le k xs
    have hx1 := mem_sum (f := GCapture.size) (at_mem hx)
    simp only [↓bk_bind, ↓bk_map, ↓bk_ite, ↓bk_some, ↓reduceIte, Nat.reduceEqDiff, Nat.reduceLT, Nat.reduceLeDiff, Nat.reduceAdd, Nat.reduceMul, reduceCtorEq, List.reduceReplicate, go_sem, bk_eq hx, h0, h1, hw]
    refine callK_of (c_spec_l5Copy x.Resource (by simp only [GCapture.size, GResource.size] at hx1; omega)) ?_
    simp only [↓bk_bind, ↓bk_map, ↓bk_ite, ↓bk_some, ↓reduceIte, Nat.reduceEqDiff, Nat.reduceLT, Nat.reduceLeDiff, Nat.reduceAdd, Nat.reduceMul, reduceCtorEq, List.reduceReplicate, go_sem, hw]
    simp only [roomB]
    exact ⟨by omega, by omega, fun _ => ⟨snoc_len hx, snoc_map hx⟩⟩
  · intro _
    simp only [↓bk_bind, ↓bk_map, ↓bk_ite, ↓bk_some, ↓reduceIte, Nat.reduceEqDiff, Nat.reduceLT, Nat.reduceLeDiff, Nat.reduceAdd, Nat.reduceMul, reduceCtorEq, List.reduceReplicate, go_sem, List.take_length]
end Go.Proofs.YtbnbgekjjbpljaaGreatR
namespace Go.Proofs.YtbnbgekjjbpljaaGreatR
open Go Go.RowKit Go.Proofs
set_option linter.unusedSimpArgs false
set_option linter.unusedVariables false
def isExcl (x : GExclusion) : Bool := decide ((1 ≤ x.Host ∧ x.Host ≤ 9) ∧ (-1 ≤ x.Path ∧ x.Path ≤ 99) ∧ (0 ≤ x.From ∧ x.From ≤ x.Until) ∧ x.Until ≤ 2000 ∧ (0 ≤ x.Asked ∧ x.Asked ≤ 2000))
def m_impl_IsExclusion : MC :=
(.seq (pr [.box 1 0 (.s 0), .mv 2 (.c (.bool false))] [1])
(.seq (.reg [{ o := .fld 3 (.s 1) 0 }, { o := .load 4 false 1 (.s 3) }, { o := .call 5 [] (.f n_impl_InRange) [.s 4, .c (.int .i64 1), .c (.int .i64 9)] }, { o := .mv 6 (.s 5) }, { o := .fld 7 (.s 1) 1, g := some (6, true) }, { o := .load 8 false 1 (.s 7), g := some (6, true) }, { o := .call 9 [] (.f n_impl_InRange) [.s 8, .c (.int .i64 (-1)), .c (.int .i64 99)], g := some (6, true) }, { o := .pick 10 (.s 6) (.s 9) (.c (.bool false)) }, { o := .mv 11 (.s 10) }, { o := .fld 12 (.s 1) 2, g := some (11, true) }, { o := .load 13 false 1 (.s 12), g := some (11, true) }, { o := .fld 14 (.s 1) 3, g := some (11, true) }, { o := .load 15 false 1 (.s 14), g := some (11, true) }, { o := .call 16 [] (.f n_impl_InRange) [.s 13, .c (.int .i64 0), .s 15], g := some (11, true) }, { o := .pick 17 (.s 11) (.s 16) (.c (.bool false)) }, { o := .mv 18 (.s 17) }, { o := .fld 19 (.s 1) 3, g := some (18, true) }, { o := .load 20 false 1 (.s 19), g := some (18, true) }, { o := .bin 21 false .leq (.s 20) (.c (.int .i64 2000)), g := some (18, true) }, { o := .pick 22 (.s 18) (.s 21) (.c (.bool false)) }, { o := .mv 23 (.s 22) }, { o := .fld 24 (.s 1) 4, g := some (23, true) }, { o := .load 25 false 1 (.s 24), g := some (23, true) }, { o := .call 26 [] (.f n_impl_InRange) [.s 25, .c (.int .i64 0), .c (.int .i64 2000)], g := some (23, true) }, { o := .pick 27 (.s 23) (.s 26) (.c (.bool false)) }, { o := .mv 2 (.s 27) }] [2])
.ret))
theorem c_impl_IsExclusion (x : GExclusion) : Ctr Tryz.prog n_impl_IsExclusion [aS x.enc] [rB (isExcl x)] := by
  refine ctr_at (M := m_impl_IsExclusion) (m := 1) (n := 28) (res := [(.tmp 2, [false])]) hmix Tryz.func242 rfl (by kernel_rfl) rfl (by kernel_rfl) (by kernel_rfl) (Nat.le_of_ble_eq_true rfl) ?_; unfold m_impl_IsExclusion
  intro hb
  clear hb
  simp only [↓bk_bind, ↓bk_map, ↓bk_ite, ↓bk_some, ↓reduceIte, Nat.reduceEqDiff, Nat.reduceLT, Nat.reduceLeDiff, Nat.reduceAdd, Nat.reduceMul, reduceCtorEq, List.reduceReplicate, go_sem]
  repeat' first
    | (refine And.intro ?_ ?_ <;> intro h)
    | (apply callK_of (c_impl_InRange _ _ _); simp only [↓bk_bind, ↓bk_map, ↓bk_ite, ↓bk_some, ↓reduceIte, Nat.reduceEqDiff, Nat.reduceLT, Nat.reduceLeDiff, Nat.reduceAdd, Nat.reduceMul, reduceCtorEq, List.reduceReplicate, go_sem])
  all_goals (unfold isExcl; first | (symm; rw [decide_eq_false_iff_not]; omega) | (rw [Bool.eq_iff_iff]; simp only [decide_eq_true_eq]; omega))
def m_spec_IsExclusion : MC :=
(.seq (pr [.box 1 0 (.s 0), .mv 2 (.c (.bool false))] [1])
(.seq (.reg [{ o := .fld 3 (.s 1) 0 }, { o := .load 4 false 1 (.s 3) }, { o := .call 5 [] (.f n_spec_l1In) [.s 4, .c (.int .i64 1), .c (.int .i64 9)] }, { o := .mv 6 (.s 5) }, { o := .fld 7 (.s 1) 1, g := some (6, true) }, { o := .load 8 false 1 (.s 7), g := some (6, true) }, { o := .call 9 [] (.f n_spec_l1In) [.s 8, .c (.int .i64 (-1)), .c (.int .i64 99)], g := some (6, true) }, { o := .pick 10 (.s 6) (.s 9) (.c (.bool false)) }, { o := .mv 11 (.s 10) }, { o := .fld 12 (.s 1) 2, g := some (11, true) }, { o := .load 13 false 1 (.s 12), g := some (11, true) }, { o := .call 14 [] (.f n_spec_l1In) [.s 13, .c (.int .i64 0), .c (.int .i64 2000)], g := some (11, true) }, { o := .pick 15 (.s 11) (.s 14) (.c (.bool false)) }, { o := .mv 16 (.s 15) }, { o := .fld 17 (.s 1) 3, g := some (16, true) }, { o := .load 18 false 1 (.s 17), g := some (16, true) }, { o := .fld 19 (.s 1) 2, g := some (16, true) }, { o := .load 20 false 1 (.s 19), g := some (16, true) }, { o := .call 21 [] (.f n_spec_l1In) [.s 18, .s 20, .c (.int .i64 2000)], g := some (16, true) }, { o := .pick 22 (.s 16) (.s 21) (.c (.bool false)) }, { o := .mv 23 (.s 22) }, { o := .fld 24 (.s 1) 4, g := some (23, true) }, { o := .load 25 false 1 (.s 24), g := some (23, true) }, { o := .call 26 [] (.f n_spec_l1In) [.s 25, .c (.int .i64 0), .c (.int .i64 2000)], g := some (23, true) }, { o := .pick 27 (.s 23) (.s 26) (.c (.bool false)) }, { o := .mv 2 (.s 27) }] [2])
.ret))
theorem c_spec_IsExclusion (x : GExclusion) : Ctr Tryz.prog n_spec_IsExclusion [aS x.enc] [rB (isExcl x)] := by
  refine ctr_at (M := m_spec_IsExclusion) (m := 1) (n := 28) (res := [(.tmp 2, [false])]) hmix Tryz.func249 rfl (by kernel_rfl) rfl (by kernel_rfl) (by kernel_rfl) (Nat.le_of_ble_eq_true rfl) ?_; unfold m_spec_IsExclusion
  intro hb
  clear hb
  simp only [↓bk_bind, ↓bk_map, ↓bk_ite, ↓bk_some, ↓reduceIte, Nat.reduceEqDiff, Nat.reduceLT, Nat.reduceLeDiff, Nat.reduceAdd, Nat.reduceMul, reduceCtorEq, List.reduceReplicate, go_sem]
  repeat' first
    | (refine And.intro ?_ ?_ <;> intro h)
    | (apply callK_of (c_spec_l1In _ _ _); simp only [↓bk_bind, ↓bk_map, ↓bk_ite, ↓bk_some, ↓reduceIte, Nat.reduceEqDiff, Nat.reduceLT, Nat.reduceLeDiff, Nat.reduceAdd, Nat.reduceMul, reduceCtorEq, List.reduceReplicate, go_sem])
  all_goals (unfold isExcl; first | (symm; rw [decide_eq_false_iff_not]; omega) | (rw [Bool.eq_iff_iff]; simp only [decide_eq_true_eq]; omega))
/-- A valid exclusion that means this capture. -/
def hidesB (x : GExclusion) (c : GCapture) : Bool := isExcl x && decide (c.Address.Host = x.Host ∧ (x.Path = -1 ∨ c.Address.Path = x.Path) ∧ x.From ≤ c.Tick ∧ c.Tick ≤ x.Until)
def hiddenBy (x : GExclusion) (c : GCapture) (now : Int) : Bool := decide (x.Asked ≤ now) && hidesB x c
def m_impl_Exclusion_hides : MC :=
(.seq (pr [.box 2 0 (.s 0), .box 3 1 (.s 1), .mv 4 (.c (.bool false))] [2,3])
(.seq (.reg [{ o := .load 5 true 5 (.s 2) }, { o := .call 6 [] (.f n_impl_IsExclusion) [.s 5] }, { o := .mv 7 (.s 6) }, { o := .fld 8 (.s 3) 0, g := some (7, true) }, { o := .fld 9 (.s 8) 0, g := some (7, true) }, { o := .load 10 false 1 (.s 9), g := some (7, true) }, { o := .fld 11 (.s 2) 0, g := some (7, true) }, { o := .load 12 false 1 (.s 11), g := some (7, true) }, { o := .bin 13 false .eql (.s 10) (.s 12), g := some (7, true) }, { o := .pick 14 (.s 7) (.s 13) (.c (.bool false)) }, { o := .mv 15 (.s 14) }, { o := .fld 16 (.s 2) 1, g := some (15, true) }, { o := .load 17 false 1 (.s 16), g := some (15, true) }, { o := .bin 18 false .eql (.s 17) (.c (.int .i64 (-1))), g := some (15, true) }, { o := .mv 19 (.s 18), g := some (15, true) }, { o := .fld 20 (.s 3) 0, g := some (19, false) }, { o := .fld 21 (.s 20) 1, g := some (19, false) }, { o := .load 22 false 1 (.s 21), g := some (19, false) }, { o := .fld 23 (.s 2) 1, g := some (19, false) }, { o := .load 24 false 1 (.s 23), g := some (19, false) }, { o := .bin 25 false .eql (.s 22) (.s 24), g := some (19, false) }, { o := .pick 26 (.s 19) (.c (.bool true)) (.s 25), g := some (15, true) }, { o := .pick 27 (.s 15) (.s 26) (.c (.bool false)) }, { o := .mv 28 (.s 27) }, { o := .fld 29 (.s 3) 3, g := some (28, true) }, { o := .load 30 false 1 (.s 29), g := some (28, true) }, { o := .fld 31 (.s 2) 2, g := some (28, true) }, { o := .load 32 false 1 (.s 31), g := some (28, true) }, { o := .fld 33 (.s 2) 3, g := some (28, true) }, { o := .load 34 false 1 (.s 33), g := some (28, true) }, { o := .call 35 [] (.f n_impl_InRange) [.s 30, .s 32, .s 34], g := some (28, true) }, { o := .pick 36 (.s 28) (.s 35) (.c (.bool false)) }, { o := .mv 4 (.s 36) }] [4])
.ret))
theorem c_impl_hides (x : GExclusion) (c : GCapture) : Ctr Tryz.prog n_impl_Exclusion_hides [aS x.enc, aS c.enc] [rB (hidesB x c)] := by
  refine ctr_at (M := m_impl_Exclusion_hides) (m := 2) (n := 37) (res := [(.tmp 4, [false])]) hmix Tryz.func222 rfl (by kernel_rfl) rfl (by kernel_rfl) (by kernel_rfl) (Nat.le_of_ble_eq_true rfl) ?_; unfold m_impl_Exclusion_hides
  intro hb
  clear hb
  simp only [↓bk_bind, ↓bk_map, ↓bk_ite, ↓bk_some, ↓reduceIte, Nat.reduceEqDiff, Nat.reduceLT, Nat.reduceLeDiff, Nat.reduceAdd, Nat.reduceMul, reduceCtorEq, List.reduceReplicate, go_sem]
  repeat' first
    | (refine And.intro ?_ ?_ <;> intro h)
    | (apply callK_of (c_impl_IsExclusion _); simp only [↓bk_bind, ↓bk_map, ↓bk_ite, ↓bk_some, ↓reduceIte, Nat.reduceEqDiff, Nat.reduceLT, Nat.reduceLeDiff, Nat.reduceAdd, Nat.reduceMul, reduceCtorEq, List.reduceReplicate, go_sem])
    | (apply callK_of (c_impl_InRange _ _ _); simp only [↓bk_bind, ↓bk_map, ↓bk_ite, ↓bk_some, ↓reduceIte, Nat.reduceEqDiff, Nat.reduceLT, Nat.reduceLeDiff, Nat.reduceAdd, Nat.reduceMul, reduceCtorEq, List.reduceReplicate, go_sem])
  all_goals (unfold hidesB; first | (rw [‹isExcl x = false›]; rfl) | (rw [‹isExcl x = true›, Bool.true_and]; first | (symm; rw [decide_eq_false_iff_not]; omega) | (rw [Bool.eq_iff_iff]; simp only [decide_eq_true_eq]; omega)))
def m_spec_l25Meets : MC :=
(.seq (pr [.box 2 0 (.s 0), .box 3 1 (.s 1), .mv 4 (.c (.bool false))] [2,3])
(.seq (.reg [{ o := .load 5 true 5 (.s 2) }, { o := .call 6 [] (.f n_spec_IsExclusion) [.s 5] }, { o := .mv 7 (.s 6) }, { o := .fld 8 (.s 2) 0, g := some (7, true) }, { o := .load 9 false 1 (.s 8), g := some (7, true) }, { o := .fld 10 (.s 3) 0, g := some (7, true) }, { o := .fld 11 (.s 10) 0, g := some (7, true) }, { o := .load 12 false 1 (.s 11), g := some (7, true) }, { o := .bin 13 false .eql (.s 9) (.s 12), g := some (7, true) }, { o := .pick 14 (.s 7) (.s 13) (.c (.bool false)) }, { o := .mv 15 (.s 14) }, { o := .fld 16 (.s 2) 1, g := some (15, true) }, { o := .load 17 false 1 (.s 16), g := some (15, true) }, { o := .bin 18 false .eql (.s 17) (.c (.int .i64 (-1))), g := some (15, true) }, { o := .mv 19 (.s 18), g := some (15, true) }, { o := .fld 20 (.s 2) 1, g := some (19, false) }, { o := .load 21 false 1 (.s 20), g := some (19, false) }, { o := .fld 22 (.s 3) 0, g := some (19, false) }, { o := .fld 23 (.s 22) 1, g := some (19, false) }, { o := .load 24 false 1 (.s 23), g := some (19, false) }, { o := .bin 25 false .eql (.s 21) (.s 24), g := some (19, false) }, { o := .pick 26 (.s 19) (.c (.bool true)) (.s 25), g := some (15, true) }, { o := .pick 27 (.s 15) (.s 26) (.c (.bool false)) }, { o := .mv 28 (.s 27) }, { o := .fld 29 (.s 3) 3, g := some (28, true) }, { o := .load 30 false 1 (.s 29), g := some (28, true) }, { o := .fld 31 (.s 2) 2, g := some (28, true) }, { o := .load 32 false 1 (.s 31), g := some (28, true) }, { o := .fld 33 (.s 2) 3, g := some (28, true) }, { o := .load 34 false 1 (.s 33), g := some (28, true) }, { o := .call 35 [] (.f n_spec_l1In) [.s 30, .s 32, .s 34], g := some (28, true) }, { o := .pick 36 (.s 28) (.s 35) (.c (.bool false)) }, { o := .mv 4 (.s 36) }] [4])
.ret))
theorem c_spec_l25Meets (x : GExclusion) (c : GCapture) : Ctr Tryz.prog n_spec_l25Meets [aS x.enc, aS c.enc] [rB (hidesB x c)] := by
  refine ctr_at (M := m_spec_l25Meets) (m := 2) (n := 37) (res := [(.tmp 4, [false])]) hmix Tryz.func241 rfl (by kernel_rfl) rfl (by kernel_rfl) (by kernel_rfl) (Nat.le_of_ble_eq_true rfl) ?_; unfold m_spec_l25Meets
  intro hb
  clear hb
  simp only [↓bk_bind, ↓bk_map, ↓bk_ite, ↓bk_some, ↓reduceIte, Nat.reduceEqDiff, Nat.reduceLT, Nat.reduceLeDiff, Nat.reduceAdd, Nat.reduceMul, reduceCtorEq, List.reduceReplicate, go_sem]
  repeat' first
    | (refine And.intro ?_ ?_ <;> intro h)
    | (apply callK_of (c_spec_IsExclusion _); simp only [↓bk_bind, ↓bk_map, ↓bk_ite, ↓bk_some, ↓reduceIte, Nat.reduceEqDiff, Nat.reduceLT, Nat.reduceLeDiff, Nat.reduceAdd, Nat.reduceMul, reduceCtorEq, List.reduceReplicate, go_sem])
    | (apply callK_of (c_spec_l1In _ _ _); simp only [↓bk_bind, ↓bk_map, ↓bk_ite, ↓bk_some, ↓reduceIte, Nat.reduceEqDiff, Nat.reduceLT, Nat.reduceLeDiff, Nat.reduceAdd, Nat.reduceMul, reduceCtorEq, List.reduceReplicate, go_sem])
  all_goals (unfold hidesB; first | (rw [‹isExcl x = false›]; rfl) | (rw [‹isExcl x = true›, Bool.true_and]; first | (symm; rw [decide_eq_false_iff_not]; omega) | (rw [Bool.eq_iff_iff]; simp only [decide_eq_true_eq]; omega)))
def m_impl_IsHiddenBy : MC :=
(.seq (pr [.box 3 0 (.s 0), .box 4 1 (.s 1), .mv 6 (.c (.bool false))] [2,3,4])
(.seq (.reg [{ o := .mv 7 (.s 2) }, { o := .fld 8 (.s 3) 4 }, { o := .load 9 false 1 (.s 8) }, { o := .bin 10 false .geq (.s 7) (.s 9) }, { o := .mv 11 (.s 10) }, { o := .load 12 true 5 (.s 3), g := some (11, true) }, { o := .load 13 true 9 (.s 4), g := some (11, true) }, { o := .call 14 [] (.f n_impl_Exclusion_hides) [.s 12, .s 13], g := some (11, true) }, { o := .pick 15 (.s 11) (.s 14) (.c (.bool false)) }, { o := .mv 6 (.s 15) }] [6])
.ret))
theorem c_impl_IsHiddenBy (x : GExclusion) (c : GCapture) (now : Int) : Ctr Tryz.prog n_impl_IsHiddenBy [aS x.enc, aS c.enc, aI now] [rB (hiddenBy x c now)] := by
  refine ctr_at (M := m_impl_IsHiddenBy) (m := 2) (n := 16) (res := [(.tmp 6, [false])]) hmix Tryz.func181 rfl (by kernel_rfl) rfl (by kernel_rfl) (by kernel_rfl) (Nat.le_of_ble_eq_true rfl) ?_; unfold m_impl_IsHiddenBy
  intro hb
  clear hb
  simp only [↓bk_bind, ↓bk_map, ↓bk_ite, ↓bk_some, ↓reduceIte, Nat.reduceEqDiff, Nat.reduceLT, Nat.reduceLeDiff, Nat.reduceAdd, Nat.reduceMul, reduceCtorEq, List.reduceReplicate, go_sem]
  repeat' first
    | (refine And.intro ?_ ?_ <;> intro h)
    | (apply callK_of (c_impl_hides _ _); simp only [↓bk_bind, ↓bk_map, ↓bk_ite, ↓bk_some, ↓reduceIte, Nat.reduceEqDiff, Nat.reduceLT, Nat.reduceLeDiff, Nat.reduceAdd, Nat.reduceMul, reduceCtorEq, List.reduceReplicate, go_sem])
  all_goals (unfold hiddenBy; first | (rw [‹hidesB x c = false›]; simp) | (simp; done) | (simp_all; done) | (intros; omega) | (simp_all; intros; omega))
def m_spec_IsHiddenBy : MC :=
(.seq (pr [.box 3 0 (.s 0), .box 4 1 (.s 1), .mv 6 (.c (.bool false))] [2,3,4])
(.seq (.reg [{ o := .load 7 true 5 (.s 3) }, { o := .load 8 true 9 (.s 4) }, { o := .call 9 [] (.f n_spec_l25Meets) [.s 7, .s 8] }, { o := .mv 10 (.s 9) }, { o := .mv 11 (.s 2), g := some (10, true) }, { o := .fld 12 (.s 3) 4, g := some (10, true) }, { o := .load 13 false 1 (.s 12), g := some (10, true) }, { o := .bin 14 false .geq (.s 11) (.s 13), g := some (10, true) }, { o := .pick 15 (.s 10) (.s 14) (.c (.bool false)) }, { o := .mv 6 (.s 15) }] [6])
.ret))
theorem c_spec_IsHiddenBy (x : GExclusion) (c : GCapture) (now : Int) : Ctr Tryz.prog n_spec_IsHiddenBy [aS x.enc, aS c.enc, aI now] [rB (hiddenBy x c now)] := by
  refine ctr_at (M := m_spec_IsHiddenBy) (m := 2) (n := 16) (res := [(.tmp 6, [false])]) hmix Tryz.func220 rfl (by kernel_rfl) rfl (by kernel_rfl) (by kernel_rfl) (Nat.le_of_ble_eq_true rfl) ?_; unfold m_spec_IsHiddenBy
  intro hb
  clear hb
  simp only [↓bk_bind, ↓bk_map, ↓bk_ite, ↓bk_some, ↓reduceIte, Nat.reduceEqDiff, Nat.reduceLT, Nat.reduceLeDiff, Nat.reduceAdd, Nat.reduceMul, reduceCtorEq, List.reduceReplicate, go_sem]
  repeat' first
    | (refine And.intro ?_ ?_ <;> intro h)
    | (apply callK_of (c_spec_l25Meets _ _); simp only [↓bk_bind, ↓bk_map, ↓bk_ite, ↓bk_some, ↓reduceIte, Nat.reduceEqDiff, Nat.reduceLT, Nat.reduceLeDiff, Nat.reduceAdd, Nat.reduceMul, reduceCtorEq, List.reduceReplicate, go_sem])
  all_goals (unfold hiddenBy; first | (rw [‹hidesB x c = false›]; simp) | (simp; done) | (simp_all; done) | (intros; omega) | (simp_all; intros; omega))
theorem cut_one {α : Type} {f : α → List T} {xs : List α} {k : Nat} {x : α} (hx : xs[k]? = some x) : (if k = 0 ∧ (((k + 1 : Nat) : Int) - (k : Int)).toNat = xs.length then xs.map f else List.take (((k + 1 : Nat) : Int) - (k : Int)).toNat (List.drop k (xs.map f))) = [x].map f := by
  have e : (((k + 1 : Nat) : Int) - (k : Int)).toNat = 1 := by omega
  have hk := len_at hx
  rw [e]
  have hd : List.take 1 (List.drop k (xs.map f)) = [x].map f := by
    rw [← List.map_drop, drop_cons hx]; rfl
  split
  · rename_i h
    rw [h.1] at hd
    rw [← hd, List.drop_zero, List.take_of_length_le (by rw [List.length_map, ← h.2]; exact Nat.le_refl _)]
  · exact hd
def hiddenIn (c : GCapture) (l : List GExclusion) (now : Int) : Bool := l.any fun x => hiddenBy x c now
def visible (cs : List GCapture) (l : List GExclusion) (now : Int) : List GCapture := cs.filter fun c => !hiddenIn c l now
theorem visible_snoc {cs : List GCapture} {l : List GExclusion} {now : Int} {k : Nat} {c : GCapture} (h : cs[k]? = some c) : visible (cs.take (k + 1)) l now = if hiddenIn c l now then visible (cs.take k) l now else visible (cs.take k) l now ++ [c] := by
  unfold visible
  rw [take_snoc h, List.filter_append]
  cases hh : hiddenIn c l now <;> simp [hh]
theorem visible_len (cs : List GCapture) (l : List GExclusion) (now : Int) : (visible cs l now).length ≤ cs.length := List.length_filter_le _ _
theorem sum_filter_le {α : Type} {p : α → Bool} {f : α → Nat} : ∀ l : List α, ((l.filter p).map f).sum ≤ (l.map f).sum
  | [] => by simp
  | x :: l => by
    have := sum_filter_le (p := p) (f := f) l
    rw [List.filter_cons]
    split <;> simp <;> omega
def m_impl_VisibleAt_1 : MC :=
(.seq (pr [.box 3 0 (.s 0), .mv 4 (.c (.bool false))] [1,2,3])
(.seq (pr [.load 5 true 5 (.s 3), .load 6 true 9 (.s 1), .load 7 false 1 (.s 2), .call 8 [] (.f n_impl_IsHiddenBy) [.s 5, .s 6, .s 7], .mv 4 (.s 8)] [4])
.ret))
theorem c_impl_VisibleAt_1 (x : GExclusion) (c : GCapture) (now : Int) : Ctr Tryz.prog n_impl_VisibleAt_1 [aS x.enc, (false, [.pb c.enc]), (false, [.pb [tI now]])] [rB (hiddenBy x c now)] := by
  refine ctr_at (M := m_impl_VisibleAt_1) (m := 1) (n := 9) (res := [(.tmp 4, [false])]) hmix Tryz.func180 rfl (by kernel_rfl) rfl (by kernel_rfl) (by kernel_rfl) (Nat.le_of_ble_eq_true rfl) ?_; unfold m_impl_VisibleAt_1
  intro hb
  clear hb
  simp only [↓bk_bind, ↓bk_map, ↓bk_ite, ↓bk_some, ↓reduceIte, Nat.reduceEqDiff, Nat.reduceLT, Nat.reduceLeDiff, Nat.reduceAdd, Nat.reduceMul, reduceCtorEq, List.reduceReplicate, go_sem]
  refine callK_of (c_impl_IsHiddenBy _ _ _) ?_
  simp only [↓bk_bind, ↓bk_map, ↓bk_ite, ↓bk_some, ↓reduceIte, Nat.reduceEqDiff, Nat.reduceLT, Nat.reduceLeDiff, Nat.reduceAdd, Nat.reduceMul, reduceCtorEq, List.reduceReplicate, go_sem]
def m_impl_VisibleAt : MC :=
(.seq (pr [.box 5 0 (.s 2), .nilo 6 1 9] [0,1,5])
(.seq (pr [.nilo 7 2 9] [0,1,5,7])
(.seq (.seq (pr [.mv 10 (.s 0), .len 11 false (.s 10), .mv 12 (.c (.int .i64 0))] [1,5,7,10,11,12])
(.block 0 (.loop ([1,5,7,10,11,12], [1,3,4]) (.seq (pr [.bin 13 false .lss (.s 12) (.s 11)] [1,5,7,10,11,12,13])
(.seq (.cond (.s 13) .skip (.exit 0))
(.seq (.block 1 (.seq (pr [.idx 14 9 (.s 10) (.s 12), .load 15 true 9 (.s 14), .alloc 9 3 [.pl (.sc (.int .i64 0)), .pl (.sc (.int .i64 0)), .pl (.sc (.int .i64 0)), .pl (.sc (.int .i64 0)), .pl (.sc (.int .i64 0)), .emp 1, .pl (.sc (.int .i64 0)), .pl (.sc (.int .i64 0)), .pl (.sc (.int .i64 0))], .store 9 (.s 9) (.s 15)] [1,5,7,9,10,11,12])
(.seq (pr [.mv 16 (.s 1), .clos 17 n_impl_VisibleAt_1 [9, 5], .call 18 [] (.f n_slices_ContainsFunc_impl_Exclusion_impl_Exclusion) [.s 16, .s 17], .un 19 .not (.s 18)] [1,5,7,9,10,11,12,19])
(.cond (.s 19) (pr [.mv 20 (.s 7), .load 21 true 9 (.s 9), .lit 22 4 9 88 [.s 21], .app 23 2 9 88 (.s 20) (.s 22), .mv 7 (.s 23)] [1,5,7,10,11,12]) .skip))))
(pr [.bin 24 false .add (.s 12) (.c (.int .i64 1)), .mv 12 (.s 24)] [1,5,7,10,11,12])))))))
(.seq (pr [.mv 25 (.s 7), .call 26 [1] (.f n_impl_copyCaptures) [.s 25], .mv 6 (.s 26)] [6])
.ret))))
theorem c_impl_VisibleAt (cs : List GCapture) (l : List GExclusion) (now : Int) (hs : cs.length + (cs.map GCapture.size).sum ≤ 1073741824) : Ctr Tryz.prog n_impl_VisibleAt [aL 9 (cs.map GCapture.enc), aL 5 (l.map GExclusion.enc), aI now] [rL 9 ((visible cs l now).map GCapture.enc)] := by
  refine ctr_at (M := m_impl_VisibleAt) (m := 5) (n := 27) (res := [(.tmp 6, [true])]) hmix Tryz.func122 rfl (by kernel_rfl) rfl (by kernel_rfl) (by kernel_rfl) (Nat.le_of_ble_eq_true rfl) ?_; unfold m_impl_VisibleAt
  intro hb
  clear hb
  simp only [↓bk_bind, ↓bk_map, ↓bk_ite, ↓bk_some, ↓reduceIte, Nat.reduceEqDiff, Nat.reduceLT, Nat.reduceLeDiff, Nat.reduceAdd, Nat.reduceMul, reduceCtorEq, List.reduceReplicate, go_sem]
  refine loopK_rng cs (fun k => [(7, .val false [.ref 2 0 9 0 (visible (cs.take k) l now).length]), (12, vI k)]) (fun k => [(2, ⟨0, .row (visible (cs.take k) l now).isEmpty 9 ((visible (cs.take k) l now).map GCapture.enc)⟩)]) (fun _ => True) (by simp only [roomB]; omega) ?_
  simp only [↓bk_bind, ↓bk_map, ↓bk_ite, ↓bk_some, ↓reduceIte, Nat.reduceEqDiff, Nat.reduceLT, Nat.reduceLeDiff, Nat.reduceAdd, Nat.reduceMul, reduceCtorEq, List.reduceReplicate, go_sem]
  refine ⟨?_, trivial, ?_, ?_⟩
  · simp only [↓bk_bind, ↓bk_map, ↓bk_ite, ↓bk_some, ↓reduceIte, Nat.reduceEqDiff, Nat.reduceLT, Nat.reduceLeDiff, Nat.reduceAdd, Nat.reduceMul, reduceCtorEq, List.reduceReplicate, go_sem, List.take_zero]
    exact ⟨rfl, rfl, rfl⟩
  · intro k x hx _ h0 h1 hw
    have hk : k < cs.length := by omega
    have hlt := List.length_take_le k cs
    have hv := visible_len (cs.take k) l now
    simp only [↓bk_bind, ↓bk_map, ↓bk_ite, ↓bk_some, ↓reduceIte, Nat.reduceEqDiff, Nat.reduceLT, Nat.reduceLeDiff, Nat.reduceAdd, Nat.reduceMul, reduceCtorEq, List.reduceReplicate, go_sem, bk_eq hx, h0, h1, hw]
    refine callK_of (c_slices_ContainsFunc_Exclusion l _ [.pb x.enc, .pb [tI now]] (fun y => hiddenBy y x now) fun y _ => c_impl_VisibleAt_1 y x now) ?_
    simp only [↓bk_bind, ↓bk_map, ↓bk_ite, ↓bk_some, ↓reduceIte, Nat.reduceEqDiff, Nat.reduceLT, Nat.reduceLeDiff, Nat.reduceAdd, Nat.reduceMul, reduceCtorEq, List.reduceReplicate, go_sem, hw]
    refine ⟨fun h => ?_, fun h => ?_⟩
    · have hx2 : hiddenIn x l now = false := h
      simp only [roomB, visible_snoc hx, hx2, Bool.false_eq_true, if_false]
      refine ⟨by omega, by omega, ?_, by simp, by simp, by simp [GCapture.enc]⟩
      cases visible (cs.take k) l now <;> simp
    · have hx2 : hiddenIn x l now = true := h
      simp only [visible_snoc hx, hx2, if_true]
      first | trivial | exact ⟨rfl, rfl, rfl⟩ | (refine ⟨?_, ?_⟩ <;> rfl)
  · intro _
    simp only [↓bk_bind, ↓bk_map, ↓bk_ite, ↓bk_some, ↓reduceIte, Nat.reduceEqDiff, Nat.reduceLT, Nat.reduceLeDiff, Nat.reduceAdd, Nat.reduceMul, reduceCtorEq, List.reduceReplicate, go_sem, List.take_length]
    refine callK_of (c_impl_copyCaptures _ ?_) ?_
    · have := visible_len cs l now
      have := sum_filter_le (p := fun c => !hiddenIn c l now) (f := GCapture.size) cs
      unfold visible at *
      omega
    simp only [↓bk_bind, ↓bk_map, ↓bk_ite, ↓bk_some, ↓reduceIte, Nat.reduceEqDiff, Nat.reduceLT, Nat.reduceLeDiff, Nat.reduceAdd, Nat.reduceMul, reduceCtorEq, List.reduceReplicate, go_sem]
def m_spec_l25Hidden : MC :=
(.seq (pr [.box 3 0 (.s 0), .mv 6 (.c (.bool false))] [1,2,3])
(.seq (.seq (pr [.mv 7 (.c (.int .i64 0))] [1,2,3,7])
(.block 0 (.loop ([1,2,3,7], []) (.seq (.seq (pr [.mv 8 (.s 7), .mv 9 (.s 1), .len 10 false (.s 9), .bin 11 false .lss (.s 8) (.s 10)] [1,2,3,7,11])
(.cond (.s 11) .skip (.exit 0)))
(.seq (.block 1 (.seq (.dreg [{ o := .mv 14 (.s 1), hs := [15,18,19] }, { o := .mv 15 (.s 7), hs := [14,18,19] }, { o := .idx 16 5 (.s 14) (.s 15), hs := [18,19], bf := [0,1] }, { o := .load 17 true 5 (.s 16), hs := [18,19], bf := [0,1,2] }, { o := .load 18 true 9 (.s 3), hs := [14,15,16,17,19] }, { o := .mv 19 (.s 2), hs := [14,15,16,17,18] }, { o := .call 20 [] (.f n_spec_IsHiddenBy) [.s 17, .s 18, .s 19], bf := [0,1,2,3,4,5] }] [1,2,3,7,20])
(.cond (.s 20) (.seq (pr [.mv 6 (.c (.bool true))] [6])
.ret) .skip)))
(pr [.mv 12 (.s 7), .bin 13 false .add (.s 12) (.c (.int .i64 1)), .mv 7 (.s 13)] [1,2,3,7]))))))
(.seq (pr [.mv 6 (.c (.bool false))] [6])
.ret)))
theorem c_spec_l25Hidden (c : GCapture) (l : List GExclusion) (now : Int) : Ctr Tryz.prog n_spec_l25Hidden [aS c.enc, aL 5 (l.map GExclusion.enc), aI now] [rB (hiddenIn c l now)] := by
  refine ctr_at (M := m_spec_l25Hidden) (m := 1) (n := 21) (res := [(.tmp 6, [false])]) hmix Tryz.func178 rfl (by kernel_rfl) rfl (by kernel_rfl) (by kernel_rfl) (Nat.le_of_ble_eq_true rfl) ?_; unfold m_spec_l25Hidden
  intro hb
  simp only [bdA, bdL, bdT, bdR, bdR_map, wfB_i64, wfB_bool, wfB_str, roomB, and_true, true_and, List.length_map] at hb
  have hl := hb.2.1.1
  clear hb
  simp only [↓bk_bind, ↓bk_map, ↓bk_ite, ↓bk_some, ↓reduceIte, Nat.reduceEqDiff, Nat.reduceLT, Nat.reduceLeDiff, Nat.reduceAdd, Nat.reduceMul, reduceCtorEq, List.reduceReplicate, go_sem]
  refine loopK_rng l (fun k => [(7, vI k)]) (fun k => []) (fun k => ((l.take k).any fun x => hiddenBy x c now) = false) hl ?_
  simp only [↓bk_bind, ↓bk_map, ↓bk_ite, ↓bk_some, ↓reduceIte, Nat.reduceEqDiff, Nat.reduceLT, Nat.reduceLeDiff, Nat.reduceAdd, Nat.reduceMul, reduceCtorEq, List.reduceReplicate, go_sem]
  refine ⟨?_, by simp, ?_, ?_⟩
  · simp only [↓bk_bind, ↓bk_map, ↓bk_ite, ↓bk_some, ↓reduceIte, Nat.reduceEqDiff, Nat.reduceLT, Nat.reduceLeDiff, Nat.reduceAdd, Nat.reduceMul, reduceCtorEq, List.reduceReplicate, go_sem]
  · intro k x hx h h0 h1 hw
    simp only [↓bk_bind, ↓bk_map, ↓bk_ite, ↓bk_some, ↓reduceIte, Nat.reduceEqDiff, Nat.reduceLT, Nat.reduceLeDiff, Nat.reduceAdd, Nat.reduceMul, reduceCtorEq, List.reduceReplicate, go_sem, bk_eq hx, h0, h1, hw]
    refine callK_of (c_spec_IsHiddenBy _ _ _) ?_
    simp only [↓bk_bind, ↓bk_map, ↓bk_ite, ↓bk_some, ↓reduceIte, Nat.reduceEqDiff, Nat.reduceLT, Nat.reduceLeDiff, Nat.reduceAdd, Nat.reduceMul, reduceCtorEq, List.reduceReplicate, go_sem, hw]
    exact ⟨fun hn => (any_here hx hn).symm, fun hn => anyF_step hx h hn⟩
  · intro h
    simp only [↓bk_bind, ↓bk_map, ↓bk_ite, ↓bk_some, ↓reduceIte, Nat.reduceEqDiff, Nat.reduceLT, Nat.reduceLeDiff, Nat.reduceAdd, Nat.reduceMul, reduceCtorEq, List.reduceReplicate, go_sem]
    rw [List.take_length] at h
    exact h.symm
def m_spec_VisibleAt : MC :=
(.seq (pr [.nilo 6 0 9] [0,1,2])
(.seq (pr [.lit 9 0 9 88 [], .mv 7 (.s 9)] [0,1,2,7])
(.seq (.seq (pr [.mv 8 (.c (.int .i64 0))] [0,1,2,7,8])
(.block 0 (.loop ([0,1,2,7,8], [1]) (.seq (.seq (pr [.mv 10 (.s 8), .mv 11 (.s 0), .len 12 false (.s 11), .bin 13 false .lss (.s 10) (.s 12)] [0,1,2,7,8,13])
(.cond (.s 13) .skip (.exit 0)))
(.seq (.block 1 (.seq (pr [.mv 16 (.s 0), .mv 17 (.s 8), .idx 18 9 (.s 16) (.s 17), .load 19 true 9 (.s 18), .mv 20 (.s 1), .mv 21 (.s 2), .call 22 [] (.f n_spec_l25Hidden) [.s 19, .s 20, .s 21], .un 23 .not (.s 22)] [0,1,2,7,8,23])
(.cond (.s 23) (pr [.mv 24 (.s 7), .mv 25 (.s 0), .mv 26 (.s 8), .mv 27 (.s 8), .bin 28 false .add (.s 27) (.c (.int .i64 1)), .slc 29 9 (.s 25) (some (.s 26)) (some (.s 28)) none, .call 30 [1] (.f n_spec_l15Copy) [.s 29], .app 31 0 9 88 (.s 24) (.s 30), .mv 7 (.s 31)] [0,1,2,7,8]) .skip)))
(pr [.mv 14 (.s 8), .bin 15 false .add (.s 14) (.c (.int .i64 1)), .mv 8 (.s 15)] [0,1,2,7,8]))))))
(.seq (pr [.mv 32 (.s 7), .mv 6 (.s 32)] [6])
.ret))))
theorem c_spec_VisibleAt (cs : List GCapture) (l : List GExclusion) (now : Int) (hs : cs.length + (cs.map GCapture.size).sum ≤ 1073741824) : Ctr Tryz.prog n_spec_VisibleAt [aL 9 (cs.map GCapture.enc), aL 5 (l.map GExclusion.enc), aI now] [rL 9 ((visible cs l now).map GCapture.enc)] := by
  refine ctr_at (M := m_spec_VisibleAt) (m := 2) (n := 33) (res := [(.tmp 6, [true])]) hmix Tryz.func120 rfl (by kernel_rfl) rfl (by kernel_rfl) (by kernel_rfl) (Nat.le_of_ble_eq_true rfl) ?_; unfold m_spec_VisibleAt
  intro hb
  clear hb
  simp only [↓bk_bind, ↓bk_map, ↓bk_ite, ↓bk_some, ↓reduceIte, Nat.reduceEqDiff, Nat.reduceLT, Nat.reduceLeDiff, Nat.reduceAdd, Nat.reduceMul, reduceCtorEq, List.reduceReplicate, go_sem]
  refine loopK_rng cs (fun k => [(7, .val false [.ref 0 0 9 0 (visible (cs.take k) l now).length]), (8, vI k)]) (fun k => [(0, ⟨0, .row true 9 ((visible (cs.take k) l now).map GCapture.enc)⟩)]) (fun _ => True) (by simp only [roomB]; omega) ?_
  simp only [↓bk_bind, ↓bk_map, ↓bk_ite, ↓bk_some, ↓reduceIte, Nat.reduceEqDiff, Nat.reduceLT, Nat.reduceLeDiff, Nat.reduceAdd, Nat.reduceMul, reduceCtorEq, List.reduceReplicate, go_sem]
  refine ⟨?_, trivial, ?_, ?_⟩
  · simp only [↓bk_bind, ↓bk_map, ↓bk_ite, ↓bk_some, ↓reduceIte, Nat.reduceEqDiff, Nat.reduceLT, Nat.reduceLeDiff, Nat.reduceAdd, Nat.reduceMul, reduceCtorEq, List.reduceReplicate, go_sem, List.take_zero]
    exact ⟨rfl, rfl⟩
  · intro k x hx _ h0 h1 hw
    have hk : k < cs.length := by omega
    have hlt := List.length_take_le k cs
    have hv := visible_len (cs.take k) l now
    simp only [↓bk_bind, ↓bk_map, ↓bk_ite, ↓bk_some, ↓reduceIte, Nat.reduceEqDiff, Nat.reduceLT, Nat.reduceLeDiff, Nat.reduceAdd, Nat.reduceMul, reduceCtorEq, List.reduceReplicate, go_sem, bk_eq hx, h0, h1, hw]
    refine callK_of (c_spec_l25Hidden _ _ _) ?_
    simp only [↓bk_bind, ↓bk_map, ↓bk_ite, ↓bk_some, ↓reduceIte, Nat.reduceEqDiff, Nat.reduceLT, Nat.reduceLeDiff, Nat.reduceAdd, Nat.reduceMul, reduceCtorEq, List.reduceReplicate, go_sem, hw]
    refine ⟨fun h => ?_, fun h => ?_⟩
    · rw [cut_one hx]
      refine ⟨by omega, ?_⟩
      refine callK_of (c_spec_l15Copy [x] ?_) ?_
      · have hx1 := mem_sum (f := GCapture.size) (at_mem hx)
        simp only [List.length_cons, List.length_nil, List.map_cons, List.map_nil, List.sum_cons, List.sum_nil]
        omega
      simp only [↓bk_bind, ↓bk_map, ↓bk_ite, ↓bk_some, ↓reduceIte, Nat.reduceEqDiff, Nat.reduceLT, Nat.reduceLeDiff, Nat.reduceAdd, Nat.reduceMul, reduceCtorEq, List.reduceReplicate, go_sem, hw]
      simp only [roomB, visible_snoc hx, h, Bool.false_eq_true, if_false]
      exact ⟨by omega, fun _ => ⟨by simp, by simp [GCapture.enc]⟩⟩
    · simp only [visible_snoc hx, h, if_true]
      first | trivial | exact ⟨rfl, rfl⟩
  · intro _
    simp only [↓bk_bind, ↓bk_map, ↓bk_ite, ↓bk_some, ↓reduceIte, Nat.reduceEqDiff, Nat.reduceLT, Nat.reduceLeDiff, Nat.reduceAdd, Nat.reduceMul, reduceCtorEq, List.reduceReplicate, go_sem, List.take_length]
end Go.Proofs.YtbnbgekjjbpljaaGreatR
namespace Go.Proofs.YtbnbgekjjbpljaaGreatR
open Go Go.RowKit Go.Proofs
set_option linter.unusedSimpArgs false
set_option linter.unusedVariables false
def digestAt (tick : Int) (l : List GChange) : Int := l.foldl (fun d c => if c.Tick ≤ tick then c.Digest else d) 0
end Go.Proofs.YtbnbgekjjbpljaaGreatR
namespace Go.Proofs.YtbnbgekjjbpljaaGreatR
open Go Go.RowKit Go.Proofs
set_option linter.unusedSimpArgs false
set_option linter.unusedVariables false
def countKind (kind : Int) (l : List GEvent) : Int := l.foldl (fun n e => if e.Kind = kind then IntKind.i64.wrap (n + 1) else n) 0
theorem countKind_snoc {kind : Int} {l : List GEvent} {k : Nat} {x : GEvent} (h : l[k]? = some x) : countKind kind (l.take (k + 1)) = if x.Kind = kind then IntKind.i64.wrap (countKind kind (l.take k) + 1) else countKind kind (l.take k) := by
  rw [take_snoc h, countKind, List.foldl_append]; rfl
end Go.Proofs.YtbnbgekjjbpljaaGreatR
namespace Go.Proofs.YtbnbgekjjbpljaaGreatR
open Go Go.RowKit Go.Proofs
set_option linter.unusedSimpArgs false
set_option linter.unusedVariables false
/-- No element of the first k is it. -/
theorem has_step {α : Type} [BEq α] [LawfulBEq α] {l : List α} {k : Nat} {x n : α} (hx : l[k]? = some x) (h : (l.take k).contains n = false) (hn : ¬ x = n) : (l.take (k + 1)).contains n = false := by
  rw [take_snoc hx]
  simp only [List.contains_eq_mem, List.mem_append, List.mem_singleton, decide_eq_false_iff_not, not_or] at h ⊢
  exact ⟨h, fun e => hn e.symm⟩
theorem has_here {α : Type} [BEq α] [LawfulBEq α] {l : List α} {k : Nat} {x n : α} (hx : l[k]? = some x) (hn : x = n) : l.contains n = true := by
  subst hn
  simp only [List.contains_eq_mem, decide_eq_true_eq]
  exact at_mem hx
/-- How many libraries that are up and do not lie hold it. -/
def goodCopies (digest : Int) (l : List GLibrary) : Int := l.foldl (fun n x => if x.Up && !x.Lies && x.Digests.contains digest then IntKind.i64.wrap (n + 1) else n) 0
theorem goodCopies_snoc {digest : Int} {l : List GLibrary} {k : Nat} {x : GLibrary} (h : l[k]? = some x) : goodCopies digest (l.take (k + 1)) = if x.Up && !x.Lies && x.Digests.contains digest then IntKind.i64.wrap (goodCopies digest (l.take k) + 1) else goodCopies digest (l.take k) := by
  rw [take_snoc h, goodCopies, List.foldl_append]; rfl
/-- The least of numbers, -1 where there is none. -/
def leastOf (l : List Int) : Int := l.foldl (fun m n => if m < 0 ∨ n < m then n else m) (-1)
def copiesLeft (a : GArchive) : Int := leastOf (a.Disk.Containers.map fun x => goodCopies x.Root a.Libraries)
theorem leastOf_snoc {α : Type} {f : α → Int} {l : List α} {k : Nat} {x : α} (h : l[k]? = some x) : leastOf ((l.take (k + 1)).map f) = if leastOf ((l.take k).map f) < 0 ∨ f x < leastOf ((l.take k).map f) then f x else leastOf ((l.take k).map f) := by
  rw [take_snoc h, List.map_append, leastOf, List.foldl_append]; rfl
end Go.Proofs.YtbnbgekjjbpljaaGreatR
namespace Go.Proofs.YtbnbgekjjbpljaaGreatR
open Go Go.RowKit Go.Proofs
set_option linter.unusedSimpArgs false
set_option linter.unusedVariables false
/-- What is kept of a list, as numbers: one round more. -/
theorem filter_snoc {α β : Type} {p : α → Bool} {f : α → β} {l : List α} {k : Nat} {x : α} (h : l[k]? = some x) : ((l.take (k + 1)).filter p).map f = if p x = true then ((l.take k).filter p).map f ++ [f x] else ((l.take k).filter p).map f := by
  rw [take_snoc h, List.filter_append, List.map_append]
  by_cases hp : p x = true <;> simp [hp]
/-- Does a library that is named hold what lies on the disk? -/
def isHeld (a : GArchive) : Bool := !(a.Libraries.any fun x => x.Up) || !(a.Disk.Containers.any fun c => !(a.Libraries.any fun x => x.Digests.contains c.Root))
def noUp (a : GArchive) : Bool := !(a.Libraries.any fun x => x.Up)
theorem any_snoc {α : Type} {p : α → Bool} {l : List α} {k : Nat} {x : α} (h : l[k]? = some x) : (l.take (k + 1)).any p = ((l.take k).any p || p x) := by
  rw [take_snoc h, List.any_append]; simp
theorem noUp_eq {a : GArchive} : (((a.Libraries.filter fun x => x.Up).length : Int) == 0) = noUp a := by
  unfold noUp
  rw [Bool.eq_iff_iff]
  simp [List.filter_eq_nil_iff]
end Go.Proofs.YtbnbgekjjbpljaaGreatR
namespace Go.Proofs.YtbnbgekjjbpljaaGreatR
open Go Go.RowKit Go.Proofs
set_option linter.unusedSimpArgs false
set_option linter.unusedVariables false
attribute [go_sem] eqB
def scriptInts (xs : List GOp) : List Int := xs.flatMap fun o => [o.Kind, o.A, o.B, o.C]
theorem scriptInts_inj : ∀ {xs ys : List GOp}, scriptInts xs = scriptInts ys ↔ xs = ys
  | [], [] => by simp
  | x :: xs, y :: ys => by
    have ih := scriptInts_inj (xs := xs) (ys := ys)
    simp only [scriptInts, List.flatMap_cons, List.cons_append, List.nil_append, List.cons.injEq] at ih ⊢
    rw [ih, GOp.eqv]
    simp only [and_assoc]
  | [], _ :: _ => by simp [scriptInts]
  | _ :: _, [] => by simp [scriptInts]
theorem scriptInts_snoc {l : List GOp} {k : Nat} {x : GOp} (h : l[k]? = some x) : scriptInts (l.take (k + 1)) = scriptInts (l.take k) ++ [x.Kind, x.A, x.B, x.C] := by
  rw [take_snoc h, scriptInts, List.flatMap_append]; rfl
theorem scriptInts_len {l : List GOp} : (scriptInts l).length = 4 * l.length := by
  induction l with
  | nil => rfl
  | cons x l ih => simp only [scriptInts, List.flatMap_cons, List.length_append, List.length_cons, List.length_nil] at ih ⊢; omega
def m_spec_l31Same : MC :=
(.seq (pr [.mv 4 (.c (.bool false))] [0,1])
(.seq (.seq (pr [.mv 6 (.s 0), .len 7 false (.s 6), .mv 8 (.s 1), .len 9 false (.s 8), .bin 10 false .neq (.s 7) (.s 9)] [0,1,10])
(.cond (.s 10) (.seq (pr [.mv 4 (.c (.bool false))] [4])
.ret) .skip))
(.seq (.seq (pr [.mv 5 (.c (.int .i64 0))] [0,1,5])
(.block 0 (.loop ([0,1,5], []) (.seq (.seq (pr [.mv 11 (.s 5), .mv 12 (.s 0), .len 13 false (.s 12), .bin 14 false .lss (.s 11) (.s 13)] [0,1,5,14])
(.cond (.s 14) .skip (.exit 0)))
(.seq (.block 1 (.seq (.dreg [{ o := .mv 17 (.s 0), hs := [18,21,22,23,24] }, { o := .mv 18 (.s 5), hs := [17,21,22,23,24] }, { o := .idx 19 6 (.s 17) (.s 18), hs := [21,22,23,24], bf := [0,1] }, { o := .load 20 true 6 (.s 19), hs := [21,22,23,24], bf := [0,1,2] }, { o := .mv 21 (.s 1), hs := [17,18,19,20,22] }, { o := .mv 22 (.s 5), hs := [17,18,19,20,21] }, { o := .idx 23 6 (.s 21) (.s 22), hs := [17,18,19,20], bf := [4,5] }, { o := .load 24 true 6 (.s 23), hs := [17,18,19,20], bf := [4,5,6] }, { o := .eqA 25 true [.i .i64, .i .i64, .i .i64, .i .i64, .i .i64, .i .i64] (.s 20) (.s 24), bf := [0,1,2,3,4,5,6,7] }] [0,1,5,25])
(.cond (.s 25) (.seq (pr [.mv 4 (.c (.bool false))] [4])
.ret) .skip)))
(pr [.mv 15 (.s 5), .bin 16 false .add (.s 15) (.c (.int .i64 1)), .mv 5 (.s 16)] [0,1,5]))))))
(.seq (pr [.mv 4 (.c (.bool true))] [4])
.ret))))
theorem c_spec_l31Same (xs ys : List GFound) : Ctr Tryz.prog n_spec_l31Same [aL 6 (xs.map GFound.enc), aL 6 (ys.map GFound.enc)] [rB (decide (xs = ys))] := by
  refine ctr_at (M := m_spec_l31Same) (m := 0) (n := 26) (res := [(.tmp 4, [false])]) hmix Tryz.func57 rfl (by kernel_rfl) rfl (by kernel_rfl) (by kernel_rfl) (Nat.le_of_ble_eq_true rfl) ?_; unfold m_spec_l31Same
  intro hb
  simp only [bdA, bdL, bdT, bdR, bdR_map, wfB_i64, wfB_bool, wfB_str, roomB, and_true, true_and, List.length_map] at hb
  obtain ⟨⟨hl, -⟩, ⟨hl2, -⟩⟩ := hb
  simp only [↓bk_bind, ↓bk_map, ↓bk_ite, ↓bk_some, ↓reduceIte, Nat.reduceEqDiff, Nat.reduceLT, Nat.reduceLeDiff, Nat.reduceAdd, Nat.reduceMul, reduceCtorEq, List.reduceReplicate, go_sem]
  refine ⟨fun h => ne_len h, fun h => ?_⟩
  have hle : xs.length = ys.length := by omega
  refine loopK_rng xs (fun k => [(5, vI k)]) (fun k => []) (fun k => xs.take k = ys.take k) hl ?_
  simp only [↓bk_bind, ↓bk_map, ↓bk_ite, ↓bk_some, ↓reduceIte, Nat.reduceEqDiff, Nat.reduceLT, Nat.reduceLeDiff, Nat.reduceAdd, Nat.reduceMul, reduceCtorEq, List.reduceReplicate, go_sem]
  refine ⟨?_, rfl, ?_, ?_⟩
  · simp only [↓bk_bind, ↓bk_map, ↓bk_ite, ↓bk_some, ↓reduceIte, Nat.reduceEqDiff, Nat.reduceLT, Nat.reduceLeDiff, Nat.reduceAdd, Nat.reduceMul, reduceCtorEq, List.reduceReplicate, go_sem]
  · intro k x hx he h0 h1 hw
    obtain ⟨y, hy⟩ := at_some (show k < ys.length by omega)
    have h2 : (k : Int) < ys.length := by omega
    simp only [↓bk_bind, ↓bk_map, ↓bk_ite, ↓bk_some, ↓reduceIte, Nat.reduceEqDiff, Nat.reduceLT, Nat.reduceLeDiff, Nat.reduceAdd, Nat.reduceMul, reduceCtorEq, List.reduceReplicate, go_sem, bk_eq hx, bk_eq hy, h0, h1, h2, hw]
    exact ⟨fun hn => ne_at hx hy (by rintro rfl; simp at hn), fun hn => (take_eq_step hx hy he).2 (by exact GFound.eqv.2 (by simpa using hn))⟩
  · intro he
    simp only [↓bk_bind, ↓bk_map, ↓bk_ite, ↓bk_some, ↓reduceIte, Nat.reduceEqDiff, Nat.reduceLT, Nat.reduceLeDiff, Nat.reduceAdd, Nat.reduceMul, reduceCtorEq, List.reduceReplicate, go_sem]
    exact eq_all he hle
end Go.Proofs.YtbnbgekjjbpljaaGreatR
namespace Go.Proofs.YtbnbgekjjbpljaaGreatR
open Go Go.RowKit Go.Proofs
set_option linter.unusedSimpArgs false
set_option linter.unusedVariables false
def modP (v : Int) : Int := (IntKind.i64.wrap (v.tmod 2147483647 + 2147483647)).tmod 2147483647
def hstep (h v : Int) : Int := (IntKind.i64.wrap (IntKind.i64.wrap (IntKind.i64.wrap (h * 1000003) + modP v) + 13)).tmod 2147483647
def hashL (l : List Int) : Int := l.foldl hstep 11
theorem hashL_snoc {l : List Int} {k : Nat} {x : Int} (h : l[k]? = some x) : hashL (l.take (k + 1)) = hstep (hashL (l.take k)) x := by
  rw [take_snoc h, hashL, List.foldl_append]; rfl
theorem modulus_ne : ¬ (2147483647 : Int) = 0 := by decide
/-- The root of a tree of digests; n: no fewer than there are. -/
def rootF : Nat → List Int → Int
  | 0, _ => 0
  | n + 1, l => match l with
    | [] => 0
    | [x] => x
    | x :: y :: l => hashL [rootF n ((x :: y :: l).take ((l.length + 3) / 2)), rootF n ((x :: y :: l).drop ((l.length + 3) / 2))]
theorem rootF_more : ∀ {n m : Nat} {l : List Int}, l.length ≤ n → l.length ≤ m → rootF n l = rootF m l
  | 0, 0, _, _, _ => rfl
  | 0, m + 1, l, h, _ => by
    obtain rfl : l = [] := List.length_eq_zero_iff.1 (by omega)
    rfl
  | n + 1, 0, l, _, h => by
    obtain rfl : l = [] := List.length_eq_zero_iff.1 (by omega)
    rfl
  | n + 1, m + 1, [], _, _ => rfl
  | n + 1, m + 1, [x], _, _ => rfl
  | n + 1, m + 1, x :: y :: l, h, k => by
    simp only [List.length_cons] at h k
    simp only [rootF]
    rw [rootF_more (n := n) (m := m) (by rw [List.length_take]; simp only [List.length_cons]; omega) (by rw [List.length_take]; simp only [List.length_cons]; omega), rootF_more (n := n) (m := m) (l := (x :: y :: l).drop _) (by rw [List.length_drop]; simp only [List.length_cons]; omega) (by rw [List.length_drop]; simp only [List.length_cons]; omega)]
def rootL (l : List Int) : Int := rootF l.length l
theorem rootL_nil : rootL [] = 0 := rfl
theorem rootF_two {n x y : _} {l : List Int} : rootF (n + 1) (x :: y :: l) = hashL [rootF n ((x :: y :: l).take ((l.length + 3) / 2)), rootF n ((x :: y :: l).drop ((l.length + 3) / 2))] := rfl
theorem rootL_two {l : List Int} (h : 2 ≤ l.length) : rootL l = hashL [rootL (l.take ((l.length + 1) / 2)), rootL (l.drop ((l.length + 1) / 2))] := by
  match l, h with
  | x :: y :: l, h =>
    have e : (x :: y :: l).length + 1 = l.length + 3 := by simp
    rw [e]
    unfold rootL
    rw [show (x :: y :: l).length = (l.length + 1) + 1 from by simp, rootF_two]
    rw [rootF_more (n := l.length + 1) (l := (x :: y :: l).take _) (by rw [List.length_take]; simp only [List.length_cons]; omega) (Nat.le_refl _), rootF_more (n := l.length + 1) (l := (x :: y :: l).drop _) (by rw [List.length_drop]; simp only [List.length_cons]; omega) (Nat.le_refl _)]
theorem two_ne : ¬ (2 : Int) = 0 := by decide
theorem cut_lo {α : Type} {f : α → List T} {l : List α} {m : Nat} (h : m ≤ l.length) : (if ((m : Int) - 0).toNat = l.length then l.map f else List.take ((m : Int) - 0).toNat (l.map f)) = (l.take m).map f := by
  rw [show ((m : Int) - 0).toNat = m by omega]
  split
  · rename_i e; rw [List.take_of_length_le (by omega)]
  · rw [List.map_take]
theorem cut_hi {α : Type} {f : α → List T} {l : List α} {m : Nat} (h : m ≤ l.length) : (if m = 0 ∧ ((l.length : Int) - (m : Int)).toNat = l.length then l.map f else List.take ((l.length : Int) - (m : Int)).toNat (List.drop m (l.map f))) = (l.drop m).map f := by
  rw [show ((l.length : Int) - (m : Int)).toNat = l.length - m by omega]
  split
  · rename_i e; rw [e.1]; rfl
  · rw [List.take_of_length_le (by simp), List.map_drop]
end Go.Proofs.YtbnbgekjjbpljaaGreatR
namespace Go.Proofs.YtbnbgekjjbpljaaGreatR
open Go Go.RowKit Go.Proofs
set_option linter.unusedSimpArgs false
set_option linter.unusedVariables false
def resInts (r : GResource) : List Int := [r.Kind, r.To.Host, r.To.Path, r.To.Query, r.Body.length] ++ r.Body
def capInts (c : GCapture) : List Int := [c.Address.Host, c.Address.Path, c.Address.Query, c.Tick] ++ resInts c.Resource
theorem resInts_len (r : GResource) : (resInts r).length = 5 + r.Body.length := by simp [resInts]; omega
theorem capInts_len (c : GCapture) : (capInts c).length = 9 + c.Resource.Body.length := by simp [capInts, resInts]; omega
def entInts (l : List GEntry) : List Int := l.flatMap fun e => [e.Kind, e.Address.Host, e.Address.Path, e.Address.Query, e.Value]
theorem entInts_snoc {l : List GEntry} {k : Nat} {x : GEntry} (h : l[k]? = some x) : entInts (l.take (k + 1)) = entInts (l.take k) ++ [x.Kind, x.Address.Host, x.Address.Path, x.Address.Query, x.Value] := by
  rw [take_snoc h, entInts, List.flatMap_append]; rfl
theorem entInts_len {l : List GEntry} : (entInts l).length = 5 * l.length := by
  induction l with
  | nil => rfl
  | cons x l ih => simp only [entInts, List.flatMap_cons, List.length_append, List.length_cons, List.length_nil] at ih ⊢; omega
def capHashes (l : List GCapture) : List Int := l.map fun c => hashL (capInts c)
theorem capHashes_snoc {l : List GCapture} {k : Nat} {x : GCapture} (h : l[k]? = some x) : capHashes (l.take (k + 1)) = capHashes (l.take k) ++ [hashL (capInts x)] := by
  rw [take_snoc h, capHashes, List.map_append]; rfl
theorem capHashes_len {l : List GCapture} : (capHashes l).length = l.length := by simp [capHashes]
theorem body_le {xs : List GCapture} {x : GCapture} {k : Nat} {n : Nat} (hx : xs[k]? = some x) (hs : xs.length + (xs.map GCapture.size).sum ≤ n) : x.Resource.Body.length ≤ n := by
  have hx1 := mem_sum (f := GCapture.size) (at_mem hx)
  simp only [GCapture.size, GResource.size] at hx1 hs
  omega
def sealRoot (l : List GOp) (es : List GEntry) (cs : List GCapture) : Int := rootL [hashL (scriptInts l), hashL (entInts es), rootL (capHashes cs)]
end Go.Proofs.YtbnbgekjjbpljaaGreatR
namespace Go.Proofs.YtbnbgekjjbpljaaGreatR
open Go Go.RowKit Go.Proofs
set_option linter.unusedSimpArgs false
set_option linter.unusedVariables false
end Go.Proofs.YtbnbgekjjbpljaaGreatR
namespace Go.Proofs.YtbnbgekjjbpljaaGreatR
set_option linter.unusedSimpArgs false
set_option linter.unusedVariables false
namespace Srt
/-- A strict weak order. -/
structure Swo {α : Type} (lt : α → α → Bool) : Prop where
  asy : ∀ x y, lt x y = true → lt y x = false
  neg : ∀ x y z, lt x z = true → lt x y = true ∨ lt y z = true
variable {α : Type} {lt : α → α → Bool}
theorem Swo.tr (h : Swo lt) {x y z : α} (h1 : lt x y = true) (h2 : lt y z = true) : lt x z = true := by
  rcases h.neg x z y h1 with k | k
  · exact k
  · rw [h.asy y z h2] at k; cases k
theorem Swo.ntr (h : Swo lt) {x y z : α} (h1 : lt x y = false) (h2 : lt y z = false) : lt x z = false := by
  cases k : lt x z
  · rfl
  · rcases h.neg x y z k with k | k <;> simp_all
theorem Swo.irr (h : Swo lt) (x : α) : lt x x = false := by
  cases k : lt x x
  · rfl
  · have := h.asy x x k; simp_all
theorem Swo.lf (h : Swo lt) {x y z : α} (h1 : lt x y = true) (h2 : lt z y = false) : lt x z = true := by
  rcases h.neg x z y h1 with k | k <;> simp_all
theorem Swo.fl (h : Swo lt) {x y z : α} (h1 : lt y x = false) (h2 : lt y z = true) : lt x z = true := by
  rcases h.neg y x z h2 with k | k <;> simp_all
variable (lt)
def ins (x : α) : List α → List α
  | [] => [x]
  | z :: zs => if lt x z then x :: z :: zs else z :: ins x zs
def mrg (A B : List α) : List α := B.foldl (fun acc x => ins lt x acc) A
def isort (l : List α) : List α := mrg lt [] l
def srt (l : List α) : Prop := l.Pairwise fun x y => lt y x = false
variable {lt}
theorem mem_ins {x y : α} : ∀ {l : List α}, y ∈ ins lt x l ↔ y = x ∨ y ∈ l
  | [] => by simp [ins]
  | z :: zs => by
    simp only [ins]
    split
    · simp
    · rw [List.mem_cons, mem_ins, List.mem_cons]
      constructor <;> rintro (h | h | h) <;> simp [h]
theorem len_ins {x : α} : ∀ {l : List α}, (ins lt x l).length = l.length + 1
  | [] => rfl
  | z :: zs => by
    simp only [ins]
    split
    · rfl
    · simp [len_ins]
theorem mrg_nil {A : List α} : mrg lt A [] = A := rfl
theorem mrg_cons {A B : List α} {x : α} : mrg lt A (x :: B) = mrg lt (ins lt x A) B := rfl
theorem mrg_append {A B C : List α} : mrg lt A (B ++ C) = mrg lt (mrg lt A B) C := List.foldl_append
theorem mem_mrg {y : α} : ∀ {B A : List α}, y ∈ mrg lt A B ↔ y ∈ A ∨ y ∈ B
  | [], A => by simp [mrg_nil]
  | x :: B, A => by
    rw [mrg_cons, mem_mrg, mem_ins, List.mem_cons]
    exact ⟨fun h => h.elim (fun h => h.elim (fun h => .inr (.inl h)) .inl) (fun h => .inr (.inr h)), fun h => h.elim (fun h => .inl (.inr h)) (fun h => h.elim (fun h => .inl (.inl h)) .inr)⟩
theorem len_mrg : ∀ {B A : List α}, (mrg lt A B).length = A.length + B.length
  | [], A => rfl
  | x :: B, A => by
    rw [mrg_cons, len_mrg, len_ins, List.length_cons]; omega
theorem len_isort {l : List α} : (isort lt l).length = l.length := by
  unfold isort; rw [len_mrg]; simp
theorem ins_comm (h : Swo lt) {x y : α} (hxy : lt x y = true) : ∀ (A : List α), ins lt y (ins lt x A) = ins lt x (ins lt y A)
  | [] => by simp [ins, hxy, h.asy x y hxy]
  | z :: zs => by
    cases k1 : lt x z <;> cases k2 : lt y z
    · simp [ins, k1, k2, ins_comm h hxy zs]
    · rw [h.tr hxy k2] at k1; cases k1
    · simp [ins, k1, k2, h.asy x y hxy]
    · simp [ins, k1, k2, hxy, h.asy x y hxy]
/-- Merging in a list, or its sorted form, is one. -/
theorem mrg_past (h : Swo lt) {x : α} : ∀ {s A : List α}, (∀ y ∈ s, lt x y = true) → mrg lt (ins lt x A) s = ins lt x (mrg lt A s)
  | [], A, _ => rfl
  | y :: s, A, hs => by
    rw [mrg_cons, ins_comm h (hs y (by simp)), mrg_past h (fun z hz => hs z (by simp [hz])), mrg_cons]
theorem srt_cons {x : α} {l : List α} : srt lt (x :: l) ↔ (∀ y ∈ l, lt y x = false) ∧ srt lt l := List.pairwise_cons
theorem srt_append {A B : List α} : srt lt (A ++ B) ↔ srt lt A ∧ srt lt B ∧ ∀ a ∈ A, ∀ b ∈ B, lt b a = false := List.pairwise_append
theorem srt_ins (h : Swo lt) {x : α} : ∀ {l : List α}, srt lt l → srt lt (ins lt x l)
  | [], _ => by simp [ins, srt]
  | z :: zs, hs => by
    obtain ⟨h1, h2⟩ := srt_cons.1 hs
    simp only [ins]
    split
    · rename_i k
      refine srt_cons.2 ⟨fun y hy => ?_, hs⟩
      rcases List.mem_cons.1 hy with rfl | hy
      · exact h.asy _ _ k
      · exact h.ntr (h1 y hy) (h.asy _ _ k)
    · rename_i k
      refine srt_cons.2 ⟨fun y hy => ?_, srt_ins h h2⟩
      rcases mem_ins.1 hy with rfl | hy
      · simpa using k
      · exact h1 y hy
theorem srt_mrg (h : Swo lt) : ∀ {B A : List α}, srt lt A → srt lt (mrg lt A B)
  | [], A, hA => hA
  | x :: B, A, hA => srt_mrg h (B := B) (srt_ins h hA)
theorem srt_isort (h : Swo lt) (l : List α) : srt lt (isort lt l) := srt_mrg h List.Pairwise.nil
theorem ins_split (h : Swo lt) {x : α} : ∀ {l : List α}, srt lt l → ∃ s t, l = s ++ t ∧ ins lt x l = s ++ x :: t ∧ ∀ y ∈ t, lt x y = true
  | [], _ => ⟨[], [], rfl, rfl, by simp⟩
  | z :: zs, hs => by
    obtain ⟨h1, h2⟩ := srt_cons.1 hs
    cases k : lt x z
    · obtain ⟨s, t, e, e2, h3⟩ := ins_split h (x := x) h2
      exact ⟨z :: s, t, by simp [e], by simp [ins, k, e2], h3⟩
    · refine ⟨[], z :: zs, rfl, by simp [ins, k], fun y hy => ?_⟩
      rcases List.mem_cons.1 hy with rfl | hy
      · exact k
      · exact h.lf k (h1 y hy)
theorem mrg_ins (h : Swo lt) {x : α} {A s : List α} (hs : srt lt s) : mrg lt A (ins lt x s) = ins lt x (mrg lt A s) := by
  obtain ⟨s1, s2, rfl, e, h2⟩ := ins_split h (x := x) hs
  rw [e, mrg_append, mrg_cons, mrg_past h h2, mrg_append]
theorem isort_snoc {l : List α} {x : α} : isort lt (l ++ [x]) = ins lt x (isort lt l) := by
  unfold isort; rw [mrg_append]; rfl
theorem mrg_isort (h : Swo lt) {A : List α} (r : List α) : mrg lt A (isort lt r) = mrg lt A r := by
  suffices H : ∀ (n : Nat) (r : List α), r.length = n → mrg lt A (isort lt r) = mrg lt A r from H _ r rfl
  intro n
  induction n with
  | zero => intro r hr; obtain rfl := List.length_eq_zero_iff.1 hr; rfl
  | succ n ih =>
    intro r hr
    rcases List.eq_nil_or_concat r with rfl | ⟨s, x, rfl⟩
    · rfl
    · rw [List.concat_eq_append] at *
      rw [isort_snoc, mrg_ins h (srt_isort h s), ih s (by simpa using hr), mrg_append]; rfl
theorem isort_append (h : Swo lt) (l r : List α) : isort lt (l ++ r) = mrg lt (isort lt l) (isort lt r) := by
  rw [mrg_isort h]; unfold isort; rw [mrg_append]
theorem ins_left {b : α} {A2 : List α} (h : ∀ a ∈ A2.head?, lt b a = true) : ∀ (A1 : List α), ins lt b (A1 ++ A2) = ins lt b A1 ++ A2
  | [] => by
    cases A2 with
    | nil => rfl
    | cons z zs => simp [ins, h z (by simp)]
  | z :: zs => by
    simp only [List.cons_append, ins]
    split
    · rfl
    · rw [ins_left h zs, List.cons_append]
theorem ins_right {b : α} {A2 : List α} : ∀ {A1 : List α}, (∀ a ∈ A1, lt b a = false) → ins lt b (A1 ++ A2) = A1 ++ ins lt b A2
  | [], _ => rfl
  | z :: zs, h => by
    simp only [List.cons_append, ins, h z (by simp), ins_right (A1 := zs) (fun a ha => h a (by simp [ha]))]
    rfl
theorem ins_mid {x : α} {s t : List α} (h1 : ∀ a ∈ s, lt x a = false) (h2 : ∀ a ∈ t.head?, lt x a = true) : ins lt x (s ++ t) = s ++ x :: t := by
  rw [ins_right h1]
  cases t with
  | nil => rfl
  | cons z zs => simp [ins, h2 z (by simp)]
theorem mrg_left {A2 : List α} : ∀ {B A1 : List α}, (∀ b ∈ B, ∀ a ∈ A2.head?, lt b a = true) → mrg lt (A1 ++ A2) B = mrg lt A1 B ++ A2
  | [], _, _ => rfl
  | b :: B, A1, h => by
    rw [mrg_cons, ins_left (h b (by simp)), mrg_left (fun b hb => h b (by simp [hb])), mrg_cons]
theorem mrg_right {A1 : List α} : ∀ {B A2 : List α}, (∀ b ∈ B, ∀ a ∈ A1, lt b a = false) → mrg lt (A1 ++ A2) B = A1 ++ mrg lt A2 B
  | [], _, _ => rfl
  | b :: B, A2, h => by
    rw [mrg_cons, ins_right (h b (by simp)), mrg_right (fun b hb => h b (by simp [hb])), mrg_cons]
theorem mrg_nil_srt (h : Swo lt) {l : List α} (hs : srt lt l) : mrg lt [] l = l := by
  suffices H : ∀ (l A : List α), srt lt (A ++ l) → mrg lt A l = A ++ l from H l [] (by simpa using hs)
  intro l
  induction l with
  | nil => intro A _; simp [mrg_nil]
  | cons x l ih =>
    intro A hA
    have := srt_append.1 hA
    rw [mrg_cons, show ins lt x A = A ++ [x] from by
      have := ins_mid (lt := lt) (x := x) (s := A) (t := []) (fun a ha => (srt_append.1 hA).2.2 a ha x (by simp)) (by simp)
      simpa using this, ih (A ++ [x]) (by simpa using hA)]
    simp
/-- A merge falls into two. -/
theorem mrg_split {A1 A2 B1 B2 : List α} (h1 : ∀ b ∈ B1, ∀ a ∈ A2.head?, lt b a = true) (h2 : ∀ b ∈ B2, ∀ a ∈ A1, lt b a = false) (h3 : ∀ b ∈ B2, ∀ a ∈ B1, lt b a = false) : mrg lt (A1 ++ A2) (B1 ++ B2) = mrg lt A1 B1 ++ mrg lt A2 B2 := by
  rw [mrg_append, mrg_left h1, mrg_right]
  intro b hb a ha
  rcases mem_mrg.1 ha with k | k
  · exact h2 b hb a k
  · exact h3 b hb a k
/-- Blocks of s elements, each sorted. -/
def blk (lt : α → α → Bool) (s : Nat) (l : List α) : List α :=
  if h : s = 0 ∨ l.length ≤ s then isort lt l else isort lt (l.take s) ++ blk lt s (l.drop s)
termination_by l.length
decreasing_by
  simp only [List.length_drop]
  omega
end Srt
end Go.Proofs.YtbnbgekjjbpljaaGreatR
namespace Go.Proofs.YtbnbgekjjbpljaaGreatR
open Go Go.RowKit Go.Proofs
set_option linter.unusedSimpArgs false
set_option linter.unusedVariables false
abbrev fI (f : FuncId) : RV := ⟨false, [(false, .fn f [])]⟩
attribute [go_sem] fI
/-- A row around two elements. -/
def two (A : List (List T)) (e : List T) (B : List (List T)) (e' : List T) (C : List (List T)) : List (List T) := A ++ e :: (B ++ e' :: C)
theorem two_at {A B C : List (List T)} {p q : Nat} (hp : A.length = p) (hq : p + 1 + B.length = q) :
    (∀ e e', (two A e B e' C)[p]? = some e) ∧ (∀ e e', (two A e B e' C)[q]? = some e') ∧
    (∀ e e' u, (two A e B e' C).set p u = two A u B e' C) ∧ (∀ e e' u, (two A e B e' C).set q u = two A e B u C) ∧
    (∀ e e', (two A e B e' C).length = A.length + B.length + C.length + 2) ∧
    (∀ e e', (two A e B e' C).getD p [] = e) ∧ (∀ e e', (two A e B e' C).getD q [] = e') := by
  subst hp hq
  have h1 : ∀ e e', (two A e B e' C)[A.length]? = some e := fun e e' => by simp [two]
  have h2 : ∀ e e', (two A e B e' C)[A.length + 1 + B.length]? = some e' := fun e e' => by
    unfold two
    rw [List.getElem?_append_right (by omega), show A.length + 1 + B.length - A.length = B.length + 1 by omega, List.getElem?_cons_succ, List.getElem?_append_right (by omega), Nat.sub_self]
    rfl
  refine ⟨h1, h2, fun e e' u => by simp [two], fun e e' u => ?_, fun e e' => by simp [two]; omega, fun e e' => by rw [List.getD_eq_getElem?_getD, h1]; rfl, fun e e' => by rw [List.getD_eq_getElem?_getD, h2]; rfl⟩
  unfold two
  rw [List.set_append_right _ _ (by omega), show A.length + 1 + B.length - A.length = B.length + 1 by omega, List.set_cons_succ, List.set_append_right _ _ (by omega), Nat.sub_self]
  rfl
def swp {α : Type} (P X M Y Q : List α) (i : Nat) : List α := (P ++ Y.take i) ++ (X.drop i ++ M ++ X.take i) ++ (Y.drop i ++ Q)
theorem swp_len {α : Type} {P X M Y Q : List α} {i : Nat} (h : X.length = Y.length) : (swp P X M Y Q i).length = (P ++ X ++ M ++ Y ++ Q).length := by
  simp [swp, List.length_take, List.length_drop]; omega
theorem swp_two {α : Type} {P X M Y Q : List α} {i : Nat} {x y : α} {f : α → List T} (hx : X[i]? = some x) (hy : Y[i]? = some y) :
    (swp P X M Y Q i).map f = two ((P ++ Y.take i).map f) (f x) ((X.drop (i + 1) ++ M ++ X.take i).map f) (f y) ((Y.drop (i + 1) ++ Q).map f) ∧
    (swp P X M Y Q (i + 1)).map f = two ((P ++ Y.take i).map f) (f y) ((X.drop (i + 1) ++ M ++ X.take i).map f) (f x) ((Y.drop (i + 1) ++ Q).map f) := by
  constructor
  · simp [swp, two, drop_cons hx, drop_cons hy]
  · simp [swp, two, take_snoc hx, take_snoc hy]
theorem wN {a b : Nat} (h : a + b ≤ 9223372036854775807) : IntKind.i64.wrap ((a : Int) + (b : Int)) = ((a + b : Nat) : Int) := by
  rw [wI (by omega) (by omega)]; omega
theorem wN1 {a : Nat} (h : a + 1 ≤ 9223372036854775807) : IntKind.i64.wrap ((a : Int) + 1) = ((a + 1 : Nat) : Int) := by
  rw [wI (by omega) (by omega)]; omega
theorem wS {a b : Nat} (h : b ≤ a) (h2 : a ≤ 9223372036854775807) : IntKind.i64.wrap ((a : Int) - (b : Int)) = ((a - b : Nat) : Int) := by
  rw [wI (by omega) (by omega)]; omega
theorem wS1 {a : Nat} (h : 1 ≤ a) (h2 : a ≤ 9223372036854775807) : IntKind.i64.wrap ((a : Int) - 1) = ((a - 1 : Nat) : Int) := by
  rw [wI (by omega) (by omega)]; omega
def m_slices_swapRangeCmpFunc_impl_Found : MC :=
(.seq (pr [.mv 10 (.c (.int .i64 0))] [0,1,2,3,10])
(.block 0 (.loop ([0,1,2,3,10], []) (.seq (.seq (pr [.mv 11 (.s 10), .mv 12 (.s 3), .bin 13 false .lss (.s 11) (.s 12)] [0,1,2,3,10,13])
(.cond (.s 13) .skip (.exit 0)))
(.seq (.block 1 (.dreg [{ o := .mv 16 (.s 0), hs := [17,18,19,20,21,22,23,24,25,26,27,28,29,30,31,32,33,34,35] }, { o := .mv 17 (.s 1), hs := [16,18,20,21,22,23,24,25,26,27,28,29,30,31,32,33,34,35] }, { o := .mv 18 (.s 10), hs := [16,17,20,21,22,23,24,25,26,27,28,29,30,31,32,33,34,35] }, { o := .bin 19 false .add (.s 17) (.s 18), hs := [16,20,21,22,23,24,25,26,27,28,29,30,31,32,33,34,35], bf := [1,2] }, { o := .mv 20 (.s 0), hs := [16,17,18,19,21,22,23,24,25,26,27,28,29,30,31,32,33,34,35,36], ho := [0] }, { o := .mv 21 (.s 2), hs := [16,17,18,19,20,22,24,25,26,27,28,29,30,31,32,33,34,35,36], ho := [0] }, { o := .mv 22 (.s 10), hs := [16,17,18,19,20,21,24,25,26,27,28,29,30,31,32,33,34,35,36], ho := [0] }, { o := .bin 23 false .add (.s 21) (.s 22), hs := [16,17,18,19,20,24,25,26,27,28,29,30,31,32,33,34,35,36], ho := [0], bf := [5,6] }, { o := .mv 24 (.s 0), hs := [16,17,18,19,20,21,22,23,25,26,27,30,31,32,33,34,35] }, { o := .mv 25 (.s 2), hs := [16,17,18,19,20,21,22,23,24,26,30,31,32,33,34,35] }, { o := .mv 26 (.s 10), hs := [16,17,18,19,20,21,22,23,24,25,30,31,32,33,34,35] }, { o := .bin 27 false .add (.s 25) (.s 26), hs := [16,17,18,19,20,21,22,23,24,30,31,32,33,34,35], bf := [9,10] }, { o := .idx 28 6 (.s 24) (.s 27), hs := [16,17,18,19,20,21,22,23,30,31,32,33,34,35], bf := [8,9,10,11] }, { o := .load 29 true 6 (.s 28), hs := [16,17,18,19,20,21,22,23,30,31,32,33,34,35], bf := [8,9,10,11,12] }, { o := .mv 30 (.s 0), hs := [16,17,18,19,20,21,22,23,24,25,26,27,28,29,31,32,33] }, { o := .mv 31 (.s 1), hs := [16,17,18,19,20,21,22,23,24,25,26,27,28,29,30,32] }, { o := .mv 32 (.s 10), hs := [16,17,18,19,20,21,22,23,24,25,26,27,28,29,30,31] }, { o := .bin 33 false .add (.s 31) (.s 32), hs := [16,17,18,19,20,21,22,23,24,25,26,27,28,29,30], bf := [15,16] }, { o := .idx 34 6 (.s 30) (.s 33), hs := [16,17,18,19,20,21,22,23,24,25,26,27,28,29], bf := [14,15,16,17] }, { o := .load 35 true 6 (.s 34), hs := [16,17,18,19,20,21,22,23,24,25,26,27,28,29], bf := [14,15,16,17,18] }, { o := .idx 36 6 (.s 16) (.s 19), hs := [20,21,22,23], bf := [0,1,2,3,8,9,10,11,12,13,14,15,16,17,18,19] }, { o := .store 6 (.s 36) (.s 29), hs := [20,21,22,23], ws := [0], bf := [0,1,2,3,8,9,10,11,12,13,14,15,16,17,18,19,20] }, { o := .idx 37 6 (.s 20) (.s 23), bf := [0,1,2,3,4,5,6,7,8,9,10,11,12,13,14,15,16,17,18,19,20,21] }, { o := .store 6 (.s 37) (.s 35), ws := [0], bf := [0,1,2,3,4,5,6,7,8,9,10,11,12,13,14,15,16,17,18,19,20,21,22] }] [0,1,2,3,10]))
(pr [.mv 14 (.s 10), .bin 15 false .add (.s 14) (.c (.int .i64 1)), .mv 10 (.s 15)] [0,1,2,3,10]))))))
theorem c_slices_swapRangeCmpFunc (P X M Y Q : List GFound) (f : FuncId) {a b n : Nat} (ha : P.length = a) (hb : (P ++ X ++ M).length = b) (hX : X.length = n) (hY : Y.length = n) : CtrI Tryz.prog n_slices_swapRangeCmpFunc_impl_Found [oL 6 ((P ++ X ++ M ++ Y ++ Q).map GFound.enc), iI a, iI b, iI n, fI f] [some (6, (P ++ Y ++ M ++ X ++ Q).map GFound.enc)] [] := by
  have hL0 : (P ++ X ++ M ++ Y ++ Q).length = b + n + Q.length := by rw [List.length_append, List.length_append, hb, hY]
  have hL1 : (P ++ Y ++ M ++ X ++ Q).length = (P ++ X ++ M ++ Y ++ Q).length := by simp; omega
  have hb' : b = a + n + M.length := by rw [← hb]; simp; omega
  have hsw0 : swp P X M Y Q 0 = P ++ X ++ M ++ Y ++ Q := by simp [swp]
  have hswn : swp P X M Y Q n = P ++ Y ++ M ++ X ++ Q := by simp [swp, ← hX, List.take_of_length_le (show Y.length ≤ X.length by omega), List.drop_of_length_le (show Y.length ≤ X.length by omega)]
  refine ctrI_at (M := m_slices_swapRangeCmpFunc_impl_Found) (m := 0) (n := 38) (res := []) hmix Tryz.func250 rfl (by kernel_rfl) rfl (by kernel_rfl) (by kernel_rfl) (Nat.le_of_ble_eq_true rfl) rfl rfl ?_; unfold m_slices_swapRangeCmpFunc_impl_Found
  intro hbd
  have hl := len_of_bd hbd
  clear hbd
  simp only [roomB] at hl
  rw [← hsw0, ← hswn]
  rw [← hsw0, ← hswn] at hL1
  rw [← hsw0] at hl hL0
  subst hX
  generalize hN : (swp P X M Y Q 0).length = N at *
  simp only [↓bk_bind, ↓bk_map, ↓bk_ite, ↓bk_some, ↓reduceIte, Nat.reduceEqDiff, Nat.reduceLT, Nat.reduceLeDiff, Nat.reduceAdd, Nat.reduceMul, reduceCtorEq, List.reduceReplicate, go_sem, hN]
  refine loopK_rng X (fun i => [(10, vI i)]) (fun i => [(0, ⟨1, .row true 6 ((swp P X M Y Q i).map GFound.enc)⟩)]) (fun _ => True) (by simp only [roomB]; omega) ?_
  simp only [↓bk_bind, ↓bk_map, ↓bk_ite, ↓bk_some, ↓reduceIte, Nat.reduceEqDiff, Nat.reduceLT, Nat.reduceLeDiff, Nat.reduceAdd, Nat.reduceMul, reduceCtorEq, List.reduceReplicate, go_sem, hN]
  refine ⟨?_, trivial, ?_, ?_⟩
  · simp only [↓bk_bind, ↓bk_map, ↓bk_ite, ↓bk_some, ↓reduceIte, Nat.reduceEqDiff, Nat.reduceLT, Nat.reduceLeDiff, Nat.reduceAdd, Nat.reduceMul, reduceCtorEq, List.reduceReplicate, go_sem]
  · intro i x hx _ h0 h1 hw
    have hi := len_at hx
    obtain ⟨y, hy⟩ := at_some (show i < Y.length by omega)
    obtain ⟨e1, e2⟩ := swp_two (P := P) (M := M) (Q := Q) (f := GFound.enc) hx hy
    have hlen := swp_len (P := P) (X := X) (M := M) (Y := Y) (Q := Q) (i := i) hY.symm
    rw [e1, e2]
    generalize hAe : (P ++ Y.take i).map GFound.enc = A at e1 e2
    generalize hBe : (X.drop (i + 1) ++ M ++ X.take i).map GFound.enc = B at e1 e2
    generalize hCe : (Y.drop (i + 1) ++ Q).map GFound.enc = C at e1 e2
    have hA : A.length = a + i := by subst hAe; simp; omega
    have hB : (a + i) + 1 + B.length = b + i := by subst hBe; simp; omega
    have hC : C.length = Y.length - (i + 1) + Q.length := by subst hCe; simp
    obtain ⟨g1, g2, s1, s2, hL, d1, d2⟩ := two_at (C := C) hA hB
    have hL' : ∀ e e', (two A e B e' C).length = N := fun e e' => by rw [hL]; omega
    have k1 : (0 : Int) ≤ ((a + i : Nat) : Int) := by omega
    have k2 : ((a + i : Nat) : Int) < (N : Int) := by omega
    have k3 : (0 : Int) ≤ ((b + i : Nat) : Int) := by omega
    have k4 : ((b + i : Nat) : Int) < (N : Int) := by omega
    have k5 : ¬ b + i = a + i := by omega
    simp only [↓bk_bind, ↓bk_map, ↓bk_ite, ↓bk_some, ↓reduceIte, Nat.reduceEqDiff, Nat.reduceLT, Nat.reduceLeDiff, Nat.reduceAdd, Nat.reduceMul, reduceCtorEq, List.reduceReplicate, go_sem, g1, g2, s1, s2, hL', d1, d2, hw, h0, h1, wN (a := a) (b := i) (by omega), wN (a := b) (b := i) (by omega), k1, k2, k3, k4]
  · intro _
    simp only [↓bk_bind, ↓bk_map, ↓bk_ite, ↓bk_some, ↓reduceIte, Nat.reduceEqDiff, Nat.reduceLT, Nat.reduceLeDiff, Nat.reduceAdd, Nat.reduceMul, reduceCtorEq, List.reduceReplicate, go_sem]
/-- Where the rotation stands. -/
def RotI (P X Y Q : List GFound) (m : Nat) (d : List GFound) (i j : Nat) : Prop :=
  ∃ C X' Y' D, d = P ++ C ++ X' ++ Y' ++ D ++ Q ∧ X'.length = i ∧ Y'.length = j ∧ P.length + C.length + i = m ∧ C ++ Y' ++ X' ++ D = Y ++ X ∧ 0 < i ∧ 0 < j
theorem RotI.gt {P X Y Q : List GFound} {m : Nat} {d : List GFound} {i j : Nat} (h : RotI P X Y Q m d i j) (hij : j < i) :
    ∃ P' X1 M Y' Q', d = P' ++ X1 ++ M ++ Y' ++ Q' ∧ P'.length = m - i ∧ (P' ++ X1 ++ M).length = m ∧ X1.length = j ∧ Y'.length = j ∧ RotI P X Y Q m (P' ++ Y' ++ M ++ X1 ++ Q') (i - j) j := by
  obtain ⟨C, X', Y', D, rfl, rfl, rfl, h3, h4, h5, h6⟩ := h
  obtain ⟨X1, X2, rfl, hX1⟩ : ∃ X1 X2, X' = X1 ++ X2 ∧ X1.length = Y'.length := ⟨X'.take Y'.length, X'.drop Y'.length, (List.take_append_drop _ _).symm, by simp; omega⟩
  simp only [List.length_append] at *
  exact ⟨P ++ C, X1, X2, Y', D ++ Q, by simp, by simp; omega, by simp; omega, hX1, rfl, C ++ Y', X2, X1, D, by simp, by omega, by omega, by simp; omega, by rw [← h4]; simp, by omega, by omega⟩
theorem RotI.le {P X Y Q : List GFound} {m : Nat} {d : List GFound} {i j : Nat} (h : RotI P X Y Q m d i j) (hij : i < j) :
    ∃ P' X' M Y2 Q', d = P' ++ X' ++ M ++ Y2 ++ Q' ∧ P'.length = m - i ∧ (P' ++ X' ++ M).length = m + j - i ∧ X'.length = i ∧ Y2.length = i ∧ RotI P X Y Q m (P' ++ Y2 ++ M ++ X' ++ Q') i (j - i) := by
  obtain ⟨C, X', Y', D, rfl, rfl, rfl, h3, h4, h5, h6⟩ := h
  obtain ⟨Y1, Y2, rfl, hY2⟩ : ∃ Y1 Y2, Y' = Y1 ++ Y2 ∧ Y2.length = X'.length := ⟨Y'.take (Y'.length - X'.length), Y'.drop (Y'.length - X'.length), (List.take_append_drop _ _).symm, by simp; omega⟩
  simp only [List.length_append] at *
  exact ⟨P ++ C, X', Y1, Y2, D ++ Q, by simp, by simp; omega, by simp; omega, rfl, hY2, C, Y2, Y1, X' ++ D, by simp, by omega, by omega, by omega, by rw [← h4]; simp, by omega, by omega⟩
theorem RotI.eq {P X Y Q : List GFound} {m : Nat} {d : List GFound} {i : Nat} (h : RotI P X Y Q m d i i) :
    ∃ P' X' Y' Q', d = P' ++ X' ++ [] ++ Y' ++ Q' ∧ P'.length = m - i ∧ (P' ++ X' ++ []).length = m ∧ X'.length = i ∧ Y'.length = i ∧ P' ++ Y' ++ [] ++ X' ++ Q' = P ++ Y ++ X ++ Q := by
  obtain ⟨C, X', Y', D, rfl, rfl, h2, h3, h4, h5, h6⟩ := h
  refine ⟨P ++ C, X', Y', D ++ Q, by simp, by simp; omega, by simp; omega, rfl, h2, ?_⟩
  have := congrArg (fun l => P ++ (l ++ Q)) h4
  simpa using this
theorem RotI.len {P X Y Q : List GFound} {m : Nat} {d : List GFound} {i j : Nat} (h : RotI P X Y Q m d i j) : d.length = (P ++ X ++ Y ++ Q).length ∧ i ≤ m ∧ m + j ≤ d.length ∧ 0 < i ∧ 0 < j := by
  obtain ⟨C, X', Y', D, rfl, rfl, rfl, h3, h4, h5, h6⟩ := h
  have := congrArg List.length h4
  simp at this ⊢
  omega
theorem RotI.start {P X Y Q : List GFound} {m i j : Nat} (hm : P.length + X.length = m) (hi : X.length = i) (hj : Y.length = j) (hX : 0 < X.length) (hY : 0 < Y.length) : RotI P X Y Q m (P ++ X ++ Y ++ Q) i j :=
  ⟨[], X, Y, [], by simp, hi, hj, by simp; omega, by simp, by omega, by omega⟩
def m_slices_rotateCmpFunc_impl_Found : MC :=
(.seq (pr [.mv 12 (.s 2), .mv 13 (.s 1), .bin 14 false .sub (.s 12) (.s 13), .mv 10 (.s 14)] [0,2,3,4,10])
(.seq (pr [.mv 15 (.s 3), .mv 16 (.s 2), .bin 17 false .sub (.s 15) (.s 16), .mv 11 (.s 17)] [0,2,4,10,11])
(.seq (.block 0 (.loop ([0,2,4,10,11], []) (.seq (.seq (pr [.mv 18 (.s 10), .mv 19 (.s 11), .bin 20 false .neq (.s 18) (.s 19)] [0,2,4,10,11,20])
(.cond (.s 20) .skip (.exit 0)))
(.block 1 (.seq (pr [.mv 21 (.s 10), .mv 22 (.s 11), .bin 23 false .gtr (.s 21) (.s 22)] [0,2,4,10,11,23])
(.cond (.s 23) (.seq (pr [.mv 24 (.s 0), .mv 25 (.s 2), .mv 26 (.s 10), .bin 27 false .sub (.s 25) (.s 26), .mv 28 (.s 2), .mv 29 (.s 11), .mv 30 (.s 4), .callI 31 [] (.f n_slices_swapRangeCmpFunc_impl_Found) [.s 24, .s 27, .s 28, .s 29, .s 30] [0] []] [0,2,4,10,11])
(pr [.mv 32 (.s 10), .mv 33 (.s 11), .bin 34 false .sub (.s 32) (.s 33), .mv 10 (.s 34)] [0,2,4,10,11])) (.seq (pr [.mv 35 (.s 0), .mv 36 (.s 2), .mv 37 (.s 10), .bin 38 false .sub (.s 36) (.s 37), .mv 39 (.s 2), .mv 40 (.s 11), .bin 41 false .add (.s 39) (.s 40), .mv 42 (.s 10), .bin 43 false .sub (.s 41) (.s 42), .mv 44 (.s 10), .mv 45 (.s 4), .callI 46 [] (.f n_slices_swapRangeCmpFunc_impl_Found) [.s 35, .s 38, .s 43, .s 44, .s 45] [0] []] [0,2,4,10,11])
(pr [.mv 47 (.s 11), .mv 48 (.s 10), .bin 49 false .sub (.s 47) (.s 48), .mv 11 (.s 49)] [0,2,4,10,11]))))))))
(pr [.mv 50 (.s 0), .mv 51 (.s 2), .mv 52 (.s 10), .bin 53 false .sub (.s 51) (.s 52), .mv 54 (.s 2), .mv 55 (.s 10), .mv 56 (.s 4), .callI 57 [] (.f n_slices_swapRangeCmpFunc_impl_Found) [.s 50, .s 53, .s 54, .s 55, .s 56] [0] []] []))))
theorem c_slices_rotateCmpFunc (P X Y Q : List GFound) (f : FuncId) {a m b : Nat} (ha : P.length = a) (hm : (P ++ X).length = m) (hb : (P ++ X ++ Y).length = b) (hX : 0 < X.length) (hY : 0 < Y.length) : CtrI Tryz.prog n_slices_rotateCmpFunc_impl_Found [oL 6 ((P ++ X ++ Y ++ Q).map GFound.enc), iI a, iI m, iI b, fI f] [some (6, (P ++ Y ++ X ++ Q).map GFound.enc)] [] := by
  refine ctrI_at (M := m_slices_rotateCmpFunc_impl_Found) (m := 0) (n := 58) (res := []) hmix Tryz.func244 rfl (by kernel_rfl) rfl (by kernel_rfl) (by kernel_rfl) (Nat.le_of_ble_eq_true rfl) rfl rfl ?_; unfold m_slices_rotateCmpFunc_impl_Found
  intro hbd
  have hl := len_of_bd hbd
  clear hbd
  have hN2 : (P ++ Y ++ X ++ Q).length = (P ++ X ++ Y ++ Q).length := by simp; omega
  have hm' : m = a + X.length := by rw [← hm, ← ha]; simp
  have hb' : b = m + Y.length := by rw [← hb, ← hm]; simp; omega
  have hbN : b ≤ (P ++ X ++ Y ++ Q).length := by rw [List.length_append, hb]; omega
  generalize hN : (P ++ X ++ Y ++ Q).length = N at *
  simp only [roomB] at hl
  simp only [↓bk_bind, ↓bk_map, ↓bk_ite, ↓bk_some, ↓reduceIte, Nat.reduceEqDiff, Nat.reduceLT, Nat.reduceLeDiff, Nat.reduceAdd, Nat.reduceMul, reduceCtorEq, List.reduceReplicate, go_sem, hN, wS (a := m) (b := a) (by omega) (by omega), wS (a := b) (b := m) (by omega) (by omega)]
  refine loopK_up (ι := List GFound × Nat × Nat) (fun s => [(10, vI s.2.1), (11, vI s.2.2)]) (fun s => [(0, ⟨1, .row true 6 (s.1.map GFound.enc)⟩)]) (fun s => RotI P X Y Q m s.1 s.2.1 s.2.2) (fun s => s.2.1 + s.2.2) (P ++ X ++ Y ++ Q, m - a, b - m) ?_
  simp only [↓bk_bind, ↓bk_map, ↓bk_ite, ↓bk_some, ↓reduceIte, Nat.reduceEqDiff, Nat.reduceLT, Nat.reduceLeDiff, Nat.reduceAdd, Nat.reduceMul, reduceCtorEq, List.reduceReplicate, go_sem, hN]
  refine ⟨?_, RotI.start (by omega) (show X.length = m - a by omega) (show Y.length = b - m by omega) hX hY, ?_⟩
  · simp only [↓bk_bind, ↓bk_map, ↓bk_ite, ↓bk_some, ↓reduceIte, Nat.reduceEqDiff, Nat.reduceLT, Nat.reduceLeDiff, Nat.reduceAdd, Nat.reduceMul, reduceCtorEq, List.reduceReplicate, go_sem]
  · rintro ⟨d, i, j⟩ hI
    simp only at hI
    obtain ⟨hd, h1, h2, h3, h4⟩ := hI.len
    rw [hN] at hd
    simp only [↓bk_bind, ↓bk_map, ↓bk_ite, ↓bk_some, ↓reduceIte, Nat.reduceEqDiff, Nat.reduceLT, Nat.reduceLeDiff, Nat.reduceAdd, Nat.reduceMul, reduceCtorEq, List.reduceReplicate, go_sem, hd]
    refine ⟨fun hne => ⟨fun hgt => ?_, fun hle => ?_⟩, fun heq => ?_⟩
    · obtain ⟨P', X1, M, Y', Q', rfl, k1, k2, k3, k4, hR⟩ := hI.gt (by omega)
      have hd2 := hR.len.1
      rw [hN] at hd2
      rw [wS h1 (by omega)]
      apply callIK_of (c_slices_swapRangeCmpFunc P' X1 M Y' Q' f k1 k2 k3 k4)
      simp only [↓bk_bind, ↓bk_map, ↓bk_ite, ↓bk_some, ↓reduceIte, Nat.reduceEqDiff, Nat.reduceLT, Nat.reduceLeDiff, Nat.reduceAdd, Nat.reduceMul, reduceCtorEq, List.reduceReplicate, go_sem, hd, hd2, wS (a := i) (b := j) (by omega) (by omega)]
      exact ⟨(_, i - j, j), ⟨⟨rfl, rfl⟩, rfl⟩, hR, by show i - j + j < i + j; omega⟩
    · obtain ⟨P', X1, M, Y', Q', rfl, k1, k2, k3, k4, hR⟩ := hI.le (by omega)
      have hd2 := hR.len.1
      rw [hN] at hd2
      rw [wS h1 (by omega), wN (by omega), wS (a := m + j) (b := i) (by omega) (by omega)]
      apply callIK_of (c_slices_swapRangeCmpFunc P' X1 M Y' Q' f k1 k2 k3 k4)
      simp only [↓bk_bind, ↓bk_map, ↓bk_ite, ↓bk_some, ↓reduceIte, Nat.reduceEqDiff, Nat.reduceLT, Nat.reduceLeDiff, Nat.reduceAdd, Nat.reduceMul, reduceCtorEq, List.reduceReplicate, go_sem, hd, hd2, wS (a := j) (b := i) (by omega) (by omega)]
      exact ⟨(_, i, j - i), ⟨⟨rfl, rfl⟩, rfl⟩, hR, by show i + (j - i) < i + j; omega⟩
    · obtain rfl : i = j := by omega
      obtain ⟨P', X1, Y', Q', rfl, k1, k2, k3, k4, hR⟩ := hI.eq
      rw [wS h1 (by omega)]
      apply callIK_of (c_slices_swapRangeCmpFunc P' X1 [] Y' Q' f k1 k2 k3 k4)
      rw [hR]
      simp only [↓bk_bind, ↓bk_map, ↓bk_ite, ↓bk_some, ↓reduceIte, Nat.reduceEqDiff, Nat.reduceLT, Nat.reduceLeDiff, Nat.reduceAdd, Nat.reduceMul, reduceCtorEq, List.reduceReplicate, go_sem, hd]
def ltc (c : GFound → GFound → Int) (x y : GFound) : Bool := decide (c x y < 0)
def InsI (lt : GFound → GFound → Bool) (P S R : List GFound) (x : GFound) (d : List GFound) (j : Nat) : Prop :=
  ∃ s1 s2, d = P ++ s1 ++ x :: s2 ++ R ∧ P.length + s1.length = j ∧ s1 ++ s2 = S ∧ ∀ y ∈ s2, lt x y = true
theorem InsI.len {lt : GFound → GFound → Bool} {P S R : List GFound} {x : GFound} {d : List GFound} {j : Nat} (h : InsI lt P S R x d j) : d.length = P.length + S.length + 1 + R.length ∧ P.length ≤ j ∧ j ≤ P.length + S.length := by
  obtain ⟨s1, s2, rfl, rfl, rfl, h⟩ := h
  simp; omega
theorem InsI.done {lt : GFound → GFound → Bool} (hw : Srt.Swo lt) {P S R : List GFound} {x : GFound} {d : List GFound} {j : Nat} (h : InsI lt P S R x d j) (hs : Srt.srt lt S) (hj : j = P.length ∨ ∀ z ∈ d[j - 1]?, lt x z = false) : d = P ++ Srt.ins lt x S ++ R := by
  obtain ⟨s1, s2, rfl, rfl, rfl, h⟩ := h
  rw [Srt.ins_mid]
  · simp
  · intro y hy
    rcases List.eq_nil_or_concat s1 with rfl | ⟨s, z, rfl⟩
    · simp at hy
    · rcases hj with hj | hj
      · simp at hj
      · rw [List.concat_eq_append] at *
        have hz : lt x z = false := hj z (by simp [List.getElem?_append])
        rcases List.mem_append.1 hy with k | k
        · have := (Srt.srt_append.1 (Srt.srt_append.1 hs).1).2.2 y k z (by simp)
          exact hw.ntr hz this
        · obtain rfl := List.mem_singleton.1 k
          exact hz
  · intro y hy
    exact h y (List.mem_of_mem_head? hy)
theorem InsI.step {lt : GFound → GFound → Bool} {P S R : List GFound} {x : GFound} {d : List GFound} {j : Nat} (h : InsI lt P S R x d j) (hj : P.length < j) :
    ∃ A z C, d = A ++ z :: ([] ++ x :: C) ∧ A.length = j - 1 ∧ d[j - 1]? = some z ∧ (lt x z = true → InsI lt P S R x (A ++ x :: ([] ++ z :: C)) (j - 1)) := by
  obtain ⟨s1, s2, rfl, rfl, rfl, h⟩ := h
  rcases List.eq_nil_or_concat s1 with rfl | ⟨s, z, rfl⟩
  · simp at hj
  · rw [List.concat_eq_append] at *
    refine ⟨P ++ s, z, s2 ++ R, by simp, by simp, by simp [List.getElem?_append], fun hl => ⟨s, z :: s2, by simp, by simp, by simp, ?_⟩⟩
    intro y hy
    rcases List.mem_cons.1 hy with rfl | k
    · exact hl
    · exact h y k
def m_slices_insertionSortCmpFunc_impl_Found : MC :=
(.seq (pr [.mv 10 (.s 1), .bin 11 false .add (.s 10) (.c (.int .i64 1)), .mv 8 (.s 11)] [0,1,2,3,8])
(.block 0 (.loop ([0,1,2,3,8], []) (.seq (.seq (pr [.mv 12 (.s 8), .mv 13 (.s 2), .bin 14 false .lss (.s 12) (.s 13)] [0,1,2,3,8,14])
(.cond (.s 14) .skip (.exit 0)))
(.seq (.block 1 (.seq (pr [.mv 17 (.s 8), .mv 9 (.s 17)] [0,1,2,3,8,9])
(.block 2 (.loop ([0,1,2,3,8,9], []) (.seq (.seq (.dreg [{ o := .mv 18 (.s 9), hs := [19] }, { o := .mv 19 (.s 1), hs := [18] }, { o := .bin 20 false .gtr (.s 18) (.s 19), bf := [0,1] }, { o := .mv 21 (.s 20), bf := [0,1,2] }, { o := .mv 22 (.s 3), g := some (21, true), hs := [23,24,25,26,27,28,29,30,31], bf := [0,1,2,3] }, { o := .mv 23 (.s 0), g := some (21, true), hs := [22,24,27,28,29,30,31], bf := [0,1,2,3] }, { o := .mv 24 (.s 9), g := some (21, true), hs := [22,23,27,28,29,30,31], bf := [0,1,2,3] }, { o := .idx 25 6 (.s 23) (.s 24), g := some (21, true), hs := [22,27,28,29,30,31], bf := [0,1,2,3,5,6] }, { o := .load 26 true 6 (.s 25), g := some (21, true), hs := [22,27,28,29,30,31], bf := [0,1,2,3,5,6,7] }, { o := .mv 27 (.s 0), g := some (21, true), hs := [22,23,24,25,26,28,29], bf := [0,1,2,3] }, { o := .mv 28 (.s 9), g := some (21, true), hs := [22,23,24,25,26,27], bf := [0,1,2,3] }, { o := .bin 29 false .sub (.s 28) (.c (.int .i64 1)), g := some (21, true), hs := [22,23,24,25,26,27], bf := [0,1,2,3,10] }, { o := .idx 30 6 (.s 27) (.s 29), g := some (21, true), hs := [22,23,24,25,26], bf := [0,1,2,3,9,10,11] }, { o := .load 31 true 6 (.s 30), g := some (21, true), hs := [22,23,24,25,26], bf := [0,1,2,3,9,10,11,12] }, { o := .call 32 [] (.s 22) [.s 26, .s 31], g := some (21, true), bf := [0,1,2,3,4,5,6,7,8,9,10,11,12,13] }, { o := .bin 33 false .lss (.s 32) (.c (.int .i64 0)), g := some (21, true), bf := [0,1,2,3,4,5,6,7,8,9,10,11,12,13,14] }, { o := .pick 34 (.s 21) (.s 33) (.c (.bool false)), bf := [0,1,2,3,4,5,6,7,8,9,10,11,12,13,14,15] }] [0,1,2,3,8,9,34])
(.cond (.s 34) .skip (.exit 2)))
(.seq (.block 3 (.dreg [{ o := .mv 37 (.s 0), hs := [38,39,40,41,42,43,44,45,46,47,48,49,50] }, { o := .mv 38 (.s 9), hs := [37,39,40,41,42,43,44,45,46,47,48,49,50] }, { o := .mv 39 (.s 0), hs := [37,38,40,41,42,43,44,45,46,47,48,49,50,51], ho := [0] }, { o := .mv 40 (.s 9), hs := [37,38,39,42,43,44,45,46,47,48,49,50,51], ho := [0] }, { o := .bin 41 false .sub (.s 40) (.c (.int .i64 1)), hs := [37,38,39,42,43,44,45,46,47,48,49,50,51], ho := [0], bf := [3] }, { o := .mv 42 (.s 0), hs := [37,38,39,40,41,43,44,47,48,49,50] }, { o := .mv 43 (.s 9), hs := [37,38,39,40,41,42,47,48,49,50] }, { o := .bin 44 false .sub (.s 43) (.c (.int .i64 1)), hs := [37,38,39,40,41,42,47,48,49,50], bf := [6] }, { o := .idx 45 6 (.s 42) (.s 44), hs := [37,38,39,40,41,47,48,49,50], bf := [5,6,7] }, { o := .load 46 true 6 (.s 45), hs := [37,38,39,40,41,47,48,49,50], bf := [5,6,7,8] }, { o := .mv 47 (.s 0), hs := [37,38,39,40,41,42,43,44,45,46,48] }, { o := .mv 48 (.s 9), hs := [37,38,39,40,41,42,43,44,45,46,47] }, { o := .idx 49 6 (.s 47) (.s 48), hs := [37,38,39,40,41,42,43,44,45,46], bf := [10,11] }, { o := .load 50 true 6 (.s 49), hs := [37,38,39,40,41,42,43,44,45,46], bf := [10,11,12] }, { o := .idx 51 6 (.s 37) (.s 38), hs := [39,40,41], bf := [0,1,5,6,7,8,9,10,11,12,13] }, { o := .store 6 (.s 51) (.s 46), hs := [39,40,41], ws := [0], bf := [0,1,5,6,7,8,9,10,11,12,13,14] }, { o := .idx 52 6 (.s 39) (.s 41), bf := [0,1,2,3,4,5,6,7,8,9,10,11,12,13,14,15] }, { o := .store 6 (.s 52) (.s 50), ws := [0], bf := [0,1,2,3,4,5,6,7,8,9,10,11,12,13,14,15,16] }] [0,1,2,3,8,9]))
(pr [.mv 35 (.s 9), .bin 36 false .sub (.s 35) (.c (.int .i64 1)), .mv 9 (.s 36)] [0,1,2,3,8,9])))))))
(pr [.mv 15 (.s 8), .bin 16 false .add (.s 15) (.c (.int .i64 1)), .mv 8 (.s 16)] [0,1,2,3,8]))))))
theorem c_slices_insertionSortCmpFunc (P X Q : List GFound) (f : FuncId) (c : GFound → GFound → Int) (hc : ∀ x y, Ctr Tryz.prog f [aS x.enc, aS y.enc] [rI (c x y)]) (hw : Srt.Swo (ltc c)) {a b : Nat} (ha : P.length = a) (hb : (P ++ X).length = b) : CtrI Tryz.prog n_slices_insertionSortCmpFunc_impl_Found [oL 6 ((P ++ X ++ Q).map GFound.enc), iI a, iI b, fI f] [some (6, (P ++ Srt.isort (ltc c) X ++ Q).map GFound.enc)] [] := by
  have hlk : ∀ k, (P ++ Srt.isort (ltc c) (X.take k) ++ (X.drop k ++ Q)).length = (P ++ X ++ Q).length := fun k => by simp [Srt.len_isort]; omega
  refine ctrI_at (M := m_slices_insertionSortCmpFunc_impl_Found) (m := 0) (n := 53) (res := []) hmix Tryz.func226 rfl (by kernel_rfl) rfl (by kernel_rfl) (by kernel_rfl) (Nat.le_of_ble_eq_true rfl) rfl rfl ?_; unfold m_slices_insertionSortCmpFunc_impl_Found
  intro hbd
  have hl := len_of_bd hbd
  clear hbd
  have hb' : b = a + X.length := by rw [← hb, ← ha]; simp
  have hbN : b ≤ (P ++ X ++ Q).length := by rw [List.length_append, hb]; omega
  generalize hN : (P ++ X ++ Q).length = N at *
  simp only [roomB] at hl
  simp only [↓bk_bind, ↓bk_map, ↓bk_ite, ↓bk_some, ↓reduceIte, Nat.reduceEqDiff, Nat.reduceLT, Nat.reduceLeDiff, Nat.reduceAdd, Nat.reduceMul, reduceCtorEq, List.reduceReplicate, go_sem, hN, wN1 (a := a) (by omega)]
  refine loopK_up (fun k : Nat => [(8, vI ((a + k : Nat) : Int))]) (fun k => [(0, ⟨1, .row true 6 ((P ++ Srt.isort (ltc c) (X.take k) ++ (X.drop k ++ Q)).map GFound.enc)⟩)]) (fun k => 1 ≤ k ∧ (k ≤ X.length ∨ k = 1)) (fun k => X.length - k) 1 ?_
  simp only [↓bk_bind, ↓bk_map, ↓bk_ite, ↓bk_some, ↓reduceIte, Nat.reduceEqDiff, Nat.reduceLT, Nat.reduceLeDiff, Nat.reduceAdd, Nat.reduceMul, reduceCtorEq, List.reduceReplicate, go_sem, hN]
  refine ⟨?_, ⟨by omega, by omega⟩, ?_⟩
  · simp only [↓bk_bind, ↓bk_map, ↓bk_ite, ↓bk_some, ↓reduceIte, Nat.reduceEqDiff, Nat.reduceLT, Nat.reduceLeDiff, Nat.reduceAdd, Nat.reduceMul, reduceCtorEq, List.reduceReplicate, go_sem]
    cases X with
    | nil => simp [Srt.isort, Srt.mrg]
    | cons x X => simp [Srt.isort, Srt.mrg, Srt.ins]
  · rintro k ⟨h1, h2⟩
    simp only [↓bk_bind, ↓bk_map, ↓bk_ite, ↓bk_some, ↓reduceIte, Nat.reduceEqDiff, Nat.reduceLT, Nat.reduceLeDiff, Nat.reduceAdd, Nat.reduceMul, reduceCtorEq, List.reduceReplicate, go_sem, hlk]
    refine ⟨fun hlt => ?_, fun hge => ?_⟩
    · obtain ⟨x, hx⟩ := at_some (show k < X.length by omega)
      refine loopK_up (ι := List GFound × Nat) (fun s => [(9, vI s.2)]) (fun s => [(0, ⟨1, .row true 6 (s.1.map GFound.enc)⟩)]) (fun s => InsI (ltc c) P (Srt.isort (ltc c) (X.take k)) (X.drop (k + 1) ++ Q) x s.1 s.2) (fun s => s.2) (P ++ Srt.isort (ltc c) (X.take k) ++ (X.drop k ++ Q), a + k) ?_
      simp only [↓bk_bind, ↓bk_map, ↓bk_ite, ↓bk_some, ↓reduceIte, Nat.reduceEqDiff, Nat.reduceLT, Nat.reduceLeDiff, Nat.reduceAdd, Nat.reduceMul, reduceCtorEq, List.reduceReplicate, go_sem, hlk]
      refine ⟨?_, ⟨Srt.isort (ltc c) (X.take k), [], by simp [drop_cons hx], by simp [Srt.len_isort]; omega, by simp, by simp⟩, ?_⟩
      · simp only [↓bk_bind, ↓bk_map, ↓bk_ite, ↓bk_some, ↓reduceIte, Nat.reduceEqDiff, Nat.reduceLT, Nat.reduceLeDiff, Nat.reduceAdd, Nat.reduceMul, reduceCtorEq, List.reduceReplicate, go_sem]
      · rintro ⟨d, j⟩ hI
        simp only at hI
        obtain ⟨hd, h3, h4⟩ := hI.len
        have hdN : d.length = N := by
          have := hlk k
          simp [drop_cons hx] at this hd
          omega
        have hdone : (j = P.length ∨ ∀ z ∈ d[j - 1]?, ltc c x z = false) → d.map GFound.enc = (P ++ Srt.isort (ltc c) (X.take (k + 1)) ++ (X.drop (k + 1) ++ Q)).map GFound.enc := fun h => by
          rw [hI.done hw (Srt.srt_isort hw _) h, take_snoc hx, Srt.isort_snoc]
        by_cases hj : P.length < j
        · obtain ⟨A, z, C, e, k1, k2, k3⟩ := hI.step hj
          have e' : d.map GFound.enc = two (A.map GFound.enc) z.enc [] x.enc (C.map GFound.enc) := by subst e; simp [two]
          have e2 : (A ++ x :: ([] ++ z :: C)).map GFound.enc = two (A.map GFound.enc) x.enc [] z.enc (C.map GFound.enc) := by simp [two]
          obtain ⟨g1, g2, s1, s2, hL, d1, d2⟩ := two_at (A := A.map GFound.enc) (B := []) (C := C.map GFound.enc) (p := j - 1) (q := j) (by simpa using k1) (by simp; omega)
          have hL' : ∀ u v, (two (A.map GFound.enc) u [] v (C.map GFound.enc)).length = N := fun u v => by
            rw [← hdN, hL, e]; simp; omega
          rw [e']
          have j0 : (j : Int) > (a : Int) := by omega
          have j1 : (0 : Int) ≤ (j : Int) := by omega
          have j2 : (j : Int) < (N : Int) := by omega
          have j3 : (0 : Int) ≤ ((j - 1 : Nat) : Int) := by omega
          have j4 : ((j - 1 : Nat) : Int) < (N : Int) := by omega
          simp only [↓bk_bind, ↓bk_map, ↓bk_ite, ↓bk_some, ↓reduceIte, Nat.reduceEqDiff, Nat.reduceLT, Nat.reduceLeDiff, Nat.reduceAdd, Nat.reduceMul, reduceCtorEq, List.reduceReplicate, go_sem, hL', g1, g2, s1, s2, d1, d2, j0, j1, j2, j3, j4, wS1 (a := j) (by omega) (by omega)]
          apply callK_of (hc x z)
          simp only [↓bk_bind, ↓bk_map, ↓bk_ite, ↓bk_some, ↓reduceIte, Nat.reduceEqDiff, Nat.reduceLT, Nat.reduceLeDiff, Nat.reduceAdd, Nat.reduceMul, reduceCtorEq, List.reduceReplicate, go_sem, hL', g1, g2, s1, s2, d1, d2, j0, j1, j2, j3, j4, wS1 (a := j) (by omega) (by omega), wN1 (a := a + k) (by omega)]
          intro _
          refine ⟨fun hn => ⟨(A ++ x :: ([] ++ z :: C), j - 1), ⟨rfl, e2.symm⟩, k3 (by simpa [ltc] using hn), by show j - 1 < j; omega⟩, fun hn => ?_⟩
          have hz : ltc c x z = false := by simpa [ltc] using hn
          have := hdone (.inr (by rw [k2]; intro y hy; obtain rfl := Option.some.inj hy; exact hz))
          rw [e'] at this
          exact ⟨k + 1, ⟨rfl, this⟩, ⟨by omega, by omega⟩, by omega⟩
        · have j0 : ¬ (j : Int) > (a : Int) := by omega
          simp only [↓bk_bind, ↓bk_map, ↓bk_ite, ↓bk_some, ↓reduceIte, Nat.reduceEqDiff, Nat.reduceLT, Nat.reduceLeDiff, Nat.reduceAdd, Nat.reduceMul, reduceCtorEq, List.reduceReplicate, go_sem, hdN, j0, wN1 (a := a + k) (by omega)]
          have := hdone (.inl (by omega))
          exact ⟨k + 1, ⟨rfl, this⟩, ⟨by omega, by omega⟩, by omega⟩
    · have hk : X.length ≤ k := by omega
      rw [List.take_of_length_le hk, List.drop_of_length_le hk, List.nil_append]
end Go.Proofs.YtbnbgekjjbpljaaGreatR
namespace Go.Proofs.YtbnbgekjjbpljaaGreatR
open Go Go.RowKit Go.Proofs
set_option linter.unusedSimpArgs false
set_option linter.unusedVariables false
namespace Srt
variable {α : Type} {lt : α → α → Bool}
theorem srt_at {l : List α} (h : srt lt l) {i j : Nat} {x y : α} (hi : l[i]? = some x) (hj : l[j]? = some y) (hij : i < j) : lt y x = false := by
  obtain ⟨h1, rfl⟩ := List.getElem?_eq_some_iff.1 hi
  obtain ⟨h2, rfl⟩ := List.getElem?_eq_some_iff.1 hj
  exact (List.pairwise_iff_getElem.1 h) i j h1 h2 hij
theorem srt_at_le (hw : Swo lt) {l : List α} (h : srt lt l) {i j : Nat} {x y : α} (hi : l[i]? = some x) (hj : l[j]? = some y) (hij : i ≤ j) : lt y x = false := by
  rcases Nat.lt_or_eq_of_le hij with k | rfl
  · exact srt_at h hi hj k
  · obtain rfl := Option.some.inj (hi.symm.trans hj)
    exact hw.irr x
theorem mem_take_at {l : List α} {u : Nat} {x : α} (h : x ∈ l.take u) : ∃ i, i < u ∧ l[i]? = some x := by
  obtain ⟨i, hi⟩ := List.mem_iff_getElem?.1 h
  rw [List.getElem?_take] at hi
  split at hi
  · exact ⟨i, by assumption, hi⟩
  · cases hi
theorem mem_drop_at {l : List α} {u : Nat} {x : α} (h : x ∈ l.drop u) : ∃ i, u ≤ i ∧ l[i]? = some x := by
  obtain ⟨i, hi⟩ := List.mem_iff_getElem?.1 h
  rw [List.getElem?_drop] at hi
  exact ⟨u + i, by omega, hi⟩
theorem head_drop_at {l : List α} {u : Nat} {x : α} (h : x ∈ (l.drop u).head?) : l[u]? = some x := by
  rw [List.head?_drop] at h
  exact h
theorem mrg_sym (hw : Swo lt) {X Y : List α} (hX : srt lt X) (hY : srt lt Y) {u M : Nat} (huX : u ≤ X.length) (huM : u ≤ M)
    (h1 : u = 0 ∨ Y.length ≤ M - u ∨ ∃ y x, Y[M - u]? = some y ∧ X[u - 1]? = some x ∧ lt y x = false)
    (h2 : u = M ∨ u = X.length ∨ ∃ y x, Y[M - 1 - u]? = some y ∧ X[u]? = some x ∧ lt y x = true) :
    mrg lt X Y = mrg lt (X.take u) (Y.take (M - u)) ++ mrg lt (X.drop u) (Y.drop (M - u)) := by
  conv => lhs; rw [← List.take_append_drop u X, ← List.take_append_drop (M - u) Y]
  refine mrg_split ?_ ?_ ?_
  · intro b hb a ha
    obtain ⟨i, hi, eb⟩ := mem_take_at hb
    have ea := head_drop_at ha
    have hlt := len_at ea
    rcases h2 with h2 | h2 | ⟨y, x, e1, e2, h2⟩
    · omega
    · omega
    · obtain rfl := Option.some.inj (e2.symm.trans ea)
      exact hw.fl (srt_at_le hw hY eb e1 (by omega)) h2
  · intro b hb a ha
    obtain ⟨i, hi, eb⟩ := mem_drop_at hb
    obtain ⟨k, hk, ea⟩ := mem_take_at ha
    have hlt := len_at eb
    rcases h1 with h1 | h1 | ⟨y, x, e1, e2, h1⟩
    · omega
    · omega
    · have p1 := srt_at_le hw hY e1 eb (by omega)
      have p2 := srt_at_le hw hX ea e2 (by omega)
      exact hw.ntr (hw.ntr p1 h1) p2
  · intro b hb a ha
    obtain ⟨i, hi, eb⟩ := mem_drop_at hb
    obtain ⟨k, hk, ea⟩ := mem_take_at ha
    exact srt_at hY ea eb (by omega)
theorem mrg_one (hw : Swo lt) {x : α} {Y : List α} (hY : srt lt Y) {u : Nat} (h1 : ∀ y ∈ Y.take u, lt y x = true) (h2 : ∀ y ∈ Y.drop u, lt y x = false) : mrg lt [x] Y = Y.take u ++ x :: Y.drop u := by
  have e := mrg_split (lt := lt) (A1 := []) (A2 := [x]) (B1 := Y.take u) (B2 := Y.drop u) (by simpa using h1) (by simp) (by
    intro b hb a ha
    obtain ⟨i, hi, eb⟩ := mem_drop_at hb
    obtain ⟨k, hk, ea⟩ := mem_take_at ha
    exact srt_at hY ea eb (by omega))
  rw [List.take_append_drop, List.nil_append] at e
  rw [e, mrg_nil_srt hw (srt_append.1 ((List.take_append_drop u Y).symm ▸ hY)).1]
  have e2 := mrg_right (lt := lt) (A1 := [x]) (A2 := []) (B := Y.drop u) (by simpa using h2)
  rw [List.append_nil] at e2
  rw [e2, mrg_nil_srt hw (srt_append.1 ((List.take_append_drop u Y).symm ▸ hY)).2.1]
  rfl
theorem mrg_last {y : α} {X : List α} {u : Nat} (h1 : ∀ z ∈ X.take u, lt y z = false) (h2 : ∀ z ∈ X.drop u, lt y z = true) : mrg lt X [y] = X.take u ++ y :: X.drop u := by
  have := ins_mid (lt := lt) (x := y) h1 (fun z hz => h2 z (List.mem_of_mem_head? hz))
  rw [List.take_append_drop] at this
  exact this
theorem lo_of (hw : Swo lt) {Y : List α} (hY : srt lt Y) {w : Nat} {x y : α} (e : Y[w]? = some y) (h : lt y x = true) : ∀ z ∈ Y.take (w + 1), lt z x = true := fun z hz => by
  obtain ⟨i, hi, ez⟩ := mem_take_at hz
  exact hw.fl (srt_at_le hw hY ez e (by omega)) h
theorem hi_of (hw : Swo lt) {Y : List α} (hY : srt lt Y) {w : Nat} {x y : α} (e : Y[w]? = some y) (h : lt y x = false) : ∀ z ∈ Y.drop w, lt z x = false := fun z hz => by
  obtain ⟨i, hi, ez⟩ := mem_drop_at hz
  exact hw.ntr (srt_at_le hw hY e ez hi) h
theorem lo_of' (hw : Swo lt) {X : List α} (hX : srt lt X) {w : Nat} {x y : α} (e : X[w]? = some x) (h : lt y x = false) : ∀ z ∈ X.take (w + 1), lt y z = false := fun z hz => by
  obtain ⟨i, hi, ez⟩ := mem_take_at hz
  exact hw.ntr h (srt_at_le hw hX ez e (by omega))
theorem hi_of' (hw : Swo lt) {X : List α} (hX : srt lt X) {w : Nat} {x y : α} (e : X[w]? = some x) (h : lt y x = true) : ∀ z ∈ X.drop w, lt y z = true := fun z hz => by
  obtain ⟨i, hi, ez⟩ := mem_drop_at hz
  exact hw.lf h (srt_at_le hw hX e ez hi)
end Srt
theorem shr1 {k : Int} : (if (1 : Int) < 0 then none else some (Value.int IntKind.u64 (k.fdiv (2 ^ min (Int.toNat 1) 64)))) = some (Value.int IntKind.u64 (k.fdiv 2)) := by rw [if_neg (by decide)]; rfl
theorem u64_wrap {n : Int} (h1 : 0 ≤ n) (h2 : n ≤ 9223372036854775807) : IntKind.u64.wrap n = n := by
  simp only [IntKind.wrap, IntKind.signed, IntKind.bits, Bool.false_and, Bool.false_eq_true, if_false]
  omega
theorem half_of {i j : Nat} (h : i + j ≤ 9223372036854775807) : (IntKind.u64.wrap (IntKind.i64.wrap ((i : Int) + (j : Int)))).fdiv 2 = (((i + j) / 2 : Nat) : Int) := by
  rw [wN h, u64_wrap (by omega) (by omega), Int.fdiv_eq_ediv_of_nonneg _ (by omega)]
  omega
theorem wK {k : Nat} (h : k ≤ 9223372036854775807) : IntKind.i64.wrap (k : Int) = (k : Int) := wI (by omega) (by omega)
def SymI (lt : GFound → GFound → Bool) (X Y : List GFound) (M u0 v0 u v : Nat) : Prop :=
  u0 ≤ u ∧ u ≤ v ∧ v ≤ v0 ∧ (u = 0 ∨ Y.length ≤ M - u ∨ ∃ y x, Y[M - u]? = some y ∧ X[u - 1]? = some x ∧ lt y x = false) ∧
    (v = M ∨ v = X.length ∨ ∃ y x, Y[M - 1 - v]? = some y ∧ X[v]? = some x ∧ lt y x = true)
theorem SymI.fin {lt : GFound → GFound → Bool} (hw : Srt.Swo lt) {X Y : List GFound} {M u0 v0 u : Nat} (h : SymI lt X Y M u0 v0 u u) (hX : Srt.srt lt X) (hY : Srt.srt lt Y) (q2 : v0 ≤ M) (q3 : v0 ≤ X.length) (q4 : M ≤ u0 + Y.length) :
    ∃ A1 A2 B1 B2, X = A1 ++ A2 ∧ Y = B1 ++ B2 ∧ A1.length = u ∧ B1.length = M - u ∧ u ≤ M ∧ Srt.mrg lt X Y = Srt.mrg lt A1 B1 ++ Srt.mrg lt A2 B2 ∧ Srt.srt lt A1 ∧ Srt.srt lt A2 ∧ Srt.srt lt B1 ∧ Srt.srt lt B2 := by
  obtain ⟨h1, h2, h3, h4, h5⟩ := h
  have e := Srt.mrg_sym hw hX hY (by omega) (by omega) h4 h5
  have sX := Srt.srt_append.1 ((List.take_append_drop u X).symm ▸ hX)
  have sY := Srt.srt_append.1 ((List.take_append_drop (M - u) Y).symm ▸ hY)
  exact ⟨X.take u, X.drop u, Y.take (M - u), Y.drop (M - u), (List.take_append_drop _ _).symm, (List.take_append_drop _ _).symm, by simp; omega, by simp; omega, by omega, e, sX.1, sX.2.1, sY.1, sY.2.1⟩
theorem sym7 {u l2 k l4 M : Nat} (hk : k = M - u) (huM : u ≤ M) (hM : M = (u + l2 + (k + l4)) / 2) (hX : 2 ≤ u + l2) (hY : 2 ≤ k + l4) :
    (0 < u ∧ 0 < l2 ∧ 0 < k ∧ 0 < l4) ∨ (u = 0 ∧ 0 < l2 ∧ 0 < k ∧ 0 < l4) ∨ (0 < u ∧ l2 = 0 ∧ 0 < k ∧ 0 < l4) ∨ (0 < u ∧ 0 < l2 ∧ k = 0 ∧ 0 < l4) ∨ (0 < u ∧ 0 < l2 ∧ 0 < k ∧ l4 = 0) ∨ (u = 0 ∧ 0 < l2 ∧ 0 < k ∧ l4 = 0) ∨ (0 < u ∧ l2 = 0 ∧ k = 0 ∧ 0 < l4) := by omega
theorem lt_yes {i j : Nat} (k : Nat) (h : j = i + k) (hk : 0 < k) : (i : Int) < (j : Int) := by omega
theorem lt_no {i j : Nat} (k : Nat) (h : j = i + k) (hk : k = 0) : ¬ (i : Int) < (j : Int) := by omega
theorem symL (lt : GFound → GFound → Bool) {P A1 A2 B1 B2 Q : List GFound} {a m b M u N n : Nat} (ha : P.length = a) (hA1 : A1.length = u) (hB1 : B1.length = M - u) (huM : u ≤ M) (hm : m = a + (A1 ++ A2).length) (hb : b = m + (B1 ++ B2).length)
    (hN : (P ++ (A1 ++ A2) ++ (B1 ++ B2) ++ Q).length = N) (hM : M = ((A1 ++ A2).length + (B1 ++ B2).length) / 2) (hn : (A1 ++ A2).length + (B1 ++ B2).length ≤ n + 1) (h1 : ¬ ((m - a : Nat) : Int) = 1) (h2 : ¬ ((b - m : Nat) : Int) = 1) (hX : 0 < (A1 ++ A2).length) (hY : 0 < (B1 ++ B2).length) :
    ((P ++ A1 ++ B1 ++ A2 ++ (B2 ++ Q)).length = N ∧ (P ++ A1 ++ A2 ++ B1 ++ (B2 ++ Q)).length = N ∧ (P ++ A1 ++ B1 ++ (A2 ++ (B2 ++ Q))).length = N ∧ (P ++ Srt.mrg lt A1 B1 ++ A2 ++ B2 ++ Q).length = N ∧ (P ++ Srt.mrg lt A1 B1 ++ (A2 ++ (B2 ++ Q))).length = N ∧ (P ++ Srt.mrg lt A1 B1 ++ Srt.mrg lt A2 B2 ++ Q).length = N) ∧
    ((P ++ A1).length = a + u ∧ (P ++ A1 ++ A2).length = m ∧ (P ++ A1 ++ A2 ++ B1).length = m + (M - u) ∧ (P ++ A1 ++ B1).length = a + M ∧ (P ++ Srt.mrg lt A1 B1).length = a + M ∧ (P ++ Srt.mrg lt A1 B1 ++ A2).length = m + (M - u) ∧ (P ++ Srt.mrg lt A1 B1 ++ A2 ++ B2).length = b) ∧
    A1.length + B1.length ≤ n ∧ A2.length + B2.length ≤ n ∧
    (m = a + u + A2.length ∧ m + (M - u) = m + B1.length ∧ a + u = a + A1.length ∧ a + M = a + u + B1.length ∧ m + (M - u) = a + M + A2.length ∧ b = m + (M - u) + B2.length) ∧
    ((0 < A1.length ∧ 0 < A2.length ∧ 0 < B1.length ∧ 0 < B2.length) ∨ (A1.length = 0 ∧ 0 < A2.length ∧ 0 < B1.length ∧ 0 < B2.length) ∨ (0 < A1.length ∧ A2.length = 0 ∧ 0 < B1.length ∧ 0 < B2.length) ∨ (0 < A1.length ∧ 0 < A2.length ∧ B1.length = 0 ∧ 0 < B2.length) ∨ (0 < A1.length ∧ 0 < A2.length ∧ 0 < B1.length ∧ B2.length = 0) ∨ (A1.length = 0 ∧ 0 < A2.length ∧ 0 < B1.length ∧ B2.length = 0) ∨ (0 < A1.length ∧ A2.length = 0 ∧ B1.length = 0 ∧ 0 < B2.length)) := by
  simp only [List.length_append, Srt.len_mrg] at *
  have h7 := sym7 (u := A1.length) (l2 := A2.length) (k := B1.length) (l4 := B2.length) (M := M) (by omega) (by omega) (by omega) (by omega) (by omega)
  refine ⟨⟨?_, ?_, ?_, ?_, ?_, ?_⟩, ⟨?_, ?_, ?_, ?_, ?_, ?_, ?_⟩, ?_, ?_, ⟨?_, ?_, ?_, ?_, ?_, ?_⟩, h7⟩ <;> clear h7 <;> omega
def m_slices_symMergeCmpFunc_impl_Found : MC :=
(.seq (.seq (pr [.mv 25 (.s 2), .mv 26 (.s 1), .bin 27 false .sub (.s 25) (.s 26), .bin 28 false .eql (.s 27) (.c (.int .i64 1))] [0,1,2,3,4,28])
(.cond (.s 28) (.seq (pr [.mv 29 (.s 2), .mv 10 (.s 29)] [0,1,3,4,10])
(.seq (pr [.mv 30 (.s 3), .mv 11 (.s 30)] [0,1,4,10,11])
(.seq (.block 0 (.loop ([0,1,4,10,11], []) (.seq (.seq (pr [.mv 31 (.s 10), .mv 32 (.s 11), .bin 33 false .lss (.s 31) (.s 32)] [0,1,4,10,11,33])
(.cond (.s 33) .skip (.exit 0)))
(.block 1 (.seq (pr [.mv 34 (.s 10), .mv 35 (.s 11), .bin 36 false .add (.s 34) (.s 35), .convI 37 .u64 (.s 36), .bin 38 false .shr (.s 37) (.c (.int .u64 1)), .convI 39 .i64 (.s 38), .mv 12 (.s 39)] [0,1,4,10,11,12])
(.seq (.dreg [{ o := .mv 40 (.s 4), hs := [41,42,43,44,45,46,47,48] }, { o := .mv 41 (.s 0), hs := [40,42,45,46,47,48] }, { o := .mv 42 (.s 12), hs := [40,41,45,46,47,48] }, { o := .idx 43 6 (.s 41) (.s 42), hs := [40,45,46,47,48], bf := [1,2] }, { o := .load 44 true 6 (.s 43), hs := [40,45,46,47,48], bf := [1,2,3] }, { o := .mv 45 (.s 0), hs := [40,41,42,43,44,46] }, { o := .mv 46 (.s 1), hs := [40,41,42,43,44,45] }, { o := .idx 47 6 (.s 45) (.s 46), hs := [40,41,42,43,44], bf := [5,6] }, { o := .load 48 true 6 (.s 47), hs := [40,41,42,43,44], bf := [5,6,7] }, { o := .call 49 [] (.s 40) [.s 44, .s 48], bf := [0,1,2,3,4,5,6,7,8] }, { o := .bin 50 false .lss (.s 49) (.c (.int .i64 0)), bf := [0,1,2,3,4,5,6,7,8,9] }] [0,1,4,10,11,12,50])
(.cond (.s 50) (pr [.mv 51 (.s 12), .bin 52 false .add (.s 51) (.c (.int .i64 1)), .mv 10 (.s 52)] [0,1,4,10,11]) (pr [.mv 53 (.s 12), .mv 11 (.s 53)] [0,1,4,10,11]))))))))
(.seq (.seq (pr [.mv 54 (.s 1), .mv 13 (.s 54)] [0,10,13])
(.block 2 (.loop ([0,10,13], []) (.seq (.seq (pr [.mv 55 (.s 13), .mv 56 (.s 10), .bin 57 false .sub (.s 56) (.c (.int .i64 1)), .bin 58 false .lss (.s 55) (.s 57)] [0,10,13,58])
(.cond (.s 58) .skip (.exit 2)))
(.seq (.block 3 (.dreg [{ o := .mv 61 (.s 0), hs := [62,63,64,65,66,67,68,69,70,71,72,73,74] }, { o := .mv 62 (.s 13), hs := [61,63,64,65,66,67,68,69,70,71,72,73,74] }, { o := .mv 63 (.s 0), hs := [61,62,64,65,66,67,68,69,70,71,72,73,74,75], ho := [0] }, { o := .mv 64 (.s 13), hs := [61,62,63,66,67,68,69,70,71,72,73,74,75], ho := [0] }, { o := .bin 65 false .add (.s 64) (.c (.int .i64 1)), hs := [61,62,63,66,67,68,69,70,71,72,73,74,75], ho := [0], bf := [3] }, { o := .mv 66 (.s 0), hs := [61,62,63,64,65,67,68,71,72,73,74] }, { o := .mv 67 (.s 13), hs := [61,62,63,64,65,66,71,72,73,74] }, { o := .bin 68 false .add (.s 67) (.c (.int .i64 1)), hs := [61,62,63,64,65,66,71,72,73,74], bf := [6] }, { o := .idx 69 6 (.s 66) (.s 68), hs := [61,62,63,64,65,71,72,73,74], bf := [5,6,7] }, { o := .load 70 true 6 (.s 69), hs := [61,62,63,64,65,71,72,73,74], bf := [5,6,7,8] }, { o := .mv 71 (.s 0), hs := [61,62,63,64,65,66,67,68,69,70,72] }, { o := .mv 72 (.s 13), hs := [61,62,63,64,65,66,67,68,69,70,71] }, { o := .idx 73 6 (.s 71) (.s 72), hs := [61,62,63,64,65,66,67,68,69,70], bf := [10,11] }, { o := .load 74 true 6 (.s 73), hs := [61,62,63,64,65,66,67,68,69,70], bf := [10,11,12] }, { o := .idx 75 6 (.s 61) (.s 62), hs := [63,64,65], bf := [0,1,5,6,7,8,9,10,11,12,13] }, { o := .store 6 (.s 75) (.s 70), hs := [63,64,65], ws := [0], bf := [0,1,5,6,7,8,9,10,11,12,13,14] }, { o := .idx 76 6 (.s 63) (.s 65), bf := [0,1,2,3,4,5,6,7,8,9,10,11,12,13,14,15] }, { o := .store 6 (.s 76) (.s 74), ws := [0], bf := [0,1,2,3,4,5,6,7,8,9,10,11,12,13,14,15,16] }] [0,10,13]))
(pr [.mv 59 (.s 13), .bin 60 false .add (.s 59) (.c (.int .i64 1)), .mv 13 (.s 60)] [0,10,13]))))))
.ret)))) .skip))
(.seq (.seq (pr [.mv 77 (.s 3), .mv 78 (.s 2), .bin 79 false .sub (.s 77) (.s 78), .bin 80 false .eql (.s 79) (.c (.int .i64 1))] [0,1,2,3,4,80])
(.cond (.s 80) (.seq (pr [.mv 81 (.s 1), .mv 14 (.s 81)] [0,2,4,14])
(.seq (pr [.mv 82 (.s 2), .mv 15 (.s 82)] [0,2,4,14,15])
(.seq (.block 4 (.loop ([0,2,4,14,15], []) (.seq (.seq (pr [.mv 83 (.s 14), .mv 84 (.s 15), .bin 85 false .lss (.s 83) (.s 84)] [0,2,4,14,15,85])
(.cond (.s 85) .skip (.exit 4)))
(.block 5 (.seq (pr [.mv 86 (.s 14), .mv 87 (.s 15), .bin 88 false .add (.s 86) (.s 87), .convI 89 .u64 (.s 88), .bin 90 false .shr (.s 89) (.c (.int .u64 1)), .convI 91 .i64 (.s 90), .mv 16 (.s 91)] [0,2,4,14,15,16])
(.seq (.dreg [{ o := .mv 92 (.s 4), hs := [93,94,95,96,97,98,99,100] }, { o := .mv 93 (.s 0), hs := [92,94,97,98,99,100] }, { o := .mv 94 (.s 2), hs := [92,93,97,98,99,100] }, { o := .idx 95 6 (.s 93) (.s 94), hs := [92,97,98,99,100], bf := [1,2] }, { o := .load 96 true 6 (.s 95), hs := [92,97,98,99,100], bf := [1,2,3] }, { o := .mv 97 (.s 0), hs := [92,93,94,95,96,98] }, { o := .mv 98 (.s 16), hs := [92,93,94,95,96,97] }, { o := .idx 99 6 (.s 97) (.s 98), hs := [92,93,94,95,96], bf := [5,6] }, { o := .load 100 true 6 (.s 99), hs := [92,93,94,95,96], bf := [5,6,7] }, { o := .call 101 [] (.s 92) [.s 96, .s 100], bf := [0,1,2,3,4,5,6,7,8] }, { o := .bin 102 false .lss (.s 101) (.c (.int .i64 0)), bf := [0,1,2,3,4,5,6,7,8,9] }, { o := .un 103 .not (.s 102), bf := [0,1,2,3,4,5,6,7,8,9,10] }] [0,2,4,14,15,16,103])
(.cond (.s 103) (pr [.mv 104 (.s 16), .bin 105 false .add (.s 104) (.c (.int .i64 1)), .mv 14 (.s 105)] [0,2,4,14,15]) (pr [.mv 106 (.s 16), .mv 15 (.s 106)] [0,2,4,14,15]))))))))
(.seq (.seq (pr [.mv 107 (.s 2), .mv 17 (.s 107)] [0,14,17])
(.block 6 (.loop ([0,14,17], []) (.seq (.seq (pr [.mv 108 (.s 17), .mv 109 (.s 14), .bin 110 false .gtr (.s 108) (.s 109)] [0,14,17,110])
(.cond (.s 110) .skip (.exit 6)))
(.seq (.block 7 (.dreg [{ o := .mv 113 (.s 0), hs := [114,115,116,117,118,119,120,121,122,123,124,125,126] }, { o := .mv 114 (.s 17), hs := [113,115,116,117,118,119,120,121,122,123,124,125,126] }, { o := .mv 115 (.s 0), hs := [113,114,116,117,118,119,120,121,122,123,124,125,126,127], ho := [0] }, { o := .mv 116 (.s 17), hs := [113,114,115,118,119,120,121,122,123,124,125,126,127], ho := [0] }, { o := .bin 117 false .sub (.s 116) (.c (.int .i64 1)), hs := [113,114,115,118,119,120,121,122,123,124,125,126,127], ho := [0], bf := [3] }, { o := .mv 118 (.s 0), hs := [113,114,115,116,117,119,120,123,124,125,126] }, { o := .mv 119 (.s 17), hs := [113,114,115,116,117,118,123,124,125,126] }, { o := .bin 120 false .sub (.s 119) (.c (.int .i64 1)), hs := [113,114,115,116,117,118,123,124,125,126], bf := [6] }, { o := .idx 121 6 (.s 118) (.s 120), hs := [113,114,115,116,117,123,124,125,126], bf := [5,6,7] }, { o := .load 122 true 6 (.s 121), hs := [113,114,115,116,117,123,124,125,126], bf := [5,6,7,8] }, { o := .mv 123 (.s 0), hs := [113,114,115,116,117,118,119,120,121,122,124] }, { o := .mv 124 (.s 17), hs := [113,114,115,116,117,118,119,120,121,122,123] }, { o := .idx 125 6 (.s 123) (.s 124), hs := [113,114,115,116,117,118,119,120,121,122], bf := [10,11] }, { o := .load 126 true 6 (.s 125), hs := [113,114,115,116,117,118,119,120,121,122], bf := [10,11,12] }, { o := .idx 127 6 (.s 113) (.s 114), hs := [115,116,117], bf := [0,1,5,6,7,8,9,10,11,12,13] }, { o := .store 6 (.s 127) (.s 122), hs := [115,116,117], ws := [0], bf := [0,1,5,6,7,8,9,10,11,12,13,14] }, { o := .idx 128 6 (.s 115) (.s 117), bf := [0,1,2,3,4,5,6,7,8,9,10,11,12,13,14,15] }, { o := .store 6 (.s 128) (.s 126), ws := [0], bf := [0,1,2,3,4,5,6,7,8,9,10,11,12,13,14,15,16] }] [0,14,17]))
(pr [.mv 111 (.s 17), .bin 112 false .sub (.s 111) (.c (.int .i64 1)), .mv 17 (.s 112)] [0,14,17]))))))
.ret)))) .skip))
(.seq (pr [.mv 129 (.s 1), .mv 130 (.s 3), .bin 131 false .add (.s 129) (.s 130), .convI 132 .u64 (.s 131), .bin 133 false .shr (.s 132) (.c (.int .u64 1)), .convI 134 .i64 (.s 133), .mv 18 (.s 134)] [0,1,2,3,4,18])
(.seq (pr [.mv 135 (.s 18), .mv 136 (.s 2), .bin 137 false .add (.s 135) (.s 136), .mv 19 (.s 137)] [0,1,2,3,4,18,19])
(.seq (pr [.mv 20 (.c (.int .i64 0)), .mv 21 (.c (.int .i64 0))] [0,1,2,3,4,18,19])
(.seq (.seq (pr [.mv 138 (.s 2), .mv 139 (.s 18), .bin 140 false .gtr (.s 138) (.s 139)] [0,1,2,3,4,18,19,140])
(.cond (.s 140) (.seq (pr [.mv 141 (.s 19), .mv 142 (.s 3), .bin 143 false .sub (.s 141) (.s 142), .mv 20 (.s 143)] [0,1,2,3,4,18,19,20])
(pr [.mv 144 (.s 18), .mv 21 (.s 144)] [0,1,2,3,4,18,19,20,21])) (.seq (pr [.mv 145 (.s 1), .mv 20 (.s 145)] [0,1,2,3,4,18,19,20])
(pr [.mv 146 (.s 2), .mv 21 (.s 146)] [0,1,2,3,4,18,19,20,21]))))
(.seq (pr [.mv 147 (.s 19), .bin 148 false .sub (.s 147) (.c (.int .i64 1)), .mv 22 (.s 148)] [0,1,2,3,4,18,19,20,21,22])
(.seq (.block 8 (.loop ([0,1,2,3,4,18,19,20,21,22], []) (.seq (.seq (pr [.mv 149 (.s 20), .mv 150 (.s 21), .bin 151 false .lss (.s 149) (.s 150)] [0,1,2,3,4,18,19,20,21,22,151])
(.cond (.s 151) .skip (.exit 8)))
(.block 9 (.seq (pr [.mv 152 (.s 20), .mv 153 (.s 21), .bin 154 false .add (.s 152) (.s 153), .convI 155 .u64 (.s 154), .bin 156 false .shr (.s 155) (.c (.int .u64 1)), .convI 157 .i64 (.s 156), .mv 23 (.s 157)] [0,1,2,3,4,18,19,20,21,22,23])
(.seq (.dreg [{ o := .mv 158 (.s 4), hs := [159,160,161,162,163,164,165,166,167,168] }, { o := .mv 159 (.s 0), hs := [158,160,161,162,165,166,167,168] }, { o := .mv 160 (.s 22), hs := [158,159,161,165,166,167,168] }, { o := .mv 161 (.s 23), hs := [158,159,160,165,166,167,168] }, { o := .bin 162 false .sub (.s 160) (.s 161), hs := [158,159,165,166,167,168], bf := [2,3] }, { o := .idx 163 6 (.s 159) (.s 162), hs := [158,165,166,167,168], bf := [1,2,3,4] }, { o := .load 164 true 6 (.s 163), hs := [158,165,166,167,168], bf := [1,2,3,4,5] }, { o := .mv 165 (.s 0), hs := [158,159,160,161,162,163,164,166] }, { o := .mv 166 (.s 23), hs := [158,159,160,161,162,163,164,165] }, { o := .idx 167 6 (.s 165) (.s 166), hs := [158,159,160,161,162,163,164], bf := [7,8] }, { o := .load 168 true 6 (.s 167), hs := [158,159,160,161,162,163,164], bf := [7,8,9] }, { o := .call 169 [] (.s 158) [.s 164, .s 168], bf := [0,1,2,3,4,5,6,7,8,9,10] }, { o := .bin 170 false .lss (.s 169) (.c (.int .i64 0)), bf := [0,1,2,3,4,5,6,7,8,9,10,11] }, { o := .un 171 .not (.s 170), bf := [0,1,2,3,4,5,6,7,8,9,10,11,12] }] [0,1,2,3,4,18,19,20,21,22,23,171])
(.cond (.s 171) (pr [.mv 172 (.s 23), .bin 173 false .add (.s 172) (.c (.int .i64 1)), .mv 20 (.s 173)] [0,1,2,3,4,18,19,20,21,22]) (pr [.mv 174 (.s 23), .mv 21 (.s 174)] [0,1,2,3,4,18,19,20,21,22]))))))))
(.seq (pr [.mv 175 (.s 19), .mv 176 (.s 20), .bin 177 false .sub (.s 175) (.s 176), .mv 24 (.s 177)] [0,1,2,3,4,18,20,24])
(.seq (.seq (.reg [{ o := .mv 178 (.s 20) }, { o := .mv 179 (.s 2) }, { o := .bin 180 false .lss (.s 178) (.s 179) }, { o := .mv 181 (.s 180) }, { o := .mv 182 (.s 2), g := some (181, true) }, { o := .mv 183 (.s 24), g := some (181, true) }, { o := .bin 184 false .lss (.s 182) (.s 183), g := some (181, true) }, { o := .pick 185 (.s 181) (.s 184) (.c (.bool false)) }] [0,1,2,3,4,18,20,24,185])
(.cond (.s 185) (pr [.mv 186 (.s 0), .mv 187 (.s 20), .mv 188 (.s 2), .mv 189 (.s 24), .mv 190 (.s 4), .callI 191 [] (.f n_slices_rotateCmpFunc_impl_Found) [.s 186, .s 187, .s 188, .s 189, .s 190] [0] []] [0,1,3,4,18,20,24]) .skip))
(.seq (.seq (.reg [{ o := .mv 192 (.s 1) }, { o := .mv 193 (.s 20) }, { o := .bin 194 false .lss (.s 192) (.s 193) }, { o := .mv 195 (.s 194) }, { o := .mv 196 (.s 20), g := some (195, true) }, { o := .mv 197 (.s 18), g := some (195, true) }, { o := .bin 198 false .lss (.s 196) (.s 197), g := some (195, true) }, { o := .pick 199 (.s 195) (.s 198) (.c (.bool false)) }] [0,1,3,4,18,20,24,199])
(.cond (.s 199) (pr [.mv 200 (.s 0), .mv 201 (.s 1), .mv 202 (.s 20), .mv 203 (.s 18), .mv 204 (.s 4), .callI 205 [] (.f n_slices_symMergeCmpFunc_impl_Found) [.s 200, .s 201, .s 202, .s 203, .s 204] [0] []] [0,3,4,18,24]) .skip))
(.seq (.reg [{ o := .mv 206 (.s 18) }, { o := .mv 207 (.s 24) }, { o := .bin 208 false .lss (.s 206) (.s 207) }, { o := .mv 209 (.s 208) }, { o := .mv 210 (.s 24), g := some (209, true) }, { o := .mv 211 (.s 3), g := some (209, true) }, { o := .bin 212 false .lss (.s 210) (.s 211), g := some (209, true) }, { o := .pick 213 (.s 209) (.s 212) (.c (.bool false)) }] [0,3,4,18,24,213])
(.cond (.s 213) (pr [.mv 214 (.s 0), .mv 215 (.s 18), .mv 216 (.s 24), .mv 217 (.s 3), .mv 218 (.s 4), .callI 219 [] (.f n_slices_symMergeCmpFunc_impl_Found) [.s 214, .s 215, .s 216, .s 217, .s 218] [0] []] []) .skip)))))))))))))
set_option maxHeartbeats 4000000 in
theorem c_slices_symMergeCmpFunc (f : FuncId) (c : GFound → GFound → Int) (hc : ∀ x y, Ctr Tryz.prog f [aS x.enc, aS y.enc] [rI (c x y)]) (hw : Srt.Swo (ltc c)) (n : Nat) : ∀ (P X Y Q : List GFound) {a m b : Nat}, X.length + Y.length ≤ n → P.length = a → (P ++ X).length = m → (P ++ X ++ Y).length = b → 0 < X.length → 0 < Y.length → Srt.srt (ltc c) X → Srt.srt (ltc c) Y →
    CtrI Tryz.prog n_slices_symMergeCmpFunc_impl_Found [oL 6 ((P ++ X ++ Y ++ Q).map GFound.enc), iI a, iI m, iI b, fI f] [some (6, (P ++ Srt.mrg (ltc c) X Y ++ Q).map GFound.enc)] [] := by
  induction n with
  | zero => intro P X Y Q a m b hn _ _ _ hX; omega
  | succ n ih =>
    intro P X Y Q a m b hn ha hm hb hX hY sX sY
    have hN2 : (P ++ Srt.mrg (ltc c) X Y ++ Q).length = (P ++ X ++ Y ++ Q).length := by simp [Srt.len_mrg]; omega
    refine ctrI_at (M := m_slices_symMergeCmpFunc_impl_Found) (m := 0) (n := 220) (res := []) hmix Tryz.func227 rfl (by kernel_rfl) rfl (by kernel_rfl) (by kernel_rfl) (Nat.le_of_ble_eq_true rfl) rfl rfl ?_; unfold m_slices_symMergeCmpFunc_impl_Found
    intro hbd
    have hl := len_of_bd hbd
    clear hbd
    have hm' : m = a + X.length := by rw [← hm, ← ha]; simp
    have hb' : b = m + Y.length := by rw [← hb, ← hm]; simp; omega
    have hbN : b ≤ (P ++ X ++ Y ++ Q).length := by rw [List.length_append, hb]; omega
    generalize hN : (P ++ X ++ Y ++ Q).length = N at *
    simp only [roomB] at hl
    simp only [↓bk_bind, ↓bk_map, ↓bk_ite, ↓bk_some, ↓reduceIte, Nat.reduceEqDiff, Nat.reduceLT, Nat.reduceLeDiff, Nat.reduceAdd, Nat.reduceMul, reduceCtorEq, List.reduceReplicate, go_sem, hN, wS (a := m) (b := a) (by omega) (by omega)]
    refine ⟨fun h1 => ?_, fun h1 => ?_⟩
    · obtain ⟨x, rfl⟩ : ∃ x, X = [x] := List.length_eq_one_iff.1 (by omega)
      simp only [List.length_cons, List.length_nil] at hm' hn
      have hxa : (P ++ [x] ++ Y ++ Q)[a]? = some x := by rw [← ha]; simp
      have hya : ∀ w, w < Y.length → (P ++ [x] ++ Y ++ Q)[m + w]? = Y[w]? := fun w hw => by
        rw [List.append_assoc, List.getElem?_append_right (by simp; omega), List.getElem?_append_left (by simp; omega)]
        congr 1; simp; omega
      refine loopK_up (ι := Nat × Nat) (fun s => [(10, vI ((m + s.1 : Nat) : Int)), (11, vI ((m + s.2 : Nat) : Int))]) (fun s => []) (fun s => s.1 ≤ s.2 ∧ s.2 ≤ Y.length ∧ (∀ y ∈ Y.take s.1, ltc c y x = true) ∧ (∀ y ∈ Y.drop s.2, ltc c y x = false)) (fun s => s.2 - s.1) (0, Y.length) ?_
      simp only [↓bk_bind, ↓bk_map, ↓bk_ite, ↓bk_some, ↓reduceIte, Nat.reduceEqDiff, Nat.reduceLT, Nat.reduceLeDiff, Nat.reduceAdd, Nat.reduceMul, reduceCtorEq, List.reduceReplicate, go_sem, hN]
      refine ⟨?_, ⟨by omega, by omega, by simp, by simp⟩, ?_⟩
      · simp only [↓bk_bind, ↓bk_map, ↓bk_ite, ↓bk_some, ↓reduceIte, Nat.reduceEqDiff, Nat.reduceLT, Nat.reduceLeDiff, Nat.reduceAdd, Nat.reduceMul, reduceCtorEq, List.reduceReplicate, go_sem]
        exact ⟨by omega, by omega⟩
      · rintro ⟨u, v⟩ ⟨i1, i2, i3, i4⟩
        simp only at i1 i2 i3 i4
        simp only [↓bk_bind, ↓bk_map, ↓bk_ite, ↓bk_some, ↓reduceIte, Nat.reduceEqDiff, Nat.reduceLT, Nat.reduceLeDiff, Nat.reduceAdd, Nat.reduceMul, reduceCtorEq, List.reduceReplicate, go_sem, hN, shr1, half_of (i := m + u) (j := m + v) (by omega)]
        refine ⟨fun hlt => ?_, fun hge => ?_⟩
        · have hwx : (m + u + (m + v)) / 2 = m + (u + v) / 2 := by omega
          have w1 : u ≤ (u + v) / 2 := by omega
          have w2 : (u + v) / 2 < v := by omega
          rw [hwx]
          generalize (u + v) / 2 = w at w1 w2
          obtain ⟨y, hy⟩ := at_some (show w < Y.length by omega)
          have hyw := (hya w (by omega)).trans hy
          have k1 : (0 : Int) ≤ ((m + w : Nat) : Int) := by omega
          have k2 : ((m + w : Nat) : Int) < (N : Int) := by omega
          have k3 : (0 : Int) ≤ (a : Int) := by omega
          have k4 : (a : Int) < (N : Int) := by omega
          simp only [↓bk_bind, ↓bk_map, ↓bk_ite, ↓bk_some, ↓reduceIte, Nat.reduceEqDiff, Nat.reduceLT, Nat.reduceLeDiff, Nat.reduceAdd, Nat.reduceMul, reduceCtorEq, List.reduceReplicate, go_sem, wK (k := m + w) (by omega), k1, k2, k3, k4, bk_eq hyw, bk_eq hxa, hN]
          apply callK_of (hc y x)
          simp only [↓bk_bind, ↓bk_map, ↓bk_ite, ↓bk_some, ↓reduceIte, Nat.reduceEqDiff, Nat.reduceLT, Nat.reduceLeDiff, Nat.reduceAdd, Nat.reduceMul, reduceCtorEq, List.reduceReplicate, go_sem, hN, wN1 (a := m + w) (by omega)]
          intro _
          refine ⟨fun hn => ⟨(w + 1, v), ⟨rfl, rfl⟩, ⟨by omega, i2, Srt.lo_of hw sY hy (by simpa [ltc] using hn), i4⟩, by omega⟩, fun hn => ⟨(u, w), ⟨rfl, rfl⟩, ⟨w1, by omega, i3, Srt.hi_of hw sY hy (by simpa [ltc] using hn)⟩, by omega⟩⟩
        · obtain rfl : u = v := by omega
          have hres := Srt.mrg_one hw sY i3 i4
          have hlt : ∀ t, (P ++ (Y.take t ++ x :: Y.drop t) ++ Q).length = N := fun t => by rw [← hN]; simp; omega
          refine loopK_up (fun t : Nat => [(13, vI ((a + t : Nat) : Int))]) (fun t => [(0, ⟨1, .row true 6 ((P ++ (Y.take t ++ x :: Y.drop t) ++ Q).map GFound.enc)⟩)]) (fun t => t ≤ u) (fun t => u - t) 0 ?_
          simp only [↓bk_bind, ↓bk_map, ↓bk_ite, ↓bk_some, ↓reduceIte, Nat.reduceEqDiff, Nat.reduceLT, Nat.reduceLeDiff, Nat.reduceAdd, Nat.reduceMul, reduceCtorEq, List.reduceReplicate, go_sem, hN]
          refine ⟨?_, by omega, ?_⟩
          · simp only [↓bk_bind, ↓bk_map, ↓bk_ite, ↓bk_some, ↓reduceIte, Nat.reduceEqDiff, Nat.reduceLT, Nat.reduceLeDiff, Nat.reduceAdd, Nat.reduceMul, reduceCtorEq, List.reduceReplicate, go_sem]
            simp
          · intro t ht
            have hs1 : IntKind.i64.wrap (((m + u : Nat) : Int) - 1) = ((a + u : Nat) : Int) := by
              rw [wI (by omega) (by omega)]; omega
            by_cases htu : t < u
            · obtain ⟨y, hy⟩ := at_some (show t < Y.length by omega)
              have e1 : (P ++ (Y.take t ++ x :: Y.drop t) ++ Q).map GFound.enc = two ((P ++ Y.take t).map GFound.enc) x.enc [] y.enc ((Y.drop (t + 1) ++ Q).map GFound.enc) := by simp [two, drop_cons hy]
              have e2 : (P ++ (Y.take (t + 1) ++ x :: Y.drop (t + 1)) ++ Q).map GFound.enc = two ((P ++ Y.take t).map GFound.enc) y.enc [] x.enc ((Y.drop (t + 1) ++ Q).map GFound.enc) := by simp [two, take_snoc hy]
              have hA : ((P ++ Y.take t).map GFound.enc).length = a + t := by simp; omega
              have hL0 : ∀ p q, (two ((P ++ Y.take t).map GFound.enc) p [] q ((Y.drop (t + 1) ++ Q).map GFound.enc)).length = N := fun p q => by
                rw [← hlt t]; simp [two, drop_cons hy]
              generalize (P ++ Y.take t).map GFound.enc = A at *
              generalize (Y.drop (t + 1) ++ Q).map GFound.enc = C at *
              obtain ⟨g1, g2, s1, s2, hL, d1, d2⟩ := two_at (A := A) (B := []) (C := C) (p := a + t) (q := a + t + 1) hA (by simp)
              have k1 : (0 : Int) ≤ ((a + t : Nat) : Int) := by omega
              have k2 : ((a + t : Nat) : Int) < (N : Int) := by omega
              have k3 : (0 : Int) ≤ ((a + t + 1 : Nat) : Int) := by omega
              have k4 : ((a + t + 1 : Nat) : Int) < (N : Int) := by omega
              have k5 : ((a + t : Nat) : Int) < ((a + u : Nat) : Int) := by omega
              rw [e1]
              simp only [↓bk_bind, ↓bk_map, ↓bk_ite, ↓bk_some, ↓reduceIte, Nat.reduceEqDiff, Nat.reduceLT, Nat.reduceLeDiff, Nat.reduceAdd, Nat.reduceMul, reduceCtorEq, List.reduceReplicate, go_sem, hs1, hL0, g1, g2, s1, s2, d1, d2, k1, k2, k3, k4, k5, wN1 (a := a + t) (by omega)]
              exact ⟨t + 1, ⟨rfl, e2.symm⟩, by omega, by omega⟩
            · obtain rfl : t = u := by omega
              simp only [↓bk_bind, ↓bk_map, ↓bk_ite, ↓bk_some, ↓reduceIte, Nat.reduceEqDiff, Nat.reduceLT, Nat.reduceLeDiff, Nat.reduceAdd, Nat.reduceMul, reduceCtorEq, List.reduceReplicate, go_sem, hs1, hlt]
              rw [hres]
    · simp only [↓bk_bind, ↓bk_map, ↓bk_ite, ↓bk_some, ↓reduceIte, Nat.reduceEqDiff, Nat.reduceLT, Nat.reduceLeDiff, Nat.reduceAdd, Nat.reduceMul, reduceCtorEq, List.reduceReplicate, go_sem, hN, wS (a := b) (b := m) (by omega) (by omega)]
      refine ⟨fun h2 => ?_, fun h2 => ?_⟩
      · obtain ⟨y, rfl⟩ : ∃ y, Y = [y] := List.length_eq_one_iff.1 (by omega)
        simp only [List.length_cons, List.length_nil] at hb' hn
        have hym : (P ++ X ++ [y] ++ Q)[m]? = some y := by rw [← hm]; simp
        have hxa : ∀ w, w < X.length → (P ++ X ++ [y] ++ Q)[a + w]? = X[w]? := fun w hw => by
          rw [List.append_assoc, List.append_assoc, List.getElem?_append_right (by omega), List.getElem?_append_left (by omega)]
          congr 1; omega
        refine loopK_up (ι := Nat × Nat) (fun s => [(14, vI ((a + s.1 : Nat) : Int)), (15, vI ((a + s.2 : Nat) : Int))]) (fun s => []) (fun s => s.1 ≤ s.2 ∧ s.2 ≤ X.length ∧ (∀ z ∈ X.take s.1, ltc c y z = false) ∧ (∀ z ∈ X.drop s.2, ltc c y z = true)) (fun s => s.2 - s.1) (0, X.length) ?_
        simp only [↓bk_bind, ↓bk_map, ↓bk_ite, ↓bk_some, ↓reduceIte, Nat.reduceEqDiff, Nat.reduceLT, Nat.reduceLeDiff, Nat.reduceAdd, Nat.reduceMul, reduceCtorEq, List.reduceReplicate, go_sem, hN]
        refine ⟨?_, ⟨by omega, by omega, by simp, by simp⟩, ?_⟩
        · simp only [↓bk_bind, ↓bk_map, ↓bk_ite, ↓bk_some, ↓reduceIte, Nat.reduceEqDiff, Nat.reduceLT, Nat.reduceLeDiff, Nat.reduceAdd, Nat.reduceMul, reduceCtorEq, List.reduceReplicate, go_sem]
          exact ⟨by omega, by omega⟩
        · rintro ⟨u, v⟩ ⟨i1, i2, i3, i4⟩
          simp only at i1 i2 i3 i4
          simp only [↓bk_bind, ↓bk_map, ↓bk_ite, ↓bk_some, ↓reduceIte, Nat.reduceEqDiff, Nat.reduceLT, Nat.reduceLeDiff, Nat.reduceAdd, Nat.reduceMul, reduceCtorEq, List.reduceReplicate, go_sem, hN, shr1, half_of (i := a + u) (j := a + v) (by omega)]
          refine ⟨fun hlt => ?_, fun hge => ?_⟩
          · have hwx : (a + u + (a + v)) / 2 = a + (u + v) / 2 := by omega
            have w1 : u ≤ (u + v) / 2 := by omega
            have w2 : (u + v) / 2 < v := by omega
            rw [hwx]
            generalize (u + v) / 2 = w at w1 w2
            obtain ⟨x, hx⟩ := at_some (show w < X.length by omega)
            have hxw := (hxa w (by omega)).trans hx
            have k1 : (0 : Int) ≤ ((a + w : Nat) : Int) := by omega
            have k2 : ((a + w : Nat) : Int) < (N : Int) := by omega
            have k3 : (0 : Int) ≤ (m : Int) := by omega
            have k4 : (m : Int) < (N : Int) := by omega
            simp only [↓bk_bind, ↓bk_map, ↓bk_ite, ↓bk_some, ↓reduceIte, Nat.reduceEqDiff, Nat.reduceLT, Nat.reduceLeDiff, Nat.reduceAdd, Nat.reduceMul, reduceCtorEq, List.reduceReplicate, go_sem, wK (k := a + w) (by omega), k1, k2, k3, k4, bk_eq hxw, bk_eq hym, hN]
            apply callK_of (hc y x)
            simp only [↓bk_bind, ↓bk_map, ↓bk_ite, ↓bk_some, ↓reduceIte, Nat.reduceEqDiff, Nat.reduceLT, Nat.reduceLeDiff, Nat.reduceAdd, Nat.reduceMul, reduceCtorEq, List.reduceReplicate, go_sem, hN, wN1 (a := a + w) (by omega)]
            intro _
            refine ⟨fun hn => ⟨(w + 1, v), ⟨rfl, rfl⟩, ⟨by omega, i2, Srt.lo_of' hw sX hx (by simpa [ltc] using hn), i4⟩, by omega⟩, fun hn => ⟨(u, w), ⟨rfl, rfl⟩, ⟨w1, by omega, i3, Srt.hi_of' hw sX hx (by simpa [ltc] using hn)⟩, by omega⟩⟩
          · obtain rfl : u = v := by omega
            have hres := Srt.mrg_last i3 i4
            have hlt : ∀ t, (P ++ (X.take t ++ y :: X.drop t) ++ Q).length = N := fun t => by rw [← hN]; simp; omega
            refine loopK_up (fun t : Nat => [(17, vI ((a + t : Nat) : Int))]) (fun t => [(0, ⟨1, .row true 6 ((P ++ (X.take t ++ y :: X.drop t) ++ Q).map GFound.enc)⟩)]) (fun t => u ≤ t ∧ t ≤ X.length) (fun t => t - u) X.length ?_
            simp only [↓bk_bind, ↓bk_map, ↓bk_ite, ↓bk_some, ↓reduceIte, Nat.reduceEqDiff, Nat.reduceLT, Nat.reduceLeDiff, Nat.reduceAdd, Nat.reduceMul, reduceCtorEq, List.reduceReplicate, go_sem, hN]
            refine ⟨?_, ⟨i2, by omega⟩, ?_⟩
            · simp only [↓bk_bind, ↓bk_map, ↓bk_ite, ↓bk_some, ↓reduceIte, Nat.reduceEqDiff, Nat.reduceLT, Nat.reduceLeDiff, Nat.reduceAdd, Nat.reduceMul, reduceCtorEq, List.reduceReplicate, go_sem, hm']
              simp
            · rintro t ⟨ht, ht2⟩
              by_cases htu : u < t
              · obtain ⟨t, rfl⟩ : ∃ s, t = s + 1 := ⟨t - 1, by omega⟩
                obtain ⟨x, hx⟩ := at_some (show t < X.length by omega)
                have e1 : (P ++ (X.take (t + 1) ++ y :: X.drop (t + 1)) ++ Q).map GFound.enc = two ((P ++ X.take t).map GFound.enc) x.enc [] y.enc ((X.drop (t + 1) ++ Q).map GFound.enc) := by simp [two, take_snoc hx]
                have e2 : (P ++ (X.take t ++ y :: X.drop t) ++ Q).map GFound.enc = two ((P ++ X.take t).map GFound.enc) y.enc [] x.enc ((X.drop (t + 1) ++ Q).map GFound.enc) := by simp [two, drop_cons hx]
                have hA : ((P ++ X.take t).map GFound.enc).length = a + t := by simp; omega
                have hL0 : ∀ p q, (two ((P ++ X.take t).map GFound.enc) p [] q ((X.drop (t + 1) ++ Q).map GFound.enc)).length = N := fun p q => by
                  rw [← hlt t]; simp [two, drop_cons hx]
                generalize (P ++ X.take t).map GFound.enc = A at *
                generalize (X.drop (t + 1) ++ Q).map GFound.enc = C at *
                obtain ⟨g1, g2, s1, s2, hL, d1, d2⟩ := two_at (A := A) (B := []) (C := C) (p := a + t) (q := a + t + 1) hA (by simp)
                have k1 : (0 : Int) ≤ ((a + t : Nat) : Int) := by omega
                have k2 : ((a + t : Nat) : Int) < (N : Int) := by omega
                have k3 : (0 : Int) ≤ ((a + t + 1 : Nat) : Int) := by omega
                have k4 : ((a + t + 1 : Nat) : Int) < (N : Int) := by omega
                have k5 : ((a + t + 1 : Nat) : Int) > ((a + u : Nat) : Int) := by omega
                have k6 : IntKind.i64.wrap (((a + t + 1 : Nat) : Int) - 1) = ((a + t : Nat) : Int) := by
                  rw [wI (by omega) (by omega)]; omega
                rw [e1, show a + (t + 1) = a + t + 1 from rfl]
                simp only [↓bk_bind, ↓bk_map, ↓bk_ite, ↓bk_some, ↓reduceIte, Nat.reduceEqDiff, Nat.reduceLT, Nat.reduceLeDiff, Nat.reduceAdd, Nat.reduceMul, reduceCtorEq, List.reduceReplicate, go_sem, hL0, g1, g2, s1, s2, d1, d2, k1, k2, k3, k4, k5, k6]
                exact ⟨t, ⟨rfl, e2.symm⟩, ⟨by omega, by omega⟩, by omega⟩
              · obtain rfl : t = u := by omega
                simp only [↓bk_bind, ↓bk_map, ↓bk_ite, ↓bk_some, ↓reduceIte, Nat.reduceEqDiff, Nat.reduceLT, Nat.reduceLeDiff, Nat.reduceAdd, Nat.reduceMul, reduceCtorEq, List.reduceReplicate, go_sem, hlt]
                rw [hres]
      · obtain ⟨M, hM⟩ : ∃ M, M = (X.length + Y.length) / 2 := ⟨_, rfl⟩
        have hmid : (a + b) / 2 = a + M := by omega
        have hxa : ∀ w, w < X.length → (P ++ X ++ Y ++ Q)[a + w]? = X[w]? := fun w hw => by
          rw [List.append_assoc, List.append_assoc, List.getElem?_append_right (by omega), List.getElem?_append_left (by omega)]
          congr 1; omega
        have hya : ∀ w, w < Y.length → (P ++ X ++ Y ++ Q)[m + w]? = Y[w]? := fun w hw => by
          rw [List.append_assoc, List.getElem?_append_right (by omega), List.getElem?_append_left (by omega)]
          congr 1; omega
        simp only [↓bk_bind, ↓bk_map, ↓bk_ite, ↓bk_some, ↓reduceIte, Nat.reduceEqDiff, Nat.reduceLT, Nat.reduceLeDiff, Nat.reduceAdd, Nat.reduceMul, reduceCtorEq, List.reduceReplicate, go_sem, hN, shr1, half_of (i := a) (j := b) (by omega), hmid, wK (k := a + M) (by omega), wN (a := a + M) (b := m) (by omega)]
        refine ⟨fun h3 => ?_, fun h3 => ?_⟩
        · have hs : IntKind.i64.wrap (((a + M + m : Nat) : Int) - (b : Int)) = ((a + (M - Y.length) : Nat) : Int) := by
            rw [wI (by omega) (by omega)]; omega
          simp only [↓bk_bind, ↓bk_map, ↓bk_ite, ↓bk_some, ↓reduceIte, Nat.reduceEqDiff, Nat.reduceLT, Nat.reduceLeDiff, Nat.reduceAdd, Nat.reduceMul, reduceCtorEq, List.reduceReplicate, go_sem, hN, hs, wS1 (a := a + M + m) (by omega) (by omega)]
          obtain ⟨u0, hu0⟩ : ∃ u, u = M - Y.length := ⟨_, rfl⟩
          obtain ⟨v0, hv0⟩ : ∃ v, v = M := ⟨_, rfl⟩
          rw [← hu0]
          have q1 : u0 ≤ v0 := by omega
          have q2 : v0 ≤ M := by omega
          have q3 : v0 ≤ X.length := by omega
          have q4 : M ≤ u0 + Y.length := by omega
          have q5 : u0 = 0 ∨ Y.length ≤ M - u0 := by omega
          have q6 : v0 = M ∨ v0 = X.length := by omega
          have q7 : a + M = a + v0 := by omega
          refine loopK_up (ι := Nat × Nat) (fun s => [(20, vI ((a + s.1 : Nat) : Int)), (21, vI ((a + s.2 : Nat) : Int))]) (fun s => []) (fun s => SymI (ltc c) X Y M u0 v0 s.1 s.2) (fun s => s.2 - s.1) (u0, v0) ?_
          simp only [↓bk_bind, ↓bk_map, ↓bk_ite, ↓bk_some, ↓reduceIte, Nat.reduceEqDiff, Nat.reduceLT, Nat.reduceLeDiff, Nat.reduceAdd, Nat.reduceMul, reduceCtorEq, List.reduceReplicate, go_sem, hN]
          refine ⟨?_, ⟨by omega, q1, by omega, q5.imp_right .inl, q6.imp_right .inl⟩, ?_⟩
          · simp only [↓bk_bind, ↓bk_map, ↓bk_ite, ↓bk_some, ↓reduceIte, Nat.reduceEqDiff, Nat.reduceLT, Nat.reduceLeDiff, Nat.reduceAdd, Nat.reduceMul, reduceCtorEq, List.reduceReplicate, go_sem]
            first | exact ⟨by omega, by omega⟩ | omega
          · rintro ⟨u, v⟩ hI
            obtain ⟨i1, i2, i3, i4, i5⟩ := hI
            simp only at i1 i2 i3 i4 i5
            simp only [↓bk_bind, ↓bk_map, ↓bk_ite, ↓bk_some, ↓reduceIte, Nat.reduceEqDiff, Nat.reduceLT, Nat.reduceLeDiff, Nat.reduceAdd, Nat.reduceMul, reduceCtorEq, List.reduceReplicate, go_sem, hN, shr1, half_of (i := a + u) (j := a + v) (by omega)]
            refine ⟨fun hlt => ?_, fun hge => ?_⟩
            · have hwx : (a + u + (a + v)) / 2 = a + (u + v) / 2 := by omega
              have w1 : u ≤ (u + v) / 2 := by omega
              have w2 : (u + v) / 2 < v := by omega
              rw [hwx]
              generalize (u + v) / 2 = w at w1 w2
              have hpc : IntKind.i64.wrap (((a + M + m - 1 : Nat) : Int) - ((a + w : Nat) : Int)) = ((m + (M - 1 - w) : Nat) : Int) := by
                rw [wI (by omega) (by omega)]; omega
              obtain ⟨x, hx⟩ := at_some (show w < X.length by omega)
              obtain ⟨y, hy⟩ := at_some (show M - 1 - w < Y.length by omega)
              have hxw := (hxa w (by omega)).trans hx
              have hyw := (hya (M - 1 - w) (by omega)).trans hy
              have k1 : (0 : Int) ≤ ((a + w : Nat) : Int) := by omega
              have k2 : ((a + w : Nat) : Int) < (N : Int) := by omega
              have k3 : (0 : Int) ≤ ((m + (M - 1 - w) : Nat) : Int) := by omega
              have k4 : ((m + (M - 1 - w) : Nat) : Int) < (N : Int) := by omega
              simp only [↓bk_bind, ↓bk_map, ↓bk_ite, ↓bk_some, ↓reduceIte, Nat.reduceEqDiff, Nat.reduceLT, Nat.reduceLeDiff, Nat.reduceAdd, Nat.reduceMul, reduceCtorEq, List.reduceReplicate, go_sem, wK (k := a + w) (by omega), hpc, k1, k2, k3, k4, bk_eq hxw, bk_eq hyw, hN]
              apply callK_of (hc y x)
              simp only [↓bk_bind, ↓bk_map, ↓bk_ite, ↓bk_some, ↓reduceIte, Nat.reduceEqDiff, Nat.reduceLT, Nat.reduceLeDiff, Nat.reduceAdd, Nat.reduceMul, reduceCtorEq, List.reduceReplicate, go_sem, hN, wN1 (a := a + w) (by omega)]
              intro _
              refine ⟨fun hn => ⟨(w + 1, v), ⟨rfl, rfl⟩, ⟨by omega, by omega, i3, .inr (.inr ⟨y, x, by rw [show M - (w + 1) = M - 1 - w by omega]; exact hy, hx, by simpa [ltc] using hn⟩), i5⟩, by show v - (w + 1) < v - u; omega⟩, fun hn => ⟨(u, w), ⟨rfl, rfl⟩, ⟨i1, w1, by omega, i4, .inr (.inr ⟨y, x, hy, hx, by simpa [ltc] using hn⟩)⟩, by show w - u < v - u; omega⟩⟩
            · obtain rfl : u = v := by omega
              obtain ⟨A1, A2, B1, B2, rfl, rfl, hA1, hB1, huM, hres, t1, t2, t3, t4⟩ := SymI.fin hw ⟨i1, i2, i3, i4, i5⟩ sX sY q2 q3 q4
              have hend : IntKind.i64.wrap (((a + M + m : Nat) : Int) - ((a + u : Nat) : Int)) = ((m + (M - u) : Nat) : Int) := by
                rw [wI (by omega) (by omega)]; omega
              have r0 : P ++ (A1 ++ A2) ++ (B1 ++ B2) ++ Q = (P ++ A1) ++ A2 ++ B1 ++ (B2 ++ Q) := by simp
              have r1 : (P ++ A1) ++ B1 ++ A2 ++ (B2 ++ Q) = P ++ A1 ++ B1 ++ (A2 ++ (B2 ++ Q)) := by simp
              have r2 : A2.length = 0 ∨ B1.length = 0 → P ++ (A1 ++ A2) ++ (B1 ++ B2) ++ Q = P ++ A1 ++ B1 ++ (A2 ++ (B2 ++ Q)) := fun h => by
                rcases h with h | h
                · rw [List.length_eq_zero_iff.1 h]; simp
                · rw [List.length_eq_zero_iff.1 h]; simp
              have r3 : A1.length = 0 ∨ B1.length = 0 → P ++ A1 ++ B1 ++ (A2 ++ (B2 ++ Q)) = (P ++ Srt.mrg (ltc c) A1 B1) ++ A2 ++ B2 ++ Q := fun h => by
                rcases h with h | h
                · rw [List.length_eq_zero_iff.1 h, Srt.mrg_nil_srt hw t3]; simp
                · rw [List.length_eq_zero_iff.1 h, Srt.mrg_nil]; simp
              have r4 : P ++ Srt.mrg (ltc c) A1 B1 ++ (A2 ++ (B2 ++ Q)) = (P ++ Srt.mrg (ltc c) A1 B1) ++ A2 ++ B2 ++ Q := by simp
              have r5 : A2.length = 0 ∨ B2.length = 0 → (P ++ Srt.mrg (ltc c) A1 B1) ++ A2 ++ B2 ++ Q = (P ++ Srt.mrg (ltc c) A1 B1) ++ Srt.mrg (ltc c) A2 B2 ++ Q := fun h => by
                rcases h with h | h
                · rw [List.length_eq_zero_iff.1 h, Srt.mrg_nil_srt hw t4]; simp
                · rw [List.length_eq_zero_iff.1 h, Srt.mrg_nil]; simp
              have r6 : P ++ Srt.mrg (ltc c) (A1 ++ A2) (B1 ++ B2) ++ Q = (P ++ Srt.mrg (ltc c) A1 B1) ++ Srt.mrg (ltc c) A2 B2 ++ Q := by rw [hres]; simp
              obtain ⟨⟨l0, l1, l2, l3, l4, l5⟩, ⟨L1, L2, L3, L4, L5, L6, L7⟩, hn1, hn2, ⟨eA, eB, eC, eD, eE, eF⟩, h7⟩ := symL (ltc c) ha hA1 hB1 huM hm' hb' hN hM hn h1 h2 hX hY
              clear hxa hya hres i4 i5
              rcases h7 with ⟨z1, z2, z3, z4⟩ | ⟨z1, z2, z3, z4⟩ | ⟨z1, z2, z3, z4⟩ | ⟨z1, z2, z3, z4⟩ | ⟨z1, z2, z3, z4⟩ | ⟨z1, z2, z3, z4⟩ | ⟨z1, z2, z3, z4⟩
              · have fA := lt_yes A2.length eA z2
                have fB := lt_yes B1.length eB z3
                have fC := lt_yes A1.length eC z1
                have fD := lt_yes B1.length eD z3
                have fE := lt_yes A2.length eE z2
                have fF := lt_yes B2.length eF z4
                simp only [↓bk_bind, ↓bk_map, ↓bk_ite, ↓bk_some, ↓reduceIte, Nat.reduceEqDiff, Nat.reduceLT, Nat.reduceLeDiff, Nat.reduceAdd, Nat.reduceMul, reduceCtorEq, List.reduceReplicate, go_sem, hend, fA, fB, fC, fD, fE, fF, hN]
                rw [r0]
                apply callIK_of (c_slices_rotateCmpFunc (P ++ A1) A2 B1 (B2 ++ Q) f L1 L2 L3 z2 z3)
                simp only [↓bk_bind, ↓bk_map, ↓bk_ite, ↓bk_some, ↓reduceIte, Nat.reduceEqDiff, Nat.reduceLT, Nat.reduceLeDiff, Nat.reduceAdd, Nat.reduceMul, reduceCtorEq, List.reduceReplicate, go_sem, fC, fD, fE, fF, l0, l1]
                rw [r1]
                apply callIK_of (ih P A1 B1 (A2 ++ (B2 ++ Q)) hn1 ha L1 L4 z1 z3 t1 t3)
                simp only [↓bk_bind, ↓bk_map, ↓bk_ite, ↓bk_some, ↓reduceIte, Nat.reduceEqDiff, Nat.reduceLT, Nat.reduceLeDiff, Nat.reduceAdd, Nat.reduceMul, reduceCtorEq, List.reduceReplicate, go_sem, fE, fF, l2, l4]
                rw [r4]
                apply callIK_of (ih (P ++ Srt.mrg (ltc c) A1 B1) A2 B2 Q hn2 L5 L6 L7 z2 z4 t2 t4)
                simp only [↓bk_bind, ↓bk_map, ↓bk_ite, ↓bk_some, ↓reduceIte, Nat.reduceEqDiff, Nat.reduceLT, Nat.reduceLeDiff, Nat.reduceAdd, Nat.reduceMul, reduceCtorEq, List.reduceReplicate, go_sem, l3, l5]
                rw [r6]
              · have fA := lt_yes A2.length eA z2
                have fB := lt_yes B1.length eB z3
                have fC := lt_no A1.length eC z1
                have fD := lt_yes B1.length eD z3
                have fE := lt_yes A2.length eE z2
                have fF := lt_yes B2.length eF z4
                simp only [↓bk_bind, ↓bk_map, ↓bk_ite, ↓bk_some, ↓reduceIte, Nat.reduceEqDiff, Nat.reduceLT, Nat.reduceLeDiff, Nat.reduceAdd, Nat.reduceMul, reduceCtorEq, List.reduceReplicate, go_sem, hend, fA, fB, fC, fD, fE, fF, hN]
                rw [r0]
                apply callIK_of (c_slices_rotateCmpFunc (P ++ A1) A2 B1 (B2 ++ Q) f L1 L2 L3 z2 z3)
                simp only [↓bk_bind, ↓bk_map, ↓bk_ite, ↓bk_some, ↓reduceIte, Nat.reduceEqDiff, Nat.reduceLT, Nat.reduceLeDiff, Nat.reduceAdd, Nat.reduceMul, reduceCtorEq, List.reduceReplicate, go_sem, fC, fD, fE, fF, l0, l1]
                rw [r1]
                rw [r3 (.inl z1)]
                apply callIK_of (ih (P ++ Srt.mrg (ltc c) A1 B1) A2 B2 Q hn2 L5 L6 L7 z2 z4 t2 t4)
                simp only [↓bk_bind, ↓bk_map, ↓bk_ite, ↓bk_some, ↓reduceIte, Nat.reduceEqDiff, Nat.reduceLT, Nat.reduceLeDiff, Nat.reduceAdd, Nat.reduceMul, reduceCtorEq, List.reduceReplicate, go_sem, l3, l5]
                rw [r6]
              · have fA := lt_no A2.length eA z2
                have fB := lt_yes B1.length eB z3
                have fC := lt_yes A1.length eC z1
                have fD := lt_yes B1.length eD z3
                have fE := lt_no A2.length eE z2
                have fF := lt_yes B2.length eF z4
                simp only [↓bk_bind, ↓bk_map, ↓bk_ite, ↓bk_some, ↓reduceIte, Nat.reduceEqDiff, Nat.reduceLT, Nat.reduceLeDiff, Nat.reduceAdd, Nat.reduceMul, reduceCtorEq, List.reduceReplicate, go_sem, hend, fA, fB, fC, fD, fE, fF, hN]
                rw [r2 (.inl z2)]
                apply callIK_of (ih P A1 B1 (A2 ++ (B2 ++ Q)) hn1 ha L1 L4 z1 z3 t1 t3)
                simp only [↓bk_bind, ↓bk_map, ↓bk_ite, ↓bk_some, ↓reduceIte, Nat.reduceEqDiff, Nat.reduceLT, Nat.reduceLeDiff, Nat.reduceAdd, Nat.reduceMul, reduceCtorEq, List.reduceReplicate, go_sem, fE, fF, l2, l4]
                rw [r4]
                rw [r5 (.inl z2)]
                rw [r6]
              · have fA := lt_yes A2.length eA z2
                have fB := lt_no B1.length eB z3
                have fC := lt_yes A1.length eC z1
                have fD := lt_no B1.length eD z3
                have fE := lt_yes A2.length eE z2
                have fF := lt_yes B2.length eF z4
                simp only [↓bk_bind, ↓bk_map, ↓bk_ite, ↓bk_some, ↓reduceIte, Nat.reduceEqDiff, Nat.reduceLT, Nat.reduceLeDiff, Nat.reduceAdd, Nat.reduceMul, reduceCtorEq, List.reduceReplicate, go_sem, hend, fA, fB, fC, fD, fE, fF, hN]
                rw [r2 (.inr z3)]
                rw [r3 (.inr z3)]
                apply callIK_of (ih (P ++ Srt.mrg (ltc c) A1 B1) A2 B2 Q hn2 L5 L6 L7 z2 z4 t2 t4)
                simp only [↓bk_bind, ↓bk_map, ↓bk_ite, ↓bk_some, ↓reduceIte, Nat.reduceEqDiff, Nat.reduceLT, Nat.reduceLeDiff, Nat.reduceAdd, Nat.reduceMul, reduceCtorEq, List.reduceReplicate, go_sem, l3, l5]
                rw [r6]
              · have fA := lt_yes A2.length eA z2
                have fB := lt_yes B1.length eB z3
                have fC := lt_yes A1.length eC z1
                have fD := lt_yes B1.length eD z3
                have fE := lt_yes A2.length eE z2
                have fF := lt_no B2.length eF z4
                simp only [↓bk_bind, ↓bk_map, ↓bk_ite, ↓bk_some, ↓reduceIte, Nat.reduceEqDiff, Nat.reduceLT, Nat.reduceLeDiff, Nat.reduceAdd, Nat.reduceMul, reduceCtorEq, List.reduceReplicate, go_sem, hend, fA, fB, fC, fD, fE, fF, hN]
                rw [r0]
                apply callIK_of (c_slices_rotateCmpFunc (P ++ A1) A2 B1 (B2 ++ Q) f L1 L2 L3 z2 z3)
                simp only [↓bk_bind, ↓bk_map, ↓bk_ite, ↓bk_some, ↓reduceIte, Nat.reduceEqDiff, Nat.reduceLT, Nat.reduceLeDiff, Nat.reduceAdd, Nat.reduceMul, reduceCtorEq, List.reduceReplicate, go_sem, fC, fD, fE, fF, l0, l1]
                rw [r1]
                apply callIK_of (ih P A1 B1 (A2 ++ (B2 ++ Q)) hn1 ha L1 L4 z1 z3 t1 t3)
                simp only [↓bk_bind, ↓bk_map, ↓bk_ite, ↓bk_some, ↓reduceIte, Nat.reduceEqDiff, Nat.reduceLT, Nat.reduceLeDiff, Nat.reduceAdd, Nat.reduceMul, reduceCtorEq, List.reduceReplicate, go_sem, fE, fF, l2, l4]
                rw [r4]
                rw [r5 (.inr z4)]
                rw [r6]
              · have fA := lt_yes A2.length eA z2
                have fB := lt_yes B1.length eB z3
                have fC := lt_no A1.length eC z1
                have fD := lt_yes B1.length eD z3
                have fE := lt_yes A2.length eE z2
                have fF := lt_no B2.length eF z4
                simp only [↓bk_bind, ↓bk_map, ↓bk_ite, ↓bk_some, ↓reduceIte, Nat.reduceEqDiff, Nat.reduceLT, Nat.reduceLeDiff, Nat.reduceAdd, Nat.reduceMul, reduceCtorEq, List.reduceReplicate, go_sem, hend, fA, fB, fC, fD, fE, fF, hN]
                rw [r0]
                apply callIK_of (c_slices_rotateCmpFunc (P ++ A1) A2 B1 (B2 ++ Q) f L1 L2 L3 z2 z3)
                simp only [↓bk_bind, ↓bk_map, ↓bk_ite, ↓bk_some, ↓reduceIte, Nat.reduceEqDiff, Nat.reduceLT, Nat.reduceLeDiff, Nat.reduceAdd, Nat.reduceMul, reduceCtorEq, List.reduceReplicate, go_sem, fC, fD, fE, fF, l0, l1]
                rw [r1]
                rw [r3 (.inl z1)]
                rw [r5 (.inr z4)]
                rw [r6]
              · have fA := lt_no A2.length eA z2
                have fB := lt_no B1.length eB z3
                have fC := lt_yes A1.length eC z1
                have fD := lt_no B1.length eD z3
                have fE := lt_no A2.length eE z2
                have fF := lt_yes B2.length eF z4
                simp only [↓bk_bind, ↓bk_map, ↓bk_ite, ↓bk_some, ↓reduceIte, Nat.reduceEqDiff, Nat.reduceLT, Nat.reduceLeDiff, Nat.reduceAdd, Nat.reduceMul, reduceCtorEq, List.reduceReplicate, go_sem, hend, fA, fB, fC, fD, fE, fF, hN]
                rw [r2 (.inl z2)]
                rw [r3 (.inr z3)]
                rw [r5 (.inl z2)]
                rw [r6]
        · simp only [↓bk_bind, ↓bk_map, ↓bk_ite, ↓bk_some, ↓reduceIte, Nat.reduceEqDiff, Nat.reduceLT, Nat.reduceLeDiff, Nat.reduceAdd, Nat.reduceMul, reduceCtorEq, List.reduceReplicate, go_sem, hN, wS1 (a := a + M + m) (by omega) (by omega)]
          obtain ⟨u0, hu0⟩ : ∃ u, u = 0 := ⟨_, rfl⟩
          obtain ⟨v0, hv0⟩ : ∃ v, v = X.length := ⟨_, rfl⟩
          have q1 : u0 ≤ v0 := by omega
          have q2 : v0 ≤ M := by omega
          have q3 : v0 ≤ X.length := by omega
          have q4 : M ≤ u0 + Y.length := by omega
          have q5 : u0 = 0 ∨ Y.length ≤ M - u0 := by omega
          have q6 : v0 = M ∨ v0 = X.length := by omega
          refine loopK_up (ι := Nat × Nat) (fun s => [(20, vI ((a + s.1 : Nat) : Int)), (21, vI ((a + s.2 : Nat) : Int))]) (fun s => []) (fun s => SymI (ltc c) X Y M u0 v0 s.1 s.2) (fun s => s.2 - s.1) (u0, v0) ?_
          simp only [↓bk_bind, ↓bk_map, ↓bk_ite, ↓bk_some, ↓reduceIte, Nat.reduceEqDiff, Nat.reduceLT, Nat.reduceLeDiff, Nat.reduceAdd, Nat.reduceMul, reduceCtorEq, List.reduceReplicate, go_sem, hN]
          refine ⟨?_, ⟨by omega, q1, by omega, q5.imp_right .inl, q6.imp_right .inl⟩, ?_⟩
          · simp only [↓bk_bind, ↓bk_map, ↓bk_ite, ↓bk_some, ↓reduceIte, Nat.reduceEqDiff, Nat.reduceLT, Nat.reduceLeDiff, Nat.reduceAdd, Nat.reduceMul, reduceCtorEq, List.reduceReplicate, go_sem]
            first | exact ⟨by omega, by omega⟩ | omega
          · rintro ⟨u, v⟩ hI
            obtain ⟨i1, i2, i3, i4, i5⟩ := hI
            simp only at i1 i2 i3 i4 i5
            simp only [↓bk_bind, ↓bk_map, ↓bk_ite, ↓bk_some, ↓reduceIte, Nat.reduceEqDiff, Nat.reduceLT, Nat.reduceLeDiff, Nat.reduceAdd, Nat.reduceMul, reduceCtorEq, List.reduceReplicate, go_sem, hN, shr1, half_of (i := a + u) (j := a + v) (by omega)]
            refine ⟨fun hlt => ?_, fun hge => ?_⟩
            · have hwx : (a + u + (a + v)) / 2 = a + (u + v) / 2 := by omega
              have w1 : u ≤ (u + v) / 2 := by omega
              have w2 : (u + v) / 2 < v := by omega
              rw [hwx]
              generalize (u + v) / 2 = w at w1 w2
              have hpc : IntKind.i64.wrap (((a + M + m - 1 : Nat) : Int) - ((a + w : Nat) : Int)) = ((m + (M - 1 - w) : Nat) : Int) := by
                rw [wI (by omega) (by omega)]; omega
              obtain ⟨x, hx⟩ := at_some (show w < X.length by omega)
              obtain ⟨y, hy⟩ := at_some (show M - 1 - w < Y.length by omega)
              have hxw := (hxa w (by omega)).trans hx
              have hyw := (hya (M - 1 - w) (by omega)).trans hy
              have k1 : (0 : Int) ≤ ((a + w : Nat) : Int) := by omega
              have k2 : ((a + w : Nat) : Int) < (N : Int) := by omega
              have k3 : (0 : Int) ≤ ((m + (M - 1 - w) : Nat) : Int) := by omega
              have k4 : ((m + (M - 1 - w) : Nat) : Int) < (N : Int) := by omega
              simp only [↓bk_bind, ↓bk_map, ↓bk_ite, ↓bk_some, ↓reduceIte, Nat.reduceEqDiff, Nat.reduceLT, Nat.reduceLeDiff, Nat.reduceAdd, Nat.reduceMul, reduceCtorEq, List.reduceReplicate, go_sem, wK (k := a + w) (by omega), hpc, k1, k2, k3, k4, bk_eq hxw, bk_eq hyw, hN]
              apply callK_of (hc y x)
              simp only [↓bk_bind, ↓bk_map, ↓bk_ite, ↓bk_some, ↓reduceIte, Nat.reduceEqDiff, Nat.reduceLT, Nat.reduceLeDiff, Nat.reduceAdd, Nat.reduceMul, reduceCtorEq, List.reduceReplicate, go_sem, hN, wN1 (a := a + w) (by omega)]
              intro _
              refine ⟨fun hn => ⟨(w + 1, v), ⟨rfl, rfl⟩, ⟨by omega, by omega, i3, .inr (.inr ⟨y, x, by rw [show M - (w + 1) = M - 1 - w by omega]; exact hy, hx, by simpa [ltc] using hn⟩), i5⟩, by show v - (w + 1) < v - u; omega⟩, fun hn => ⟨(u, w), ⟨rfl, rfl⟩, ⟨i1, w1, by omega, i4, .inr (.inr ⟨y, x, hy, hx, by simpa [ltc] using hn⟩)⟩, by show w - u < v - u; omega⟩⟩
            · obtain rfl : u = v := by omega
              obtain ⟨A1, A2, B1, B2, rfl, rfl, hA1, hB1, huM, hres, t1, t2, t3, t4⟩ := SymI.fin hw ⟨i1, i2, i3, i4, i5⟩ sX sY q2 q3 q4
              have hend : IntKind.i64.wrap (((a + M + m : Nat) : Int) - ((a + u : Nat) : Int)) = ((m + (M - u) : Nat) : Int) := by
                rw [wI (by omega) (by omega)]; omega
              have r0 : P ++ (A1 ++ A2) ++ (B1 ++ B2) ++ Q = (P ++ A1) ++ A2 ++ B1 ++ (B2 ++ Q) := by simp
              have r1 : (P ++ A1) ++ B1 ++ A2 ++ (B2 ++ Q) = P ++ A1 ++ B1 ++ (A2 ++ (B2 ++ Q)) := by simp
              have r2 : A2.length = 0 ∨ B1.length = 0 → P ++ (A1 ++ A2) ++ (B1 ++ B2) ++ Q = P ++ A1 ++ B1 ++ (A2 ++ (B2 ++ Q)) := fun h => by
                rcases h with h | h
                · rw [List.length_eq_zero_iff.1 h]; simp
                · rw [List.length_eq_zero_iff.1 h]; simp
              have r3 : A1.length = 0 ∨ B1.length = 0 → P ++ A1 ++ B1 ++ (A2 ++ (B2 ++ Q)) = (P ++ Srt.mrg (ltc c) A1 B1) ++ A2 ++ B2 ++ Q := fun h => by
                rcases h with h | h
                · rw [List.length_eq_zero_iff.1 h, Srt.mrg_nil_srt hw t3]; simp
                · rw [List.length_eq_zero_iff.1 h, Srt.mrg_nil]; simp
              have r4 : P ++ Srt.mrg (ltc c) A1 B1 ++ (A2 ++ (B2 ++ Q)) = (P ++ Srt.mrg (ltc c) A1 B1) ++ A2 ++ B2 ++ Q := by simp
              have r5 : A2.length = 0 ∨ B2.length = 0 → (P ++ Srt.mrg (ltc c) A1 B1) ++ A2 ++ B2 ++ Q = (P ++ Srt.mrg (ltc c) A1 B1) ++ Srt.mrg (ltc c) A2 B2 ++ Q := fun h => by
                rcases h with h | h
                · rw [List.length_eq_zero_iff.1 h, Srt.mrg_nil_srt hw t4]; simp
                · rw [List.length_eq_zero_iff.1 h, Srt.mrg_nil]; simp
              have r6 : P ++ Srt.mrg (ltc c) (A1 ++ A2) (B1 ++ B2) ++ Q = (P ++ Srt.mrg (ltc c) A1 B1) ++ Srt.mrg (ltc c) A2 B2 ++ Q := by rw [hres]; simp
              obtain ⟨⟨l0, l1, l2, l3, l4, l5⟩, ⟨L1, L2, L3, L4, L5, L6, L7⟩, hn1, hn2, ⟨eA, eB, eC, eD, eE, eF⟩, h7⟩ := symL (ltc c) ha hA1 hB1 huM hm' hb' hN hM hn h1 h2 hX hY
              clear hxa hya hres i4 i5
              rcases h7 with ⟨z1, z2, z3, z4⟩ | ⟨z1, z2, z3, z4⟩ | ⟨z1, z2, z3, z4⟩ | ⟨z1, z2, z3, z4⟩ | ⟨z1, z2, z3, z4⟩ | ⟨z1, z2, z3, z4⟩ | ⟨z1, z2, z3, z4⟩
              · have fA := lt_yes A2.length eA z2
                have fB := lt_yes B1.length eB z3
                have fC := lt_yes A1.length eC z1
                have fD := lt_yes B1.length eD z3
                have fE := lt_yes A2.length eE z2
                have fF := lt_yes B2.length eF z4
                simp only [↓bk_bind, ↓bk_map, ↓bk_ite, ↓bk_some, ↓reduceIte, Nat.reduceEqDiff, Nat.reduceLT, Nat.reduceLeDiff, Nat.reduceAdd, Nat.reduceMul, reduceCtorEq, List.reduceReplicate, go_sem, hend, fA, fB, fC, fD, fE, fF, hN]
                rw [r0]
                apply callIK_of (c_slices_rotateCmpFunc (P ++ A1) A2 B1 (B2 ++ Q) f L1 L2 L3 z2 z3)
                simp only [↓bk_bind, ↓bk_map, ↓bk_ite, ↓bk_some, ↓reduceIte, Nat.reduceEqDiff, Nat.reduceLT, Nat.reduceLeDiff, Nat.reduceAdd, Nat.reduceMul, reduceCtorEq, List.reduceReplicate, go_sem, fC, fD, fE, fF, l0, l1]
                rw [r1]
                apply callIK_of (ih P A1 B1 (A2 ++ (B2 ++ Q)) hn1 ha L1 L4 z1 z3 t1 t3)
                simp only [↓bk_bind, ↓bk_map, ↓bk_ite, ↓bk_some, ↓reduceIte, Nat.reduceEqDiff, Nat.reduceLT, Nat.reduceLeDiff, Nat.reduceAdd, Nat.reduceMul, reduceCtorEq, List.reduceReplicate, go_sem, fE, fF, l2, l4]
                rw [r4]
                apply callIK_of (ih (P ++ Srt.mrg (ltc c) A1 B1) A2 B2 Q hn2 L5 L6 L7 z2 z4 t2 t4)
                simp only [↓bk_bind, ↓bk_map, ↓bk_ite, ↓bk_some, ↓reduceIte, Nat.reduceEqDiff, Nat.reduceLT, Nat.reduceLeDiff, Nat.reduceAdd, Nat.reduceMul, reduceCtorEq, List.reduceReplicate, go_sem, l3, l5]
                rw [r6]
              · have fA := lt_yes A2.length eA z2
                have fB := lt_yes B1.length eB z3
                have fC := lt_no A1.length eC z1
                have fD := lt_yes B1.length eD z3
                have fE := lt_yes A2.length eE z2
                have fF := lt_yes B2.length eF z4
                simp only [↓bk_bind, ↓bk_map, ↓bk_ite, ↓bk_some, ↓reduceIte, Nat.reduceEqDiff, Nat.reduceLT, Nat.reduceLeDiff, Nat.reduceAdd, Nat.reduceMul, reduceCtorEq, List.reduceReplicate, go_sem, hend, fA, fB, fC, fD, fE, fF, hN]
                rw [r0]
                apply callIK_of (c_slices_rotateCmpFunc (P ++ A1) A2 B1 (B2 ++ Q) f L1 L2 L3 z2 z3)
                simp only [↓bk_bind, ↓bk_map, ↓bk_ite, ↓bk_some, ↓reduceIte, Nat.reduceEqDiff, Nat.reduceLT, Nat.reduceLeDiff, Nat.reduceAdd, Nat.reduceMul, reduceCtorEq, List.reduceReplicate, go_sem, fC, fD, fE, fF, l0, l1]
                rw [r1]
                rw [r3 (.inl z1)]
                apply callIK_of (ih (P ++ Srt.mrg (ltc c) A1 B1) A2 B2 Q hn2 L5 L6 L7 z2 z4 t2 t4)
                simp only [↓bk_bind, ↓bk_map, ↓bk_ite, ↓bk_some, ↓reduceIte, Nat.reduceEqDiff, Nat.reduceLT, Nat.reduceLeDiff, Nat.reduceAdd, Nat.reduceMul, reduceCtorEq, List.reduceReplicate, go_sem, l3, l5]
                rw [r6]
              · have fA := lt_no A2.length eA z2
                have fB := lt_yes B1.length eB z3
                have fC := lt_yes A1.length eC z1
                have fD := lt_yes B1.length eD z3
                have fE := lt_no A2.length eE z2
                have fF := lt_yes B2.length eF z4
                simp only [↓bk_bind, ↓bk_map, ↓bk_ite, ↓bk_some, ↓reduceIte, Nat.reduceEqDiff, Nat.reduceLT, Nat.reduceLeDiff, Nat.reduceAdd, Nat.reduceMul, reduceCtorEq, List.reduceReplicate, go_sem, hend, fA, fB, fC, fD, fE, fF, hN]
                rw [r2 (.inl z2)]
                apply callIK_of (ih P A1 B1 (A2 ++ (B2 ++ Q)) hn1 ha L1 L4 z1 z3 t1 t3)
                simp only [↓bk_bind, ↓bk_map, ↓bk_ite, ↓bk_some, ↓reduceIte, Nat.reduceEqDiff, Nat.reduceLT, Nat.reduceLeDiff, Nat.reduceAdd, Nat.reduceMul, reduceCtorEq, List.reduceReplicate, go_sem, fE, fF, l2, l4]
                rw [r4]
                rw [r5 (.inl z2)]
                rw [r6]
              · have fA := lt_yes A2.length eA z2
                have fB := lt_no B1.length eB z3
                have fC := lt_yes A1.length eC z1
                have fD := lt_no B1.length eD z3
                have fE := lt_yes A2.length eE z2
                have fF := lt_yes B2.length eF z4
                simp only [↓bk_bind, ↓bk_map, ↓bk_ite, ↓bk_some, ↓reduceIte, Nat.reduceEqDiff, Nat.reduceLT, Nat.reduceLeDiff, Nat.reduceAdd, Nat.reduceMul, reduceCtorEq, List.reduceReplicate, go_sem, hend, fA, fB, fC, fD, fE, fF, hN]
                rw [r2 (.inr z3)]
                rw [r3 (.inr z3)]
                apply callIK_of (ih (P ++ Srt.mrg (ltc c) A1 B1) A2 B2 Q hn2 L5 L6 L7 z2 z4 t2 t4)
                simp only [↓bk_bind, ↓bk_map, ↓bk_ite, ↓bk_some, ↓reduceIte, Nat.reduceEqDiff, Nat.reduceLT, Nat.reduceLeDiff, Nat.reduceAdd, Nat.reduceMul, reduceCtorEq, List.reduceReplicate, go_sem, l3, l5]
                rw [r6]
              · have fA := lt_yes A2.length eA z2
                have fB := lt_yes B1.length eB z3
                have fC := lt_yes A1.length eC z1
                have fD := lt_yes B1.length eD z3
                have fE := lt_yes A2.length eE z2
                have fF := lt_no B2.length eF z4
                simp only [↓bk_bind, ↓bk_map, ↓bk_ite, ↓bk_some, ↓reduceIte, Nat.reduceEqDiff, Nat.reduceLT, Nat.reduceLeDiff, Nat.reduceAdd, Nat.reduceMul, reduceCtorEq, List.reduceReplicate, go_sem, hend, fA, fB, fC, fD, fE, fF, hN]
                rw [r0]
                apply callIK_of (c_slices_rotateCmpFunc (P ++ A1) A2 B1 (B2 ++ Q) f L1 L2 L3 z2 z3)
                simp only [↓bk_bind, ↓bk_map, ↓bk_ite, ↓bk_some, ↓reduceIte, Nat.reduceEqDiff, Nat.reduceLT, Nat.reduceLeDiff, Nat.reduceAdd, Nat.reduceMul, reduceCtorEq, List.reduceReplicate, go_sem, fC, fD, fE, fF, l0, l1]
                rw [r1]
                apply callIK_of (ih P A1 B1 (A2 ++ (B2 ++ Q)) hn1 ha L1 L4 z1 z3 t1 t3)
                simp only [↓bk_bind, ↓bk_map, ↓bk_ite, ↓bk_some, ↓reduceIte, Nat.reduceEqDiff, Nat.reduceLT, Nat.reduceLeDiff, Nat.reduceAdd, Nat.reduceMul, reduceCtorEq, List.reduceReplicate, go_sem, fE, fF, l2, l4]
                rw [r4]
                rw [r5 (.inr z4)]
                rw [r6]
              · have fA := lt_yes A2.length eA z2
                have fB := lt_yes B1.length eB z3
                have fC := lt_no A1.length eC z1
                have fD := lt_yes B1.length eD z3
                have fE := lt_yes A2.length eE z2
                have fF := lt_no B2.length eF z4
                simp only [↓bk_bind, ↓bk_map, ↓bk_ite, ↓bk_some, ↓reduceIte, Nat.reduceEqDiff, Nat.reduceLT, Nat.reduceLeDiff, Nat.reduceAdd, Nat.reduceMul, reduceCtorEq, List.reduceReplicate, go_sem, hend, fA, fB, fC, fD, fE, fF, hN]
                rw [r0]
                apply callIK_of (c_slices_rotateCmpFunc (P ++ A1) A2 B1 (B2 ++ Q) f L1 L2 L3 z2 z3)
                simp only [↓bk_bind, ↓bk_map, ↓bk_ite, ↓bk_some, ↓reduceIte, Nat.reduceEqDiff, Nat.reduceLT, Nat.reduceLeDiff, Nat.reduceAdd, Nat.reduceMul, reduceCtorEq, List.reduceReplicate, go_sem, fC, fD, fE, fF, l0, l1]
                rw [r1]
                rw [r3 (.inl z1)]
                rw [r5 (.inr z4)]
                rw [r6]
              · have fA := lt_no A2.length eA z2
                have fB := lt_no B1.length eB z3
                have fC := lt_yes A1.length eC z1
                have fD := lt_no B1.length eD z3
                have fE := lt_no A2.length eE z2
                have fF := lt_yes B2.length eF z4
                simp only [↓bk_bind, ↓bk_map, ↓bk_ite, ↓bk_some, ↓reduceIte, Nat.reduceEqDiff, Nat.reduceLT, Nat.reduceLeDiff, Nat.reduceAdd, Nat.reduceMul, reduceCtorEq, List.reduceReplicate, go_sem, hend, fA, fB, fC, fD, fE, fF, hN]
                rw [r2 (.inl z2)]
                rw [r3 (.inr z3)]
                rw [r5 (.inl z2)]
                rw [r6]
end Go.Proofs.YtbnbgekjjbpljaaGreatR
