/- What the functions compute that the law of ReplayVisit reaches: contracts, function by function. Conditions stand in each theorem. -/
import Derived.Test.YtbnbgekjjbpljaaGreatProg
import Derived.KernelRfl
import Derived.Test.YtbnbgekjjbpljaaGreatTReplayVisita
namespace Go.Proofs.YtbnbgekjjbpljaaGreatR
open Go Go.RowKit Go.Proofs
set_option linter.unusedSimpArgs false
set_option linter.unusedVariables false
/-- A list marked, one after another, from k on. -/
def mkL {α : Type} (mk : α → Int → α) (c : α → Nat) : List α → Int → List α
  | [], _ => []
  | x :: l, k => mk x k :: mkL mk c l (k + (c x : Nat))
def ctL {α : Type} (c : α → Nat) (l : List α) : Nat := (l.map c).sum
def iMk (_ : Int) (k : Int) : Int := k
def iCt (_ : Int) : Nat := 1
def bMk (_ : Bool) (k : Int) : Bool := k.tmod 3 == 0
def bCt (_ : Bool) : Nat := 1
section
variable {α : Type} {mk : α → Int → α} {c : α → Nat} {l : List α} {k : Int} {i : Nat} {x : α} {f : α → List T}
theorem mkL_nil : mkL mk c [] k = [] := rfl
theorem ctL_nil : ctL c [] = 0 := rfl
theorem ctL_snoc (h : l[i]? = some x) : ctL c (l.take (i + 1)) = ctL c (l.take i) + c x := sum_snoc h
theorem ctL_take_le (i : Nat) : ctL c (l.take i) ≤ ctL c l := sum_take_le l i
theorem mkL_len : ∀ {l : List α} {k : Int}, (mkL mk c l k).length = l.length
  | [], _ => rfl
  | x :: l, k => by simp [mkL, mkL_len (l := l)]
theorem mkL_append : ∀ {l m : List α} {k : Int}, mkL mk c (l ++ m) k = mkL mk c l k ++ mkL mk c m (k + (ctL c l : Nat))
  | [], m, k => by simp [mkL, ctL]
  | x :: l, m, k => by
    simp only [List.cons_append, mkL, mkL_append (l := l), ctL, List.map_cons, List.sum_cons]
    rw [show k + (c x : Nat) + (((l.map c).sum : Nat) : Int) = k + ((c x + (l.map c).sum : Nat) : Int) by omega]
theorem mkL_snoc (h : l[i]? = some x) : mkL mk c (l.take (i + 1)) k = mkL mk c (l.take i) k ++ [mk x (k + (ctL c (l.take i) : Nat))] := by
  rw [take_snoc h, mkL_append]; rfl
theorem mkL_get (h : l[i]? = some x) : (mkL mk c l k)[i]? = some (mk x (k + (ctL c (l.take i) : Nat))) := by
  have hi := len_at h
  have e : mkL mk c l k = mkL mk c (l.take i) k ++ mkL mk c (l.drop i) (k + (ctL c (l.take i) : Nat)) := by
    rw [← mkL_append, List.take_append_drop]
  rw [e, List.getElem?_append_right (by rw [mkL_len]; simp; omega), mkL_len, List.length_take, Nat.min_eq_left (Nat.le_of_lt hi), Nat.sub_self, drop_cons h]
  rfl
/-- A row around one element. -/
def mid (A : List (List T)) (e : List T) (B : List (List T)) : List (List T) := A ++ e :: B
theorem mid_of (h : l[i]? = some x) : (mkL mk c (l.take i) k).map f ++ (l.drop i).map f = mid ((mkL mk c (l.take i) k).map f) (f x) ((l.drop (i + 1)).map f) := by
  rw [drop_cons h]; rfl
theorem mid_at (h : l[i]? = some x) : (∀ e, (mid ((mkL mk c (l.take i) k).map f) e ((l.drop (i + 1)).map f))[i]? = some e) ∧
    (∀ e e', (mid ((mkL mk c (l.take i) k).map f) e ((l.drop (i + 1)).map f)).set i e' = mid ((mkL mk c (l.take i) k).map f) e' ((l.drop (i + 1)).map f)) ∧
    (∀ e, (mid ((mkL mk c (l.take i) k).map f) e ((l.drop (i + 1)).map f)).length = l.length) ∧
    (∀ e, (mid ((mkL mk c (l.take i) k).map f) e ((l.drop (i + 1)).map f)).getD i [] = e) := by
  have hi := len_at h
  have hl : ((mkL mk c (l.take i) k).map f).length = i := by rw [List.length_map, mkL_len]; simp; omega
  generalize (mkL mk c (l.take i) k).map f = A at hl
  subst hl
  have h1 : ∀ e, (mid A e ((l.drop (A.length + 1)).map f))[A.length]? = some e := fun e => by simp [mid]
  refine ⟨h1, fun e e' => by simp [mid], fun e => by simp [mid]; omega, fun e => by rw [List.getD_eq_getElem?_getD, h1]; rfl⟩
theorem mid_snoc (h : l[i]? = some x) : mid ((mkL mk c (l.take i) k).map f) (f (mk x (k + (ctL c (l.take i) : Nat)))) ((l.drop (i + 1)).map f) = (mkL mk c (l.take (i + 1)) k).map f ++ (l.drop (i + 1)).map f := by
  rw [mkL_snoc h]; simp [mid]
theorem len_of_bd {sz : Nat} {es : List α} {rs : List RV} (h : bdVA (oL sz (es.map f) :: rs)) : es.length ≤ roomB := by
  simp only [bdVA, oL, List.map_cons, bdL, bdT, List.length_map] at h
  exact h.1.1.1
theorem waK {K K' : Int} (h : K = K') (h1 : 0 ≤ K') (h2 : K' ≤ 9223372036854775807) : IntKind.i64.wrap K = K' := by
  subst h; rw [wI (by omega) (by omega)]
theorem ctL_le {s : α → Nat} (h : ∀ x, c x ≤ 16 * (1 + s x)) : ∀ l : List α, ctL c l ≤ 16 * (l.length + (l.map s).sum)
  | [] => by simp [ctL]
  | x :: l => by
    have h1 := h x
    have h2 := ctL_le h l
    simp only [ctL, List.map_cons, List.sum_cons, List.length_cons] at *
    omega
theorem ctL_le' (h : ∀ x, c x ≤ 16) : ∀ l : List α, ctL c l ≤ 16 * l.length
  | [] => by simp [ctL]
  | x :: l => by
    have h1 := h x
    have h2 := ctL_le' h l
    simp only [ctL, List.map_cons, List.sum_cons, List.length_cons] at *
    omega
end
/-- A struct of the caller's, its lists handed over. -/
abbrev oS (ts : List T) : RV := ⟨true, own ts⟩
attribute [go_sem] oS
theorem three_ne : ¬ (3 : Int) = 0 := by decide
attribute [go_sem] mkL_len
def m_laws_markIntS : MC :=
(.seq (pr [.mv 4 (.c (.int .i64 0))] [0,1])
(.seq (.seq (pr [.mv 5 (.c (.int .i64 0))] [0,1,5])
(.block 0 (.loop ([0,1,5], []) (.seq (.seq (pr [.mv 6 (.s 5), .mv 7 (.s 0), .len 8 false (.s 7), .bin 9 false .lss (.s 6) (.s 8)] [0,1,5,9])
(.cond (.s 9) .skip (.exit 0)))
(.seq (.block 1 (.seq (pr [.mv 12 (.s 0), .mv 13 (.s 5), .mv 14 (.s 1), .idx 15 1 (.s 12) (.s 13), .store 1 (.s 15) (.s 14)] [0,1,5])
(pr [.mv 16 (.s 1), .bin 17 false .add (.s 16) (.c (.int .i64 1)), .mv 1 (.s 17)] [0,1,5])))
(pr [.mv 10 (.s 5), .bin 11 false .add (.s 10) (.c (.int .i64 1)), .mv 5 (.s 11)] [0,1,5]))))))
(.seq (pr [.mv 18 (.s 1), .mv 4 (.s 18)] [4])
.ret)))
theorem c_laws_markIntS (xs : List Int) (k : Int) (hk : 0 ≤ k) (hN : k + (ctL iCt xs : Nat) ≤ 4611686018427387904) : CtrI Tryz.prog n_laws_markIntS [oL 1 (xs.map encI), iI k] [some (1, (mkL iMk iCt xs k).map encI)] [rI (k + (ctL iCt xs : Nat))] := by
  refine ctrI_at (M := m_laws_markIntS) (m := 0) (n := 19) (res := [(.tmp 4, [false])]) hmix Tryz.func102 rfl (by kernel_rfl) rfl (by kernel_rfl) (by kernel_rfl) (Nat.le_of_ble_eq_true rfl) rfl rfl ?_; unfold m_laws_markIntS
  intro hb
  have hl := len_of_bd hb
  clear hb
  simp only [↓bk_bind, ↓bk_map, ↓bk_ite, ↓bk_some, ↓reduceIte, Nat.reduceEqDiff, Nat.reduceLT, Nat.reduceLeDiff, Nat.reduceAdd, Nat.reduceMul, reduceCtorEq, List.reduceReplicate, go_sem]
  refine loopK_rng xs (fun i => [(1, vI (k + (ctL iCt (xs.take i) : Nat))), (5, vI i)]) (fun i => [(0, ⟨1, .row true 1 ((mkL iMk iCt (xs.take i) k).map encI ++ (xs.drop i).map encI)⟩)]) (fun _ => True) hl ?_
  simp only [↓bk_bind, ↓bk_map, ↓bk_ite, ↓bk_some, ↓reduceIte, Nat.reduceEqDiff, Nat.reduceLT, Nat.reduceLeDiff, Nat.reduceAdd, Nat.reduceMul, reduceCtorEq, List.reduceReplicate, go_sem]
  refine ⟨?_, trivial, ?_, ?_⟩
  · simp only [↓bk_bind, ↓bk_map, ↓bk_ite, ↓bk_some, ↓reduceIte, Nat.reduceEqDiff, Nat.reduceLT, Nat.reduceLeDiff, Nat.reduceAdd, Nat.reduceMul, reduceCtorEq, List.reduceReplicate, go_sem, List.take_zero, List.drop_zero, mkL_nil, ctL_nil]
    all_goals simp
  · intro i x hx _ h0 h1 hw
    have hR := mid_of (mk := iMk) (c := iCt) (k := k) (f := encI) hx
    have hA := mid_at (mk := iMk) (c := iCt) (k := k) (f := encI) hx
    generalize hAe : (mkL iMk iCt (xs.take i) k).map encI = A at hR hA
    generalize hBe : (xs.drop (i + 1)).map encI = B at hR hA
    obtain ⟨hg, hs, hl, hd⟩ := hA
    have hc := ctL_take_le (c := iCt) (i + 1) (l := xs)
    rw [ctL_snoc hx] at hc
    have hK0 : 0 ≤ k + ((ctL iCt (xs.take i) : Nat) : Int) := by omega
    have hK1 : k + ((ctL iCt (xs.take i) : Nat) : Int) + (iCt x : Nat) ≤ 4611686018427387904 := by omega
    generalize hK : k + ((ctL iCt (xs.take i) : Nat) : Int) = K at hK0 hK1
    simp only [iCt] at hK1
    simp only [↓bk_bind, ↓bk_map, ↓bk_ite, ↓bk_some, ↓reduceIte, Nat.reduceEqDiff, Nat.reduceLT, Nat.reduceLeDiff, Nat.reduceAdd, Nat.reduceMul, reduceCtorEq, List.reduceReplicate, go_sem, hw, hR, hg, hs, hl, hd, h0, h1, three_ne, hK, waK (K := K) (K' := K) rfl (by omega) (by omega), waK (K := K + 1) (K' := K + 1) (by omega) (by omega) (by omega), waK (K := K + 1) (K' := K + 1) rfl (by omega) (by omega), waK (K := K + 1 + 1) (K' := K + 2) (by omega) (by omega) (by omega)]
    subst hK hAe hBe
    refine ⟨?_, mid_snoc hx⟩
    rw [ctL_snoc hx]
    simp only [iCt]
    omega
  · intro _
    simp only [↓bk_bind, ↓bk_map, ↓bk_ite, ↓bk_some, ↓reduceIte, Nat.reduceEqDiff, Nat.reduceLT, Nat.reduceLeDiff, Nat.reduceAdd, Nat.reduceMul, reduceCtorEq, List.reduceReplicate, go_sem, List.take_length, List.drop_length, List.map_nil, List.append_nil, mkL_len]
def m_laws_heldIntS : MC :=
(.seq (pr [.mv 4 (.c (.int .i64 0))] [0,1])
(.seq (.seq (pr [.mv 5 (.c (.int .i64 0))] [0,1,5])
(.block 0 (.loop ([0,1,5], []) (.seq (.seq (pr [.mv 6 (.s 5), .mv 7 (.s 0), .len 8 false (.s 7), .bin 9 false .lss (.s 6) (.s 8)] [0,1,5,9])
(.cond (.s 9) .skip (.exit 0)))
(.seq (.block 1 (.seq (.seq (pr [.mv 12 (.s 0), .mv 13 (.s 5), .idx 14 1 (.s 12) (.s 13), .load 15 false 1 (.s 14), .mv 16 (.s 1), .bin 17 false .neq (.s 15) (.s 16)] [0,1,5,17])
(.cond (.s 17) (.seq (pr [.mv 4 (.c (.int .i64 (-1)))] [4])
.ret) .skip))
(pr [.mv 18 (.s 1), .bin 19 false .add (.s 18) (.c (.int .i64 1)), .mv 1 (.s 19)] [0,1,5])))
(pr [.mv 10 (.s 5), .bin 11 false .add (.s 10) (.c (.int .i64 1)), .mv 5 (.s 11)] [0,1,5]))))))
(.seq (pr [.mv 20 (.s 1), .mv 4 (.s 20)] [4])
.ret)))
theorem c_laws_heldIntS (xs : List Int) (k : Int) (hk : 0 ≤ k) (hN : k + (ctL iCt xs : Nat) ≤ 4611686018427387904) : Ctr Tryz.prog n_laws_heldIntS [aL 1 ((mkL iMk iCt xs k).map encI), aI k] [rI (k + (ctL iCt xs : Nat))] := by
  refine ctr_at (M := m_laws_heldIntS) (m := 0) (n := 21) (res := [(.tmp 4, [false])]) hmix Tryz.func104 rfl (by kernel_rfl) rfl (by kernel_rfl) (by kernel_rfl) (Nat.le_of_ble_eq_true rfl) ?_; unfold m_laws_heldIntS
  intro hb
  simp only [bdA, bdL, bdT, bdR, bdR_map, wfB_i64, wfB_bool, wfB_str, roomB, and_true, true_and, List.length_map] at hb
  have hl := hb.1.1
  rw [mkL_len] at hl
  clear hb
  simp only [↓bk_bind, ↓bk_map, ↓bk_ite, ↓bk_some, ↓reduceIte, Nat.reduceEqDiff, Nat.reduceLT, Nat.reduceLeDiff, Nat.reduceAdd, Nat.reduceMul, reduceCtorEq, List.reduceReplicate, go_sem]
  refine loopK_rng xs (fun i => [(1, vI (k + (ctL iCt (xs.take i) : Nat))), (5, vI i)]) (fun i => []) (fun _ => True) hl ?_
  simp only [↓bk_bind, ↓bk_map, ↓bk_ite, ↓bk_some, ↓reduceIte, Nat.reduceEqDiff, Nat.reduceLT, Nat.reduceLeDiff, Nat.reduceAdd, Nat.reduceMul, reduceCtorEq, List.reduceReplicate, go_sem]
  refine ⟨?_, trivial, ?_, ?_⟩
  · simp only [↓bk_bind, ↓bk_map, ↓bk_ite, ↓bk_some, ↓reduceIte, Nat.reduceEqDiff, Nat.reduceLT, Nat.reduceLeDiff, Nat.reduceAdd, Nat.reduceMul, reduceCtorEq, List.reduceReplicate, go_sem, List.take_zero, ctL_nil]
    all_goals simp
  · intro i x hx _ h0 h1 hw
    have hg := mkL_get (mk := iMk) (c := iCt) (k := k) hx
    have hc := ctL_take_le (c := iCt) (i + 1) (l := xs)
    rw [ctL_snoc hx] at hc
    have hK0 : 0 ≤ k + ((ctL iCt (xs.take i) : Nat) : Int) := by omega
    have hK1 : k + ((ctL iCt (xs.take i) : Nat) : Int) + (iCt x : Nat) ≤ 4611686018427387904 := by omega
    generalize hK : k + ((ctL iCt (xs.take i) : Nat) : Int) = K at hK0 hK1 hg
    simp only [iCt] at hK1
    simp only [↓bk_bind, ↓bk_map, ↓bk_ite, ↓bk_some, ↓reduceIte, Nat.reduceEqDiff, Nat.reduceLT, Nat.reduceLeDiff, Nat.reduceAdd, Nat.reduceMul, reduceCtorEq, List.reduceReplicate, go_sem, hw, bk_eq hg, h0, h1, mkL_len, hK, iMk, bne_self_eq_false, beq_self_eq_true, three_ne, bMk, waK (K := K) (K' := K) rfl (by omega) (by omega), waK (K := K + 1) (K' := K + 1) (by omega) (by omega) (by omega), waK (K := K + 1) (K' := K + 1) rfl (by omega) (by omega), waK (K := K + 1 + 1) (K' := K + 2) (by omega) (by omega) (by omega)]
    rw [ctL_snoc hx]
    simp only [iCt]
    omega
  · intro _
    simp only [↓bk_bind, ↓bk_map, ↓bk_ite, ↓bk_some, ↓reduceIte, Nat.reduceEqDiff, Nat.reduceLT, Nat.reduceLeDiff, Nat.reduceAdd, Nat.reduceMul, reduceCtorEq, List.reduceReplicate, go_sem, List.take_length, mkL_len]
def GAddress.mkd (x : GAddress) (k : Int) : GAddress := ⟨k, (k + 1), (k + 2)⟩
def GAddress.ct (x : GAddress) : Nat := 3
def GResource.mkd (x : GResource) (k : Int) : GResource := ⟨k, (mkL iMk iCt x.Body (k + 1)), ⟨((k + 1) + (ctL iCt x.Body : Nat)), (((k + 1) + (ctL iCt x.Body : Nat)) + 1), (((k + 1) + (ctL iCt x.Body : Nat)) + 2)⟩⟩
def GResource.ct (x : GResource) : Nat := 4 + ctL iCt x.Body
theorem GResource.ct_le (x : GResource) : x.ct ≤ 16 * (1 + x.size) := by
  simp only [GResource.ct, GResource.size]
  have h0 := ctL_le' (c := iCt) (fun y => by simp only [iCt]; omega) x.Body
  omega
def GResource.mks (x : GResource) (k : Int) : GResource := { x with Body := mkL iMk iCt x.Body (k) }
def GResource.cts (x : GResource) : Nat := ctL iCt x.Body
theorem GResource.cts_le (x : GResource) : x.cts ≤ 16 * x.size := by
  simp only [GResource.cts, GResource.size]
  have hBody := ctL_le' (c := iCt) (fun y => by simp only [iCt]; omega) x.Body
  omega
@[go_sem] theorem GResource.mks_len0 (x : GResource) (k : Int) : ((x.mks k).Body).length = x.Body.length := mkL_len
def GPart.mkd (x : GPart) (k : Int) : GPart := ⟨k, ⟨(k + 1), (mkL iMk iCt x.Resource.Body (k + 2)), ⟨((k + 2) + (ctL iCt x.Resource.Body : Nat)), (((k + 2) + (ctL iCt x.Resource.Body : Nat)) + 1), (((k + 2) + (ctL iCt x.Resource.Body : Nat)) + 2)⟩⟩, (((k + 2) + (ctL iCt x.Resource.Body : Nat)) + 3)⟩
def GPart.ct (x : GPart) : Nat := 6 + ctL iCt x.Resource.Body
theorem GPart.ct_le (x : GPart) : x.ct ≤ 16 * (1 + x.size) := by
  simp only [GPart.ct, GPart.size, GResource.size]
  have h0 := ctL_le' (c := iCt) (fun y => by simp only [iCt]; omega) x.Resource.Body
  omega
def GPart.mks (x : GPart) (k : Int) : GPart := { x with Resource := x.Resource.mks (k) }
def GPart.cts (x : GPart) : Nat := x.Resource.cts
theorem GPart.cts_le (x : GPart) : x.cts ≤ 16 * x.size := by
  simp only [GPart.cts, GPart.size]
  have hResource := GResource.cts_le x.Resource
  omega
@[go_sem] theorem GPart.mks_len0 (x : GPart) (k : Int) : ((x.mks k).Resource.Body).length = x.Resource.Body.length := mkL_len
def GPiece.mkd (x : GPiece) (k : Int) : GPiece := ⟨k, (k + 1), (mkL iMk iCt x.New (k + 2))⟩
def GPiece.ct (x : GPiece) : Nat := 2 + ctL iCt x.New
theorem GPiece.ct_le (x : GPiece) : x.ct ≤ 16 * (1 + x.size) := by
  simp only [GPiece.ct, GPiece.size]
  have h0 := ctL_le' (c := iCt) (fun y => by simp only [iCt]; omega) x.New
  omega
def GPiece.mks (x : GPiece) (k : Int) : GPiece := { x with New := mkL iMk iCt x.New (k) }
def GPiece.cts (x : GPiece) : Nat := ctL iCt x.New
theorem GPiece.cts_le (x : GPiece) : x.cts ≤ 16 * x.size := by
  simp only [GPiece.cts, GPiece.size]
  have hNew := ctL_le' (c := iCt) (fun y => by simp only [iCt]; omega) x.New
  omega
@[go_sem] theorem GPiece.mks_len0 (x : GPiece) (k : Int) : ((x.mks k).New).length = x.New.length := mkL_len
def GVersion.mkd (x : GVersion) (k : Int) : GVersion := ⟨⟨k, (k + 1), (k + 2)⟩, (k + 3), ⟨(k + 4), (mkL iMk iCt x.Resource.Body (k + 5)), ⟨((k + 5) + (ctL iCt x.Resource.Body : Nat)), (((k + 5) + (ctL iCt x.Resource.Body : Nat)) + 1), (((k + 5) + (ctL iCt x.Resource.Body : Nat)) + 2)⟩⟩⟩
def GVersion.ct (x : GVersion) : Nat := 8 + ctL iCt x.Resource.Body
theorem GVersion.ct_le (x : GVersion) : x.ct ≤ 16 * (1 + x.size) := by
  simp only [GVersion.ct, GVersion.size, GResource.size]
  have h0 := ctL_le' (c := iCt) (fun y => by simp only [iCt]; omega) x.Resource.Body
  omega
def m_laws_markVersionS : MC :=
(.seq (pr [.mv 4 (.c (.int .i64 0))] [0,1])
(.seq (.seq (pr [.mv 5 (.c (.int .i64 0))] [0,1,5])
(.block 0 (.loop ([0,1,5], [1]) (.seq (.seq (pr [.mv 6 (.s 5), .mv 7 (.s 0), .len 8 false (.s 7), .bin 9 false .lss (.s 6) (.s 8)] [0,1,5,9])
(.cond (.s 9) .skip (.exit 0)))
(.seq (.block 1 (.seq (pr [.mv 12 (.s 0), .mv 13 (.s 5), .mv 14 (.s 1), .idx 15 9 (.s 12) (.s 13), .fld 16 (.s 15) 0, .fld 17 (.s 16) 0, .store 1 (.s 17) (.s 14)] [0,1,5])
(.seq (pr [.mv 18 (.s 1), .bin 19 false .add (.s 18) (.c (.int .i64 1)), .mv 1 (.s 19)] [0,1,5])
(.seq (pr [.mv 20 (.s 0), .mv 21 (.s 5), .mv 22 (.s 1), .idx 23 9 (.s 20) (.s 21), .fld 24 (.s 23) 0, .fld 25 (.s 24) 1, .store 1 (.s 25) (.s 22)] [0,1,5])
(.seq (pr [.mv 26 (.s 1), .bin 27 false .add (.s 26) (.c (.int .i64 1)), .mv 1 (.s 27)] [0,1,5])
(.seq (pr [.mv 28 (.s 0), .mv 29 (.s 5), .mv 30 (.s 1), .idx 31 9 (.s 28) (.s 29), .fld 32 (.s 31) 0, .fld 33 (.s 32) 2, .store 1 (.s 33) (.s 30)] [0,1,5])
(.seq (pr [.mv 34 (.s 1), .bin 35 false .add (.s 34) (.c (.int .i64 1)), .mv 1 (.s 35)] [0,1,5])
(.seq (pr [.mv 36 (.s 0), .mv 37 (.s 5), .mv 38 (.s 1), .idx 39 9 (.s 36) (.s 37), .fld 40 (.s 39) 3, .store 1 (.s 40) (.s 38)] [0,1,5])
(.seq (pr [.mv 41 (.s 1), .bin 42 false .add (.s 41) (.c (.int .i64 1)), .mv 1 (.s 42)] [0,1,5])
(.seq (pr [.mv 43 (.s 0), .mv 44 (.s 5), .mv 45 (.s 1), .idx 46 9 (.s 43) (.s 44), .fld 47 (.s 46) 4, .fld 48 (.s 47) 0, .store 1 (.s 48) (.s 45)] [0,1,5])
(.seq (pr [.mv 49 (.s 1), .bin 50 false .add (.s 49) (.c (.int .i64 1)), .mv 1 (.s 50)] [0,1,5])
(.seq (pr [.mv 51 (.s 0), .mv 52 (.s 5), .idx 53 9 (.s 51) (.s 52), .fld 54 (.s 53) 4, .fld 55 (.s 54) 1, .loadT 56 1 (.s 55), .mv 57 (.s 1), .callI 58 [] (.f n_laws_markIntS) [.s 56, .s 57] [1] [0], .mv 1 (.s 58)] [0,1,5])
(.seq (pr [.mv 59 (.s 0), .mv 60 (.s 5), .mv 61 (.s 1), .idx 62 9 (.s 59) (.s 60), .fld 63 (.s 62) 4, .fld 64 (.s 63) 2, .fld 65 (.s 64) 0, .store 1 (.s 65) (.s 61)] [0,1,5])
(.seq (pr [.mv 66 (.s 1), .bin 67 false .add (.s 66) (.c (.int .i64 1)), .mv 1 (.s 67)] [0,1,5])
(.seq (pr [.mv 68 (.s 0), .mv 69 (.s 5), .mv 70 (.s 1), .idx 71 9 (.s 68) (.s 69), .fld 72 (.s 71) 4, .fld 73 (.s 72) 2, .fld 74 (.s 73) 1, .store 1 (.s 74) (.s 70)] [0,1,5])
(.seq (pr [.mv 75 (.s 1), .bin 76 false .add (.s 75) (.c (.int .i64 1)), .mv 1 (.s 76)] [0,1,5])
(.seq (pr [.mv 77 (.s 0), .mv 78 (.s 5), .mv 79 (.s 1), .idx 80 9 (.s 77) (.s 78), .fld 81 (.s 80) 4, .fld 82 (.s 81) 2, .fld 83 (.s 82) 2, .store 1 (.s 83) (.s 79)] [0,1,5])
(pr [.mv 84 (.s 1), .bin 85 false .add (.s 84) (.c (.int .i64 1)), .mv 1 (.s 85)] [0,1,5]))))))))))))))))))
(pr [.mv 10 (.s 5), .bin 11 false .add (.s 10) (.c (.int .i64 1)), .mv 5 (.s 11)] [0,1,5]))))))
(.seq (pr [.mv 86 (.s 1), .mv 4 (.s 86)] [4])
.ret)))
theorem c_laws_markVersionS (xs : List GVersion) (k : Int) (hk : 0 ≤ k) (hN : k + (ctL GVersion.ct xs : Nat) ≤ 4611686018427387904) : CtrI Tryz.prog n_laws_markVersionS [oL 9 (xs.map GVersion.enc), iI k] [some (9, (mkL GVersion.mkd GVersion.ct xs k).map GVersion.enc)] [rI (k + (ctL GVersion.ct xs : Nat))] := by
  refine ctrI_at (M := m_laws_markVersionS) (m := 1) (n := 87) (res := [(.tmp 4, [false])]) hmix Tryz.func98 rfl (by kernel_rfl) rfl (by kernel_rfl) (by kernel_rfl) (Nat.le_of_ble_eq_true rfl) rfl rfl ?_; unfold m_laws_markVersionS
  intro hb
  have hl := len_of_bd hb
  clear hb
  simp only [↓bk_bind, ↓bk_map, ↓bk_ite, ↓bk_some, ↓reduceIte, Nat.reduceEqDiff, Nat.reduceLT, Nat.reduceLeDiff, Nat.reduceAdd, Nat.reduceMul, reduceCtorEq, List.reduceReplicate, go_sem]
  refine loopK_rng xs (fun i => [(1, vI (k + (ctL GVersion.ct (xs.take i) : Nat))), (5, vI i)]) (fun i => [(0, ⟨1, .row true 9 ((mkL GVersion.mkd GVersion.ct (xs.take i) k).map GVersion.enc ++ (xs.drop i).map GVersion.enc)⟩)]) (fun _ => True) hl ?_
  simp only [↓bk_bind, ↓bk_map, ↓bk_ite, ↓bk_some, ↓reduceIte, Nat.reduceEqDiff, Nat.reduceLT, Nat.reduceLeDiff, Nat.reduceAdd, Nat.reduceMul, reduceCtorEq, List.reduceReplicate, go_sem]
  refine ⟨?_, trivial, ?_, ?_⟩
  · simp only [↓bk_bind, ↓bk_map, ↓bk_ite, ↓bk_some, ↓reduceIte, Nat.reduceEqDiff, Nat.reduceLT, Nat.reduceLeDiff, Nat.reduceAdd, Nat.reduceMul, reduceCtorEq, List.reduceReplicate, go_sem, List.take_zero, List.drop_zero, mkL_nil, ctL_nil]
    all_goals simp
  · intro i x hx _ h0 h1 hw
    have hR := mid_of (mk := GVersion.mkd) (c := GVersion.ct) (k := k) (f := GVersion.enc) hx
    have hA := mid_at (mk := GVersion.mkd) (c := GVersion.ct) (k := k) (f := GVersion.enc) hx
    generalize hAe : (mkL GVersion.mkd GVersion.ct (xs.take i) k).map GVersion.enc = A at hR hA
    generalize hBe : (xs.drop (i + 1)).map GVersion.enc = B at hR hA
    obtain ⟨hg, hs, hl, hd⟩ := hA
    have hc := ctL_take_le (c := GVersion.ct) (i + 1) (l := xs)
    rw [ctL_snoc hx] at hc
    have hK0 : 0 ≤ k + ((ctL GVersion.ct (xs.take i) : Nat) : Int) := by omega
    have hK1 : k + ((ctL GVersion.ct (xs.take i) : Nat) : Int) + (GVersion.ct x : Nat) ≤ 4611686018427387904 := by omega
    generalize hK : k + ((ctL GVersion.ct (xs.take i) : Nat) : Int) = K at hK0 hK1
    simp only [GVersion.ct] at hK1
    simp only [↓bk_bind, ↓bk_map, ↓bk_ite, ↓bk_some, ↓reduceIte, Nat.reduceEqDiff, Nat.reduceLT, Nat.reduceLeDiff, Nat.reduceAdd, Nat.reduceMul, reduceCtorEq, List.reduceReplicate, go_sem, hw, hR, hg, hs, hl, hd, h0, h1, three_ne, hK, waK (K := K) (K' := K) rfl (by omega) (by omega), waK (K := K + 1) (K' := K + 1) (by omega) (by omega) (by omega), waK (K := K + 1) (K' := K + 1) rfl (by omega) (by omega), waK (K := K + 1 + 1) (K' := K + 2) (by omega) (by omega) (by omega), waK (K := K + 2) (K' := K + 2) rfl (by omega) (by omega), waK (K := K + 2 + 1) (K' := K + 3) (by omega) (by omega) (by omega), waK (K := K + 3) (K' := K + 3) rfl (by omega) (by omega), waK (K := K + 3 + 1) (K' := K + 4) (by omega) (by omega) (by omega), waK (K := K + 4) (K' := K + 4) rfl (by omega) (by omega), waK (K := K + 4 + 1) (K' := K + 5) (by omega) (by omega) (by omega), waK (K := K + 5) (K' := K + 5) rfl (by omega) (by omega), waK (K := K + 5 + 1) (K' := K + 6) (by omega) (by omega) (by omega)]
    refine callIK_of (c_laws_markIntS x.Resource.Body (K + 5) (by omega) (by omega)) ?_
    have hK1 : 0 ≤ K + 5 + (ctL iCt x.Resource.Body : Nat) := by omega
    generalize eK1 : K + 5 + ((ctL iCt x.Resource.Body : Nat) : Int) = K1 at hK1
    simp only [↓bk_bind, ↓bk_map, ↓bk_ite, ↓bk_some, ↓reduceIte, Nat.reduceEqDiff, Nat.reduceLT, Nat.reduceLeDiff, Nat.reduceAdd, Nat.reduceMul, reduceCtorEq, List.reduceReplicate, go_sem, hw, hR, hg, hs, hl, hd, h0, h1, three_ne, hK, waK (K := K1) (K' := K1) rfl (by omega) (by omega), waK (K := K1 + 1) (K' := K1 + 1) (by omega) (by omega) (by omega), waK (K := K1 + 1) (K' := K1 + 1) rfl (by omega) (by omega), waK (K := K1 + 1 + 1) (K' := K1 + 2) (by omega) (by omega) (by omega), waK (K := K1 + 2) (K' := K1 + 2) rfl (by omega) (by omega), waK (K := K1 + 2 + 1) (K' := K1 + 3) (by omega) (by omega) (by omega), waK (K := K1 + 3) (K' := K1 + 3) rfl (by omega) (by omega), waK (K := K1 + 3 + 1) (K' := K1 + 4) (by omega) (by omega) (by omega)]
    subst eK1
    subst hK hAe hBe
    refine ⟨?_, mid_snoc hx⟩
    rw [ctL_snoc hx]
    simp only [GVersion.ct]
    omega
  · intro _
    simp only [↓bk_bind, ↓bk_map, ↓bk_ite, ↓bk_some, ↓reduceIte, Nat.reduceEqDiff, Nat.reduceLT, Nat.reduceLeDiff, Nat.reduceAdd, Nat.reduceMul, reduceCtorEq, List.reduceReplicate, go_sem, List.take_length, List.drop_length, List.map_nil, List.append_nil, mkL_len]
def GVersion.mks (x : GVersion) (k : Int) : GVersion := { x with Resource := x.Resource.mks (k) }
def GVersion.cts (x : GVersion) : Nat := x.Resource.cts
theorem GVersion.cts_le (x : GVersion) : x.cts ≤ 16 * x.size := by
  simp only [GVersion.cts, GVersion.size]
  have hResource := GResource.cts_le x.Resource
  omega
@[go_sem] theorem GVersion.mks_len0 (x : GVersion) (k : Int) : ((x.mks k).Resource.Body).length = x.Resource.Body.length := mkL_len
def GOp.mkd (x : GOp) (k : Int) : GOp := ⟨k, (k + 1), (k + 2), (k + 3)⟩
def GOp.ct (x : GOp) : Nat := 4
def m_laws_markOpS : MC :=
(.seq (pr [.mv 4 (.c (.int .i64 0))] [0,1])
(.seq (.seq (pr [.mv 5 (.c (.int .i64 0))] [0,1,5])
(.block 0 (.loop ([0,1,5], []) (.seq (.seq (pr [.mv 6 (.s 5), .mv 7 (.s 0), .len 8 false (.s 7), .bin 9 false .lss (.s 6) (.s 8)] [0,1,5,9])
(.cond (.s 9) .skip (.exit 0)))
(.seq (.block 1 (.seq (pr [.mv 12 (.s 0), .mv 13 (.s 5), .mv 14 (.s 1), .idx 15 4 (.s 12) (.s 13), .fld 16 (.s 15) 0, .store 1 (.s 16) (.s 14)] [0,1,5])
(.seq (pr [.mv 17 (.s 1), .bin 18 false .add (.s 17) (.c (.int .i64 1)), .mv 1 (.s 18)] [0,1,5])
(.seq (pr [.mv 19 (.s 0), .mv 20 (.s 5), .mv 21 (.s 1), .idx 22 4 (.s 19) (.s 20), .fld 23 (.s 22) 1, .store 1 (.s 23) (.s 21)] [0,1,5])
(.seq (pr [.mv 24 (.s 1), .bin 25 false .add (.s 24) (.c (.int .i64 1)), .mv 1 (.s 25)] [0,1,5])
(.seq (pr [.mv 26 (.s 0), .mv 27 (.s 5), .mv 28 (.s 1), .idx 29 4 (.s 26) (.s 27), .fld 30 (.s 29) 2, .store 1 (.s 30) (.s 28)] [0,1,5])
(.seq (pr [.mv 31 (.s 1), .bin 32 false .add (.s 31) (.c (.int .i64 1)), .mv 1 (.s 32)] [0,1,5])
(.seq (pr [.mv 33 (.s 0), .mv 34 (.s 5), .mv 35 (.s 1), .idx 36 4 (.s 33) (.s 34), .fld 37 (.s 36) 3, .store 1 (.s 37) (.s 35)] [0,1,5])
(pr [.mv 38 (.s 1), .bin 39 false .add (.s 38) (.c (.int .i64 1)), .mv 1 (.s 39)] [0,1,5])))))))))
(pr [.mv 10 (.s 5), .bin 11 false .add (.s 10) (.c (.int .i64 1)), .mv 5 (.s 11)] [0,1,5]))))))
(.seq (pr [.mv 40 (.s 1), .mv 4 (.s 40)] [4])
.ret)))
theorem c_laws_markOpS (xs : List GOp) (k : Int) (hk : 0 ≤ k) (hN : k + (ctL GOp.ct xs : Nat) ≤ 4611686018427387904) : CtrI Tryz.prog n_laws_markOpS [oL 4 (xs.map GOp.enc), iI k] [some (4, (mkL GOp.mkd GOp.ct xs k).map GOp.enc)] [rI (k + (ctL GOp.ct xs : Nat))] := by
  refine ctrI_at (M := m_laws_markOpS) (m := 0) (n := 41) (res := [(.tmp 4, [false])]) hmix Tryz.func99 rfl (by kernel_rfl) rfl (by kernel_rfl) (by kernel_rfl) (Nat.le_of_ble_eq_true rfl) rfl rfl ?_; unfold m_laws_markOpS
  intro hb
  have hl := len_of_bd hb
  clear hb
  simp only [↓bk_bind, ↓bk_map, ↓bk_ite, ↓bk_some, ↓reduceIte, Nat.reduceEqDiff, Nat.reduceLT, Nat.reduceLeDiff, Nat.reduceAdd, Nat.reduceMul, reduceCtorEq, List.reduceReplicate, go_sem]
  refine loopK_rng xs (fun i => [(1, vI (k + (ctL GOp.ct (xs.take i) : Nat))), (5, vI i)]) (fun i => [(0, ⟨1, .row true 4 ((mkL GOp.mkd GOp.ct (xs.take i) k).map GOp.enc ++ (xs.drop i).map GOp.enc)⟩)]) (fun _ => True) hl ?_
  simp only [↓bk_bind, ↓bk_map, ↓bk_ite, ↓bk_some, ↓reduceIte, Nat.reduceEqDiff, Nat.reduceLT, Nat.reduceLeDiff, Nat.reduceAdd, Nat.reduceMul, reduceCtorEq, List.reduceReplicate, go_sem]
  refine ⟨?_, trivial, ?_, ?_⟩
  · simp only [↓bk_bind, ↓bk_map, ↓bk_ite, ↓bk_some, ↓reduceIte, Nat.reduceEqDiff, Nat.reduceLT, Nat.reduceLeDiff, Nat.reduceAdd, Nat.reduceMul, reduceCtorEq, List.reduceReplicate, go_sem, List.take_zero, List.drop_zero, mkL_nil, ctL_nil]
    all_goals simp
  · intro i x hx _ h0 h1 hw
    have hR := mid_of (mk := GOp.mkd) (c := GOp.ct) (k := k) (f := GOp.enc) hx
    have hA := mid_at (mk := GOp.mkd) (c := GOp.ct) (k := k) (f := GOp.enc) hx
    generalize hAe : (mkL GOp.mkd GOp.ct (xs.take i) k).map GOp.enc = A at hR hA
    generalize hBe : (xs.drop (i + 1)).map GOp.enc = B at hR hA
    obtain ⟨hg, hs, hl, hd⟩ := hA
    have hc := ctL_take_le (c := GOp.ct) (i + 1) (l := xs)
    rw [ctL_snoc hx] at hc
    have hK0 : 0 ≤ k + ((ctL GOp.ct (xs.take i) : Nat) : Int) := by omega
    have hK1 : k + ((ctL GOp.ct (xs.take i) : Nat) : Int) + (GOp.ct x : Nat) ≤ 4611686018427387904 := by omega
    generalize hK : k + ((ctL GOp.ct (xs.take i) : Nat) : Int) = K at hK0 hK1
    simp only [GOp.ct] at hK1
    simp only [↓bk_bind, ↓bk_map, ↓bk_ite, ↓bk_some, ↓reduceIte, Nat.reduceEqDiff, Nat.reduceLT, Nat.reduceLeDiff, Nat.reduceAdd, Nat.reduceMul, reduceCtorEq, List.reduceReplicate, go_sem, hw, hR, hg, hs, hl, hd, h0, h1, three_ne, hK, waK (K := K) (K' := K) rfl (by omega) (by omega), waK (K := K + 1) (K' := K + 1) (by omega) (by omega) (by omega), waK (K := K + 1) (K' := K + 1) rfl (by omega) (by omega), waK (K := K + 1 + 1) (K' := K + 2) (by omega) (by omega) (by omega), waK (K := K + 2) (K' := K + 2) rfl (by omega) (by omega), waK (K := K + 2 + 1) (K' := K + 3) (by omega) (by omega) (by omega), waK (K := K + 3) (K' := K + 3) rfl (by omega) (by omega), waK (K := K + 3 + 1) (K' := K + 4) (by omega) (by omega) (by omega), waK (K := K + 4) (K' := K + 4) rfl (by omega) (by omega), waK (K := K + 4 + 1) (K' := K + 5) (by omega) (by omega) (by omega)]
    subst hK hAe hBe
    refine ⟨?_, mid_snoc hx⟩
    rw [ctL_snoc hx]
    simp only [GOp.ct]
    omega
  · intro _
    simp only [↓bk_bind, ↓bk_map, ↓bk_ite, ↓bk_some, ↓reduceIte, Nat.reduceEqDiff, Nat.reduceLT, Nat.reduceLeDiff, Nat.reduceAdd, Nat.reduceMul, reduceCtorEq, List.reduceReplicate, go_sem, List.take_length, List.drop_length, List.map_nil, List.append_nil, mkL_len]
def GState.mkd (x : GState) (k : Int) : GState := ⟨k, (mkL iMk iCt x.Regs (k + 1)), (mkL iMk iCt x.Slots ((k + 1) + (ctL iCt x.Regs : Nat))), (mkL iMk iCt x.Nodes (((k + 1) + (ctL iCt x.Regs : Nat)) + (ctL iCt x.Slots : Nat)))⟩
def GState.ct (x : GState) : Nat := 1 + ctL iCt x.Regs + ctL iCt x.Slots + ctL iCt x.Nodes
theorem GState.ct_le (x : GState) : x.ct ≤ 16 * (1 + x.size) := by
  simp only [GState.ct, GState.size]
  have h0 := ctL_le' (c := iCt) (fun y => by simp only [iCt]; omega) x.Regs
  have h1 := ctL_le' (c := iCt) (fun y => by simp only [iCt]; omega) x.Slots
  have h2 := ctL_le' (c := iCt) (fun y => by simp only [iCt]; omega) x.Nodes
  omega
def GState.mks (x : GState) (k : Int) : GState := { x with Regs := mkL iMk iCt x.Regs (k), Slots := mkL iMk iCt x.Slots (k + (ctL iCt x.Regs : Nat)), Nodes := mkL iMk iCt x.Nodes (k + (ctL iCt x.Regs : Nat) + (ctL iCt x.Slots : Nat)) }
def GState.cts (x : GState) : Nat := ctL iCt x.Regs + ctL iCt x.Slots + ctL iCt x.Nodes
theorem GState.cts_le (x : GState) : x.cts ≤ 16 * x.size := by
  simp only [GState.cts, GState.size]
  have hRegs := ctL_le' (c := iCt) (fun y => by simp only [iCt]; omega) x.Regs
  have hSlots := ctL_le' (c := iCt) (fun y => by simp only [iCt]; omega) x.Slots
  have hNodes := ctL_le' (c := iCt) (fun y => by simp only [iCt]; omega) x.Nodes
  omega
@[go_sem] theorem GState.mks_len0 (x : GState) (k : Int) : ((x.mks k).Regs).length = x.Regs.length := mkL_len
@[go_sem] theorem GState.mks_len1 (x : GState) (k : Int) : ((x.mks k).Slots).length = x.Slots.length := mkL_len
@[go_sem] theorem GState.mks_len2 (x : GState) (k : Int) : ((x.mks k).Nodes).length = x.Nodes.length := mkL_len
def m_laws_markState : MC :=
(.seq (pr [.box 2 3 (.s 0), .mv 4 (.c (.int .i64 0))] [1,2])
(.seq (pr [.fld 5 (.s 2) 1, .load 6 false 1 (.s 5), .mv 7 (.s 1), .callI 8 [] (.f n_laws_markIntS) [.s 6, .s 7] [0] [], .mv 1 (.s 8)] [1,2])
(.seq (pr [.fld 9 (.s 2) 2, .load 10 false 1 (.s 9), .mv 11 (.s 1), .callI 12 [] (.f n_laws_markIntS) [.s 10, .s 11] [1] [], .mv 1 (.s 12)] [1,2])
(.seq (pr [.fld 13 (.s 2) 3, .load 14 false 1 (.s 13), .mv 15 (.s 1), .callI 16 [] (.f n_laws_markIntS) [.s 14, .s 15] [2] [], .mv 1 (.s 16)] [1])
(.seq (pr [.mv 17 (.s 1), .mv 4 (.s 17)] [4])
.ret)))))
theorem c_laws_markState (x : GState) (k : Int) (hk : 0 ≤ k) (hN : k + (x.cts : Nat) ≤ 4611686018427387904) : CtrI Tryz.prog n_laws_markState [oS x.enc, iI k] [some (1, (x.mks k).Regs.map encI), some (1, (x.mks k).Slots.map encI), some (1, (x.mks k).Nodes.map encI)] [rI (k + (x.cts : Nat))] := by
  refine ctrI_at (M := m_laws_markState) (m := 1) (n := 18) (res := [(.tmp 4, [false])]) hmix Tryz.func126 rfl (by kernel_rfl) rfl (by kernel_rfl) (by kernel_rfl) (Nat.le_of_ble_eq_true rfl) rfl rfl ?_; unfold m_laws_markState
  intro hb
  clear hb
  simp only [GState.cts] at hN ⊢
  simp only [↓bk_bind, ↓bk_map, ↓bk_ite, ↓bk_some, ↓reduceIte, Nat.reduceEqDiff, Nat.reduceLT, Nat.reduceLeDiff, Nat.reduceAdd, Nat.reduceMul, reduceCtorEq, List.reduceReplicate, go_sem]
  refine callIK_of (c_laws_markIntS x.Regs (k) (by omega) (by omega)) ?_
  simp only [↓bk_bind, ↓bk_map, ↓bk_ite, ↓bk_some, ↓reduceIte, Nat.reduceEqDiff, Nat.reduceLT, Nat.reduceLeDiff, Nat.reduceAdd, Nat.reduceMul, reduceCtorEq, List.reduceReplicate, go_sem]
  refine callIK_of (c_laws_markIntS x.Slots (k + (ctL iCt x.Regs : Nat)) (by omega) (by omega)) ?_
  simp only [↓bk_bind, ↓bk_map, ↓bk_ite, ↓bk_some, ↓reduceIte, Nat.reduceEqDiff, Nat.reduceLT, Nat.reduceLeDiff, Nat.reduceAdd, Nat.reduceMul, reduceCtorEq, List.reduceReplicate, go_sem]
  refine callIK_of (c_laws_markIntS x.Nodes (k + (ctL iCt x.Regs : Nat) + (ctL iCt x.Slots : Nat)) (by omega) (by omega)) ?_
  simp only [↓bk_bind, ↓bk_map, ↓bk_ite, ↓bk_some, ↓reduceIte, Nat.reduceEqDiff, Nat.reduceLT, Nat.reduceLeDiff, Nat.reduceAdd, Nat.reduceMul, reduceCtorEq, List.reduceReplicate, go_sem]
  all_goals (try omega)
  repeat' (first | rfl | omega | refine And.intro ?_ ?_)
def m_laws_heldState : MC :=
(.seq (pr [.box 2 0 (.s 0), .mv 4 (.c (.int .i64 0))] [1,2])
(.seq (pr [.fld 5 (.s 2) 1, .load 6 false 1 (.s 5), .mv 7 (.s 1), .call 8 [] (.f n_laws_heldIntS) [.s 6, .s 7], .mv 1 (.s 8)] [1,2])
(.seq (.seq (pr [.mv 9 (.s 1), .bin 10 false .lss (.s 9) (.c (.int .i64 0))] [1,2,10])
(.cond (.s 10) (.seq (pr [.mv 4 (.c (.int .i64 (-1)))] [4])
.ret) .skip))
(.seq (pr [.fld 11 (.s 2) 2, .load 12 false 1 (.s 11), .mv 13 (.s 1), .call 14 [] (.f n_laws_heldIntS) [.s 12, .s 13], .mv 1 (.s 14)] [1,2])
(.seq (.seq (pr [.mv 15 (.s 1), .bin 16 false .lss (.s 15) (.c (.int .i64 0))] [1,2,16])
(.cond (.s 16) (.seq (pr [.mv 4 (.c (.int .i64 (-1)))] [4])
.ret) .skip))
(.seq (pr [.fld 17 (.s 2) 3, .load 18 false 1 (.s 17), .mv 19 (.s 1), .call 20 [] (.f n_laws_heldIntS) [.s 18, .s 19], .mv 1 (.s 20)] [1])
(.seq (.seq (pr [.mv 21 (.s 1), .bin 22 false .lss (.s 21) (.c (.int .i64 0))] [1,22])
(.cond (.s 22) (.seq (pr [.mv 4 (.c (.int .i64 (-1)))] [4])
.ret) .skip))
(.seq (pr [.mv 23 (.s 1), .mv 4 (.s 23)] [4])
.ret))))))))
theorem c_laws_heldState (x : GState) (k : Int) (hk : 0 ≤ k) (hN : k + (x.cts : Nat) ≤ 4611686018427387904) : Ctr Tryz.prog n_laws_heldState [aS (x.mks k).enc, aI k] [rI (k + (x.cts : Nat))] := by
  refine ctr_at (M := m_laws_heldState) (m := 1) (n := 24) (res := [(.tmp 4, [false])]) hmix Tryz.func127 rfl (by kernel_rfl) rfl (by kernel_rfl) (by kernel_rfl) (Nat.le_of_ble_eq_true rfl) ?_; unfold m_laws_heldState
  intro hb
  clear hb
  simp only [GState.cts] at hN ⊢
  simp only [↓bk_bind, ↓bk_map, ↓bk_ite, ↓bk_some, ↓reduceIte, Nat.reduceEqDiff, Nat.reduceLT, Nat.reduceLeDiff, Nat.reduceAdd, Nat.reduceMul, reduceCtorEq, List.reduceReplicate, go_sem]
  refine callK_of (c_laws_heldIntS x.Regs (k) (by omega) (by omega)) ?_
  have n1 : ¬ k + (ctL iCt x.Regs : Nat) < 0 := by omega
  simp only [↓bk_bind, ↓bk_map, ↓bk_ite, ↓bk_some, ↓reduceIte, Nat.reduceEqDiff, Nat.reduceLT, Nat.reduceLeDiff, Nat.reduceAdd, Nat.reduceMul, reduceCtorEq, List.reduceReplicate, go_sem, n1]
  try intro _
  refine callK_of (c_laws_heldIntS x.Slots (k + (ctL iCt x.Regs : Nat)) (by omega) (by omega)) ?_
  have n2 : ¬ k + (ctL iCt x.Regs : Nat) + (ctL iCt x.Slots : Nat) < 0 := by omega
  simp only [↓bk_bind, ↓bk_map, ↓bk_ite, ↓bk_some, ↓reduceIte, Nat.reduceEqDiff, Nat.reduceLT, Nat.reduceLeDiff, Nat.reduceAdd, Nat.reduceMul, reduceCtorEq, List.reduceReplicate, go_sem, n1, n2]
  try intro _
  refine callK_of (c_laws_heldIntS x.Nodes (k + (ctL iCt x.Regs : Nat) + (ctL iCt x.Slots : Nat)) (by omega) (by omega)) ?_
  have n3 : ¬ k + (ctL iCt x.Regs : Nat) + (ctL iCt x.Slots : Nat) + (ctL iCt x.Nodes : Nat) < 0 := by omega
  simp only [↓bk_bind, ↓bk_map, ↓bk_ite, ↓bk_some, ↓reduceIte, Nat.reduceEqDiff, Nat.reduceLT, Nat.reduceLeDiff, Nat.reduceAdd, Nat.reduceMul, reduceCtorEq, List.reduceReplicate, go_sem, n1, n2, n3]
  try intro _
  all_goals (try omega)
  all_goals (try simp only [n1, n2, n3])
def GWant.mkd (x : GWant) (k : Int) : GWant := ⟨k, ⟨(k + 1), (k + 2), (k + 3)⟩⟩
def GWant.ct (x : GWant) : Nat := 4
def GEntry.mkd (x : GEntry) (k : Int) : GEntry := ⟨k, ⟨(k + 1), (k + 2), (k + 3)⟩, (k + 4)⟩
def GEntry.ct (x : GEntry) : Nat := 5
def m_laws_markEntryS : MC :=
(.seq (pr [.mv 4 (.c (.int .i64 0))] [0,1])
(.seq (.seq (pr [.mv 5 (.c (.int .i64 0))] [0,1,5])
(.block 0 (.loop ([0,1,5], []) (.seq (.seq (pr [.mv 6 (.s 5), .mv 7 (.s 0), .len 8 false (.s 7), .bin 9 false .lss (.s 6) (.s 8)] [0,1,5,9])
(.cond (.s 9) .skip (.exit 0)))
(.seq (.block 1 (.seq (pr [.mv 12 (.s 0), .mv 13 (.s 5), .mv 14 (.s 1), .idx 15 5 (.s 12) (.s 13), .fld 16 (.s 15) 0, .store 1 (.s 16) (.s 14)] [0,1,5])
(.seq (pr [.mv 17 (.s 1), .bin 18 false .add (.s 17) (.c (.int .i64 1)), .mv 1 (.s 18)] [0,1,5])
(.seq (pr [.mv 19 (.s 0), .mv 20 (.s 5), .mv 21 (.s 1), .idx 22 5 (.s 19) (.s 20), .fld 23 (.s 22) 1, .fld 24 (.s 23) 0, .store 1 (.s 24) (.s 21)] [0,1,5])
(.seq (pr [.mv 25 (.s 1), .bin 26 false .add (.s 25) (.c (.int .i64 1)), .mv 1 (.s 26)] [0,1,5])
(.seq (pr [.mv 27 (.s 0), .mv 28 (.s 5), .mv 29 (.s 1), .idx 30 5 (.s 27) (.s 28), .fld 31 (.s 30) 1, .fld 32 (.s 31) 1, .store 1 (.s 32) (.s 29)] [0,1,5])
(.seq (pr [.mv 33 (.s 1), .bin 34 false .add (.s 33) (.c (.int .i64 1)), .mv 1 (.s 34)] [0,1,5])
(.seq (pr [.mv 35 (.s 0), .mv 36 (.s 5), .mv 37 (.s 1), .idx 38 5 (.s 35) (.s 36), .fld 39 (.s 38) 1, .fld 40 (.s 39) 2, .store 1 (.s 40) (.s 37)] [0,1,5])
(.seq (pr [.mv 41 (.s 1), .bin 42 false .add (.s 41) (.c (.int .i64 1)), .mv 1 (.s 42)] [0,1,5])
(.seq (pr [.mv 43 (.s 0), .mv 44 (.s 5), .mv 45 (.s 1), .idx 46 5 (.s 43) (.s 44), .fld 47 (.s 46) 4, .store 1 (.s 47) (.s 45)] [0,1,5])
(pr [.mv 48 (.s 1), .bin 49 false .add (.s 48) (.c (.int .i64 1)), .mv 1 (.s 49)] [0,1,5])))))))))))
(pr [.mv 10 (.s 5), .bin 11 false .add (.s 10) (.c (.int .i64 1)), .mv 5 (.s 11)] [0,1,5]))))))
(.seq (pr [.mv 50 (.s 1), .mv 4 (.s 50)] [4])
.ret)))
theorem c_laws_markEntryS (xs : List GEntry) (k : Int) (hk : 0 ≤ k) (hN : k + (ctL GEntry.ct xs : Nat) ≤ 4611686018427387904) : CtrI Tryz.prog n_laws_markEntryS [oL 5 (xs.map GEntry.enc), iI k] [some (5, (mkL GEntry.mkd GEntry.ct xs k).map GEntry.enc)] [rI (k + (ctL GEntry.ct xs : Nat))] := by
  refine ctrI_at (M := m_laws_markEntryS) (m := 0) (n := 51) (res := [(.tmp 4, [false])]) hmix Tryz.func119 rfl (by kernel_rfl) rfl (by kernel_rfl) (by kernel_rfl) (Nat.le_of_ble_eq_true rfl) rfl rfl ?_; unfold m_laws_markEntryS
  intro hb
  have hl := len_of_bd hb
  clear hb
  simp only [↓bk_bind, ↓bk_map, ↓bk_ite, ↓bk_some, ↓reduceIte, Nat.reduceEqDiff, Nat.reduceLT, Nat.reduceLeDiff, Nat.reduceAdd, Nat.reduceMul, reduceCtorEq, List.reduceReplicate, go_sem]
  refine loopK_rng xs (fun i => [(1, vI (k + (ctL GEntry.ct (xs.take i) : Nat))), (5, vI i)]) (fun i => [(0, ⟨1, .row true 5 ((mkL GEntry.mkd GEntry.ct (xs.take i) k).map GEntry.enc ++ (xs.drop i).map GEntry.enc)⟩)]) (fun _ => True) hl ?_
  simp only [↓bk_bind, ↓bk_map, ↓bk_ite, ↓bk_some, ↓reduceIte, Nat.reduceEqDiff, Nat.reduceLT, Nat.reduceLeDiff, Nat.reduceAdd, Nat.reduceMul, reduceCtorEq, List.reduceReplicate, go_sem]
  refine ⟨?_, trivial, ?_, ?_⟩
  · simp only [↓bk_bind, ↓bk_map, ↓bk_ite, ↓bk_some, ↓reduceIte, Nat.reduceEqDiff, Nat.reduceLT, Nat.reduceLeDiff, Nat.reduceAdd, Nat.reduceMul, reduceCtorEq, List.reduceReplicate, go_sem, List.take_zero, List.drop_zero, mkL_nil, ctL_nil]
    all_goals simp
  · intro i x hx _ h0 h1 hw
    have hR := mid_of (mk := GEntry.mkd) (c := GEntry.ct) (k := k) (f := GEntry.enc) hx
    have hA := mid_at (mk := GEntry.mkd) (c := GEntry.ct) (k := k) (f := GEntry.enc) hx
    generalize hAe : (mkL GEntry.mkd GEntry.ct (xs.take i) k).map GEntry.enc = A at hR hA
    generalize hBe : (xs.drop (i + 1)).map GEntry.enc = B at hR hA
    obtain ⟨hg, hs, hl, hd⟩ := hA
    have hc := ctL_take_le (c := GEntry.ct) (i + 1) (l := xs)
    rw [ctL_snoc hx] at hc
    have hK0 : 0 ≤ k + ((ctL GEntry.ct (xs.take i) : Nat) : Int) := by omega
    have hK1 : k + ((ctL GEntry.ct (xs.take i) : Nat) : Int) + (GEntry.ct x : Nat) ≤ 4611686018427387904 := by omega
    generalize hK : k + ((ctL GEntry.ct (xs.take i) : Nat) : Int) = K at hK0 hK1
    simp only [GEntry.ct] at hK1
    simp only [↓bk_bind, ↓bk_map, ↓bk_ite, ↓bk_some, ↓reduceIte, Nat.reduceEqDiff, Nat.reduceLT, Nat.reduceLeDiff, Nat.reduceAdd, Nat.reduceMul, reduceCtorEq, List.reduceReplicate, go_sem, hw, hR, hg, hs, hl, hd, h0, h1, three_ne, hK, waK (K := K) (K' := K) rfl (by omega) (by omega), waK (K := K + 1) (K' := K + 1) (by omega) (by omega) (by omega), waK (K := K + 1) (K' := K + 1) rfl (by omega) (by omega), waK (K := K + 1 + 1) (K' := K + 2) (by omega) (by omega) (by omega), waK (K := K + 2) (K' := K + 2) rfl (by omega) (by omega), waK (K := K + 2 + 1) (K' := K + 3) (by omega) (by omega) (by omega), waK (K := K + 3) (K' := K + 3) rfl (by omega) (by omega), waK (K := K + 3 + 1) (K' := K + 4) (by omega) (by omega) (by omega), waK (K := K + 4) (K' := K + 4) rfl (by omega) (by omega), waK (K := K + 4 + 1) (K' := K + 5) (by omega) (by omega) (by omega), waK (K := K + 5) (K' := K + 5) rfl (by omega) (by omega), waK (K := K + 5 + 1) (K' := K + 6) (by omega) (by omega) (by omega)]
    subst hK hAe hBe
    refine ⟨?_, mid_snoc hx⟩
    rw [ctL_snoc hx]
    simp only [GEntry.ct]
    omega
  · intro _
    simp only [↓bk_bind, ↓bk_map, ↓bk_ite, ↓bk_some, ↓reduceIte, Nat.reduceEqDiff, Nat.reduceLT, Nat.reduceLeDiff, Nat.reduceAdd, Nat.reduceMul, reduceCtorEq, List.reduceReplicate, go_sem, List.take_length, List.drop_length, List.map_nil, List.append_nil, mkL_len]
def GCapture.mkd (x : GCapture) (k : Int) : GCapture := ⟨⟨k, (k + 1), (k + 2)⟩, (k + 3), ⟨(k + 4), (mkL iMk iCt x.Resource.Body (k + 5)), ⟨((k + 5) + (ctL iCt x.Resource.Body : Nat)), (((k + 5) + (ctL iCt x.Resource.Body : Nat)) + 1), (((k + 5) + (ctL iCt x.Resource.Body : Nat)) + 2)⟩⟩⟩
def GCapture.ct (x : GCapture) : Nat := 8 + ctL iCt x.Resource.Body
theorem GCapture.ct_le (x : GCapture) : x.ct ≤ 16 * (1 + x.size) := by
  simp only [GCapture.ct, GCapture.size, GResource.size]
  have h0 := ctL_le' (c := iCt) (fun y => by simp only [iCt]; omega) x.Resource.Body
  omega
def m_laws_markCaptureS : MC :=
(.seq (pr [.mv 4 (.c (.int .i64 0))] [0,1])
(.seq (.seq (pr [.mv 5 (.c (.int .i64 0))] [0,1,5])
(.block 0 (.loop ([0,1,5], [1]) (.seq (.seq (pr [.mv 6 (.s 5), .mv 7 (.s 0), .len 8 false (.s 7), .bin 9 false .lss (.s 6) (.s 8)] [0,1,5,9])
(.cond (.s 9) .skip (.exit 0)))
(.seq (.block 1 (.seq (pr [.mv 12 (.s 0), .mv 13 (.s 5), .mv 14 (.s 1), .idx 15 9 (.s 12) (.s 13), .fld 16 (.s 15) 0, .fld 17 (.s 16) 0, .store 1 (.s 17) (.s 14)] [0,1,5])
(.seq (pr [.mv 18 (.s 1), .bin 19 false .add (.s 18) (.c (.int .i64 1)), .mv 1 (.s 19)] [0,1,5])
(.seq (pr [.mv 20 (.s 0), .mv 21 (.s 5), .mv 22 (.s 1), .idx 23 9 (.s 20) (.s 21), .fld 24 (.s 23) 0, .fld 25 (.s 24) 1, .store 1 (.s 25) (.s 22)] [0,1,5])
(.seq (pr [.mv 26 (.s 1), .bin 27 false .add (.s 26) (.c (.int .i64 1)), .mv 1 (.s 27)] [0,1,5])
(.seq (pr [.mv 28 (.s 0), .mv 29 (.s 5), .mv 30 (.s 1), .idx 31 9 (.s 28) (.s 29), .fld 32 (.s 31) 0, .fld 33 (.s 32) 2, .store 1 (.s 33) (.s 30)] [0,1,5])
(.seq (pr [.mv 34 (.s 1), .bin 35 false .add (.s 34) (.c (.int .i64 1)), .mv 1 (.s 35)] [0,1,5])
(.seq (pr [.mv 36 (.s 0), .mv 37 (.s 5), .mv 38 (.s 1), .idx 39 9 (.s 36) (.s 37), .fld 40 (.s 39) 3, .store 1 (.s 40) (.s 38)] [0,1,5])
(.seq (pr [.mv 41 (.s 1), .bin 42 false .add (.s 41) (.c (.int .i64 1)), .mv 1 (.s 42)] [0,1,5])
(.seq (pr [.mv 43 (.s 0), .mv 44 (.s 5), .mv 45 (.s 1), .idx 46 9 (.s 43) (.s 44), .fld 47 (.s 46) 4, .fld 48 (.s 47) 0, .store 1 (.s 48) (.s 45)] [0,1,5])
(.seq (pr [.mv 49 (.s 1), .bin 50 false .add (.s 49) (.c (.int .i64 1)), .mv 1 (.s 50)] [0,1,5])
(.seq (pr [.mv 51 (.s 0), .mv 52 (.s 5), .idx 53 9 (.s 51) (.s 52), .fld 54 (.s 53) 4, .fld 55 (.s 54) 1, .loadT 56 1 (.s 55), .mv 57 (.s 1), .callI 58 [] (.f n_laws_markIntS) [.s 56, .s 57] [1] [0], .mv 1 (.s 58)] [0,1,5])
(.seq (pr [.mv 59 (.s 0), .mv 60 (.s 5), .mv 61 (.s 1), .idx 62 9 (.s 59) (.s 60), .fld 63 (.s 62) 4, .fld 64 (.s 63) 2, .fld 65 (.s 64) 0, .store 1 (.s 65) (.s 61)] [0,1,5])
(.seq (pr [.mv 66 (.s 1), .bin 67 false .add (.s 66) (.c (.int .i64 1)), .mv 1 (.s 67)] [0,1,5])
(.seq (pr [.mv 68 (.s 0), .mv 69 (.s 5), .mv 70 (.s 1), .idx 71 9 (.s 68) (.s 69), .fld 72 (.s 71) 4, .fld 73 (.s 72) 2, .fld 74 (.s 73) 1, .store 1 (.s 74) (.s 70)] [0,1,5])
(.seq (pr [.mv 75 (.s 1), .bin 76 false .add (.s 75) (.c (.int .i64 1)), .mv 1 (.s 76)] [0,1,5])
(.seq (pr [.mv 77 (.s 0), .mv 78 (.s 5), .mv 79 (.s 1), .idx 80 9 (.s 77) (.s 78), .fld 81 (.s 80) 4, .fld 82 (.s 81) 2, .fld 83 (.s 82) 2, .store 1 (.s 83) (.s 79)] [0,1,5])
(pr [.mv 84 (.s 1), .bin 85 false .add (.s 84) (.c (.int .i64 1)), .mv 1 (.s 85)] [0,1,5]))))))))))))))))))
(pr [.mv 10 (.s 5), .bin 11 false .add (.s 10) (.c (.int .i64 1)), .mv 5 (.s 11)] [0,1,5]))))))
(.seq (pr [.mv 86 (.s 1), .mv 4 (.s 86)] [4])
.ret)))
theorem c_laws_markCaptureS (xs : List GCapture) (k : Int) (hk : 0 ≤ k) (hN : k + (ctL GCapture.ct xs : Nat) ≤ 4611686018427387904) : CtrI Tryz.prog n_laws_markCaptureS [oL 9 (xs.map GCapture.enc), iI k] [some (9, (mkL GCapture.mkd GCapture.ct xs k).map GCapture.enc)] [rI (k + (ctL GCapture.ct xs : Nat))] := by
  refine ctrI_at (M := m_laws_markCaptureS) (m := 1) (n := 87) (res := [(.tmp 4, [false])]) hmix Tryz.func32 rfl (by kernel_rfl) rfl (by kernel_rfl) (by kernel_rfl) (Nat.le_of_ble_eq_true rfl) rfl rfl ?_; unfold m_laws_markCaptureS
  intro hb
  have hl := len_of_bd hb
  clear hb
  simp only [↓bk_bind, ↓bk_map, ↓bk_ite, ↓bk_some, ↓reduceIte, Nat.reduceEqDiff, Nat.reduceLT, Nat.reduceLeDiff, Nat.reduceAdd, Nat.reduceMul, reduceCtorEq, List.reduceReplicate, go_sem]
  refine loopK_rng xs (fun i => [(1, vI (k + (ctL GCapture.ct (xs.take i) : Nat))), (5, vI i)]) (fun i => [(0, ⟨1, .row true 9 ((mkL GCapture.mkd GCapture.ct (xs.take i) k).map GCapture.enc ++ (xs.drop i).map GCapture.enc)⟩)]) (fun _ => True) hl ?_
  simp only [↓bk_bind, ↓bk_map, ↓bk_ite, ↓bk_some, ↓reduceIte, Nat.reduceEqDiff, Nat.reduceLT, Nat.reduceLeDiff, Nat.reduceAdd, Nat.reduceMul, reduceCtorEq, List.reduceReplicate, go_sem]
  refine ⟨?_, trivial, ?_, ?_⟩
  · simp only [↓bk_bind, ↓bk_map, ↓bk_ite, ↓bk_some, ↓reduceIte, Nat.reduceEqDiff, Nat.reduceLT, Nat.reduceLeDiff, Nat.reduceAdd, Nat.reduceMul, reduceCtorEq, List.reduceReplicate, go_sem, List.take_zero, List.drop_zero, mkL_nil, ctL_nil]
    all_goals simp
  · intro i x hx _ h0 h1 hw
    have hR := mid_of (mk := GCapture.mkd) (c := GCapture.ct) (k := k) (f := GCapture.enc) hx
    have hA := mid_at (mk := GCapture.mkd) (c := GCapture.ct) (k := k) (f := GCapture.enc) hx
    generalize hAe : (mkL GCapture.mkd GCapture.ct (xs.take i) k).map GCapture.enc = A at hR hA
    generalize hBe : (xs.drop (i + 1)).map GCapture.enc = B at hR hA
    obtain ⟨hg, hs, hl, hd⟩ := hA
    have hc := ctL_take_le (c := GCapture.ct) (i + 1) (l := xs)
    rw [ctL_snoc hx] at hc
    have hK0 : 0 ≤ k + ((ctL GCapture.ct (xs.take i) : Nat) : Int) := by omega
    have hK1 : k + ((ctL GCapture.ct (xs.take i) : Nat) : Int) + (GCapture.ct x : Nat) ≤ 4611686018427387904 := by omega
    generalize hK : k + ((ctL GCapture.ct (xs.take i) : Nat) : Int) = K at hK0 hK1
    simp only [GCapture.ct] at hK1
    simp only [↓bk_bind, ↓bk_map, ↓bk_ite, ↓bk_some, ↓reduceIte, Nat.reduceEqDiff, Nat.reduceLT, Nat.reduceLeDiff, Nat.reduceAdd, Nat.reduceMul, reduceCtorEq, List.reduceReplicate, go_sem, hw, hR, hg, hs, hl, hd, h0, h1, three_ne, hK, waK (K := K) (K' := K) rfl (by omega) (by omega), waK (K := K + 1) (K' := K + 1) (by omega) (by omega) (by omega), waK (K := K + 1) (K' := K + 1) rfl (by omega) (by omega), waK (K := K + 1 + 1) (K' := K + 2) (by omega) (by omega) (by omega), waK (K := K + 2) (K' := K + 2) rfl (by omega) (by omega), waK (K := K + 2 + 1) (K' := K + 3) (by omega) (by omega) (by omega), waK (K := K + 3) (K' := K + 3) rfl (by omega) (by omega), waK (K := K + 3 + 1) (K' := K + 4) (by omega) (by omega) (by omega), waK (K := K + 4) (K' := K + 4) rfl (by omega) (by omega), waK (K := K + 4 + 1) (K' := K + 5) (by omega) (by omega) (by omega), waK (K := K + 5) (K' := K + 5) rfl (by omega) (by omega), waK (K := K + 5 + 1) (K' := K + 6) (by omega) (by omega) (by omega)]
    refine callIK_of (c_laws_markIntS x.Resource.Body (K + 5) (by omega) (by omega)) ?_
    have hK1 : 0 ≤ K + 5 + (ctL iCt x.Resource.Body : Nat) := by omega
    generalize eK1 : K + 5 + ((ctL iCt x.Resource.Body : Nat) : Int) = K1 at hK1
    simp only [↓bk_bind, ↓bk_map, ↓bk_ite, ↓bk_some, ↓reduceIte, Nat.reduceEqDiff, Nat.reduceLT, Nat.reduceLeDiff, Nat.reduceAdd, Nat.reduceMul, reduceCtorEq, List.reduceReplicate, go_sem, hw, hR, hg, hs, hl, hd, h0, h1, three_ne, hK, waK (K := K1) (K' := K1) rfl (by omega) (by omega), waK (K := K1 + 1) (K' := K1 + 1) (by omega) (by omega) (by omega), waK (K := K1 + 1) (K' := K1 + 1) rfl (by omega) (by omega), waK (K := K1 + 1 + 1) (K' := K1 + 2) (by omega) (by omega) (by omega), waK (K := K1 + 2) (K' := K1 + 2) rfl (by omega) (by omega), waK (K := K1 + 2 + 1) (K' := K1 + 3) (by omega) (by omega) (by omega), waK (K := K1 + 3) (K' := K1 + 3) rfl (by omega) (by omega), waK (K := K1 + 3 + 1) (K' := K1 + 4) (by omega) (by omega) (by omega)]
    subst eK1
    subst hK hAe hBe
    refine ⟨?_, mid_snoc hx⟩
    rw [ctL_snoc hx]
    simp only [GCapture.ct]
    omega
  · intro _
    simp only [↓bk_bind, ↓bk_map, ↓bk_ite, ↓bk_some, ↓reduceIte, Nat.reduceEqDiff, Nat.reduceLT, Nat.reduceLeDiff, Nat.reduceAdd, Nat.reduceMul, reduceCtorEq, List.reduceReplicate, go_sem, List.take_length, List.drop_length, List.map_nil, List.append_nil, mkL_len]
def GCapture.mks (x : GCapture) (k : Int) : GCapture := { x with Resource := x.Resource.mks (k) }
def GCapture.cts (x : GCapture) : Nat := x.Resource.cts
theorem GCapture.cts_le (x : GCapture) : x.cts ≤ 16 * x.size := by
  simp only [GCapture.cts, GCapture.size]
  have hResource := GResource.cts_le x.Resource
  omega
@[go_sem] theorem GCapture.mks_len0 (x : GCapture) (k : Int) : ((x.mks k).Resource.Body).length = x.Resource.Body.length := mkL_len
def GChoice.mkd (x : GChoice) (k : Int) : GChoice := ⟨k, (k + 1)⟩
def GChoice.ct (x : GChoice) : Nat := 2
def GWander.mks (x : GWander) (k : Int) : GWander := { x with State := x.State.mks (k), Choices := mkL GChoice.mkd GChoice.ct x.Choices (k + (x.State.cts : Nat)), Labels := mkL iMk iCt x.Labels (k + (x.State.cts : Nat) + (ctL GChoice.ct x.Choices : Nat)) }
def GWander.cts (x : GWander) : Nat := x.State.cts + ctL GChoice.ct x.Choices + ctL iCt x.Labels
theorem GWander.cts_le (x : GWander) : x.cts ≤ 16 * x.size := by
  simp only [GWander.cts, GWander.size]
  have hState := GState.cts_le x.State
  have hChoices := ctL_le' (c := GChoice.ct) (fun y => by simp only [GChoice.ct]; omega) x.Choices
  have hLabels := ctL_le' (c := iCt) (fun y => by simp only [iCt]; omega) x.Labels
  omega
@[go_sem] theorem GWander.mks_len0 (x : GWander) (k : Int) : ((x.mks k).State.Regs).length = x.State.Regs.length := mkL_len
@[go_sem] theorem GWander.mks_len1 (x : GWander) (k : Int) : ((x.mks k).State.Slots).length = x.State.Slots.length := mkL_len
@[go_sem] theorem GWander.mks_len2 (x : GWander) (k : Int) : ((x.mks k).State.Nodes).length = x.State.Nodes.length := mkL_len
@[go_sem] theorem GWander.mks_len3 (x : GWander) (k : Int) : ((x.mks k).Choices).length = x.Choices.length := mkL_len
@[go_sem] theorem GWander.mks_len4 (x : GWander) (k : Int) : ((x.mks k).Labels).length = x.Labels.length := mkL_len
def GModel.mkd (x : GModel) (k : Int) : GModel := ⟨k, (k + 1), (k + 2), (bMk x.Fits (k + 3))⟩
def GModel.ct (x : GModel) : Nat := 4
def GShown.mkd (x : GShown) (k : Int) : GShown := ⟨k, ⟨(k + 1), (k + 2), (k + 3)⟩⟩
def GShown.ct (x : GShown) : Nat := 4
def GLeaf.mkd (x : GLeaf) (k : Int) : GLeaf := ⟨k, (k + 1), (bMk x.Hidden (k + 2)), (k + 3)⟩
def GLeaf.ct (x : GLeaf) : Nat := 4
def GEdition.mks (x : GEdition) (k : Int) : GEdition := { x with Captures := mkL GCapture.mkd GCapture.ct x.Captures (k), Hidden := mkL GAddress.mkd GAddress.ct x.Hidden (k + (ctL GCapture.ct x.Captures : Nat)) }
def GEdition.cts (x : GEdition) : Nat := ctL GCapture.ct x.Captures + ctL GAddress.ct x.Hidden
theorem GEdition.cts_le (x : GEdition) : x.cts ≤ 16 * x.size := by
  simp only [GEdition.cts, GEdition.size]
  have hCaptures := ctL_le (c := GCapture.ct) (s := GCapture.size) GCapture.ct_le x.Captures
  have hHidden := ctL_le' (c := GAddress.ct) (fun y => by simp only [GAddress.ct]; omega) x.Hidden
  omega
@[go_sem] theorem GEdition.mks_len0 (x : GEdition) (k : Int) : ((x.mks k).Captures).length = x.Captures.length := mkL_len
@[go_sem] theorem GEdition.mks_len1 (x : GEdition) (k : Int) : ((x.mks k).Hidden).length = x.Hidden.length := mkL_len
def GExclusion.mkd (x : GExclusion) (k : Int) : GExclusion := ⟨k, (k + 1), (k + 2), (k + 3), (k + 4)⟩
def GExclusion.ct (x : GExclusion) : Nat := 5
def m_laws_markExclusionS : MC :=
(.seq (pr [.mv 4 (.c (.int .i64 0))] [0,1])
(.seq (.seq (pr [.mv 5 (.c (.int .i64 0))] [0,1,5])
(.block 0 (.loop ([0,1,5], []) (.seq (.seq (pr [.mv 6 (.s 5), .mv 7 (.s 0), .len 8 false (.s 7), .bin 9 false .lss (.s 6) (.s 8)] [0,1,5,9])
(.cond (.s 9) .skip (.exit 0)))
(.seq (.block 1 (.seq (pr [.mv 12 (.s 0), .mv 13 (.s 5), .mv 14 (.s 1), .idx 15 5 (.s 12) (.s 13), .fld 16 (.s 15) 0, .store 1 (.s 16) (.s 14)] [0,1,5])
(.seq (pr [.mv 17 (.s 1), .bin 18 false .add (.s 17) (.c (.int .i64 1)), .mv 1 (.s 18)] [0,1,5])
(.seq (pr [.mv 19 (.s 0), .mv 20 (.s 5), .mv 21 (.s 1), .idx 22 5 (.s 19) (.s 20), .fld 23 (.s 22) 1, .store 1 (.s 23) (.s 21)] [0,1,5])
(.seq (pr [.mv 24 (.s 1), .bin 25 false .add (.s 24) (.c (.int .i64 1)), .mv 1 (.s 25)] [0,1,5])
(.seq (pr [.mv 26 (.s 0), .mv 27 (.s 5), .mv 28 (.s 1), .idx 29 5 (.s 26) (.s 27), .fld 30 (.s 29) 2, .store 1 (.s 30) (.s 28)] [0,1,5])
(.seq (pr [.mv 31 (.s 1), .bin 32 false .add (.s 31) (.c (.int .i64 1)), .mv 1 (.s 32)] [0,1,5])
(.seq (pr [.mv 33 (.s 0), .mv 34 (.s 5), .mv 35 (.s 1), .idx 36 5 (.s 33) (.s 34), .fld 37 (.s 36) 3, .store 1 (.s 37) (.s 35)] [0,1,5])
(.seq (pr [.mv 38 (.s 1), .bin 39 false .add (.s 38) (.c (.int .i64 1)), .mv 1 (.s 39)] [0,1,5])
(.seq (pr [.mv 40 (.s 0), .mv 41 (.s 5), .mv 42 (.s 1), .idx 43 5 (.s 40) (.s 41), .fld 44 (.s 43) 4, .store 1 (.s 44) (.s 42)] [0,1,5])
(pr [.mv 45 (.s 1), .bin 46 false .add (.s 45) (.c (.int .i64 1)), .mv 1 (.s 46)] [0,1,5])))))))))))
(pr [.mv 10 (.s 5), .bin 11 false .add (.s 10) (.c (.int .i64 1)), .mv 5 (.s 11)] [0,1,5]))))))
(.seq (pr [.mv 47 (.s 1), .mv 4 (.s 47)] [4])
.ret)))
theorem c_laws_markExclusionS (xs : List GExclusion) (k : Int) (hk : 0 ≤ k) (hN : k + (ctL GExclusion.ct xs : Nat) ≤ 4611686018427387904) : CtrI Tryz.prog n_laws_markExclusionS [oL 5 (xs.map GExclusion.enc), iI k] [some (5, (mkL GExclusion.mkd GExclusion.ct xs k).map GExclusion.enc)] [rI (k + (ctL GExclusion.ct xs : Nat))] := by
  refine ctrI_at (M := m_laws_markExclusionS) (m := 0) (n := 48) (res := [(.tmp 4, [false])]) hmix Tryz.func100 rfl (by kernel_rfl) rfl (by kernel_rfl) (by kernel_rfl) (Nat.le_of_ble_eq_true rfl) rfl rfl ?_; unfold m_laws_markExclusionS
  intro hb
  have hl := len_of_bd hb
  clear hb
  simp only [↓bk_bind, ↓bk_map, ↓bk_ite, ↓bk_some, ↓reduceIte, Nat.reduceEqDiff, Nat.reduceLT, Nat.reduceLeDiff, Nat.reduceAdd, Nat.reduceMul, reduceCtorEq, List.reduceReplicate, go_sem]
  refine loopK_rng xs (fun i => [(1, vI (k + (ctL GExclusion.ct (xs.take i) : Nat))), (5, vI i)]) (fun i => [(0, ⟨1, .row true 5 ((mkL GExclusion.mkd GExclusion.ct (xs.take i) k).map GExclusion.enc ++ (xs.drop i).map GExclusion.enc)⟩)]) (fun _ => True) hl ?_
  simp only [↓bk_bind, ↓bk_map, ↓bk_ite, ↓bk_some, ↓reduceIte, Nat.reduceEqDiff, Nat.reduceLT, Nat.reduceLeDiff, Nat.reduceAdd, Nat.reduceMul, reduceCtorEq, List.reduceReplicate, go_sem]
  refine ⟨?_, trivial, ?_, ?_⟩
  · simp only [↓bk_bind, ↓bk_map, ↓bk_ite, ↓bk_some, ↓reduceIte, Nat.reduceEqDiff, Nat.reduceLT, Nat.reduceLeDiff, Nat.reduceAdd, Nat.reduceMul, reduceCtorEq, List.reduceReplicate, go_sem, List.take_zero, List.drop_zero, mkL_nil, ctL_nil]
    all_goals simp
  · intro i x hx _ h0 h1 hw
    have hR := mid_of (mk := GExclusion.mkd) (c := GExclusion.ct) (k := k) (f := GExclusion.enc) hx
    have hA := mid_at (mk := GExclusion.mkd) (c := GExclusion.ct) (k := k) (f := GExclusion.enc) hx
    generalize hAe : (mkL GExclusion.mkd GExclusion.ct (xs.take i) k).map GExclusion.enc = A at hR hA
    generalize hBe : (xs.drop (i + 1)).map GExclusion.enc = B at hR hA
    obtain ⟨hg, hs, hl, hd⟩ := hA
    have hc := ctL_take_le (c := GExclusion.ct) (i + 1) (l := xs)
    rw [ctL_snoc hx] at hc
    have hK0 : 0 ≤ k + ((ctL GExclusion.ct (xs.take i) : Nat) : Int) := by omega
    have hK1 : k + ((ctL GExclusion.ct (xs.take i) : Nat) : Int) + (GExclusion.ct x : Nat) ≤ 4611686018427387904 := by omega
    generalize hK : k + ((ctL GExclusion.ct (xs.take i) : Nat) : Int) = K at hK0 hK1
    simp only [GExclusion.ct] at hK1
    simp only [↓bk_bind, ↓bk_map, ↓bk_ite, ↓bk_some, ↓reduceIte, Nat.reduceEqDiff, Nat.reduceLT, Nat.reduceLeDiff, Nat.reduceAdd, Nat.reduceMul, reduceCtorEq, List.reduceReplicate, go_sem, hw, hR, hg, hs, hl, hd, h0, h1, three_ne, hK, waK (K := K) (K' := K) rfl (by omega) (by omega), waK (K := K + 1) (K' := K + 1) (by omega) (by omega) (by omega), waK (K := K + 1) (K' := K + 1) rfl (by omega) (by omega), waK (K := K + 1 + 1) (K' := K + 2) (by omega) (by omega) (by omega), waK (K := K + 2) (K' := K + 2) rfl (by omega) (by omega), waK (K := K + 2 + 1) (K' := K + 3) (by omega) (by omega) (by omega), waK (K := K + 3) (K' := K + 3) rfl (by omega) (by omega), waK (K := K + 3 + 1) (K' := K + 4) (by omega) (by omega) (by omega), waK (K := K + 4) (K' := K + 4) rfl (by omega) (by omega), waK (K := K + 4 + 1) (K' := K + 5) (by omega) (by omega) (by omega), waK (K := K + 5) (K' := K + 5) rfl (by omega) (by omega), waK (K := K + 5 + 1) (K' := K + 6) (by omega) (by omega) (by omega)]
    subst hK hAe hBe
    refine ⟨?_, mid_snoc hx⟩
    rw [ctL_snoc hx]
    simp only [GExclusion.ct]
    omega
  · intro _
    simp only [↓bk_bind, ↓bk_map, ↓bk_ite, ↓bk_some, ↓reduceIte, Nat.reduceEqDiff, Nat.reduceLT, Nat.reduceLeDiff, Nat.reduceAdd, Nat.reduceMul, reduceCtorEq, List.reduceReplicate, go_sem, List.take_length, List.drop_length, List.map_nil, List.append_nil, mkL_len]
def GStatement.mkd (x : GStatement) (k : Int) : GStatement := ⟨k, (k + 1), (k + 2), (k + 3)⟩
def GStatement.ct (x : GStatement) : Nat := 4
def m_laws_markStatementS : MC :=
(.seq (pr [.mv 4 (.c (.int .i64 0))] [0,1])
(.seq (.seq (pr [.mv 5 (.c (.int .i64 0))] [0,1,5])
(.block 0 (.loop ([0,1,5], []) (.seq (.seq (pr [.mv 6 (.s 5), .mv 7 (.s 0), .len 8 false (.s 7), .bin 9 false .lss (.s 6) (.s 8)] [0,1,5,9])
(.cond (.s 9) .skip (.exit 0)))
(.seq (.block 1 (.seq (pr [.mv 12 (.s 0), .mv 13 (.s 5), .mv 14 (.s 1), .idx 15 4 (.s 12) (.s 13), .fld 16 (.s 15) 0, .store 1 (.s 16) (.s 14)] [0,1,5])
(.seq (pr [.mv 17 (.s 1), .bin 18 false .add (.s 17) (.c (.int .i64 1)), .mv 1 (.s 18)] [0,1,5])
(.seq (pr [.mv 19 (.s 0), .mv 20 (.s 5), .mv 21 (.s 1), .idx 22 4 (.s 19) (.s 20), .fld 23 (.s 22) 1, .store 1 (.s 23) (.s 21)] [0,1,5])
(.seq (pr [.mv 24 (.s 1), .bin 25 false .add (.s 24) (.c (.int .i64 1)), .mv 1 (.s 25)] [0,1,5])
(.seq (pr [.mv 26 (.s 0), .mv 27 (.s 5), .mv 28 (.s 1), .idx 29 4 (.s 26) (.s 27), .fld 30 (.s 29) 2, .store 1 (.s 30) (.s 28)] [0,1,5])
(.seq (pr [.mv 31 (.s 1), .bin 32 false .add (.s 31) (.c (.int .i64 1)), .mv 1 (.s 32)] [0,1,5])
(.seq (pr [.mv 33 (.s 0), .mv 34 (.s 5), .mv 35 (.s 1), .idx 36 4 (.s 33) (.s 34), .fld 37 (.s 36) 3, .store 1 (.s 37) (.s 35)] [0,1,5])
(pr [.mv 38 (.s 1), .bin 39 false .add (.s 38) (.c (.int .i64 1)), .mv 1 (.s 39)] [0,1,5])))))))))
(pr [.mv 10 (.s 5), .bin 11 false .add (.s 10) (.c (.int .i64 1)), .mv 5 (.s 11)] [0,1,5]))))))
(.seq (pr [.mv 40 (.s 1), .mv 4 (.s 40)] [4])
.ret)))
theorem c_laws_markStatementS (xs : List GStatement) (k : Int) (hk : 0 ≤ k) (hN : k + (ctL GStatement.ct xs : Nat) ≤ 4611686018427387904) : CtrI Tryz.prog n_laws_markStatementS [oL 4 (xs.map GStatement.enc), iI k] [some (4, (mkL GStatement.mkd GStatement.ct xs k).map GStatement.enc)] [rI (k + (ctL GStatement.ct xs : Nat))] := by
  refine ctrI_at (M := m_laws_markStatementS) (m := 0) (n := 41) (res := [(.tmp 4, [false])]) hmix Tryz.func103 rfl (by kernel_rfl) rfl (by kernel_rfl) (by kernel_rfl) (Nat.le_of_ble_eq_true rfl) rfl rfl ?_; unfold m_laws_markStatementS
  intro hb
  have hl := len_of_bd hb
  clear hb
  simp only [↓bk_bind, ↓bk_map, ↓bk_ite, ↓bk_some, ↓reduceIte, Nat.reduceEqDiff, Nat.reduceLT, Nat.reduceLeDiff, Nat.reduceAdd, Nat.reduceMul, reduceCtorEq, List.reduceReplicate, go_sem]
  refine loopK_rng xs (fun i => [(1, vI (k + (ctL GStatement.ct (xs.take i) : Nat))), (5, vI i)]) (fun i => [(0, ⟨1, .row true 4 ((mkL GStatement.mkd GStatement.ct (xs.take i) k).map GStatement.enc ++ (xs.drop i).map GStatement.enc)⟩)]) (fun _ => True) hl ?_
  simp only [↓bk_bind, ↓bk_map, ↓bk_ite, ↓bk_some, ↓reduceIte, Nat.reduceEqDiff, Nat.reduceLT, Nat.reduceLeDiff, Nat.reduceAdd, Nat.reduceMul, reduceCtorEq, List.reduceReplicate, go_sem]
  refine ⟨?_, trivial, ?_, ?_⟩
  · simp only [↓bk_bind, ↓bk_map, ↓bk_ite, ↓bk_some, ↓reduceIte, Nat.reduceEqDiff, Nat.reduceLT, Nat.reduceLeDiff, Nat.reduceAdd, Nat.reduceMul, reduceCtorEq, List.reduceReplicate, go_sem, List.take_zero, List.drop_zero, mkL_nil, ctL_nil]
    all_goals simp
  · intro i x hx _ h0 h1 hw
    have hR := mid_of (mk := GStatement.mkd) (c := GStatement.ct) (k := k) (f := GStatement.enc) hx
    have hA := mid_at (mk := GStatement.mkd) (c := GStatement.ct) (k := k) (f := GStatement.enc) hx
    generalize hAe : (mkL GStatement.mkd GStatement.ct (xs.take i) k).map GStatement.enc = A at hR hA
    generalize hBe : (xs.drop (i + 1)).map GStatement.enc = B at hR hA
    obtain ⟨hg, hs, hl, hd⟩ := hA
    have hc := ctL_take_le (c := GStatement.ct) (i + 1) (l := xs)
    rw [ctL_snoc hx] at hc
    have hK0 : 0 ≤ k + ((ctL GStatement.ct (xs.take i) : Nat) : Int) := by omega
    have hK1 : k + ((ctL GStatement.ct (xs.take i) : Nat) : Int) + (GStatement.ct x : Nat) ≤ 4611686018427387904 := by omega
    generalize hK : k + ((ctL GStatement.ct (xs.take i) : Nat) : Int) = K at hK0 hK1
    simp only [GStatement.ct] at hK1
    simp only [↓bk_bind, ↓bk_map, ↓bk_ite, ↓bk_some, ↓reduceIte, Nat.reduceEqDiff, Nat.reduceLT, Nat.reduceLeDiff, Nat.reduceAdd, Nat.reduceMul, reduceCtorEq, List.reduceReplicate, go_sem, hw, hR, hg, hs, hl, hd, h0, h1, three_ne, hK, waK (K := K) (K' := K) rfl (by omega) (by omega), waK (K := K + 1) (K' := K + 1) (by omega) (by omega) (by omega), waK (K := K + 1) (K' := K + 1) rfl (by omega) (by omega), waK (K := K + 1 + 1) (K' := K + 2) (by omega) (by omega) (by omega), waK (K := K + 2) (K' := K + 2) rfl (by omega) (by omega), waK (K := K + 2 + 1) (K' := K + 3) (by omega) (by omega) (by omega), waK (K := K + 3) (K' := K + 3) rfl (by omega) (by omega), waK (K := K + 3 + 1) (K' := K + 4) (by omega) (by omega) (by omega), waK (K := K + 4) (K' := K + 4) rfl (by omega) (by omega), waK (K := K + 4 + 1) (K' := K + 5) (by omega) (by omega) (by omega)]
    subst hK hAe hBe
    refine ⟨?_, mid_snoc hx⟩
    rw [ctL_snoc hx]
    simp only [GStatement.ct]
    omega
  · intro _
    simp only [↓bk_bind, ↓bk_map, ↓bk_ite, ↓bk_some, ↓reduceIte, Nat.reduceEqDiff, Nat.reduceLT, Nat.reduceLeDiff, Nat.reduceAdd, Nat.reduceMul, reduceCtorEq, List.reduceReplicate, go_sem, List.take_length, List.drop_length, List.map_nil, List.append_nil, mkL_len]
def GLibrary.mkd (x : GLibrary) (k : Int) : GLibrary := ⟨k, (mkL iMk iCt x.Digests (k + 1)), (bMk x.Up ((k + 1) + (ctL iCt x.Digests : Nat))), (bMk x.Lies (((k + 1) + (ctL iCt x.Digests : Nat)) + 1))⟩
def GLibrary.ct (x : GLibrary) : Nat := 3 + ctL iCt x.Digests
theorem GLibrary.ct_le (x : GLibrary) : x.ct ≤ 16 * (1 + x.size) := by
  simp only [GLibrary.ct, GLibrary.size]
  have h0 := ctL_le' (c := iCt) (fun y => by simp only [iCt]; omega) x.Digests
  omega
def m_laws_markLibraryS : MC :=
(.seq (pr [.mv 4 (.c (.int .i64 0))] [0,1])
(.seq (.seq (pr [.mv 5 (.c (.int .i64 0))] [0,1,5])
(.block 0 (.loop ([0,1,5], [1]) (.seq (.seq (pr [.mv 6 (.s 5), .mv 7 (.s 0), .len 8 false (.s 7), .bin 9 false .lss (.s 6) (.s 8)] [0,1,5,9])
(.cond (.s 9) .skip (.exit 0)))
(.seq (.block 1 (.seq (pr [.mv 12 (.s 0), .mv 13 (.s 5), .mv 14 (.s 1), .idx 15 4 (.s 12) (.s 13), .fld 16 (.s 15) 0, .store 1 (.s 16) (.s 14)] [0,1,5])
(.seq (pr [.mv 17 (.s 1), .bin 18 false .add (.s 17) (.c (.int .i64 1)), .mv 1 (.s 18)] [0,1,5])
(.seq (pr [.mv 19 (.s 0), .mv 20 (.s 5), .idx 21 4 (.s 19) (.s 20), .fld 22 (.s 21) 1, .loadT 23 1 (.s 22), .mv 24 (.s 1), .callI 25 [] (.f n_laws_markIntS) [.s 23, .s 24] [1] [0], .mv 1 (.s 25)] [0,1,5])
(.seq (pr [.mv 26 (.s 0), .mv 27 (.s 5), .mv 28 (.s 1), .bin 29 false .rem (.s 28) (.c (.int .i64 3)), .bin 30 false .eql (.s 29) (.c (.int .i64 0)), .idx 31 4 (.s 26) (.s 27), .fld 32 (.s 31) 2, .store 1 (.s 32) (.s 30)] [0,1,5])
(.seq (pr [.mv 33 (.s 1), .bin 34 false .add (.s 33) (.c (.int .i64 1)), .mv 1 (.s 34)] [0,1,5])
(.seq (pr [.mv 35 (.s 0), .mv 36 (.s 5), .mv 37 (.s 1), .bin 38 false .rem (.s 37) (.c (.int .i64 3)), .bin 39 false .eql (.s 38) (.c (.int .i64 0)), .idx 40 4 (.s 35) (.s 36), .fld 41 (.s 40) 3, .store 1 (.s 41) (.s 39)] [0,1,5])
(pr [.mv 42 (.s 1), .bin 43 false .add (.s 42) (.c (.int .i64 1)), .mv 1 (.s 43)] [0,1,5]))))))))
(pr [.mv 10 (.s 5), .bin 11 false .add (.s 10) (.c (.int .i64 1)), .mv 5 (.s 11)] [0,1,5]))))))
(.seq (pr [.mv 44 (.s 1), .mv 4 (.s 44)] [4])
.ret)))
theorem c_laws_markLibraryS (xs : List GLibrary) (k : Int) (hk : 0 ≤ k) (hN : k + (ctL GLibrary.ct xs : Nat) ≤ 4611686018427387904) : CtrI Tryz.prog n_laws_markLibraryS [oL 4 (xs.map GLibrary.enc), iI k] [some (4, (mkL GLibrary.mkd GLibrary.ct xs k).map GLibrary.enc)] [rI (k + (ctL GLibrary.ct xs : Nat))] := by
  refine ctrI_at (M := m_laws_markLibraryS) (m := 1) (n := 45) (res := [(.tmp 4, [false])]) hmix Tryz.func101 rfl (by kernel_rfl) rfl (by kernel_rfl) (by kernel_rfl) (Nat.le_of_ble_eq_true rfl) rfl rfl ?_; unfold m_laws_markLibraryS
  intro hb
  have hl := len_of_bd hb
  clear hb
  simp only [↓bk_bind, ↓bk_map, ↓bk_ite, ↓bk_some, ↓reduceIte, Nat.reduceEqDiff, Nat.reduceLT, Nat.reduceLeDiff, Nat.reduceAdd, Nat.reduceMul, reduceCtorEq, List.reduceReplicate, go_sem]
  refine loopK_rng xs (fun i => [(1, vI (k + (ctL GLibrary.ct (xs.take i) : Nat))), (5, vI i)]) (fun i => [(0, ⟨1, .row true 4 ((mkL GLibrary.mkd GLibrary.ct (xs.take i) k).map GLibrary.enc ++ (xs.drop i).map GLibrary.enc)⟩)]) (fun _ => True) hl ?_
  simp only [↓bk_bind, ↓bk_map, ↓bk_ite, ↓bk_some, ↓reduceIte, Nat.reduceEqDiff, Nat.reduceLT, Nat.reduceLeDiff, Nat.reduceAdd, Nat.reduceMul, reduceCtorEq, List.reduceReplicate, go_sem]
  refine ⟨?_, trivial, ?_, ?_⟩
  · simp only [↓bk_bind, ↓bk_map, ↓bk_ite, ↓bk_some, ↓reduceIte, Nat.reduceEqDiff, Nat.reduceLT, Nat.reduceLeDiff, Nat.reduceAdd, Nat.reduceMul, reduceCtorEq, List.reduceReplicate, go_sem, List.take_zero, List.drop_zero, mkL_nil, ctL_nil]
    all_goals simp
  · intro i x hx _ h0 h1 hw
    have hR := mid_of (mk := GLibrary.mkd) (c := GLibrary.ct) (k := k) (f := GLibrary.enc) hx
    have hA := mid_at (mk := GLibrary.mkd) (c := GLibrary.ct) (k := k) (f := GLibrary.enc) hx
    generalize hAe : (mkL GLibrary.mkd GLibrary.ct (xs.take i) k).map GLibrary.enc = A at hR hA
    generalize hBe : (xs.drop (i + 1)).map GLibrary.enc = B at hR hA
    obtain ⟨hg, hs, hl, hd⟩ := hA
    have hc := ctL_take_le (c := GLibrary.ct) (i + 1) (l := xs)
    rw [ctL_snoc hx] at hc
    have hK0 : 0 ≤ k + ((ctL GLibrary.ct (xs.take i) : Nat) : Int) := by omega
    have hK1 : k + ((ctL GLibrary.ct (xs.take i) : Nat) : Int) + (GLibrary.ct x : Nat) ≤ 4611686018427387904 := by omega
    generalize hK : k + ((ctL GLibrary.ct (xs.take i) : Nat) : Int) = K at hK0 hK1
    simp only [GLibrary.ct] at hK1
    simp only [↓bk_bind, ↓bk_map, ↓bk_ite, ↓bk_some, ↓reduceIte, Nat.reduceEqDiff, Nat.reduceLT, Nat.reduceLeDiff, Nat.reduceAdd, Nat.reduceMul, reduceCtorEq, List.reduceReplicate, go_sem, hw, hR, hg, hs, hl, hd, h0, h1, three_ne, hK, waK (K := K) (K' := K) rfl (by omega) (by omega), waK (K := K + 1) (K' := K + 1) (by omega) (by omega) (by omega), waK (K := K + 1) (K' := K + 1) rfl (by omega) (by omega), waK (K := K + 1 + 1) (K' := K + 2) (by omega) (by omega) (by omega)]
    refine callIK_of (c_laws_markIntS x.Digests (K + 1) (by omega) (by omega)) ?_
    have hK1 : 0 ≤ K + 1 + (ctL iCt x.Digests : Nat) := by omega
    generalize eK1 : K + 1 + ((ctL iCt x.Digests : Nat) : Int) = K1 at hK1
    simp only [↓bk_bind, ↓bk_map, ↓bk_ite, ↓bk_some, ↓reduceIte, Nat.reduceEqDiff, Nat.reduceLT, Nat.reduceLeDiff, Nat.reduceAdd, Nat.reduceMul, reduceCtorEq, List.reduceReplicate, go_sem, hw, hR, hg, hs, hl, hd, h0, h1, three_ne, hK, waK (K := K1) (K' := K1) rfl (by omega) (by omega), waK (K := K1 + 1) (K' := K1 + 1) (by omega) (by omega) (by omega), waK (K := K1 + 1) (K' := K1 + 1) rfl (by omega) (by omega), waK (K := K1 + 1 + 1) (K' := K1 + 2) (by omega) (by omega) (by omega), waK (K := K1 + 2) (K' := K1 + 2) rfl (by omega) (by omega), waK (K := K1 + 2 + 1) (K' := K1 + 3) (by omega) (by omega) (by omega)]
    subst eK1
    subst hK hAe hBe
    refine ⟨?_, mid_snoc hx⟩
    rw [ctL_snoc hx]
    simp only [GLibrary.ct]
    omega
  · intro _
    simp only [↓bk_bind, ↓bk_map, ↓bk_ite, ↓bk_some, ↓reduceIte, Nat.reduceEqDiff, Nat.reduceLT, Nat.reduceLeDiff, Nat.reduceAdd, Nat.reduceMul, reduceCtorEq, List.reduceReplicate, go_sem, List.take_length, List.drop_length, List.map_nil, List.append_nil, mkL_len]
def GLibrary.mks (x : GLibrary) (k : Int) : GLibrary := { x with Digests := mkL iMk iCt x.Digests (k) }
def GLibrary.cts (x : GLibrary) : Nat := ctL iCt x.Digests
theorem GLibrary.cts_le (x : GLibrary) : x.cts ≤ 16 * x.size := by
  simp only [GLibrary.cts, GLibrary.size]
  have hDigests := ctL_le' (c := iCt) (fun y => by simp only [iCt]; omega) x.Digests
  omega
@[go_sem] theorem GLibrary.mks_len0 (x : GLibrary) (k : Int) : ((x.mks k).Digests).length = x.Digests.length := mkL_len
def GContainer.mkd (x : GContainer) (k : Int) : GContainer := ⟨(mkL GOp.mkd GOp.ct x.Script k), (mkL GEntry.mkd GEntry.ct x.Entries (k + (ctL GOp.ct x.Script : Nat))), (mkL GCapture.mkd GCapture.ct x.Captures ((k + (ctL GOp.ct x.Script : Nat)) + (ctL GEntry.ct x.Entries : Nat))), (((k + (ctL GOp.ct x.Script : Nat)) + (ctL GEntry.ct x.Entries : Nat)) + (ctL GCapture.ct x.Captures : Nat))⟩
def GContainer.ct (x : GContainer) : Nat := 1 + ctL GOp.ct x.Script + ctL GEntry.ct x.Entries + ctL GCapture.ct x.Captures
theorem GContainer.ct_le (x : GContainer) : x.ct ≤ 16 * (1 + x.size) := by
  simp only [GContainer.ct, GContainer.size]
  have h0 := ctL_le' (c := GOp.ct) (fun y => by simp only [GOp.ct]; omega) x.Script
  have h1 := ctL_le' (c := GEntry.ct) (fun y => by simp only [GEntry.ct]; omega) x.Entries
  have h2 := ctL_le (c := GCapture.ct) (s := GCapture.size) GCapture.ct_le x.Captures
  omega
def m_laws_markContainerS : MC :=
(.seq (pr [.mv 4 (.c (.int .i64 0))] [0,1])
(.seq (.seq (pr [.mv 5 (.c (.int .i64 0))] [0,1,5])
(.block 0 (.loop ([0,1,5], [1,2,3]) (.seq (.seq (pr [.mv 6 (.s 5), .mv 7 (.s 0), .len 8 false (.s 7), .bin 9 false .lss (.s 6) (.s 8)] [0,1,5,9])
(.cond (.s 9) .skip (.exit 0)))
(.seq (.block 1 (.seq (pr [.mv 12 (.s 0), .mv 13 (.s 5), .idx 14 4 (.s 12) (.s 13), .fld 15 (.s 14) 0, .loadT 16 1 (.s 15), .mv 17 (.s 1), .callI 18 [] (.f n_laws_markOpS) [.s 16, .s 17] [1] [0], .mv 1 (.s 18)] [0,1,5])
(.seq (pr [.mv 19 (.s 0), .mv 20 (.s 5), .idx 21 4 (.s 19) (.s 20), .fld 22 (.s 21) 1, .loadT 23 2 (.s 22), .mv 24 (.s 1), .callI 25 [] (.f n_laws_markEntryS) [.s 23, .s 24] [2] [0], .mv 1 (.s 25)] [0,1,5])
(.seq (pr [.mv 26 (.s 0), .mv 27 (.s 5), .idx 28 4 (.s 26) (.s 27), .fld 29 (.s 28) 2, .loadT 30 3 (.s 29), .mv 31 (.s 1), .callI 32 [] (.f n_laws_markCaptureS) [.s 30, .s 31] [3] [0], .mv 1 (.s 32)] [0,1,5])
(.seq (pr [.mv 33 (.s 0), .mv 34 (.s 5), .mv 35 (.s 1), .idx 36 4 (.s 33) (.s 34), .fld 37 (.s 36) 3, .store 1 (.s 37) (.s 35)] [0,1,5])
(pr [.mv 38 (.s 1), .bin 39 false .add (.s 38) (.c (.int .i64 1)), .mv 1 (.s 39)] [0,1,5]))))))
(pr [.mv 10 (.s 5), .bin 11 false .add (.s 10) (.c (.int .i64 1)), .mv 5 (.s 11)] [0,1,5]))))))
(.seq (pr [.mv 40 (.s 1), .mv 4 (.s 40)] [4])
.ret)))
theorem c_laws_markContainerS (xs : List GContainer) (k : Int) (hk : 0 ≤ k) (hN : k + (ctL GContainer.ct xs : Nat) ≤ 4611686018427387904) : CtrI Tryz.prog n_laws_markContainerS [oL 4 (xs.map GContainer.enc), iI k] [some (4, (mkL GContainer.mkd GContainer.ct xs k).map GContainer.enc)] [rI (k + (ctL GContainer.ct xs : Nat))] := by
  refine ctrI_at (M := m_laws_markContainerS) (m := 3) (n := 41) (res := [(.tmp 4, [false])]) hmix Tryz.func107 rfl (by kernel_rfl) rfl (by kernel_rfl) (by kernel_rfl) (Nat.le_of_ble_eq_true rfl) rfl rfl ?_; unfold m_laws_markContainerS
  intro hb
  have hl := len_of_bd hb
  clear hb
  simp only [↓bk_bind, ↓bk_map, ↓bk_ite, ↓bk_some, ↓reduceIte, Nat.reduceEqDiff, Nat.reduceLT, Nat.reduceLeDiff, Nat.reduceAdd, Nat.reduceMul, reduceCtorEq, List.reduceReplicate, go_sem]
  refine loopK_rng xs (fun i => [(1, vI (k + (ctL GContainer.ct (xs.take i) : Nat))), (5, vI i)]) (fun i => [(0, ⟨1, .row true 4 ((mkL GContainer.mkd GContainer.ct (xs.take i) k).map GContainer.enc ++ (xs.drop i).map GContainer.enc)⟩)]) (fun _ => True) hl ?_
  simp only [↓bk_bind, ↓bk_map, ↓bk_ite, ↓bk_some, ↓reduceIte, Nat.reduceEqDiff, Nat.reduceLT, Nat.reduceLeDiff, Nat.reduceAdd, Nat.reduceMul, reduceCtorEq, List.reduceReplicate, go_sem]
  refine ⟨?_, trivial, ?_, ?_⟩
  · simp only [↓bk_bind, ↓bk_map, ↓bk_ite, ↓bk_some, ↓reduceIte, Nat.reduceEqDiff, Nat.reduceLT, Nat.reduceLeDiff, Nat.reduceAdd, Nat.reduceMul, reduceCtorEq, List.reduceReplicate, go_sem, List.take_zero, List.drop_zero, mkL_nil, ctL_nil]
    all_goals simp
  · intro i x hx _ h0 h1 hw
    have hR := mid_of (mk := GContainer.mkd) (c := GContainer.ct) (k := k) (f := GContainer.enc) hx
    have hA := mid_at (mk := GContainer.mkd) (c := GContainer.ct) (k := k) (f := GContainer.enc) hx
    generalize hAe : (mkL GContainer.mkd GContainer.ct (xs.take i) k).map GContainer.enc = A at hR hA
    generalize hBe : (xs.drop (i + 1)).map GContainer.enc = B at hR hA
    obtain ⟨hg, hs, hl, hd⟩ := hA
    have hc := ctL_take_le (c := GContainer.ct) (i + 1) (l := xs)
    rw [ctL_snoc hx] at hc
    have hK0 : 0 ≤ k + ((ctL GContainer.ct (xs.take i) : Nat) : Int) := by omega
    have hK1 : k + ((ctL GContainer.ct (xs.take i) : Nat) : Int) + (GContainer.ct x : Nat) ≤ 4611686018427387904 := by omega
    generalize hK : k + ((ctL GContainer.ct (xs.take i) : Nat) : Int) = K at hK0 hK1
    simp only [GContainer.ct] at hK1
    simp only [↓bk_bind, ↓bk_map, ↓bk_ite, ↓bk_some, ↓reduceIte, Nat.reduceEqDiff, Nat.reduceLT, Nat.reduceLeDiff, Nat.reduceAdd, Nat.reduceMul, reduceCtorEq, List.reduceReplicate, go_sem, hw, hR, hg, hs, hl, hd, h0, h1, three_ne, hK, waK (K := K) (K' := K) rfl (by omega) (by omega), waK (K := K + 1) (K' := K + 1) (by omega) (by omega) (by omega)]
    refine callIK_of (c_laws_markOpS x.Script K (by omega) (by omega)) ?_
    have hK1 : 0 ≤ K + (ctL GOp.ct x.Script : Nat) := by omega
    generalize eK1 : K + ((ctL GOp.ct x.Script : Nat) : Int) = K1 at hK1
    simp only [↓bk_bind, ↓bk_map, ↓bk_ite, ↓bk_some, ↓reduceIte, Nat.reduceEqDiff, Nat.reduceLT, Nat.reduceLeDiff, Nat.reduceAdd, Nat.reduceMul, reduceCtorEq, List.reduceReplicate, go_sem, hw, hR, hg, hs, hl, hd, h0, h1, three_ne, hK, waK (K := K1) (K' := K1) rfl (by omega) (by omega), waK (K := K1 + 1) (K' := K1 + 1) (by omega) (by omega) (by omega)]
    refine callIK_of (c_laws_markEntryS x.Entries K1 (by omega) (by omega)) ?_
    have hK2 : 0 ≤ K1 + (ctL GEntry.ct x.Entries : Nat) := by omega
    generalize eK2 : K1 + ((ctL GEntry.ct x.Entries : Nat) : Int) = K2 at hK2
    simp only [↓bk_bind, ↓bk_map, ↓bk_ite, ↓bk_some, ↓reduceIte, Nat.reduceEqDiff, Nat.reduceLT, Nat.reduceLeDiff, Nat.reduceAdd, Nat.reduceMul, reduceCtorEq, List.reduceReplicate, go_sem, hw, hR, hg, hs, hl, hd, h0, h1, three_ne, hK, waK (K := K2) (K' := K2) rfl (by omega) (by omega), waK (K := K2 + 1) (K' := K2 + 1) (by omega) (by omega) (by omega)]
    refine callIK_of (c_laws_markCaptureS x.Captures K2 (by omega) (by omega)) ?_
    have hK3 : 0 ≤ K2 + (ctL GCapture.ct x.Captures : Nat) := by omega
    generalize eK3 : K2 + ((ctL GCapture.ct x.Captures : Nat) : Int) = K3 at hK3
    simp only [↓bk_bind, ↓bk_map, ↓bk_ite, ↓bk_some, ↓reduceIte, Nat.reduceEqDiff, Nat.reduceLT, Nat.reduceLeDiff, Nat.reduceAdd, Nat.reduceMul, reduceCtorEq, List.reduceReplicate, go_sem, hw, hR, hg, hs, hl, hd, h0, h1, three_ne, hK, waK (K := K3) (K' := K3) rfl (by omega) (by omega), waK (K := K3 + 1) (K' := K3 + 1) (by omega) (by omega) (by omega), waK (K := K3 + 1) (K' := K3 + 1) rfl (by omega) (by omega), waK (K := K3 + 1 + 1) (K' := K3 + 2) (by omega) (by omega) (by omega)]
    subst eK3
    subst eK2
    subst eK1
    subst hK hAe hBe
    refine ⟨?_, mid_snoc hx⟩
    rw [ctL_snoc hx]
    simp only [GContainer.ct]
    omega
  · intro _
    simp only [↓bk_bind, ↓bk_map, ↓bk_ite, ↓bk_some, ↓reduceIte, Nat.reduceEqDiff, Nat.reduceLT, Nat.reduceLeDiff, Nat.reduceAdd, Nat.reduceMul, reduceCtorEq, List.reduceReplicate, go_sem, List.take_length, List.drop_length, List.map_nil, List.append_nil, mkL_len]
def GContainer.mks (x : GContainer) (k : Int) : GContainer := { x with Script := mkL GOp.mkd GOp.ct x.Script (k), Entries := mkL GEntry.mkd GEntry.ct x.Entries (k + (ctL GOp.ct x.Script : Nat)), Captures := mkL GCapture.mkd GCapture.ct x.Captures (k + (ctL GOp.ct x.Script : Nat) + (ctL GEntry.ct x.Entries : Nat)) }
def GContainer.cts (x : GContainer) : Nat := ctL GOp.ct x.Script + ctL GEntry.ct x.Entries + ctL GCapture.ct x.Captures
theorem GContainer.cts_le (x : GContainer) : x.cts ≤ 16 * x.size := by
  simp only [GContainer.cts, GContainer.size]
  have hScript := ctL_le' (c := GOp.ct) (fun y => by simp only [GOp.ct]; omega) x.Script
  have hEntries := ctL_le' (c := GEntry.ct) (fun y => by simp only [GEntry.ct]; omega) x.Entries
  have hCaptures := ctL_le (c := GCapture.ct) (s := GCapture.size) GCapture.ct_le x.Captures
  omega
@[go_sem] theorem GContainer.mks_len0 (x : GContainer) (k : Int) : ((x.mks k).Script).length = x.Script.length := mkL_len
@[go_sem] theorem GContainer.mks_len1 (x : GContainer) (k : Int) : ((x.mks k).Entries).length = x.Entries.length := mkL_len
@[go_sem] theorem GContainer.mks_len2 (x : GContainer) (k : Int) : ((x.mks k).Captures).length = x.Captures.length := mkL_len
def GFound.mkd (x : GFound) (k : Int) : GFound := ⟨⟨k, (k + 1), (k + 2)⟩, (k + 3), (k + 4), (k + 5)⟩
def GFound.ct (x : GFound) : Nat := 6
def m_laws_markFoundS : MC :=
(.seq (pr [.mv 4 (.c (.int .i64 0))] [0,1])
(.seq (.seq (pr [.mv 5 (.c (.int .i64 0))] [0,1,5])
(.block 0 (.loop ([0,1,5], []) (.seq (.seq (pr [.mv 6 (.s 5), .mv 7 (.s 0), .len 8 false (.s 7), .bin 9 false .lss (.s 6) (.s 8)] [0,1,5,9])
(.cond (.s 9) .skip (.exit 0)))
(.seq (.block 1 (.seq (pr [.mv 12 (.s 0), .mv 13 (.s 5), .mv 14 (.s 1), .idx 15 6 (.s 12) (.s 13), .fld 16 (.s 15) 0, .fld 17 (.s 16) 0, .store 1 (.s 17) (.s 14)] [0,1,5])
(.seq (pr [.mv 18 (.s 1), .bin 19 false .add (.s 18) (.c (.int .i64 1)), .mv 1 (.s 19)] [0,1,5])
(.seq (pr [.mv 20 (.s 0), .mv 21 (.s 5), .mv 22 (.s 1), .idx 23 6 (.s 20) (.s 21), .fld 24 (.s 23) 0, .fld 25 (.s 24) 1, .store 1 (.s 25) (.s 22)] [0,1,5])
(.seq (pr [.mv 26 (.s 1), .bin 27 false .add (.s 26) (.c (.int .i64 1)), .mv 1 (.s 27)] [0,1,5])
(.seq (pr [.mv 28 (.s 0), .mv 29 (.s 5), .mv 30 (.s 1), .idx 31 6 (.s 28) (.s 29), .fld 32 (.s 31) 0, .fld 33 (.s 32) 2, .store 1 (.s 33) (.s 30)] [0,1,5])
(.seq (pr [.mv 34 (.s 1), .bin 35 false .add (.s 34) (.c (.int .i64 1)), .mv 1 (.s 35)] [0,1,5])
(.seq (pr [.mv 36 (.s 0), .mv 37 (.s 5), .mv 38 (.s 1), .idx 39 6 (.s 36) (.s 37), .fld 40 (.s 39) 3, .store 1 (.s 40) (.s 38)] [0,1,5])
(.seq (pr [.mv 41 (.s 1), .bin 42 false .add (.s 41) (.c (.int .i64 1)), .mv 1 (.s 42)] [0,1,5])
(.seq (pr [.mv 43 (.s 0), .mv 44 (.s 5), .mv 45 (.s 1), .idx 46 6 (.s 43) (.s 44), .fld 47 (.s 46) 4, .store 1 (.s 47) (.s 45)] [0,1,5])
(.seq (pr [.mv 48 (.s 1), .bin 49 false .add (.s 48) (.c (.int .i64 1)), .mv 1 (.s 49)] [0,1,5])
(.seq (pr [.mv 50 (.s 0), .mv 51 (.s 5), .mv 52 (.s 1), .idx 53 6 (.s 50) (.s 51), .fld 54 (.s 53) 5, .store 1 (.s 54) (.s 52)] [0,1,5])
(pr [.mv 55 (.s 1), .bin 56 false .add (.s 55) (.c (.int .i64 1)), .mv 1 (.s 56)] [0,1,5])))))))))))))
(pr [.mv 10 (.s 5), .bin 11 false .add (.s 10) (.c (.int .i64 1)), .mv 5 (.s 11)] [0,1,5]))))))
(.seq (pr [.mv 57 (.s 1), .mv 4 (.s 57)] [4])
.ret)))
theorem c_laws_markFoundS (xs : List GFound) (k : Int) (hk : 0 ≤ k) (hN : k + (ctL GFound.ct xs : Nat) ≤ 4611686018427387904) : CtrI Tryz.prog n_laws_markFoundS [oL 6 (xs.map GFound.enc), iI k] [some (6, (mkL GFound.mkd GFound.ct xs k).map GFound.enc)] [rI (k + (ctL GFound.ct xs : Nat))] := by
  refine ctrI_at (M := m_laws_markFoundS) (m := 0) (n := 58) (res := [(.tmp 4, [false])]) hmix Tryz.func108 rfl (by kernel_rfl) rfl (by kernel_rfl) (by kernel_rfl) (Nat.le_of_ble_eq_true rfl) rfl rfl ?_; unfold m_laws_markFoundS
  intro hb
  have hl := len_of_bd hb
  clear hb
  simp only [↓bk_bind, ↓bk_map, ↓bk_ite, ↓bk_some, ↓reduceIte, Nat.reduceEqDiff, Nat.reduceLT, Nat.reduceLeDiff, Nat.reduceAdd, Nat.reduceMul, reduceCtorEq, List.reduceReplicate, go_sem]
  refine loopK_rng xs (fun i => [(1, vI (k + (ctL GFound.ct (xs.take i) : Nat))), (5, vI i)]) (fun i => [(0, ⟨1, .row true 6 ((mkL GFound.mkd GFound.ct (xs.take i) k).map GFound.enc ++ (xs.drop i).map GFound.enc)⟩)]) (fun _ => True) hl ?_
  simp only [↓bk_bind, ↓bk_map, ↓bk_ite, ↓bk_some, ↓reduceIte, Nat.reduceEqDiff, Nat.reduceLT, Nat.reduceLeDiff, Nat.reduceAdd, Nat.reduceMul, reduceCtorEq, List.reduceReplicate, go_sem]
  refine ⟨?_, trivial, ?_, ?_⟩
  · simp only [↓bk_bind, ↓bk_map, ↓bk_ite, ↓bk_some, ↓reduceIte, Nat.reduceEqDiff, Nat.reduceLT, Nat.reduceLeDiff, Nat.reduceAdd, Nat.reduceMul, reduceCtorEq, List.reduceReplicate, go_sem, List.take_zero, List.drop_zero, mkL_nil, ctL_nil]
    all_goals simp
  · intro i x hx _ h0 h1 hw
    have hR := mid_of (mk := GFound.mkd) (c := GFound.ct) (k := k) (f := GFound.enc) hx
    have hA := mid_at (mk := GFound.mkd) (c := GFound.ct) (k := k) (f := GFound.enc) hx
    generalize hAe : (mkL GFound.mkd GFound.ct (xs.take i) k).map GFound.enc = A at hR hA
    generalize hBe : (xs.drop (i + 1)).map GFound.enc = B at hR hA
    obtain ⟨hg, hs, hl, hd⟩ := hA
    have hc := ctL_take_le (c := GFound.ct) (i + 1) (l := xs)
    rw [ctL_snoc hx] at hc
    have hK0 : 0 ≤ k + ((ctL GFound.ct (xs.take i) : Nat) : Int) := by omega
    have hK1 : k + ((ctL GFound.ct (xs.take i) : Nat) : Int) + (GFound.ct x : Nat) ≤ 4611686018427387904 := by omega
    generalize hK : k + ((ctL GFound.ct (xs.take i) : Nat) : Int) = K at hK0 hK1
    simp only [GFound.ct] at hK1
    simp only [↓bk_bind, ↓bk_map, ↓bk_ite, ↓bk_some, ↓reduceIte, Nat.reduceEqDiff, Nat.reduceLT, Nat.reduceLeDiff, Nat.reduceAdd, Nat.reduceMul, reduceCtorEq, List.reduceReplicate, go_sem, hw, hR, hg, hs, hl, hd, h0, h1, three_ne, hK, waK (K := K) (K' := K) rfl (by omega) (by omega), waK (K := K + 1) (K' := K + 1) (by omega) (by omega) (by omega), waK (K := K + 1) (K' := K + 1) rfl (by omega) (by omega), waK (K := K + 1 + 1) (K' := K + 2) (by omega) (by omega) (by omega), waK (K := K + 2) (K' := K + 2) rfl (by omega) (by omega), waK (K := K + 2 + 1) (K' := K + 3) (by omega) (by omega) (by omega), waK (K := K + 3) (K' := K + 3) rfl (by omega) (by omega), waK (K := K + 3 + 1) (K' := K + 4) (by omega) (by omega) (by omega), waK (K := K + 4) (K' := K + 4) rfl (by omega) (by omega), waK (K := K + 4 + 1) (K' := K + 5) (by omega) (by omega) (by omega), waK (K := K + 5) (K' := K + 5) rfl (by omega) (by omega), waK (K := K + 5 + 1) (K' := K + 6) (by omega) (by omega) (by omega), waK (K := K + 6) (K' := K + 6) rfl (by omega) (by omega), waK (K := K + 6 + 1) (K' := K + 7) (by omega) (by omega) (by omega)]
    subst hK hAe hBe
    refine ⟨?_, mid_snoc hx⟩
    rw [ctL_snoc hx]
    simp only [GFound.ct]
    omega
  · intro _
    simp only [↓bk_bind, ↓bk_map, ↓bk_ite, ↓bk_some, ↓reduceIte, Nat.reduceEqDiff, Nat.reduceLT, Nat.reduceLeDiff, Nat.reduceAdd, Nat.reduceMul, reduceCtorEq, List.reduceReplicate, go_sem, List.take_length, List.drop_length, List.map_nil, List.append_nil, mkL_len]
def GDisk.mks (x : GDisk) (k : Int) : GDisk := { x with Containers := mkL GContainer.mkd GContainer.ct x.Containers (k), Index := mkL GFound.mkd GFound.ct x.Index (k + (ctL GContainer.ct x.Containers : Nat)), Wanted := mkL GContainer.mkd GContainer.ct x.Wanted (k + (ctL GContainer.ct x.Containers : Nat) + (ctL GFound.ct x.Index : Nat)) }
def GDisk.cts (x : GDisk) : Nat := ctL GContainer.ct x.Containers + ctL GFound.ct x.Index + ctL GContainer.ct x.Wanted
theorem GDisk.cts_le (x : GDisk) : x.cts ≤ 16 * x.size := by
  simp only [GDisk.cts, GDisk.size]
  have hContainers := ctL_le (c := GContainer.ct) (s := GContainer.size) GContainer.ct_le x.Containers
  have hIndex := ctL_le' (c := GFound.ct) (fun y => by simp only [GFound.ct]; omega) x.Index
  have hWanted := ctL_le (c := GContainer.ct) (s := GContainer.size) GContainer.ct_le x.Wanted
  omega
@[go_sem] theorem GDisk.mks_len0 (x : GDisk) (k : Int) : ((x.mks k).Containers).length = x.Containers.length := mkL_len
@[go_sem] theorem GDisk.mks_len1 (x : GDisk) (k : Int) : ((x.mks k).Index).length = x.Index.length := mkL_len
@[go_sem] theorem GDisk.mks_len2 (x : GDisk) (k : Int) : ((x.mks k).Wanted).length = x.Wanted.length := mkL_len
def m_laws_markDisk : MC :=
(.seq (pr [.box 2 3 (.s 0), .mv 4 (.c (.int .i64 0))] [1,2])
(.seq (pr [.fld 5 (.s 2) 0, .load 6 false 1 (.s 5), .mv 7 (.s 1), .callI 8 [] (.f n_laws_markContainerS) [.s 6, .s 7] [0] [], .mv 1 (.s 8)] [1,2])
(.seq (pr [.fld 9 (.s 2) 1, .load 10 false 1 (.s 9), .mv 11 (.s 1), .callI 12 [] (.f n_laws_markFoundS) [.s 10, .s 11] [1] [], .mv 1 (.s 12)] [1,2])
(.seq (pr [.fld 13 (.s 2) 2, .load 14 false 1 (.s 13), .mv 15 (.s 1), .callI 16 [] (.f n_laws_markContainerS) [.s 14, .s 15] [2] [], .mv 1 (.s 16)] [1])
(.seq (pr [.mv 17 (.s 1), .mv 4 (.s 17)] [4])
.ret)))))
theorem c_laws_markDisk (x : GDisk) (k : Int) (hk : 0 ≤ k) (hN : k + (x.cts : Nat) ≤ 4611686018427387904) : CtrI Tryz.prog n_laws_markDisk [oS x.enc, iI k] [some (4, (x.mks k).Containers.map GContainer.enc), some (6, (x.mks k).Index.map GFound.enc), some (4, (x.mks k).Wanted.map GContainer.enc)] [rI (k + (x.cts : Nat))] := by
  refine ctrI_at (M := m_laws_markDisk) (m := 1) (n := 18) (res := [(.tmp 4, [false])]) hmix Tryz.func36 rfl (by kernel_rfl) rfl (by kernel_rfl) (by kernel_rfl) (Nat.le_of_ble_eq_true rfl) rfl rfl ?_; unfold m_laws_markDisk
  intro hb
  clear hb
  simp only [GDisk.cts] at hN ⊢
  simp only [↓bk_bind, ↓bk_map, ↓bk_ite, ↓bk_some, ↓reduceIte, Nat.reduceEqDiff, Nat.reduceLT, Nat.reduceLeDiff, Nat.reduceAdd, Nat.reduceMul, reduceCtorEq, List.reduceReplicate, go_sem]
  refine callIK_of (c_laws_markContainerS x.Containers (k) (by omega) (by omega)) ?_
  simp only [↓bk_bind, ↓bk_map, ↓bk_ite, ↓bk_some, ↓reduceIte, Nat.reduceEqDiff, Nat.reduceLT, Nat.reduceLeDiff, Nat.reduceAdd, Nat.reduceMul, reduceCtorEq, List.reduceReplicate, go_sem]
  refine callIK_of (c_laws_markFoundS x.Index (k + (ctL GContainer.ct x.Containers : Nat)) (by omega) (by omega)) ?_
  simp only [↓bk_bind, ↓bk_map, ↓bk_ite, ↓bk_some, ↓reduceIte, Nat.reduceEqDiff, Nat.reduceLT, Nat.reduceLeDiff, Nat.reduceAdd, Nat.reduceMul, reduceCtorEq, List.reduceReplicate, go_sem]
  refine callIK_of (c_laws_markContainerS x.Wanted (k + (ctL GContainer.ct x.Containers : Nat) + (ctL GFound.ct x.Index : Nat)) (by omega) (by omega)) ?_
  simp only [↓bk_bind, ↓bk_map, ↓bk_ite, ↓bk_some, ↓reduceIte, Nat.reduceEqDiff, Nat.reduceLT, Nat.reduceLeDiff, Nat.reduceAdd, Nat.reduceMul, reduceCtorEq, List.reduceReplicate, go_sem]
  all_goals (try omega)
  repeat' (first | rfl | omega | refine And.intro ?_ ?_)
def GArchive.mks (x : GArchive) (k : Int) : GArchive := { x with Site := mkL GVersion.mkd GVersion.ct x.Site (k), Script := mkL GOp.mkd GOp.ct x.Script (k + (ctL GVersion.ct x.Site : Nat)), Disk := x.Disk.mks (k + (ctL GVersion.ct x.Site : Nat) + (ctL GOp.ct x.Script : Nat)), Exclusions := mkL GExclusion.mkd GExclusion.ct x.Exclusions (k + (ctL GVersion.ct x.Site : Nat) + (ctL GOp.ct x.Script : Nat) + (x.Disk.cts : Nat)), Libraries := mkL GLibrary.mkd GLibrary.ct x.Libraries (k + (ctL GVersion.ct x.Site : Nat) + (ctL GOp.ct x.Script : Nat) + (x.Disk.cts : Nat) + (ctL GExclusion.ct x.Exclusions : Nat)), Keys := mkL iMk iCt x.Keys (k + (ctL GVersion.ct x.Site : Nat) + (ctL GOp.ct x.Script : Nat) + (x.Disk.cts : Nat) + (ctL GExclusion.ct x.Exclusions : Nat) + (ctL GLibrary.ct x.Libraries : Nat)), Statements := mkL GStatement.mkd GStatement.ct x.Statements (k + (ctL GVersion.ct x.Site : Nat) + (ctL GOp.ct x.Script : Nat) + (x.Disk.cts : Nat) + (ctL GExclusion.ct x.Exclusions : Nat) + (ctL GLibrary.ct x.Libraries : Nat) + (ctL iCt x.Keys : Nat)) }
def GArchive.cts (x : GArchive) : Nat := ctL GVersion.ct x.Site + ctL GOp.ct x.Script + x.Disk.cts + ctL GExclusion.ct x.Exclusions + ctL GLibrary.ct x.Libraries + ctL iCt x.Keys + ctL GStatement.ct x.Statements
theorem GArchive.cts_le (x : GArchive) : x.cts ≤ 16 * x.size := by
  simp only [GArchive.cts, GArchive.size]
  have hSite := ctL_le (c := GVersion.ct) (s := GVersion.size) GVersion.ct_le x.Site
  have hScript := ctL_le' (c := GOp.ct) (fun y => by simp only [GOp.ct]; omega) x.Script
  have hDisk := GDisk.cts_le x.Disk
  have hExclusions := ctL_le' (c := GExclusion.ct) (fun y => by simp only [GExclusion.ct]; omega) x.Exclusions
  have hLibraries := ctL_le (c := GLibrary.ct) (s := GLibrary.size) GLibrary.ct_le x.Libraries
  have hKeys := ctL_le' (c := iCt) (fun y => by simp only [iCt]; omega) x.Keys
  have hStatements := ctL_le' (c := GStatement.ct) (fun y => by simp only [GStatement.ct]; omega) x.Statements
  omega
@[go_sem] theorem GArchive.mks_len0 (x : GArchive) (k : Int) : ((x.mks k).Site).length = x.Site.length := mkL_len
@[go_sem] theorem GArchive.mks_len1 (x : GArchive) (k : Int) : ((x.mks k).Script).length = x.Script.length := mkL_len
@[go_sem] theorem GArchive.mks_len2 (x : GArchive) (k : Int) : ((x.mks k).Disk.Containers).length = x.Disk.Containers.length := mkL_len
@[go_sem] theorem GArchive.mks_len3 (x : GArchive) (k : Int) : ((x.mks k).Disk.Index).length = x.Disk.Index.length := mkL_len
@[go_sem] theorem GArchive.mks_len4 (x : GArchive) (k : Int) : ((x.mks k).Disk.Wanted).length = x.Disk.Wanted.length := mkL_len
@[go_sem] theorem GArchive.mks_len5 (x : GArchive) (k : Int) : ((x.mks k).Exclusions).length = x.Exclusions.length := mkL_len
@[go_sem] theorem GArchive.mks_len6 (x : GArchive) (k : Int) : ((x.mks k).Libraries).length = x.Libraries.length := mkL_len
@[go_sem] theorem GArchive.mks_len7 (x : GArchive) (k : Int) : ((x.mks k).Keys).length = x.Keys.length := mkL_len
@[go_sem] theorem GArchive.mks_len8 (x : GArchive) (k : Int) : ((x.mks k).Statements).length = x.Statements.length := mkL_len
def m_laws_markArchive : MC :=
(.seq (pr [.box 2 9 (.s 0), .mv 4 (.c (.int .i64 0))] [1,2])
(.seq (pr [.fld 5 (.s 2) 0, .load 6 false 1 (.s 5), .mv 7 (.s 1), .callI 8 [] (.f n_laws_markVersionS) [.s 6, .s 7] [0] [], .mv 1 (.s 8)] [1,2])
(.seq (pr [.fld 9 (.s 2) 1, .load 10 false 1 (.s 9), .mv 11 (.s 1), .callI 12 [] (.f n_laws_markOpS) [.s 10, .s 11] [1] [], .mv 1 (.s 12)] [1,2])
(.seq (pr [.fld 13 (.s 2) 2, .load 14 true 3 (.s 13), .mv 15 (.s 1), .callI 16 [] (.f n_laws_markDisk) [.s 14, .s 15] [2,3,4] [], .mv 1 (.s 16)] [1,2])
(.seq (pr [.fld 17 (.s 2) 5, .load 18 false 1 (.s 17), .mv 19 (.s 1), .callI 20 [] (.f n_laws_markExclusionS) [.s 18, .s 19] [5] [], .mv 1 (.s 20)] [1,2])
(.seq (pr [.fld 21 (.s 2) 6, .load 22 false 1 (.s 21), .mv 23 (.s 1), .callI 24 [] (.f n_laws_markLibraryS) [.s 22, .s 23] [6] [], .mv 1 (.s 24)] [1,2])
(.seq (pr [.fld 25 (.s 2) 7, .load 26 false 1 (.s 25), .mv 27 (.s 1), .callI 28 [] (.f n_laws_markIntS) [.s 26, .s 27] [7] [], .mv 1 (.s 28)] [1,2])
(.seq (pr [.fld 29 (.s 2) 8, .load 30 false 1 (.s 29), .mv 31 (.s 1), .callI 32 [] (.f n_laws_markStatementS) [.s 30, .s 31] [8] [], .mv 1 (.s 32)] [1])
(.seq (pr [.mv 33 (.s 1), .mv 4 (.s 33)] [4])
.ret)))))))))
theorem c_laws_markArchive (x : GArchive) (k : Int) (hk : 0 ≤ k) (hN : k + (x.cts : Nat) ≤ 4611686018427387904) : CtrI Tryz.prog n_laws_markArchive [oS x.enc, iI k] [some (9, (x.mks k).Site.map GVersion.enc), some (4, (x.mks k).Script.map GOp.enc), some (4, (x.mks k).Disk.Containers.map GContainer.enc), some (6, (x.mks k).Disk.Index.map GFound.enc), some (4, (x.mks k).Disk.Wanted.map GContainer.enc), some (5, (x.mks k).Exclusions.map GExclusion.enc), some (4, (x.mks k).Libraries.map GLibrary.enc), some (1, (x.mks k).Keys.map encI), some (4, (x.mks k).Statements.map GStatement.enc)] [rI (k + (x.cts : Nat))] := by
  refine ctrI_at (M := m_laws_markArchive) (m := 1) (n := 34) (res := [(.tmp 4, [false])]) hmix Tryz.func31 rfl (by kernel_rfl) rfl (by kernel_rfl) (by kernel_rfl) (Nat.le_of_ble_eq_true rfl) rfl rfl ?_; unfold m_laws_markArchive
  intro hb
  clear hb
  simp only [GArchive.cts] at hN ⊢
  simp only [↓bk_bind, ↓bk_map, ↓bk_ite, ↓bk_some, ↓reduceIte, Nat.reduceEqDiff, Nat.reduceLT, Nat.reduceLeDiff, Nat.reduceAdd, Nat.reduceMul, reduceCtorEq, List.reduceReplicate, go_sem]
  refine callIK_of (c_laws_markVersionS x.Site (k) (by omega) (by omega)) ?_
  simp only [↓bk_bind, ↓bk_map, ↓bk_ite, ↓bk_some, ↓reduceIte, Nat.reduceEqDiff, Nat.reduceLT, Nat.reduceLeDiff, Nat.reduceAdd, Nat.reduceMul, reduceCtorEq, List.reduceReplicate, go_sem]
  refine callIK_of (c_laws_markOpS x.Script (k + (ctL GVersion.ct x.Site : Nat)) (by omega) (by omega)) ?_
  simp only [↓bk_bind, ↓bk_map, ↓bk_ite, ↓bk_some, ↓reduceIte, Nat.reduceEqDiff, Nat.reduceLT, Nat.reduceLeDiff, Nat.reduceAdd, Nat.reduceMul, reduceCtorEq, List.reduceReplicate, go_sem]
  refine callIK_of (c_laws_markDisk x.Disk (k + (ctL GVersion.ct x.Site : Nat) + (ctL GOp.ct x.Script : Nat)) (by omega) (by omega)) ?_
  simp only [↓bk_bind, ↓bk_map, ↓bk_ite, ↓bk_some, ↓reduceIte, Nat.reduceEqDiff, Nat.reduceLT, Nat.reduceLeDiff, Nat.reduceAdd, Nat.reduceMul, reduceCtorEq, List.reduceReplicate, go_sem]
  refine callIK_of (c_laws_markExclusionS x.Exclusions (k + (ctL GVersion.ct x.Site : Nat) + (ctL GOp.ct x.Script : Nat) + (x.Disk.cts : Nat)) (by omega) (by omega)) ?_
  simp only [↓bk_bind, ↓bk_map, ↓bk_ite, ↓bk_some, ↓reduceIte, Nat.reduceEqDiff, Nat.reduceLT, Nat.reduceLeDiff, Nat.reduceAdd, Nat.reduceMul, reduceCtorEq, List.reduceReplicate, go_sem]
  refine callIK_of (c_laws_markLibraryS x.Libraries (k + (ctL GVersion.ct x.Site : Nat) + (ctL GOp.ct x.Script : Nat) + (x.Disk.cts : Nat) + (ctL GExclusion.ct x.Exclusions : Nat)) (by omega) (by omega)) ?_
  simp only [↓bk_bind, ↓bk_map, ↓bk_ite, ↓bk_some, ↓reduceIte, Nat.reduceEqDiff, Nat.reduceLT, Nat.reduceLeDiff, Nat.reduceAdd, Nat.reduceMul, reduceCtorEq, List.reduceReplicate, go_sem]
  refine callIK_of (c_laws_markIntS x.Keys (k + (ctL GVersion.ct x.Site : Nat) + (ctL GOp.ct x.Script : Nat) + (x.Disk.cts : Nat) + (ctL GExclusion.ct x.Exclusions : Nat) + (ctL GLibrary.ct x.Libraries : Nat)) (by omega) (by omega)) ?_
  simp only [↓bk_bind, ↓bk_map, ↓bk_ite, ↓bk_some, ↓reduceIte, Nat.reduceEqDiff, Nat.reduceLT, Nat.reduceLeDiff, Nat.reduceAdd, Nat.reduceMul, reduceCtorEq, List.reduceReplicate, go_sem]
  refine callIK_of (c_laws_markStatementS x.Statements (k + (ctL GVersion.ct x.Site : Nat) + (ctL GOp.ct x.Script : Nat) + (x.Disk.cts : Nat) + (ctL GExclusion.ct x.Exclusions : Nat) + (ctL GLibrary.ct x.Libraries : Nat) + (ctL iCt x.Keys : Nat)) (by omega) (by omega)) ?_
  simp only [↓bk_bind, ↓bk_map, ↓bk_ite, ↓bk_some, ↓reduceIte, Nat.reduceEqDiff, Nat.reduceLT, Nat.reduceLeDiff, Nat.reduceAdd, Nat.reduceMul, reduceCtorEq, List.reduceReplicate, go_sem]
  all_goals (try omega)
  repeat' (first | rfl | omega | refine And.intro ?_ ?_)
def GChange.mkd (x : GChange) (k : Int) : GChange := ⟨k, (k + 1)⟩
def GChange.ct (x : GChange) : Nat := 2
def GPlayed.mks (x : GPlayed) (k : Int) : GPlayed := { x with State := x.State.mks (k) }
def GPlayed.cts (x : GPlayed) : Nat := x.State.cts
theorem GPlayed.cts_le (x : GPlayed) : x.cts ≤ 16 * x.size := by
  simp only [GPlayed.cts, GPlayed.size]
  have hState := GState.cts_le x.State
  omega
@[go_sem] theorem GPlayed.mks_len0 (x : GPlayed) (k : Int) : ((x.mks k).State.Regs).length = x.State.Regs.length := mkL_len
@[go_sem] theorem GPlayed.mks_len1 (x : GPlayed) (k : Int) : ((x.mks k).State.Slots).length = x.State.Slots.length := mkL_len
@[go_sem] theorem GPlayed.mks_len2 (x : GPlayed) (k : Int) : ((x.mks k).State.Nodes).length = x.State.Nodes.length := mkL_len
def m_laws_markPlayed : MC :=
(.seq (pr [.box 2 3 (.s 0), .mv 4 (.c (.int .i64 0))] [1,2])
(.seq (pr [.fld 5 (.s 2) 2, .load 6 true 4 (.s 5), .mv 7 (.s 1), .callI 8 [] (.f n_laws_markState) [.s 6, .s 7] [0,1,2] [], .mv 1 (.s 8)] [1])
(.seq (pr [.mv 9 (.s 1), .mv 4 (.s 9)] [4])
.ret)))
theorem c_laws_markPlayed (x : GPlayed) (k : Int) (hk : 0 ≤ k) (hN : k + (x.cts : Nat) ≤ 4611686018427387904) : CtrI Tryz.prog n_laws_markPlayed [oS x.enc, iI k] [some (1, (x.mks k).State.Regs.map encI), some (1, (x.mks k).State.Slots.map encI), some (1, (x.mks k).State.Nodes.map encI)] [rI (k + (x.cts : Nat))] := by
  refine ctrI_at (M := m_laws_markPlayed) (m := 1) (n := 10) (res := [(.tmp 4, [false])]) hmix Tryz.func51 rfl (by kernel_rfl) rfl (by kernel_rfl) (by kernel_rfl) (Nat.le_of_ble_eq_true rfl) rfl rfl ?_; unfold m_laws_markPlayed
  intro hb
  clear hb
  simp only [GPlayed.cts] at hN ⊢
  simp only [↓bk_bind, ↓bk_map, ↓bk_ite, ↓bk_some, ↓reduceIte, Nat.reduceEqDiff, Nat.reduceLT, Nat.reduceLeDiff, Nat.reduceAdd, Nat.reduceMul, reduceCtorEq, List.reduceReplicate, go_sem]
  refine callIK_of (c_laws_markState x.State (k) (by omega) (by omega)) ?_
  simp only [↓bk_bind, ↓bk_map, ↓bk_ite, ↓bk_some, ↓reduceIte, Nat.reduceEqDiff, Nat.reduceLT, Nat.reduceLeDiff, Nat.reduceAdd, Nat.reduceMul, reduceCtorEq, List.reduceReplicate, go_sem]
  all_goals (try omega)
  repeat' (first | rfl | omega | refine And.intro ?_ ?_)
def m_laws_heldPlayed : MC :=
(.seq (pr [.box 2 0 (.s 0), .mv 4 (.c (.int .i64 0))] [1,2])
(.seq (pr [.fld 5 (.s 2) 2, .load 6 true 4 (.s 5), .mv 7 (.s 1), .call 8 [] (.f n_laws_heldState) [.s 6, .s 7], .mv 1 (.s 8)] [1])
(.seq (.seq (pr [.mv 9 (.s 1), .bin 10 false .lss (.s 9) (.c (.int .i64 0))] [1,10])
(.cond (.s 10) (.seq (pr [.mv 4 (.c (.int .i64 (-1)))] [4])
.ret) .skip))
(.seq (pr [.mv 11 (.s 1), .mv 4 (.s 11)] [4])
.ret))))
theorem c_laws_heldPlayed (x : GPlayed) (k : Int) (hk : 0 ≤ k) (hN : k + (x.cts : Nat) ≤ 4611686018427387904) : Ctr Tryz.prog n_laws_heldPlayed [aS (x.mks k).enc, aI k] [rI (k + (x.cts : Nat))] := by
  refine ctr_at (M := m_laws_heldPlayed) (m := 1) (n := 12) (res := [(.tmp 4, [false])]) hmix Tryz.func52 rfl (by kernel_rfl) rfl (by kernel_rfl) (by kernel_rfl) (Nat.le_of_ble_eq_true rfl) ?_; unfold m_laws_heldPlayed
  intro hb
  clear hb
  simp only [GPlayed.cts] at hN ⊢
  simp only [↓bk_bind, ↓bk_map, ↓bk_ite, ↓bk_some, ↓reduceIte, Nat.reduceEqDiff, Nat.reduceLT, Nat.reduceLeDiff, Nat.reduceAdd, Nat.reduceMul, reduceCtorEq, List.reduceReplicate, go_sem]
  refine callK_of (c_laws_heldState x.State (k) (by omega) (by omega)) ?_
  have n1 : ¬ k + (x.State.cts : Nat) < 0 := by omega
  simp only [↓bk_bind, ↓bk_map, ↓bk_ite, ↓bk_some, ↓reduceIte, Nat.reduceEqDiff, Nat.reduceLT, Nat.reduceLeDiff, Nat.reduceAdd, Nat.reduceMul, reduceCtorEq, List.reduceReplicate, go_sem, n1]
  try intro _
  all_goals (try omega)
  all_goals (try simp only [n1])
end Go.Proofs.YtbnbgekjjbpljaaGreatR
namespace Go.Proofs.YtbnbgekjjbpljaaGreatR
open Go Go.RowKit Go.Proofs
set_option linter.unusedSimpArgs false
set_option linter.unusedVariables false
def m_slices_Clone_int_int : MC :=
(.seq (pr [.nilo 2 0 1] [0])
(.seq (.condN 3 4 (.s 0) (.seq (pr [.nilo 2 0 1] [2])
.ret) .skip)
(.seq (pr [.lit 5 0 1 8 [], .mv 6 (.s 0), .app 7 0 1 8 (.s 5) (.s 6), .mv 2 (.s 7)] [2])
.ret)))
theorem c_slices_Clone_int (xs : List Int) (hs : xs.length ≤ 1073741824) : Ctr Tryz.prog n_slices_Clone_int_int [aL 1 (xs.map encI)] [rL 1 (xs.map encI)] := by
  refine ctr_at (M := m_slices_Clone_int_int) (m := 1) (n := 8) (res := [(.tmp 2, [true])]) hmix Tryz.func205 rfl (by kernel_rfl) rfl (by kernel_rfl) (by kernel_rfl) (Nat.le_of_ble_eq_true rfl) ?_; unfold m_slices_Clone_int_int
  intro hb
  clear hb
  simp only [↓bk_bind, ↓bk_map, ↓bk_ite, ↓bk_some, ↓reduceIte, Nat.reduceEqDiff, Nat.reduceLT, Nat.reduceLeDiff, Nat.reduceAdd, Nat.reduceMul, reduceCtorEq, List.reduceReplicate, go_sem, ↓flat_of (f := encI) (fun _ => rfl) xs]
  refine ⟨fun h => ?_, ?_⟩
  · rw [h]
  · simp only [roomB, List.length_map]
    first | done | omega | (refine ⟨?_, ?_⟩ <;> first | omega | simp)
end Go.Proofs.YtbnbgekjjbpljaaGreatR
namespace Go.Proofs.YtbnbgekjjbpljaaGreatR
open Go Go.RowKit Go.Proofs
set_option linter.unusedSimpArgs false
set_option linter.unusedVariables false
theorem ff {p : Prop} [Decidable p] (h : ¬ p) : false = decide p := (decide_eq_false h).symm
theorem tt {p : Prop} [Decidable p] (h : p) : true = decide p := (decide_eq_true h).symm
/-- No element of the first k is so. -/
theorem anyF_step {α : Type} {p : α → Bool} {l : List α} {k : Nat} {x : α} (hx : l[k]? = some x) (h : (l.take k).any p = false) (hn : p x = false) : (l.take (k + 1)).any p = false := by
  rw [take_snoc hx, List.any_append, h]
  simp [hn]
theorem any_here {α : Type} {p : α → Bool} {l : List α} {k : Nat} {x : α} (hx : l[k]? = some x) (hn : p x = true) : l.any p = true := List.any_eq_true.2 ⟨x, at_mem hx, hn⟩
/-- The place of the first element that is so. -/
def idxF {α : Type} (p : α → Bool) (l : List α) : Int := if l.any p then (l.takeWhile fun x => !p x).length else -1
theorem idxF_here {α : Type} {p : α → Bool} {l : List α} {k : Nat} {x : α} (hx : l[k]? = some x) (h : (l.take k).any p = false) (hn : p x = true) : idxF p l = k := by
  unfold idxF
  rw [any_here hx hn, if_pos rfl]
  congr 1
  have e : l = l.take k ++ x :: l.drop (k + 1) := take_drop_at hx
  rw [e, List.takeWhile_append_of_pos]
  · simp [hn]
    have := len_at hx
    omega
  · intro a ha
    have := List.any_eq_false.1 h a ha
    simpa using this
theorem idxF_none {α : Type} {p : α → Bool} {l : List α} (h : l.any p = false) : idxF p l = -1 := by
  unfold idxF; rw [h]; rfl
theorem idxF_ge {α : Type} {p : α → Bool} {l : List α} : decide (idxF p l ≥ 0) = l.any p := by
  unfold idxF
  cases l.any p <;> simp
/-- Are two lists alike, element by element? -/
def eqF {α : Type} (p : α → α → Bool) : List α → List α → Bool
  | [], [] => true
  | x :: xs, y :: ys => p x y && eqF p xs ys
  | _, _ => false
theorem eqF_len {α : Type} {p : α → α → Bool} : ∀ {xs ys : List α}, ¬ (xs.length : Int) = ys.length → false = eqF p xs ys
  | [], [], h => by simp at h
  | _ :: _, _ :: _, h => by
    simp only [eqF]
    rw [← eqF_len (fun e => h (by simp only [List.length_cons]; omega)), Bool.and_false]
  | [], _ :: _, _ => rfl
  | _ :: _, [], _ => rfl
theorem eqF_take {α : Type} {p : α → α → Bool} : ∀ {xs ys : List α} {k : Nat} {x y : α}, xs[k]? = some x → ys[k]? = some y → eqF p (xs.take k) (ys.take k) = true → eqF p (xs.take (k + 1)) (ys.take (k + 1)) = p x y
  | x0 :: xs, y0 :: ys, 0, x, y, hx, hy, _ => by
    simp at hx hy
    subst hx hy
    simp [eqF]
  | x0 :: xs, y0 :: ys, k + 1, x, y, hx, hy, h => by
    simp only [List.take_succ_cons, eqF, Bool.and_eq_true] at h ⊢
    rw [eqF_take (by simpa using hx) (by simpa using hy) h.2, h.1, Bool.true_and]
  | [], _, _, _, _, hx, _, _ => by simp at hx
  | _ :: _, [], _, _, _, _, hy, _ => by simp at hy
theorem eqF_false {α : Type} {p : α → α → Bool} : ∀ {xs ys : List α} {k : Nat} {x y : α}, xs[k]? = some x → ys[k]? = some y → p x y = false → false = eqF p xs ys
  | x0 :: xs, y0 :: ys, 0, x, y, hx, hy, h => by
    simp at hx hy
    subst hx hy
    simp [eqF, h]
  | x0 :: xs, y0 :: ys, k + 1, x, y, hx, hy, h => by
    simp only [eqF]
    rw [← eqF_false (by simpa using hx) (by simpa using hy) h, Bool.and_false]
  | [], _, _, _, _, hx, _, _ => by simp at hx
  | _ :: _, [], _, _, _, _, hy, _ => by simp at hy
theorem eqF_all {α : Type} {p : α → α → Bool} {xs ys : List α} (h : eqF p (xs.take xs.length) (ys.take xs.length) = true) (hl : xs.length = ys.length) : true = eqF p xs ys := by
  rw [List.take_length, hl, List.take_length] at h
  exact h.symm
theorem eqF_eq {α : Type} [DecidableEq α] : ∀ (xs ys : List α), eqF (fun x y => decide (x = y)) xs ys = decide (xs = ys)
  | [], [] => by simp [eqF]
  | x :: xs, y :: ys => by
    simp only [eqF, eqF_eq xs ys]
    by_cases h : x = y <;> by_cases h2 : xs = ys <;> simp [h, h2]
  | [], _ :: _ => by simp [eqF]
  | _ :: _, [] => by simp [eqF]
/-- The place of the first element that is it. -/
def idxO {α : Type} [DecidableEq α] (n : α) (l : List α) : Int := idxF (fun x => decide (n = x)) l
theorem idxO_ge {α : Type} [DecidableEq α] {n : α} {l : List α} : decide (idxO n l ≥ 0) = decide (n ∈ l) := by
  unfold idxO
  rw [idxF_ge]
  rw [Bool.eq_iff_iff]
  simp
def encS (s : ByteArray) : List T := [tS s]
attribute [go_sem] encS
abbrev aStr (s : ByteArray) : Bool × List T := (false, [tS s])
attribute [go_sem] aStr
def m_slices_IndexFunc_impl_Op_impl_Op : MC :=
(.seq (pr [.mv 4 (.c (.int .i64 0))] [0,1])
(.seq (.seq (pr [.mv 6 (.s 0), .len 7 false (.s 6), .mv 8 (.c (.int .i64 0))] [0,1,7,8])
(.block 0 (.loop ([0,1,7,8], []) (.seq (pr [.bin 9 false .lss (.s 8) (.s 7)] [0,1,7,8,9])
(.seq (.cond (.s 9) .skip (.exit 0))
(.seq (.block 1 (.seq (pr [.mv 10 (.s 8), .mv 5 (.s 10)] [0,1,5,7,8])
(.seq (pr [.mv 11 (.s 1), .mv 12 (.s 0), .mv 13 (.s 5), .idx 14 4 (.s 12) (.s 13), .load 15 true 4 (.s 14), .call 16 [] (.s 11) [.s 15]] [0,1,5,7,8,16])
(.cond (.s 16) (.seq (pr [.mv 17 (.s 5), .mv 4 (.s 17)] [4])
.ret) .skip))))
(pr [.bin 18 false .add (.s 8) (.c (.int .i64 1)), .mv 8 (.s 18)] [0,1,7,8])))))))
(.seq (pr [.mv 4 (.c (.int .i64 (-1)))] [4])
.ret)))
theorem c_slices_IndexFunc_Op (xs : List GOp) (f : FuncId) (cs : List T) (p : GOp → Bool) (hp : ∀ x, x ∈ xs → Ctr Tryz.prog f (aS (GOp.enc x) :: cs.map (fun t => (false, [t]))) [rB (p x)]) : Ctr Tryz.prog n_slices_IndexFunc_impl_Op_impl_Op [aL 4 (xs.map GOp.enc), (false, [.fn f cs])] [rI (idxF p xs)] := by
  refine ctr_at (M := m_slices_IndexFunc_impl_Op_impl_Op) (m := 0) (n := 19) (res := [(.tmp 4, [false])]) hmix Tryz.func236 rfl (by kernel_rfl) rfl (by kernel_rfl) (by kernel_rfl) (Nat.le_of_ble_eq_true rfl) ?_; unfold m_slices_IndexFunc_impl_Op_impl_Op
  intro hb
  simp only [bdA, bdL, bdT, bdR, bdR_map, wfB_i64, wfB_bool, wfB_str, roomB, and_true, true_and, List.length_map] at hb
  obtain ⟨⟨hl, -⟩, -⟩ := hb
  simp only [↓bk_bind, ↓bk_map, ↓bk_ite, ↓bk_some, ↓reduceIte, Nat.reduceEqDiff, Nat.reduceLT, Nat.reduceLeDiff, Nat.reduceAdd, Nat.reduceMul, reduceCtorEq, List.reduceReplicate, go_sem]
  refine loopK_rng xs (fun k => [(8, vI k)]) (fun k => []) (fun k => (xs.take k).any p = false) hl ?_
  simp only [↓bk_bind, ↓bk_map, ↓bk_ite, ↓bk_some, ↓reduceIte, Nat.reduceEqDiff, Nat.reduceLT, Nat.reduceLeDiff, Nat.reduceAdd, Nat.reduceMul, reduceCtorEq, List.reduceReplicate, go_sem]
  refine ⟨?_, by simp, ?_, ?_⟩
  · simp only [↓bk_bind, ↓bk_map, ↓bk_ite, ↓bk_some, ↓reduceIte, Nat.reduceEqDiff, Nat.reduceLT, Nat.reduceLeDiff, Nat.reduceAdd, Nat.reduceMul, reduceCtorEq, List.reduceReplicate, go_sem]
  · intro k x hx h h0 h1 hw
    simp only [↓bk_bind, ↓bk_map, ↓bk_ite, ↓bk_some, ↓reduceIte, Nat.reduceEqDiff, Nat.reduceLT, Nat.reduceLeDiff, Nat.reduceAdd, Nat.reduceMul, reduceCtorEq, List.reduceReplicate, go_sem, bk_eq hx, h0, h1, hw]
    refine callK_of (hp x (at_mem hx)) ?_
    simp only [↓bk_bind, ↓bk_map, ↓bk_ite, ↓bk_some, ↓reduceIte, Nat.reduceEqDiff, Nat.reduceLT, Nat.reduceLeDiff, Nat.reduceAdd, Nat.reduceMul, reduceCtorEq, List.reduceReplicate, go_sem, hw]
    exact ⟨fun hn => (idxF_here hx h hn).symm, fun hn => anyF_step hx h hn⟩
  · intro h
    simp only [↓bk_bind, ↓bk_map, ↓bk_ite, ↓bk_some, ↓reduceIte, Nat.reduceEqDiff, Nat.reduceLT, Nat.reduceLeDiff, Nat.reduceAdd, Nat.reduceMul, reduceCtorEq, List.reduceReplicate, go_sem]
    rw [List.take_length] at h
    rw [idxF_none h]
def m_slices_ContainsFunc_impl_Op_impl_Op : MC :=
(.seq (pr [.mv 4 (.c (.bool false))] [0,1])
(.seq (pr [.mv 5 (.s 0), .mv 6 (.s 1), .call 7 [] (.f n_slices_IndexFunc_impl_Op_impl_Op) [.s 5, .s 6], .bin 8 false .geq (.s 7) (.c (.int .i64 0)), .mv 4 (.s 8)] [4])
.ret))
theorem c_slices_ContainsFunc_Op (xs : List GOp) (f : FuncId) (cs : List T) (p : GOp → Bool) (hp : ∀ x, x ∈ xs → Ctr Tryz.prog f (aS (GOp.enc x) :: cs.map (fun t => (false, [t]))) [rB (p x)]) : Ctr Tryz.prog n_slices_ContainsFunc_impl_Op_impl_Op [aL 4 (xs.map GOp.enc), (false, [.fn f cs])] [rB (xs.any p)] := by
  refine ctr_at (M := m_slices_ContainsFunc_impl_Op_impl_Op) (m := 0) (n := 9) (res := [(.tmp 4, [false])]) hmix Tryz.func206 rfl (by kernel_rfl) rfl (by kernel_rfl) (by kernel_rfl) (Nat.le_of_ble_eq_true rfl) ?_; unfold m_slices_ContainsFunc_impl_Op_impl_Op
  intro hb
  clear hb
  simp only [↓bk_bind, ↓bk_map, ↓bk_ite, ↓bk_some, ↓reduceIte, Nat.reduceEqDiff, Nat.reduceLT, Nat.reduceLeDiff, Nat.reduceAdd, Nat.reduceMul, reduceCtorEq, List.reduceReplicate, go_sem]
  refine callK_of (c_slices_IndexFunc_Op xs f cs p hp) ?_
  simp only [↓bk_bind, ↓bk_map, ↓bk_ite, ↓bk_some, ↓reduceIte, Nat.reduceEqDiff, Nat.reduceLT, Nat.reduceLeDiff, Nat.reduceAdd, Nat.reduceMul, reduceCtorEq, List.reduceReplicate, go_sem]
  intros
  exact idxF_ge
def m_slices_IndexFunc_impl_Entry_impl_Entry : MC :=
(.seq (pr [.mv 4 (.c (.int .i64 0))] [0,1])
(.seq (.seq (pr [.mv 6 (.s 0), .len 7 false (.s 6), .mv 8 (.c (.int .i64 0))] [0,1,7,8])
(.block 0 (.loop ([0,1,7,8], []) (.seq (pr [.bin 9 false .lss (.s 8) (.s 7)] [0,1,7,8,9])
(.seq (.cond (.s 9) .skip (.exit 0))
(.seq (.block 1 (.seq (pr [.mv 10 (.s 8), .mv 5 (.s 10)] [0,1,5,7,8])
(.seq (pr [.mv 11 (.s 1), .mv 12 (.s 0), .mv 13 (.s 5), .idx 14 5 (.s 12) (.s 13), .load 15 true 5 (.s 14), .call 16 [] (.s 11) [.s 15]] [0,1,5,7,8,16])
(.cond (.s 16) (.seq (pr [.mv 17 (.s 5), .mv 4 (.s 17)] [4])
.ret) .skip))))
(pr [.bin 18 false .add (.s 8) (.c (.int .i64 1)), .mv 8 (.s 18)] [0,1,7,8])))))))
(.seq (pr [.mv 4 (.c (.int .i64 (-1)))] [4])
.ret)))
theorem c_slices_IndexFunc_Entry (xs : List GEntry) (f : FuncId) (cs : List T) (p : GEntry → Bool) (hp : ∀ x, x ∈ xs → Ctr Tryz.prog f (aS (GEntry.enc x) :: cs.map (fun t => (false, [t]))) [rB (p x)]) : Ctr Tryz.prog n_slices_IndexFunc_impl_Entry_impl_Entry [aL 5 (xs.map GEntry.enc), (false, [.fn f cs])] [rI (idxF p xs)] := by
  refine ctr_at (M := m_slices_IndexFunc_impl_Entry_impl_Entry) (m := 0) (n := 19) (res := [(.tmp 4, [false])]) hmix Tryz.func237 rfl (by kernel_rfl) rfl (by kernel_rfl) (by kernel_rfl) (Nat.le_of_ble_eq_true rfl) ?_; unfold m_slices_IndexFunc_impl_Entry_impl_Entry
  intro hb
  simp only [bdA, bdL, bdT, bdR, bdR_map, wfB_i64, wfB_bool, wfB_str, roomB, and_true, true_and, List.length_map] at hb
  obtain ⟨⟨hl, -⟩, -⟩ := hb
  simp only [↓bk_bind, ↓bk_map, ↓bk_ite, ↓bk_some, ↓reduceIte, Nat.reduceEqDiff, Nat.reduceLT, Nat.reduceLeDiff, Nat.reduceAdd, Nat.reduceMul, reduceCtorEq, List.reduceReplicate, go_sem]
  refine loopK_rng xs (fun k => [(8, vI k)]) (fun k => []) (fun k => (xs.take k).any p = false) hl ?_
  simp only [↓bk_bind, ↓bk_map, ↓bk_ite, ↓bk_some, ↓reduceIte, Nat.reduceEqDiff, Nat.reduceLT, Nat.reduceLeDiff, Nat.reduceAdd, Nat.reduceMul, reduceCtorEq, List.reduceReplicate, go_sem]
  refine ⟨?_, by simp, ?_, ?_⟩
  · simp only [↓bk_bind, ↓bk_map, ↓bk_ite, ↓bk_some, ↓reduceIte, Nat.reduceEqDiff, Nat.reduceLT, Nat.reduceLeDiff, Nat.reduceAdd, Nat.reduceMul, reduceCtorEq, List.reduceReplicate, go_sem]
  · intro k x hx h h0 h1 hw
    simp only [↓bk_bind, ↓bk_map, ↓bk_ite, ↓bk_some, ↓reduceIte, Nat.reduceEqDiff, Nat.reduceLT, Nat.reduceLeDiff, Nat.reduceAdd, Nat.reduceMul, reduceCtorEq, List.reduceReplicate, go_sem, bk_eq hx, h0, h1, hw]
    refine callK_of (hp x (at_mem hx)) ?_
    simp only [↓bk_bind, ↓bk_map, ↓bk_ite, ↓bk_some, ↓reduceIte, Nat.reduceEqDiff, Nat.reduceLT, Nat.reduceLeDiff, Nat.reduceAdd, Nat.reduceMul, reduceCtorEq, List.reduceReplicate, go_sem, hw]
    exact ⟨fun hn => (idxF_here hx h hn).symm, fun hn => anyF_step hx h hn⟩
  · intro h
    simp only [↓bk_bind, ↓bk_map, ↓bk_ite, ↓bk_some, ↓reduceIte, Nat.reduceEqDiff, Nat.reduceLT, Nat.reduceLeDiff, Nat.reduceAdd, Nat.reduceMul, reduceCtorEq, List.reduceReplicate, go_sem]
    rw [List.take_length] at h
    rw [idxF_none h]
def m_slices_ContainsFunc_impl_Entry_impl_Entry : MC :=
(.seq (pr [.mv 4 (.c (.bool false))] [0,1])
(.seq (pr [.mv 5 (.s 0), .mv 6 (.s 1), .call 7 [] (.f n_slices_IndexFunc_impl_Entry_impl_Entry) [.s 5, .s 6], .bin 8 false .geq (.s 7) (.c (.int .i64 0)), .mv 4 (.s 8)] [4])
.ret))
theorem c_slices_ContainsFunc_Entry (xs : List GEntry) (f : FuncId) (cs : List T) (p : GEntry → Bool) (hp : ∀ x, x ∈ xs → Ctr Tryz.prog f (aS (GEntry.enc x) :: cs.map (fun t => (false, [t]))) [rB (p x)]) : Ctr Tryz.prog n_slices_ContainsFunc_impl_Entry_impl_Entry [aL 5 (xs.map GEntry.enc), (false, [.fn f cs])] [rB (xs.any p)] := by
  refine ctr_at (M := m_slices_ContainsFunc_impl_Entry_impl_Entry) (m := 0) (n := 9) (res := [(.tmp 4, [false])]) hmix Tryz.func209 rfl (by kernel_rfl) rfl (by kernel_rfl) (by kernel_rfl) (Nat.le_of_ble_eq_true rfl) ?_; unfold m_slices_ContainsFunc_impl_Entry_impl_Entry
  intro hb
  clear hb
  simp only [↓bk_bind, ↓bk_map, ↓bk_ite, ↓bk_some, ↓reduceIte, Nat.reduceEqDiff, Nat.reduceLT, Nat.reduceLeDiff, Nat.reduceAdd, Nat.reduceMul, reduceCtorEq, List.reduceReplicate, go_sem]
  refine callK_of (c_slices_IndexFunc_Entry xs f cs p hp) ?_
  simp only [↓bk_bind, ↓bk_map, ↓bk_ite, ↓bk_some, ↓reduceIte, Nat.reduceEqDiff, Nat.reduceLT, Nat.reduceLeDiff, Nat.reduceAdd, Nat.reduceMul, reduceCtorEq, List.reduceReplicate, go_sem]
  intros
  exact idxF_ge
def m_slices_IndexFunc_impl_Exclusion_impl_Exclusion : MC :=
(.seq (pr [.mv 4 (.c (.int .i64 0))] [0,1])
(.seq (.seq (pr [.mv 6 (.s 0), .len 7 false (.s 6), .mv 8 (.c (.int .i64 0))] [0,1,7,8])
(.block 0 (.loop ([0,1,7,8], []) (.seq (pr [.bin 9 false .lss (.s 8) (.s 7)] [0,1,7,8,9])
(.seq (.cond (.s 9) .skip (.exit 0))
(.seq (.block 1 (.seq (pr [.mv 10 (.s 8), .mv 5 (.s 10)] [0,1,5,7,8])
(.seq (pr [.mv 11 (.s 1), .mv 12 (.s 0), .mv 13 (.s 5), .idx 14 5 (.s 12) (.s 13), .load 15 true 5 (.s 14), .call 16 [] (.s 11) [.s 15]] [0,1,5,7,8,16])
(.cond (.s 16) (.seq (pr [.mv 17 (.s 5), .mv 4 (.s 17)] [4])
.ret) .skip))))
(pr [.bin 18 false .add (.s 8) (.c (.int .i64 1)), .mv 8 (.s 18)] [0,1,7,8])))))))
(.seq (pr [.mv 4 (.c (.int .i64 (-1)))] [4])
.ret)))
theorem c_slices_IndexFunc_Exclusion (xs : List GExclusion) (f : FuncId) (cs : List T) (p : GExclusion → Bool) (hp : ∀ x, x ∈ xs → Ctr Tryz.prog f (aS (GExclusion.enc x) :: cs.map (fun t => (false, [t]))) [rB (p x)]) : Ctr Tryz.prog n_slices_IndexFunc_impl_Exclusion_impl_Exclusion [aL 5 (xs.map GExclusion.enc), (false, [.fn f cs])] [rI (idxF p xs)] := by
  refine ctr_at (M := m_slices_IndexFunc_impl_Exclusion_impl_Exclusion) (m := 0) (n := 19) (res := [(.tmp 4, [false])]) hmix Tryz.func221 rfl (by kernel_rfl) rfl (by kernel_rfl) (by kernel_rfl) (Nat.le_of_ble_eq_true rfl) ?_; unfold m_slices_IndexFunc_impl_Exclusion_impl_Exclusion
  intro hb
  simp only [bdA, bdL, bdT, bdR, bdR_map, wfB_i64, wfB_bool, wfB_str, roomB, and_true, true_and, List.length_map] at hb
  obtain ⟨⟨hl, -⟩, -⟩ := hb
  simp only [↓bk_bind, ↓bk_map, ↓bk_ite, ↓bk_some, ↓reduceIte, Nat.reduceEqDiff, Nat.reduceLT, Nat.reduceLeDiff, Nat.reduceAdd, Nat.reduceMul, reduceCtorEq, List.reduceReplicate, go_sem]
  refine loopK_rng xs (fun k => [(8, vI k)]) (fun k => []) (fun k => (xs.take k).any p = false) hl ?_
  simp only [↓bk_bind, ↓bk_map, ↓bk_ite, ↓bk_some, ↓reduceIte, Nat.reduceEqDiff, Nat.reduceLT, Nat.reduceLeDiff, Nat.reduceAdd, Nat.reduceMul, reduceCtorEq, List.reduceReplicate, go_sem]
  refine ⟨?_, by simp, ?_, ?_⟩
  · simp only [↓bk_bind, ↓bk_map, ↓bk_ite, ↓bk_some, ↓reduceIte, Nat.reduceEqDiff, Nat.reduceLT, Nat.reduceLeDiff, Nat.reduceAdd, Nat.reduceMul, reduceCtorEq, List.reduceReplicate, go_sem]
  · intro k x hx h h0 h1 hw
    simp only [↓bk_bind, ↓bk_map, ↓bk_ite, ↓bk_some, ↓reduceIte, Nat.reduceEqDiff, Nat.reduceLT, Nat.reduceLeDiff, Nat.reduceAdd, Nat.reduceMul, reduceCtorEq, List.reduceReplicate, go_sem, bk_eq hx, h0, h1, hw]
    refine callK_of (hp x (at_mem hx)) ?_
    simp only [↓bk_bind, ↓bk_map, ↓bk_ite, ↓bk_some, ↓reduceIte, Nat.reduceEqDiff, Nat.reduceLT, Nat.reduceLeDiff, Nat.reduceAdd, Nat.reduceMul, reduceCtorEq, List.reduceReplicate, go_sem, hw]
    exact ⟨fun hn => (idxF_here hx h hn).symm, fun hn => anyF_step hx h hn⟩
  · intro h
    simp only [↓bk_bind, ↓bk_map, ↓bk_ite, ↓bk_some, ↓reduceIte, Nat.reduceEqDiff, Nat.reduceLT, Nat.reduceLeDiff, Nat.reduceAdd, Nat.reduceMul, reduceCtorEq, List.reduceReplicate, go_sem]
    rw [List.take_length] at h
    rw [idxF_none h]
def m_slices_ContainsFunc_impl_Exclusion_impl_Exclusion : MC :=
(.seq (pr [.mv 4 (.c (.bool false))] [0,1])
(.seq (pr [.mv 5 (.s 0), .mv 6 (.s 1), .call 7 [] (.f n_slices_IndexFunc_impl_Exclusion_impl_Exclusion) [.s 5, .s 6], .bin 8 false .geq (.s 7) (.c (.int .i64 0)), .mv 4 (.s 8)] [4])
.ret))
theorem c_slices_ContainsFunc_Exclusion (xs : List GExclusion) (f : FuncId) (cs : List T) (p : GExclusion → Bool) (hp : ∀ x, x ∈ xs → Ctr Tryz.prog f (aS (GExclusion.enc x) :: cs.map (fun t => (false, [t]))) [rB (p x)]) : Ctr Tryz.prog n_slices_ContainsFunc_impl_Exclusion_impl_Exclusion [aL 5 (xs.map GExclusion.enc), (false, [.fn f cs])] [rB (xs.any p)] := by
  refine ctr_at (M := m_slices_ContainsFunc_impl_Exclusion_impl_Exclusion) (m := 0) (n := 9) (res := [(.tmp 4, [false])]) hmix Tryz.func179 rfl (by kernel_rfl) rfl (by kernel_rfl) (by kernel_rfl) (Nat.le_of_ble_eq_true rfl) ?_; unfold m_slices_ContainsFunc_impl_Exclusion_impl_Exclusion
  intro hb
  clear hb
  simp only [↓bk_bind, ↓bk_map, ↓bk_ite, ↓bk_some, ↓reduceIte, Nat.reduceEqDiff, Nat.reduceLT, Nat.reduceLeDiff, Nat.reduceAdd, Nat.reduceMul, reduceCtorEq, List.reduceReplicate, go_sem]
  refine callK_of (c_slices_IndexFunc_Exclusion xs f cs p hp) ?_
  simp only [↓bk_bind, ↓bk_map, ↓bk_ite, ↓bk_some, ↓reduceIte, Nat.reduceEqDiff, Nat.reduceLT, Nat.reduceLeDiff, Nat.reduceAdd, Nat.reduceMul, reduceCtorEq, List.reduceReplicate, go_sem]
  intros
  exact idxF_ge
end Go.Proofs.YtbnbgekjjbpljaaGreatR
namespace Go.Proofs.YtbnbgekjjbpljaaGreatR
open Go Go.RowKit Go.Proofs
set_option linter.unusedSimpArgs false
set_option linter.unusedVariables false
attribute [go_sem] eqB
def m_spec_l1In : MC :=
(.seq (pr [.mv 6 (.c (.bool false))] [0,1,2])
(.seq (.reg [{ o := .mv 7 (.s 0) }, { o := .mv 8 (.s 1) }, { o := .bin 9 false .geq (.s 7) (.s 8) }, { o := .mv 10 (.s 9) }, { o := .mv 11 (.s 0), g := some (10, true) }, { o := .mv 12 (.s 2), g := some (10, true) }, { o := .bin 13 false .leq (.s 11) (.s 12), g := some (10, true) }, { o := .pick 14 (.s 10) (.s 13) (.c (.bool false)) }, { o := .mv 6 (.s 14) }] [6])
.ret))
theorem c_spec_l1In (x a b : Int) : Ctr Tryz.prog n_spec_l1In [aI x, aI a, aI b] [rB (decide (a ≤ x ∧ x ≤ b))] := by
  refine ctr_at (M := m_spec_l1In) (m := 0) (n := 15) (res := [(.tmp 6, [false])]) hmix Tryz.func182 rfl (by kernel_rfl) rfl (by kernel_rfl) (by kernel_rfl) (Nat.le_of_ble_eq_true rfl) ?_; unfold m_spec_l1In
  intro hb
  clear hb
  simp only [↓bk_bind, ↓bk_map, ↓bk_ite, ↓bk_some, ↓reduceIte, Nat.reduceEqDiff, Nat.reduceLT, Nat.reduceLeDiff, Nat.reduceAdd, Nat.reduceMul, reduceCtorEq, List.reduceReplicate, go_sem]
  exact ⟨fun h => by simp [h], fun h => by simp; omega⟩
def m_impl_at : MC :=
(.seq (pr [.mv 4 (.c (.bool false))] [0,1])
(.seq (.reg [{ o := .mv 5 (.s 0) }, { o := .bin 6 false .geq (.s 5) (.c (.int .i64 0)) }, { o := .mv 7 (.s 6) }, { o := .mv 8 (.s 0), g := some (7, true) }, { o := .mv 9 (.s 1), g := some (7, true) }, { o := .bin 10 false .lss (.s 8) (.s 9), g := some (7, true) }, { o := .pick 11 (.s 7) (.s 10) (.c (.bool false)) }, { o := .mv 4 (.s 11) }] [4])
.ret))
theorem c_impl_at (x n : Int) : Ctr Tryz.prog n_impl_at [aI x, aI n] [rB (decide (0 ≤ x ∧ x < n))] := by
  refine ctr_at (M := m_impl_at) (m := 0) (n := 12) (res := [(.tmp 4, [false])]) hmix Tryz.func184 rfl (by kernel_rfl) rfl (by kernel_rfl) (by kernel_rfl) (Nat.le_of_ble_eq_true rfl) ?_; unfold m_impl_at
  intro hb
  clear hb
  simp only [↓bk_bind, ↓bk_map, ↓bk_ite, ↓bk_some, ↓reduceIte, Nat.reduceEqDiff, Nat.reduceLT, Nat.reduceLeDiff, Nat.reduceAdd, Nat.reduceMul, reduceCtorEq, List.reduceReplicate, go_sem]
  exact ⟨fun h => by simp [h], fun h => by simp; omega⟩
def m_impl_InRange : MC :=
(.seq (pr [.mv 6 (.c (.bool false))] [0,1,2])
(.seq (.reg [{ o := .mv 7 (.s 1) }, { o := .mv 8 (.s 0) }, { o := .bin 9 false .leq (.s 7) (.s 8) }, { o := .mv 10 (.s 9) }, { o := .mv 11 (.s 0), g := some (10, true) }, { o := .mv 12 (.s 2), g := some (10, true) }, { o := .bin 13 false .leq (.s 11) (.s 12), g := some (10, true) }, { o := .pick 14 (.s 10) (.s 13) (.c (.bool false)) }, { o := .mv 6 (.s 14) }] [6])
.ret))
theorem c_impl_InRange (x a b : Int) : Ctr Tryz.prog n_impl_InRange [aI x, aI a, aI b] [rB (decide (a ≤ x ∧ x ≤ b))] := by
  refine ctr_at (M := m_impl_InRange) (m := 0) (n := 15) (res := [(.tmp 6, [false])]) hmix Tryz.func212 rfl (by kernel_rfl) rfl (by kernel_rfl) (by kernel_rfl) (Nat.le_of_ble_eq_true rfl) ?_; unfold m_impl_InRange
  intro hb
  clear hb
  simp only [↓bk_bind, ↓bk_map, ↓bk_ite, ↓bk_some, ↓reduceIte, Nat.reduceEqDiff, Nat.reduceLT, Nat.reduceLeDiff, Nat.reduceAdd, Nat.reduceMul, reduceCtorEq, List.reduceReplicate, go_sem]
  exact ⟨fun h => by simp [h], fun h => by simp; omega⟩
def allIn (l : List Int) (a b : Int) : Bool := l.all fun x => decide (a ≤ x ∧ x ≤ b)
theorem all_step {α : Type} {p : α → Bool} {l : List α} {k : Nat} {x : α} (hx : l[k]? = some x) (h : (l.take k).all p = true) (hn : p x = true) : (l.take (k + 1)).all p = true := by
  rw [take_snoc hx, List.all_append, h]; simp [hn]
theorem all_not {α : Type} {p : α → Bool} {l : List α} {k : Nat} {x : α} (hx : l[k]? = some x) (hn : p x = false) : false = l.all p := by
  symm; rw [List.all_eq_false]; exact ⟨x, at_mem hx, by simp [hn]⟩
def m_impl_allIn : MC :=
(.seq (pr [.mv 6 (.c (.bool false))] [0,1,2])
(.seq (.seq (pr [.mv 9 (.s 0), .len 10 false (.s 9), .mv 11 (.c (.int .i64 0))] [1,2,9,10,11])
(.block 0 (.loop ([1,2,9,10,11], []) (.seq (pr [.bin 12 false .lss (.s 11) (.s 10)] [1,2,9,10,11,12])
(.seq (.cond (.s 12) .skip (.exit 0))
(.seq (.block 1 (.seq (pr [.idx 13 1 (.s 9) (.s 11), .load 14 false 1 (.s 13), .mv 8 (.s 14)] [1,2,8,9,10,11])
(.seq (pr [.mv 15 (.s 8), .mv 16 (.s 1), .mv 17 (.s 2), .call 18 [] (.f n_impl_InRange) [.s 15, .s 16, .s 17], .un 19 .not (.s 18)] [1,2,9,10,11,19])
(.cond (.s 19) (.seq (pr [.mv 6 (.c (.bool false))] [6])
.ret) .skip))))
(pr [.bin 20 false .add (.s 11) (.c (.int .i64 1)), .mv 11 (.s 20)] [1,2,9,10,11])))))))
(.seq (pr [.mv 6 (.c (.bool true))] [6])
.ret)))
theorem c_impl_allIn (l : List Int) (a b : Int) : Ctr Tryz.prog n_impl_allIn [aL 1 (l.map encI), aI a, aI b] [rB (allIn l a b)] := by
  refine ctr_at (M := m_impl_allIn) (m := 0) (n := 21) (res := [(.tmp 6, [false])]) hmix Tryz.func238 rfl (by kernel_rfl) rfl (by kernel_rfl) (by kernel_rfl) (Nat.le_of_ble_eq_true rfl) ?_; unfold m_impl_allIn
  intro hb
  simp only [bdA, bdL, bdT, bdR, bdR_map, wfB_i64, wfB_bool, wfB_str, roomB, and_true, true_and, List.length_map] at hb
  obtain ⟨⟨hl, -⟩, -⟩ := hb
  simp only [↓bk_bind, ↓bk_map, ↓bk_ite, ↓bk_some, ↓reduceIte, Nat.reduceEqDiff, Nat.reduceLT, Nat.reduceLeDiff, Nat.reduceAdd, Nat.reduceMul, reduceCtorEq, List.reduceReplicate, go_sem]
  refine loopK_rng l (fun k => [(11, vI k)]) (fun k => []) (fun k => ((l.take k).all fun x => decide (a ≤ x ∧ x ≤ b)) = true) hl ?_
  simp only [↓bk_bind, ↓bk_map, ↓bk_ite, ↓bk_some, ↓reduceIte, Nat.reduceEqDiff, Nat.reduceLT, Nat.reduceLeDiff, Nat.reduceAdd, Nat.reduceMul, reduceCtorEq, List.reduceReplicate, go_sem]
  refine ⟨?_, by simp, ?_, ?_⟩
  · simp only [↓bk_bind, ↓bk_map, ↓bk_ite, ↓bk_some, ↓reduceIte, Nat.reduceEqDiff, Nat.reduceLT, Nat.reduceLeDiff, Nat.reduceAdd, Nat.reduceMul, reduceCtorEq, List.reduceReplicate, go_sem]
  · intro k x hx h h0 h1 hw
    simp only [↓bk_bind, ↓bk_map, ↓bk_ite, ↓bk_some, ↓reduceIte, Nat.reduceEqDiff, Nat.reduceLT, Nat.reduceLeDiff, Nat.reduceAdd, Nat.reduceMul, reduceCtorEq, List.reduceReplicate, go_sem, bk_eq hx, h0, h1, hw]
    refine callK_of (c_impl_InRange _ _ _) ?_
    simp only [↓bk_bind, ↓bk_map, ↓bk_ite, ↓bk_some, ↓reduceIte, Nat.reduceEqDiff, Nat.reduceLT, Nat.reduceLeDiff, Nat.reduceAdd, Nat.reduceMul, reduceCtorEq, List.reduceReplicate, go_sem, hw]
    exact ⟨fun hn => all_not hx (by simpa using hn), fun hn => all_step hx h (by simpa using hn)⟩
  · intro h
    simp only [↓bk_bind, ↓bk_map, ↓bk_ite, ↓bk_some, ↓reduceIte, Nat.reduceEqDiff, Nat.reduceLT, Nat.reduceLeDiff, Nat.reduceAdd, Nat.reduceMul, reduceCtorEq, List.reduceReplicate, go_sem]
    rw [List.take_length] at h
    exact h.symm
/-- Addresses within range. -/
def isAddr (a : GAddress) : Bool := decide (1 ≤ a.Host ∧ a.Host ≤ 9) && (decide (0 ≤ a.Path ∧ a.Path ≤ 99) && decide (0 ≤ a.Query ∧ a.Query ≤ 99))
def m_impl_IsAddress : MC :=
(.seq (pr [.box 1 0 (.s 0), .mv 2 (.c (.bool false))] [1])
(.seq (.reg [{ o := .fld 3 (.s 1) 0 }, { o := .load 4 false 1 (.s 3) }, { o := .call 5 [] (.f n_impl_InRange) [.s 4, .c (.int .i64 1), .c (.int .i64 9)] }, { o := .mv 6 (.s 5) }, { o := .fld 7 (.s 1) 1, g := some (6, true) }, { o := .load 8 false 1 (.s 7), g := some (6, true) }, { o := .call 9 [] (.f n_impl_InRange) [.s 8, .c (.int .i64 0), .c (.int .i64 99)], g := some (6, true) }, { o := .pick 10 (.s 6) (.s 9) (.c (.bool false)) }, { o := .mv 11 (.s 10) }, { o := .fld 12 (.s 1) 2, g := some (11, true) }, { o := .load 13 false 1 (.s 12), g := some (11, true) }, { o := .call 14 [] (.f n_impl_InRange) [.s 13, .c (.int .i64 0), .c (.int .i64 99)], g := some (11, true) }, { o := .pick 15 (.s 11) (.s 14) (.c (.bool false)) }, { o := .mv 2 (.s 15) }] [2])
.ret))
theorem c_impl_IsAddress (a : GAddress) : Ctr Tryz.prog n_impl_IsAddress [aS a.enc] [rB (isAddr a)] := by
  refine ctr_at (M := m_impl_IsAddress) (m := 1) (n := 16) (res := [(.tmp 2, [false])]) hmix Tryz.func211 rfl (by kernel_rfl) rfl (by kernel_rfl) (by kernel_rfl) (Nat.le_of_ble_eq_true rfl) ?_; unfold m_impl_IsAddress
  intro hb
  clear hb
  simp only [↓bk_bind, ↓bk_map, ↓bk_ite, ↓bk_some, ↓reduceIte, Nat.reduceEqDiff, Nat.reduceLT, Nat.reduceLeDiff, Nat.reduceAdd, Nat.reduceMul, reduceCtorEq, List.reduceReplicate, go_sem]
  refine callK_of (c_impl_InRange _ _ _) ?_
  simp only [↓bk_bind, ↓bk_map, ↓bk_ite, ↓bk_some, ↓reduceIte, Nat.reduceEqDiff, Nat.reduceLT, Nat.reduceLeDiff, Nat.reduceAdd, Nat.reduceMul, reduceCtorEq, List.reduceReplicate, go_sem]
  refine ⟨fun h => ?_, fun h => by unfold isAddr; rw [decide_eq_false h]; rfl⟩
  refine callK_of (c_impl_InRange _ _ _) ?_
  simp only [↓bk_bind, ↓bk_map, ↓bk_ite, ↓bk_some, ↓reduceIte, Nat.reduceEqDiff, Nat.reduceLT, Nat.reduceLeDiff, Nat.reduceAdd, Nat.reduceMul, reduceCtorEq, List.reduceReplicate, go_sem]
  refine ⟨fun h2 => ?_, fun h2 => by unfold isAddr; rw [decide_eq_false h2]; simp⟩
  refine callK_of (c_impl_InRange _ _ _) ?_
  simp only [↓bk_bind, ↓bk_map, ↓bk_ite, ↓bk_some, ↓reduceIte, Nat.reduceEqDiff, Nat.reduceLT, Nat.reduceLeDiff, Nat.reduceAdd, Nat.reduceMul, reduceCtorEq, List.reduceReplicate, go_sem]
  unfold isAddr; rw [decide_eq_true h, decide_eq_true h2]; rfl
def m_spec_IsAddress : MC :=
(.seq (pr [.box 1 0 (.s 0), .mv 2 (.c (.bool false))] [1])
(.seq (.reg [{ o := .fld 3 (.s 1) 0 }, { o := .load 4 false 1 (.s 3) }, { o := .call 5 [] (.f n_spec_l1In) [.s 4, .c (.int .i64 1), .c (.int .i64 9)] }, { o := .mv 6 (.s 5) }, { o := .fld 7 (.s 1) 1, g := some (6, true) }, { o := .load 8 false 1 (.s 7), g := some (6, true) }, { o := .call 9 [] (.f n_spec_l1In) [.s 8, .c (.int .i64 0), .c (.int .i64 99)], g := some (6, true) }, { o := .pick 10 (.s 6) (.s 9) (.c (.bool false)) }, { o := .mv 11 (.s 10) }, { o := .fld 12 (.s 1) 2, g := some (11, true) }, { o := .load 13 false 1 (.s 12), g := some (11, true) }, { o := .call 14 [] (.f n_spec_l1In) [.s 13, .c (.int .i64 0), .c (.int .i64 99)], g := some (11, true) }, { o := .pick 15 (.s 11) (.s 14) (.c (.bool false)) }, { o := .mv 2 (.s 15) }] [2])
.ret))
theorem c_spec_IsAddress (a : GAddress) : Ctr Tryz.prog n_spec_IsAddress [aS a.enc] [rB (isAddr a)] := by
  refine ctr_at (M := m_spec_IsAddress) (m := 1) (n := 16) (res := [(.tmp 2, [false])]) hmix Tryz.func188 rfl (by kernel_rfl) rfl (by kernel_rfl) (by kernel_rfl) (Nat.le_of_ble_eq_true rfl) ?_; unfold m_spec_IsAddress
  intro hb
  clear hb
  simp only [↓bk_bind, ↓bk_map, ↓bk_ite, ↓bk_some, ↓reduceIte, Nat.reduceEqDiff, Nat.reduceLT, Nat.reduceLeDiff, Nat.reduceAdd, Nat.reduceMul, reduceCtorEq, List.reduceReplicate, go_sem]
  refine callK_of (c_spec_l1In _ _ _) ?_
  simp only [↓bk_bind, ↓bk_map, ↓bk_ite, ↓bk_some, ↓reduceIte, Nat.reduceEqDiff, Nat.reduceLT, Nat.reduceLeDiff, Nat.reduceAdd, Nat.reduceMul, reduceCtorEq, List.reduceReplicate, go_sem]
  refine ⟨fun h => ?_, fun h => by unfold isAddr; rw [decide_eq_false h]; rfl⟩
  refine callK_of (c_spec_l1In _ _ _) ?_
  simp only [↓bk_bind, ↓bk_map, ↓bk_ite, ↓bk_some, ↓reduceIte, Nat.reduceEqDiff, Nat.reduceLT, Nat.reduceLeDiff, Nat.reduceAdd, Nat.reduceMul, reduceCtorEq, List.reduceReplicate, go_sem]
  refine ⟨fun h2 => ?_, fun h2 => by unfold isAddr; rw [decide_eq_false h2]; simp⟩
  refine callK_of (c_spec_l1In _ _ _) ?_
  simp only [↓bk_bind, ↓bk_map, ↓bk_ite, ↓bk_some, ↓reduceIte, Nat.reduceEqDiff, Nat.reduceLT, Nat.reduceLeDiff, Nat.reduceAdd, Nat.reduceMul, reduceCtorEq, List.reduceReplicate, go_sem]
  unfold isAddr; rw [decide_eq_true h, decide_eq_true h2]; rfl
def noAddr (a : GAddress) : Bool := a.Host == 0 && (a.Path == 0 && a.Query == 0)
/-- Resources within range. -/
def isRes (r : GResource) : Bool :=
  if r.Kind = 1 ∨ r.Kind = 2 then decide (r.Body.length ≤ 6) && (allIn r.Body 0 255 && noAddr r.To)
  else if r.Kind = 3 then decide (r.Body.length = 0) && isAddr r.To
  else if r.Kind = 4 then decide (r.Body.length = 0) && noAddr r.To else false
end Go.Proofs.YtbnbgekjjbpljaaGreatR
namespace Go.Proofs.YtbnbgekjjbpljaaGreatR
open Go Go.RowKit Go.Proofs
set_option linter.unusedSimpArgs false
set_option linter.unusedVariables false
def m_impl_copyResource : MC :=
(.seq (pr [.box 1 0 (.s 0), .alloc 2 1 [.pl (.sc (.int .i64 0)), .emp 1, .pl (.sc (.int .i64 0)), .pl (.sc (.int .i64 0)), .pl (.sc (.int .i64 0))]] [1,2])
(.seq (pr [.fld 3 (.s 1) 1, .load 4 false 1 (.s 3), .call 5 [2] (.f n_slices_Clone_int_int) [.s 4], .fld 6 (.s 1) 1, .store 1 (.s 6) (.s 5)] [1,2])
(.seq (pr [.load 7 true 5 (.s 1), .store 5 (.s 2) (.s 7)] [2])
.ret)))
theorem c_impl_copyResource (r : GResource) (hs : r.Body.length ≤ 1073741824) : Ctr Tryz.prog n_impl_copyResource [aS r.enc] [rS r.enc] := by
  refine ctr_at (M := m_impl_copyResource) (m := 3) (n := 8) (res := [(.cell 2 true 5, [false, true, false, false, false])]) hmix Tryz.func162 rfl (by kernel_rfl) rfl (by kernel_rfl) (by kernel_rfl) (Nat.le_of_ble_eq_true rfl) ?_; unfold m_impl_copyResource
  intro hb
  clear hb
  simp only [↓bk_bind, ↓bk_map, ↓bk_ite, ↓bk_some, ↓reduceIte, Nat.reduceEqDiff, Nat.reduceLT, Nat.reduceLeDiff, Nat.reduceAdd, Nat.reduceMul, reduceCtorEq, List.reduceReplicate, go_sem]
  refine callK_of (c_slices_Clone_int r.Body hs) ?_
  simp only [↓bk_bind, ↓bk_map, ↓bk_ite, ↓bk_some, ↓reduceIte, Nat.reduceEqDiff, Nat.reduceLT, Nat.reduceLeDiff, Nat.reduceAdd, Nat.reduceMul, reduceCtorEq, List.reduceReplicate, go_sem]
  try intros
  try trivial
def m_spec_l5Copy : MC :=
(.seq (pr [.box 1 0 (.s 0), .alloc 2 1 [.pl (.sc (.int .i64 0)), .emp 1, .pl (.sc (.int .i64 0)), .pl (.sc (.int .i64 0)), .pl (.sc (.int .i64 0))]] [1,2])
(.seq (.dreg [{ o := .fld 3 (.s 1) 0, hs := [5,6,7,8,9,10], ho := [2] }, { o := .load 4 false 1 (.s 3), hs := [5,6,7,8,9,10], ho := [2], bf := [0] }, { o := .lit 5 2 1 8 [], hs := [3,4,6,7,9,10], ws := [2] }, { o := .fld 6 (.s 1) 1, hs := [3,4,5,9,10], ho := [2] }, { o := .load 7 false 1 (.s 6), hs := [3,4,5,9,10], ho := [2], bf := [3] }, { o := .app 8 2 1 8 (.s 5) (.s 7), hs := [3,4,9,10], ws := [2], bf := [2,3,4] }, { o := .fld 9 (.s 1) 2, hs := [3,4,5,6,7,8], ho := [2] }, { o := .load 10 true 3 (.s 9), hs := [3,4,5,6,7,8], ho := [2], bf := [6] }, { o := .build 11 [.pl (.sc (.int .i64 0)), .emp 1, .pl (.sc (.int .i64 0)), .pl (.sc (.int .i64 0)), .pl (.sc (.int .i64 0))] [(0, 1, .s 4), (1, 1, .s 8), (2, 3, .s 10)], bf := [0,1,2,3,4,5,6,7] }, { o := .store 5 (.s 2) (.s 11), ws := [1,2], bf := [0,1,2,3,4,5,6,7,8] }] [2])
.ret))
theorem c_spec_l5Copy (r : GResource) (hs : r.Body.length ≤ 1073741824) : Ctr Tryz.prog n_spec_l5Copy [aS r.enc] [rS r.enc] := by
  refine ctr_at (M := m_spec_l5Copy) (m := 3) (n := 12) (res := [(.cell 2 true 5, [false, true, false, false, false])]) hmix Tryz.func161 rfl (by kernel_rfl) rfl (by kernel_rfl) (by kernel_rfl) (Nat.le_of_ble_eq_true rfl) ?_; unfold m_spec_l5Copy
  intro hb
  clear hb
  simp only [↓bk_bind, ↓bk_map, ↓bk_ite, ↓bk_some, ↓reduceIte, Nat.reduceEqDiff, Nat.reduceLT, Nat.reduceLeDiff, Nat.reduceAdd, Nat.reduceMul, reduceCtorEq, List.reduceReplicate, go_sem, ↓flat_of (f := encI) (fun _ => rfl) r.Body]
  simp only [roomB]
  omega
def m_impl_copyCaptures : MC :=
(.seq (pr [.nilo 2 0 9] [0])
(.seq (pr [.nilo 3 0 9] [0,3])
(.seq (.seq (pr [.mv 6 (.s 0), .len 7 false (.s 6), .mv 8 (.c (.int .i64 0))] [3,6,7,8])
(.block 0 (.loop ([3,6,7,8], [1,2,3]) (.seq (pr [.bin 9 false .lss (.s 8) (.s 7)] [3,6,7,8,9])
(.seq (.cond (.s 9) .skip (.exit 0))
(.seq (.block 1 (.seq (pr [.idx 10 9 (.s 6) (.s 8), .load 11 true 9 (.s 10), .alloc 5 1 [.pl (.sc (.int .i64 0)), .pl (.sc (.int .i64 0)), .pl (.sc (.int .i64 0)), .pl (.sc (.int .i64 0)), .pl (.sc (.int .i64 0)), .emp 1, .pl (.sc (.int .i64 0)), .pl (.sc (.int .i64 0)), .pl (.sc (.int .i64 0))], .store 9 (.s 5) (.s 11)] [3,5,6,7,8])
(.dreg [{ o := .mv 12 (.s 3), hs := [13,14,15,16,17,18,19,20,21], ho := [2,3] }, { o := .fld 13 (.s 5) 0, hs := [12,15,16,17,18,19], ho := [2] }, { o := .load 14 true 3 (.s 13), hs := [12,15,16,17,18,19], ho := [2], bf := [1] }, { o := .fld 15 (.s 5) 3, hs := [12,13,14,17,18,19], ho := [2] }, { o := .load 16 false 1 (.s 15), hs := [12,13,14,17,18,19], ho := [2], bf := [3] }, { o := .fld 17 (.s 5) 4, hs := [12,13,14,15,16] }, { o := .load 18 true 5 (.s 17), hs := [12,13,14,15,16], bf := [5] }, { o := .call 19 [2] (.f n_impl_copyResource) [.s 18], hs := [12,13,14,15,16], ws := [2], bf := [5,6] }, { o := .build 20 [.pl (.sc (.int .i64 0)), .pl (.sc (.int .i64 0)), .pl (.sc (.int .i64 0)), .pl (.sc (.int .i64 0)), .pl (.sc (.int .i64 0)), .emp 1, .pl (.sc (.int .i64 0)), .pl (.sc (.int .i64 0)), .pl (.sc (.int .i64 0))] [(0, 3, .s 14), (3, 1, .s 16), (4, 5, .s 19)], hs := [12], bf := [1,2,3,4,5,6,7] }, { o := .lit 21 3 9 88 [.s 20], hs := [12], ws := [2,3], bf := [1,2,3,4,5,6,7,8] }, { o := .app 22 0 9 88 (.s 12) (.s 21), ws := [0,3], bf := [0,1,2,3,4,5,6,7,8,9] }, { o := .mv 3 (.s 22), bf := [0,1,2,3,4,5,6,7,8,9,10] }] [3,6,7,8])))
(pr [.bin 23 false .add (.s 8) (.c (.int .i64 1)), .mv 8 (.s 23)] [3,6,7,8])))))))
(.seq (pr [.mv 24 (.s 3), .mv 2 (.s 24)] [2])
.ret))))
theorem c_impl_copyCaptures (xs : List GCapture) (hs : xs.length + (xs.map GCapture.size).sum ≤ 1073741824) : Ctr Tryz.prog n_impl_copyCaptures [aL 9 (xs.map GCapture.enc)] [rL 9 (xs.map GCapture.enc)] := by
  refine ctr_at (M := m_impl_copyCaptures) (m := 4) (n := 25) (res := [(.tmp 2, [true])]) hmix Tryz.func96 rfl (by kernel_rfl) rfl (by kernel_rfl) (by kernel_rfl) (Nat.le_of_ble_eq_true rfl) ?_; unfold m_impl_copyCaptures
  intro hb
  clear hb
  simp only [↓bk_bind, ↓bk_map, ↓bk_ite, ↓bk_some, ↓reduceIte, Nat.reduceEqDiff, Nat.reduceLT, Nat.reduceLeDiff, Nat.reduceAdd, Nat.reduceMul, reduceCtorEq, List.reduceReplicate, go_sem]
  refine loopK_rng xs (fun k => [(3, .val false [.ref 0 0 9 0 (xs.take k).length]), (8, vI k)]) (fun k => [(0, ⟨0, .row true 9 ((xs.take k).map GCapture.enc)⟩)]) (fun _ => True) (by simp only [roomB]; omega) ?_
  simp only [↓bk_bind, ↓bk_map, ↓bk_ite, ↓bk_some, ↓reduceIte, Nat.reduceEqDiff, Nat.reduceLT, Nat.reduceLeDiff, Nat.reduceAdd, Nat.reduceMul, reduceCtorEq, List.reduceReplicate, go_sem]
  refine ⟨?_, trivial, ?_, ?_⟩
  · simp only [↓bk_bind, ↓bk_map, ↓bk_ite, ↓bk_some, ↓reduceIte, Nat.reduceEqDiff, Nat.reduceLT, Nat.reduceLeDiff, Nat.reduceAdd, Nat.reduceMul, reduceCtorEq, List.reduceReplicate, go_sem, List.take_zero]
  · intro k x hx _ h0 h1 hw
    have hk : k < xs.length := by omega
    have hlt := List.length_take_le k xs
    have hx1 := mem_sum (f := GCapture.size) (at_mem hx)
    simp only [↓bk_bind, ↓bk_map, ↓bk_ite, ↓bk_some, ↓reduceIte, Nat.reduceEqDiff, Nat.reduceLT, Nat.reduceLeDiff, Nat.reduceAdd, Nat.reduceMul, reduceCtorEq, List.reduceReplicate, go_sem, bk_eq hx, h0, h1, hw]
    refine callK_of (c_impl_copyResource x.Resource (by simp only [GCapture.size, GResource.size] at hx1; omega)) ?_
    simp only [↓bk_bind, ↓bk_map, ↓bk_ite, ↓bk_some, ↓reduceIte, Nat.reduceEqDiff, Nat.reduceLT, Nat.reduceLeDiff, Nat.reduceAdd, Nat.reduceMul, reduceCtorEq, List.reduceReplicate, go_sem, hw]
    simp only [roomB]
    exact ⟨by omega, by omega, fun _ => ⟨snoc_len hx, snoc_map hx⟩⟩
  · intro _
    simp only [↓bk_bind, ↓bk_map, ↓bk_ite, ↓bk_some, ↓reduceIte, Nat.reduceEqDiff, Nat.reduceLT, Nat.reduceLeDiff, Nat.reduceAdd, Nat.reduceMul, reduceCtorEq, List.reduceReplicate, go_sem, List.take_length]
def m_spec_l15Copy : MC :=
(.seq (pr [.nilo 2 0 9] [0])
(.seq (pr [.lit 5 0 9 88 [], .mv 3 (.s 5)] [0,3])
(.seq (.seq (pr [.mv 4 (.c (.int .i64 0))] [0,3,4])
(.block 0 (.loop ([0,3,4], [1,2]) (.seq (.seq (pr [.mv 6 (.s 4), .mv 7 (.s 0), .len 8 false (.s 7), .bin 9 false .lss (.s 6) (.s 8)] [0,3,4,9])
(.cond (.s 9) .skip (.exit 0)))
(.seq (.block 1 (.dreg [{ o := .mv 12 (.s 3), hs := [13,14,15,16,17,18,19,20,21,22,23,24,25,26,27,28,29,30], ho := [1,2] }, { o := .mv 13 (.s 0), hs := [12,14,18,19,20,21,22,23,24,25,26,27,28], ho := [1] }, { o := .mv 14 (.s 4), hs := [12,13,18,19,20,21,22,23,24,25,26,27,28], ho := [1] }, { o := .idx 15 9 (.s 13) (.s 14), hs := [12,18,19,20,21,22,23,24,25,26,27,28], ho := [1], bf := [1,2] }, { o := .fld 16 (.s 15) 0, hs := [12,18,19,20,21,22,23,24,25,26,27,28], ho := [1], bf := [1,2,3] }, { o := .load 17 true 3 (.s 16), hs := [12,18,19,20,21,22,23,24,25,26,27,28], ho := [1], bf := [1,2,3,4] }, { o := .mv 18 (.s 0), hs := [12,13,14,15,16,17,19,23,24,25,26,27,28], ho := [1] }, { o := .mv 19 (.s 4), hs := [12,13,14,15,16,17,18,23,24,25,26,27,28], ho := [1] }, { o := .idx 20 9 (.s 18) (.s 19), hs := [12,13,14,15,16,17,23,24,25,26,27,28], ho := [1], bf := [6,7] }, { o := .fld 21 (.s 20) 3, hs := [12,13,14,15,16,17,23,24,25,26,27,28], ho := [1], bf := [6,7,8] }, { o := .load 22 false 1 (.s 21), hs := [12,13,14,15,16,17,23,24,25,26,27,28], ho := [1], bf := [6,7,8,9] }, { o := .mv 23 (.s 0), hs := [12,13,14,15,16,17,18,19,20,21,22,24] }, { o := .mv 24 (.s 4), hs := [12,13,14,15,16,17,18,19,20,21,22,23] }, { o := .idx 25 9 (.s 23) (.s 24), hs := [12,13,14,15,16,17,18,19,20,21,22], bf := [11,12] }, { o := .fld 26 (.s 25) 4, hs := [12,13,14,15,16,17,18,19,20,21,22], bf := [11,12,13] }, { o := .load 27 true 5 (.s 26), hs := [12,13,14,15,16,17,18,19,20,21,22], bf := [11,12,13,14] }, { o := .call 28 [1] (.f n_spec_l5Copy) [.s 27], hs := [12,13,14,15,16,17,18,19,20,21,22], ws := [1], bf := [11,12,13,14,15] }, { o := .build 29 [.pl (.sc (.int .i64 0)), .pl (.sc (.int .i64 0)), .pl (.sc (.int .i64 0)), .pl (.sc (.int .i64 0)), .pl (.sc (.int .i64 0)), .emp 1, .pl (.sc (.int .i64 0)), .pl (.sc (.int .i64 0)), .pl (.sc (.int .i64 0))] [(0, 3, .s 17), (3, 1, .s 22), (4, 5, .s 28)], hs := [12], bf := [1,2,3,4,5,6,7,8,9,10,11,12,13,14,15,16] }, { o := .lit 30 2 9 88 [.s 29], hs := [12], ws := [1,2], bf := [1,2,3,4,5,6,7,8,9,10,11,12,13,14,15,16,17] }, { o := .app 31 0 9 88 (.s 12) (.s 30), ws := [0,2], bf := [0,1,2,3,4,5,6,7,8,9,10,11,12,13,14,15,16,17,18] }, { o := .mv 3 (.s 31), bf := [0,1,2,3,4,5,6,7,8,9,10,11,12,13,14,15,16,17,18,19] }] [0,3,4]))
(pr [.mv 10 (.s 4), .bin 11 false .add (.s 10) (.c (.int .i64 1)), .mv 4 (.s 11)] [0,3,4]))))))
(.seq (pr [.mv 32 (.s 3), .mv 2 (.s 32)] [2])
.ret))))
theorem c_spec_l15Copy (xs : List GCapture) (hs : xs.length + (xs.map GCapture.size).sum ≤ 1073741824) : Ctr Tryz.prog n_spec_l15Copy [aL 9 (xs.map GCapture.enc)] [rL 9 (xs.map GCapture.enc)] := by
  refine ctr_at (M := m_spec_l15Copy) (m := 3) (n := 33) (res := [(.tmp 2, [true])]) hmix Tryz.func95 rfl (by kernel_rfl) rfl (by kernel_rfl) (by kernel_rfl) (Nat.le_of_ble_eq_true rfl) ?_; unfold m_spec_l15Copy
  intro hb
  clear hb
  simp only [↓bk_bind, ↓bk_map, ↓bk_ite, ↓bk_some, ↓reduceIte, Nat.reduceEqDiff, Nat.reduceLT, Nat.reduceLeDiff, Nat.reduceAdd, Nat.reduceMul, reduceCtorEq, List.reduceReplicate, go_sem]
  refine loopK_rng xs (fun k => [(3, .val false [.ref 0 0 9 0 (xs.take k).length]), (4, vI k)]) (fun k => [(0, ⟨0, .row true 9 ((xs.take k).map GCapture.enc)⟩)]) (fun _ => True) (by simp only [roomB]; omega) ?_
  simp only [↓bk_bind, ↓bk_map, ↓bk_ite, ↓bk_some, ↓reduceIte, Nat.reduceEqDiff, Nat.reduceLT, Nat.reduceLeDiff, Nat.reduceAdd, Nat.reduceMul, reduceCtorEq, List.reduceReplicate, go_sem]
  refine ⟨?_, trivial, ?_, ?_⟩
  · simp only [↓bk_bind, ↓bk_map, ↓bk_ite, ↓bk_some, ↓reduceIte, Nat.reduceEqDiff, Nat.reduceLT, Nat.reduceLeDiff, Nat.reduceAdd, Nat.reduceMul, reduceCtorEq, List.reduceReplicate, go_sem, List.take_zero]
  · intro k x hx _ h0 h1 hw
    have hk : k < xs.length := by omega
    have hlt := List.length_take_le k xs
    have hx1 := mem_sum (f := GCapture.size) (at_mem hx)
    simp only [↓bk_bind, ↓bk_map, ↓bk_ite, ↓bk_some, ↓reduceIte, Nat.reduceEqDiff, Nat.reduceLT, Nat.reduceLeDiff, Nat.reduceAdd, Nat.reduceMul, reduceCtorEq, List.reduceReplicate, go_sem, bk_eq hx, h0, h1, hw]
    refine callK_of (c_spec_l5Copy x.Resource (by simp only [GCapture.size, GResource.size] at hx1; omega)) ?_
    simp only [↓bk_bind, ↓bk_map, ↓bk_ite, ↓bk_some, ↓reduceIte, Nat.reduceEqDiff, Nat.reduceLT, Nat.reduceLeDiff, Nat.reduceAdd, Nat.reduceMul, reduceCtorEq, List.reduceReplicate, go_sem, hw]
    simp only [roomB]
    exact ⟨by omega, by omega, fun _ => ⟨snoc_len hx, snoc_map hx⟩⟩
  · intro _
    simp only [↓bk_bind, ↓bk_map, ↓bk_ite, ↓bk_some, ↓reduceIte, Nat.reduceEqDiff, Nat.reduceLT, Nat.reduceLeDiff, Nat.reduceAdd, Nat.reduceMul, reduceCtorEq, List.reduceReplicate, go_sem, List.take_length]
end Go.Proofs.YtbnbgekjjbpljaaGreatR
namespace Go.Proofs.YtbnbgekjjbpljaaGreatR
open Go Go.RowKit Go.Proofs
set_option linter.unusedSimpArgs false
set_option linter.unusedVariables false
def isExcl (x : GExclusion) : Bool := decide ((1 ≤ x.Host ∧ x.Host ≤ 9) ∧ (-1 ≤ x.Path ∧ x.Path ≤ 99) ∧ (0 ≤ x.From ∧ x.From ≤ x.Until) ∧ x.Until ≤ 2000 ∧ (0 ≤ x.Asked ∧ x.Asked ≤ 2000))
def m_impl_IsExclusion : MC :=
(.seq (pr [.box 1 0 (.s 0), .mv 2 (.c (.bool false))] [1])
(.seq (.reg [{ o := .fld 3 (.s 1) 0 }, { o := .load 4 false 1 (.s 3) }, { o := .call 5 [] (.f n_impl_InRange) [.s 4, .c (.int .i64 1), .c (.int .i64 9)] }, { o := .mv 6 (.s 5) }, { o := .fld 7 (.s 1) 1, g := some (6, true) }, { o := .load 8 false 1 (.s 7), g := some (6, true) }, { o := .call 9 [] (.f n_impl_InRange) [.s 8, .c (.int .i64 (-1)), .c (.int .i64 99)], g := some (6, true) }, { o := .pick 10 (.s 6) (.s 9) (.c (.bool false)) }, { o := .mv 11 (.s 10) }, { o := .fld 12 (.s 1) 2, g := some (11, true) }, { o := .load 13 false 1 (.s 12), g := some (11, true) }, { o := .fld 14 (.s 1) 3, g := some (11, true) }, { o := .load 15 false 1 (.s 14), g := some (11, true) }, { o := .call 16 [] (.f n_impl_InRange) [.s 13, .c (.int .i64 0), .s 15], g := some (11, true) }, { o := .pick 17 (.s 11) (.s 16) (.c (.bool false)) }, { o := .mv 18 (.s 17) }, { o := .fld 19 (.s 1) 3, g := some (18, true) }, { o := .load 20 false 1 (.s 19), g := some (18, true) }, { o := .bin 21 false .leq (.s 20) (.c (.int .i64 2000)), g := some (18, true) }, { o := .pick 22 (.s 18) (.s 21) (.c (.bool false)) }, { o := .mv 23 (.s 22) }, { o := .fld 24 (.s 1) 4, g := some (23, true) }, { o := .load 25 false 1 (.s 24), g := some (23, true) }, { o := .call 26 [] (.f n_impl_InRange) [.s 25, .c (.int .i64 0), .c (.int .i64 2000)], g := some (23, true) }, { o := .pick 27 (.s 23) (.s 26) (.c (.bool false)) }, { o := .mv 2 (.s 27) }] [2])
.ret))
theorem c_impl_IsExclusion (x : GExclusion) : Ctr Tryz.prog n_impl_IsExclusion [aS x.enc] [rB (isExcl x)] := by
  refine ctr_at (M := m_impl_IsExclusion) (m := 1) (n := 28) (res := [(.tmp 2, [false])]) hmix Tryz.func242 rfl (by kernel_rfl) rfl (by kernel_rfl) (by kernel_rfl) (Nat.le_of_ble_eq_true rfl) ?_; unfold m_impl_IsExclusion
  intro hb
  clear hb
  simp only [↓bk_bind, ↓bk_map, ↓bk_ite, ↓bk_some, ↓reduceIte, Nat.reduceEqDiff, Nat.reduceLT, Nat.reduceLeDiff, Nat.reduceAdd, Nat.reduceMul, reduceCtorEq, List.reduceReplicate, go_sem]
  repeat' first
    | (refine And.intro ?_ ?_ <;> intro h)
    | (apply callK_of (c_impl_InRange _ _ _); simp only [↓bk_bind, ↓bk_map, ↓bk_ite, ↓bk_some, ↓reduceIte, Nat.reduceEqDiff, Nat.reduceLT, Nat.reduceLeDiff, Nat.reduceAdd, Nat.reduceMul, reduceCtorEq, List.reduceReplicate, go_sem])
  all_goals (unfold isExcl; first | (symm; rw [decide_eq_false_iff_not]; omega) | (rw [Bool.eq_iff_iff]; simp only [decide_eq_true_eq]; omega))
def m_spec_IsExclusion : MC :=
(.seq (pr [.box 1 0 (.s 0), .mv 2 (.c (.bool false))] [1])
(.seq (.reg [{ o := .fld 3 (.s 1) 0 }, { o := .load 4 false 1 (.s 3) }, { o := .call 5 [] (.f n_spec_l1In) [.s 4, .c (.int .i64 1), .c (.int .i64 9)] }, { o := .mv 6 (.s 5) }, { o := .fld 7 (.s 1) 1, g := some (6, true) }, { o := .load 8 false 1 (.s 7), g := some (6, true) }, { o := .call 9 [] (.f n_spec_l1In) [.s 8, .c (.int .i64 (-1)), .c (.int .i64 99)], g := some (6, true) }, { o := .pick 10 (.s 6) (.s 9) (.c (.bool false)) }, { o := .mv 11 (.s 10) }, { o := .fld 12 (.s 1) 2, g := some (11, true) }, { o := .load 13 false 1 (.s 12), g := some (11, true) }, { o := .call 14 [] (.f n_spec_l1In) [.s 13, .c (.int .i64 0), .c (.int .i64 2000)], g := some (11, true) }, { o := .pick 15 (.s 11) (.s 14) (.c (.bool false)) }, { o := .mv 16 (.s 15) }, { o := .fld 17 (.s 1) 3, g := some (16, true) }, { o := .load 18 false 1 (.s 17), g := some (16, true) }, { o := .fld 19 (.s 1) 2, g := some (16, true) }, { o := .load 20 false 1 (.s 19), g := some (16, true) }, { o := .call 21 [] (.f n_spec_l1In) [.s 18, .s 20, .c (.int .i64 2000)], g := some (16, true) }, { o := .pick 22 (.s 16) (.s 21) (.c (.bool false)) }, { o := .mv 23 (.s 22) }, { o := .fld 24 (.s 1) 4, g := some (23, true) }, { o := .load 25 false 1 (.s 24), g := some (23, true) }, { o := .call 26 [] (.f n_spec_l1In) [.s 25, .c (.int .i64 0), .c (.int .i64 2000)], g := some (23, true) }, { o := .pick 27 (.s 23) (.s 26) (.c (.bool false)) }, { o := .mv 2 (.s 27) }] [2])
.ret))
theorem c_spec_IsExclusion (x : GExclusion) : Ctr Tryz.prog n_spec_IsExclusion [aS x.enc] [rB (isExcl x)] := by
  refine ctr_at (M := m_spec_IsExclusion) (m := 1) (n := 28) (res := [(.tmp 2, [false])]) hmix Tryz.func249 rfl (by kernel_rfl) rfl (by kernel_rfl) (by kernel_rfl) (Nat.le_of_ble_eq_true rfl) ?_; unfold m_spec_IsExclusion
  intro hb
  clear hb
  simp only [↓bk_bind, ↓bk_map, ↓bk_ite, ↓bk_some, ↓reduceIte, Nat.reduceEqDiff, Nat.reduceLT, Nat.reduceLeDiff, Nat.reduceAdd, Nat.reduceMul, reduceCtorEq, List.reduceReplicate, go_sem]
  repeat' first
    | (refine And.intro ?_ ?_ <;> intro h)
    | (apply callK_of (c_spec_l1In _ _ _); simp only [↓bk_bind, ↓bk_map, ↓bk_ite, ↓bk_some, ↓reduceIte, Nat.reduceEqDiff, Nat.reduceLT, Nat.reduceLeDiff, Nat.reduceAdd, Nat.reduceMul, reduceCtorEq, List.reduceReplicate, go_sem])
  all_goals (unfold isExcl; first | (symm; rw [decide_eq_false_iff_not]; omega) | (rw [Bool.eq_iff_iff]; simp only [decide_eq_true_eq]; omega))
/-- A valid exclusion that means this capture. -/
def hidesB (x : GExclusion) (c : GCapture) : Bool := isExcl x && decide (c.Address.Host = x.Host ∧ (x.Path = -1 ∨ c.Address.Path = x.Path) ∧ x.From ≤ c.Tick ∧ c.Tick ≤ x.Until)
def hiddenBy (x : GExclusion) (c : GCapture) (now : Int) : Bool := decide (x.Asked ≤ now) && hidesB x c
def m_impl_Exclusion_hides : MC :=
(.seq (pr [.box 2 0 (.s 0), .box 3 1 (.s 1), .mv 4 (.c (.bool false))] [2,3])
(.seq (.reg [{ o := .load 5 true 5 (.s 2) }, { o := .call 6 [] (.f n_impl_IsExclusion) [.s 5] }, { o := .mv 7 (.s 6) }, { o := .fld 8 (.s 3) 0, g := some (7, true) }, { o := .fld 9 (.s 8) 0, g := some (7, true) }, { o := .load 10 false 1 (.s 9), g := some (7, true) }, { o := .fld 11 (.s 2) 0, g := some (7, true) }, { o := .load 12 false 1 (.s 11), g := some (7, true) }, { o := .bin 13 false .eql (.s 10) (.s 12), g := some (7, true) }, { o := .pick 14 (.s 7) (.s 13) (.c (.bool false)) }, { o := .mv 15 (.s 14) }, { o := .fld 16 (.s 2) 1, g := some (15, true) }, { o := .load 17 false 1 (.s 16), g := some (15, true) }, { o := .bin 18 false .eql (.s 17) (.c (.int .i64 (-1))), g := some (15, true) }, { o := .mv 19 (.s 18), g := some (15, true) }, { o := .fld 20 (.s 3) 0, g := some (19, false) }, { o := .fld 21 (.s 20) 1, g := some (19, false) }, { o := .load 22 false 1 (.s 21), g := some (19, false) }, { o := .fld 23 (.s 2) 1, g := some (19, false) }, { o := .load 24 false 1 (.s 23), g := some (19, false) }, { o := .bin 25 false .eql (.s 22) (.s 24), g := some (19, false) }, { o := .pick 26 (.s 19) (.c (.bool true)) (.s 25), g := some (15, true) }, { o := .pick 27 (.s 15) (.s 26) (.c (.bool false)) }, { o := .mv 28 (.s 27) }, { o := .fld 29 (.s 3) 3, g := some (28, true) }, { o := .load 30 false 1 (.s 29), g := some (28, true) }, { o := .fld 31 (.s 2) 2, g := some (28, true) }, { o := .load 32 false 1 (.s 31), g := some (28, true) }, { o := .fld 33 (.s 2) 3, g := some (28, true) }, { o := .load 34 false 1 (.s 33), g := some (28, true) }, { o := .call 35 [] (.f n_impl_InRange) [.s 30, .s 32, .s 34], g := some (28, true) }, { o := .pick 36 (.s 28) (.s 35) (.c (.bool false)) }, { o := .mv 4 (.s 36) }] [4])
.ret))
theorem c_impl_hides (x : GExclusion) (c : GCapture) : Ctr Tryz.prog n_impl_Exclusion_hides [aS x.enc, aS c.enc] [rB (hidesB x c)] := by
  refine ctr_at (M := m_impl_Exclusion_hides) (m := 2) (n := 37) (res := [(.tmp 4, [false])]) hmix Tryz.func222 rfl (by kernel_rfl) rfl (by kernel_rfl) (by kernel_rfl) (Nat.le_of_ble_eq_true rfl) ?_; unfold m_impl_Exclusion_hides
  intro hb
  clear hb
  simp only [↓bk_bind, ↓bk_map, ↓bk_ite, ↓bk_some, ↓reduceIte, Nat.reduceEqDiff, Nat.reduceLT, Nat.reduceLeDiff, Nat.reduceAdd, Nat.reduceMul, reduceCtorEq, List.reduceReplicate, go_sem]
  repeat' first
    | (refine And.intro ?_ ?_ <;> intro h)
    | (apply callK_of (c_impl_IsExclusion _); simp only [↓bk_bind, ↓bk_map, ↓bk_ite, ↓bk_some, ↓reduceIte, Nat.reduceEqDiff, Nat.reduceLT, Nat.reduceLeDiff, Nat.reduceAdd, Nat.reduceMul, reduceCtorEq, List.reduceReplicate, go_sem])
    | (apply callK_of (c_impl_InRange _ _ _); simp only [↓bk_bind, ↓bk_map, ↓bk_ite, ↓bk_some, ↓reduceIte, Nat.reduceEqDiff, Nat.reduceLT, Nat.reduceLeDiff, Nat.reduceAdd, Nat.reduceMul, reduceCtorEq, List.reduceReplicate, go_sem])
  all_goals (unfold hidesB; first | (rw [‹isExcl x = false›]; rfl) | (rw [‹isExcl x = true›, Bool.true_and]; first | (symm; rw [decide_eq_false_iff_not]; omega) | (rw [Bool.eq_iff_iff]; simp only [decide_eq_true_eq]; omega)))
def m_spec_l25Meets : MC :=
(.seq (pr [.box 2 0 (.s 0), .box 3 1 (.s 1), .mv 4 (.c (.bool false))] [2,3])
(.seq (.reg [{ o := .load 5 true 5 (.s 2) }, { o := .call 6 [] (.f n_spec_IsExclusion) [.s 5] }, { o := .mv 7 (.s 6) }, { o := .fld 8 (.s 2) 0, g := some (7, true) }, { o := .load 9 false 1 (.s 8), g := some (7, true) }, { o := .fld 10 (.s 3) 0, g := some (7, true) }, { o := .fld 11 (.s 10) 0, g := some (7, true) }, { o := .load 12 false 1 (.s 11), g := some (7, true) }, { o := .bin 13 false .eql (.s 9) (.s 12), g := some (7, true) }, { o := .pick 14 (.s 7) (.s 13) (.c (.bool false)) }, { o := .mv 15 (.s 14) }, { o := .fld 16 (.s 2) 1, g := some (15, true) }, { o := .load 17 false 1 (.s 16), g := some (15, true) }, { o := .bin 18 false .eql (.s 17) (.c (.int .i64 (-1))), g := some (15, true) }, { o := .mv 19 (.s 18), g := some (15, true) }, { o := .fld 20 (.s 2) 1, g := some (19, false) }, { o := .load 21 false 1 (.s 20), g := some (19, false) }, { o := .fld 22 (.s 3) 0, g := some (19, false) }, { o := .fld 23 (.s 22) 1, g := some (19, false) }, { o := .load 24 false 1 (.s 23), g := some (19, false) }, { o := .bin 25 false .eql (.s 21) (.s 24), g := some (19, false) }, { o := .pick 26 (.s 19) (.c (.bool true)) (.s 25), g := some (15, true) }, { o := .pick 27 (.s 15) (.s 26) (.c (.bool false)) }, { o := .mv 28 (.s 27) }, { o := .fld 29 (.s 3) 3, g := some (28, true) }, { o := .load 30 false 1 (.s 29), g := some (28, true) }, { o := .fld 31 (.s 2) 2, g := some (28, true) }, { o := .load 32 false 1 (.s 31), g := some (28, true) }, { o := .fld 33 (.s 2) 3, g := some (28, true) }, { o := .load 34 false 1 (.s 33), g := some (28, true) }, { o := .call 35 [] (.f n_spec_l1In) [.s 30, .s 32, .s 34], g := some (28, true) }, { o := .pick 36 (.s 28) (.s 35) (.c (.bool false)) }, { o := .mv 4 (.s 36) }] [4])
.ret))
theorem c_spec_l25Meets (x : GExclusion) (c : GCapture) : Ctr Tryz.prog n_spec_l25Meets [aS x.enc, aS c.enc] [rB (hidesB x c)] := by
  refine ctr_at (M := m_spec_l25Meets) (m := 2) (n := 37) (res := [(.tmp 4, [false])]) hmix Tryz.func241 rfl (by kernel_rfl) rfl (by kernel_rfl) (by kernel_rfl) (Nat.le_of_ble_eq_true rfl) ?_; unfold m_spec_l25Meets
  intro hb
  clear hb
  simp only [↓bk_bind, ↓bk_map, ↓bk_ite, ↓bk_some, ↓reduceIte, Nat.reduceEqDiff, Nat.reduceLT, Nat.reduceLeDiff, Nat.reduceAdd, Nat.reduceMul, reduceCtorEq, List.reduceReplicate, go_sem]
  repeat' first
    | (refine And.intro ?_ ?_ <;> intro h)
    | (apply callK_of (c_spec_IsExclusion _); simp only [↓bk_bind, ↓bk_map, ↓bk_ite, ↓bk_some, ↓reduceIte, Nat.reduceEqDiff, Nat.reduceLT, Nat.reduceLeDiff, Nat.reduceAdd, Nat.reduceMul, reduceCtorEq, List.reduceReplicate, go_sem])
    | (apply callK_of (c_spec_l1In _ _ _); simp only [↓bk_bind, ↓bk_map, ↓bk_ite, ↓bk_some, ↓reduceIte, Nat.reduceEqDiff, Nat.reduceLT, Nat.reduceLeDiff, Nat.reduceAdd, Nat.reduceMul, reduceCtorEq, List.reduceReplicate, go_sem])
  all_goals (unfold hidesB; first | (rw [‹isExcl x = false›]; rfl) | (rw [‹isExcl x = true›, Bool.true_and]; first | (symm; rw [decide_eq_false_iff_not]; omega) | (rw [Bool.eq_iff_iff]; simp only [decide_eq_true_eq]; omega)))
def m_impl_IsHiddenBy : MC :=
(.seq (pr [.box 3 0 (.s 0), .box 4 1 (.s 1), .mv 6 (.c (.bool false))] [2,3,4])
(.seq (.reg [{ o := .mv 7 (.s 2) }, { o := .fld 8 (.s 3) 4 }, { o := .load 9 false 1 (.s 8) }, { o := .bin 10 false .geq (.s 7) (.s 9) }, { o := .mv 11 (.s 10) }, { o := .load 12 true 5 (.s 3), g := some (11, true) }, { o := .load 13 true 9 (.s 4), g := some (11, true) }, { o := .call 14 [] (.f n_impl_Exclusion_hides) [.s 12, .s 13], g := some (11, true) }, { o := .pick 15 (.s 11) (.s 14) (.c (.bool false)) }, { o := .mv 6 (.s 15) }] [6])
.ret))
theorem c_impl_IsHiddenBy (x : GExclusion) (c : GCapture) (now : Int) : Ctr Tryz.prog n_impl_IsHiddenBy [aS x.enc, aS c.enc, aI now] [rB (hiddenBy x c now)] := by
  refine ctr_at (M := m_impl_IsHiddenBy) (m := 2) (n := 16) (res := [(.tmp 6, [false])]) hmix Tryz.func181 rfl (by kernel_rfl) rfl (by kernel_rfl) (by kernel_rfl) (Nat.le_of_ble_eq_true rfl) ?_; unfold m_impl_IsHiddenBy
  intro hb
  clear hb
  simp only [↓bk_bind, ↓bk_map, ↓bk_ite, ↓bk_some, ↓reduceIte, Nat.reduceEqDiff, Nat.reduceLT, Nat.reduceLeDiff, Nat.reduceAdd, Nat.reduceMul, reduceCtorEq, List.reduceReplicate, go_sem]
  repeat' first
    | (refine And.intro ?_ ?_ <;> intro h)
    | (apply callK_of (c_impl_hides _ _); simp only [↓bk_bind, ↓bk_map, ↓bk_ite, ↓bk_some, ↓reduceIte, Nat.reduceEqDiff, Nat.reduceLT, Nat.reduceLeDiff, Nat.reduceAdd, Nat.reduceMul, reduceCtorEq, List.reduceReplicate, go_sem])
  all_goals (unfold hiddenBy; first | (rw [‹hidesB x c = false›]; simp) | (simp; done) | (simp_all; done) | (intros; omega) | (simp_all; intros; omega))
def m_spec_IsHiddenBy : MC :=
(.seq (pr [.box 3 0 (.s 0), .box 4 1 (.s 1), .mv 6 (.c (.bool false))] [2,3,4])
(.seq (.reg [{ o := .load 7 true 5 (.s 3) }, { o := .load 8 true 9 (.s 4) }, { o := .call 9 [] (.f n_spec_l25Meets) [.s 7, .s 8] }, { o := .mv 10 (.s 9) }, { o := .mv 11 (.s 2), g := some (10, true) }, { o := .fld 12 (.s 3) 4, g := some (10, true) }, { o := .load 13 false 1 (.s 12), g := some (10, true) }, { o := .bin 14 false .geq (.s 11) (.s 13), g := some (10, true) }, { o := .pick 15 (.s 10) (.s 14) (.c (.bool false)) }, { o := .mv 6 (.s 15) }] [6])
.ret))
theorem c_spec_IsHiddenBy (x : GExclusion) (c : GCapture) (now : Int) : Ctr Tryz.prog n_spec_IsHiddenBy [aS x.enc, aS c.enc, aI now] [rB (hiddenBy x c now)] := by
  refine ctr_at (M := m_spec_IsHiddenBy) (m := 2) (n := 16) (res := [(.tmp 6, [false])]) hmix Tryz.func220 rfl (by kernel_rfl) rfl (by kernel_rfl) (by kernel_rfl) (Nat.le_of_ble_eq_true rfl) ?_; unfold m_spec_IsHiddenBy
  intro hb
  clear hb
  simp only [↓bk_bind, ↓bk_map, ↓bk_ite, ↓bk_some, ↓reduceIte, Nat.reduceEqDiff, Nat.reduceLT, Nat.reduceLeDiff, Nat.reduceAdd, Nat.reduceMul, reduceCtorEq, List.reduceReplicate, go_sem]
  repeat' first
    | (refine And.intro ?_ ?_ <;> intro h)
    | (apply callK_of (c_spec_l25Meets _ _); simp only [↓bk_bind, ↓bk_map, ↓bk_ite, ↓bk_some, ↓reduceIte, Nat.reduceEqDiff, Nat.reduceLT, Nat.reduceLeDiff, Nat.reduceAdd, Nat.reduceMul, reduceCtorEq, List.reduceReplicate, go_sem])
  all_goals (unfold hiddenBy; first | (rw [‹hidesB x c = false›]; simp) | (simp; done) | (simp_all; done) | (intros; omega) | (simp_all; intros; omega))
theorem cut_one {α : Type} {f : α → List T} {xs : List α} {k : Nat} {x : α} (hx : xs[k]? = some x) : (if k = 0 ∧ (((k + 1 : Nat) : Int) - (k : Int)).toNat = xs.length then xs.map f else List.take (((k + 1 : Nat) : Int) - (k : Int)).toNat (List.drop k (xs.map f))) = [x].map f := by
  have e : (((k + 1 : Nat) : Int) - (k : Int)).toNat = 1 := by omega
  have hk := len_at hx
  rw [e]
  have hd : List.take 1 (List.drop k (xs.map f)) = [x].map f := by
    rw [← List.map_drop, drop_cons hx]; rfl
  split
  · rename_i h
    rw [h.1] at hd
    rw [← hd, List.drop_zero, List.take_of_length_le (by rw [List.length_map, ← h.2]; exact Nat.le_refl _)]
  · exact hd
def hiddenIn (c : GCapture) (l : List GExclusion) (now : Int) : Bool := l.any fun x => hiddenBy x c now
def visible (cs : List GCapture) (l : List GExclusion) (now : Int) : List GCapture := cs.filter fun c => !hiddenIn c l now
theorem visible_snoc {cs : List GCapture} {l : List GExclusion} {now : Int} {k : Nat} {c : GCapture} (h : cs[k]? = some c) : visible (cs.take (k + 1)) l now = if hiddenIn c l now then visible (cs.take k) l now else visible (cs.take k) l now ++ [c] := by
  unfold visible
  rw [take_snoc h, List.filter_append]
  cases hh : hiddenIn c l now <;> simp [hh]
theorem visible_len (cs : List GCapture) (l : List GExclusion) (now : Int) : (visible cs l now).length ≤ cs.length := List.length_filter_le _ _
theorem sum_filter_le {α : Type} {p : α → Bool} {f : α → Nat} : ∀ l : List α, ((l.filter p).map f).sum ≤ (l.map f).sum
  | [] => by simp
  | x :: l => by
    have := sum_filter_le (p := p) (f := f) l
    rw [List.filter_cons]
    split <;> simp <;> omega
def m_impl_VisibleAt_1 : MC :=
(.seq (pr [.box 3 0 (.s 0), .mv 4 (.c (.bool false))] [1,2,3])
(.seq (pr [.load 5 true 5 (.s 3), .load 6 true 9 (.s 1), .load 7 false 1 (.s 2), .call 8 [] (.f n_impl_IsHiddenBy) [.s 5, .s 6, .s 7], .mv 4 (.s 8)] [4])
.ret))
theorem c_impl_VisibleAt_1 (x : GExclusion) (c : GCapture) (now : Int) : Ctr Tryz.prog n_impl_VisibleAt_1 [aS x.enc, (false, [.pb c.enc]), (false, [.pb [tI now]])] [rB (hiddenBy x c now)] := by
  refine ctr_at (M := m_impl_VisibleAt_1) (m := 1) (n := 9) (res := [(.tmp 4, [false])]) hmix Tryz.func180 rfl (by kernel_rfl) rfl (by kernel_rfl) (by kernel_rfl) (Nat.le_of_ble_eq_true rfl) ?_; unfold m_impl_VisibleAt_1
  intro hb
  clear hb
  simp only [↓bk_bind, ↓bk_map, ↓bk_ite, ↓bk_some, ↓reduceIte, Nat.reduceEqDiff, Nat.reduceLT, Nat.reduceLeDiff, Nat.reduceAdd, Nat.reduceMul, reduceCtorEq, List.reduceReplicate, go_sem]
  refine callK_of (c_impl_IsHiddenBy _ _ _) ?_
  simp only [↓bk_bind, ↓bk_map, ↓bk_ite, ↓bk_some, ↓reduceIte, Nat.reduceEqDiff, Nat.reduceLT, Nat.reduceLeDiff, Nat.reduceAdd, Nat.reduceMul, reduceCtorEq, List.reduceReplicate, go_sem]
def m_impl_VisibleAt : MC :=
(.seq (pr [.box 5 0 (.s 2), .nilo 6 1 9] [0,1,5])
(.seq (pr [.nilo 7 2 9] [0,1,5,7])
(.seq (.seq (pr [.mv 10 (.s 0), .len 11 false (.s 10), .mv 12 (.c (.int .i64 0))] [1,5,7,10,11,12])
(.block 0 (.loop ([1,5,7,10,11,12], [1,3,4]) (.seq (pr [.bin 13 false .lss (.s 12) (.s 11)] [1,5,7,10,11,12,13])
(.seq (.cond (.s 13) .skip (.exit 0))
(.seq (.block 1 (.seq (pr [.idx 14 9 (.s 10) (.s 12), .load 15 true 9 (.s 14), .alloc 9 3 [.pl (.sc (.int .i64 0)), .pl (.sc (.int .i64 0)), .pl (.sc (.int .i64 0)), .pl (.sc (.int .i64 0)), .pl (.sc (.int .i64 0)), .emp 1, .pl (.sc (.int .i64 0)), .pl (.sc (.int .i64 0)), .pl (.sc (.int .i64 0))], .store 9 (.s 9) (.s 15)] [1,5,7,9,10,11,12])
(.seq (pr [.mv 16 (.s 1), .clos 17 n_impl_VisibleAt_1 [9, 5], .call 18 [] (.f n_slices_ContainsFunc_impl_Exclusion_impl_Exclusion) [.s 16, .s 17], .un 19 .not (.s 18)] [1,5,7,9,10,11,12,19])
(.cond (.s 19) (pr [.mv 20 (.s 7), .load 21 true 9 (.s 9), .lit 22 4 9 88 [.s 21], .app 23 2 9 88 (.s 20) (.s 22), .mv 7 (.s 23)] [1,5,7,10,11,12]) .skip))))
(pr [.bin 24 false .add (.s 12) (.c (.int .i64 1)), .mv 12 (.s 24)] [1,5,7,10,11,12])))))))
(.seq (pr [.mv 25 (.s 7), .call 26 [1] (.f n_impl_copyCaptures) [.s 25], .mv 6 (.s 26)] [6])
.ret))))
theorem c_impl_VisibleAt (cs : List GCapture) (l : List GExclusion) (now : Int) (hs : cs.length + (cs.map GCapture.size).sum ≤ 1073741824) : Ctr Tryz.prog n_impl_VisibleAt [aL 9 (cs.map GCapture.enc), aL 5 (l.map GExclusion.enc), aI now] [rL 9 ((visible cs l now).map GCapture.enc)] := by
  refine ctr_at (M := m_impl_VisibleAt) (m := 5) (n := 27) (res := [(.tmp 6, [true])]) hmix Tryz.func122 rfl (by kernel_rfl) rfl (by kernel_rfl) (by kernel_rfl) (Nat.le_of_ble_eq_true rfl) ?_; unfold m_impl_VisibleAt
  intro hb
  clear hb
  simp only [↓bk_bind, ↓bk_map, ↓bk_ite, ↓bk_some, ↓reduceIte, Nat.reduceEqDiff, Nat.reduceLT, Nat.reduceLeDiff, Nat.reduceAdd, Nat.reduceMul, reduceCtorEq, List.reduceReplicate, go_sem]
  refine loopK_rng cs (fun k => [(7, .val false [.ref 2 0 9 0 (visible (cs.take k) l now).length]), (12, vI k)]) (fun k => [(2, ⟨0, .row (visible (cs.take k) l now).isEmpty 9 ((visible (cs.take k) l now).map GCapture.enc)⟩)]) (fun _ => True) (by simp only [roomB]; omega) ?_
  simp only [↓bk_bind, ↓bk_map, ↓bk_ite, ↓bk_some, ↓reduceIte, Nat.reduceEqDiff, Nat.reduceLT, Nat.reduceLeDiff, Nat.reduceAdd, Nat.reduceMul, reduceCtorEq, List.reduceReplicate, go_sem]
  refine ⟨?_, trivial, ?_, ?_⟩
  · simp only [↓bk_bind, ↓bk_map, ↓bk_ite, ↓bk_some, ↓reduceIte, Nat.reduceEqDiff, Nat.reduceLT, Nat.reduceLeDiff, Nat.reduceAdd, Nat.reduceMul, reduceCtorEq, List.reduceReplicate, go_sem, List.take_zero]
    exact ⟨rfl, rfl, rfl⟩
  · intro k x hx _ h0 h1 hw
    have hk : k < cs.length := by omega
    have hlt := List.length_take_le k cs
    have hv := visible_len (cs.take k) l now
    simp only [↓bk_bind, ↓bk_map, ↓bk_ite, ↓bk_some, ↓reduceIte, Nat.reduceEqDiff, Nat.reduceLT, Nat.reduceLeDiff, Nat.reduceAdd, Nat.reduceMul, reduceCtorEq, List.reduceReplicate, go_sem, bk_eq hx, h0, h1, hw]
    refine callK_of (c_slices_ContainsFunc_Exclusion l _ [.pb x.enc, .pb [tI now]] (fun y => hiddenBy y x now) fun y _ => c_impl_VisibleAt_1 y x now) ?_
    simp only [↓bk_bind, ↓bk_map, ↓bk_ite, ↓bk_some, ↓reduceIte, Nat.reduceEqDiff, Nat.reduceLT, Nat.reduceLeDiff, Nat.reduceAdd, Nat.reduceMul, reduceCtorEq, List.reduceReplicate, go_sem, hw]
    refine ⟨fun h => ?_, fun h => ?_⟩
    · have hx2 : hiddenIn x l now = false := h
      simp only [roomB, visible_snoc hx, hx2, Bool.false_eq_true, if_false]
      refine ⟨by omega, by omega, ?_, by simp, by simp, by simp [GCapture.enc]⟩
      cases visible (cs.take k) l now <;> simp
    · have hx2 : hiddenIn x l now = true := h
      simp only [visible_snoc hx, hx2, if_true]
      first | trivial | exact ⟨rfl, rfl, rfl⟩ | (refine ⟨?_, ?_⟩ <;> rfl)
  · intro _
    simp only [↓bk_bind, ↓bk_map, ↓bk_ite, ↓bk_some, ↓reduceIte, Nat.reduceEqDiff, Nat.reduceLT, Nat.reduceLeDiff, Nat.reduceAdd, Nat.reduceMul, reduceCtorEq, List.reduceReplicate, go_sem, List.take_length]
    refine callK_of (c_impl_copyCaptures _ ?_) ?_
    · have := visible_len cs l now
      have := sum_filter_le (p := fun c => !hiddenIn c l now) (f := GCapture.size) cs
      unfold visible at *
      omega
    simp only [↓bk_bind, ↓bk_map, ↓bk_ite, ↓bk_some, ↓reduceIte, Nat.reduceEqDiff, Nat.reduceLT, Nat.reduceLeDiff, Nat.reduceAdd, Nat.reduceMul, reduceCtorEq, List.reduceReplicate, go_sem]
def m_spec_l25Hidden : MC :=
(.seq (pr [.box 3 0 (.s 0), .mv 6 (.c (.bool false))] [1,2,3])
(.seq (.seq (pr [.mv 7 (.c (.int .i64 0))] [1,2,3,7])
(.block 0 (.loop ([1,2,3,7], []) (.seq (.seq (pr [.mv 8 (.s 7), .mv 9 (.s 1), .len 10 false (.s 9), .bin 11 false .lss (.s 8) (.s 10)] [1,2,3,7,11])
(.cond (.s 11) .skip (.exit 0)))
(.seq (.block 1 (.seq (.dreg [{ o := .mv 14 (.s 1), hs := [15,18,19] }, { o := .mv 15 (.s 7), hs := [14,18,19] }, { o := .idx 16 5 (.s 14) (.s 15), hs := [18,19], bf := [0,1] }, { o := .load 17 true 5 (.s 16), hs := [18,19], bf := [0,1,2] }, { o := .load 18 true 9 (.s 3), hs := [14,15,16,17,19] }, { o := .mv 19 (.s 2), hs := [14,15,16,17,18] }, { o := .call 20 [] (.f n_spec_IsHiddenBy) [.s 17, .s 18, .s 19], bf := [0,1,2,3,4,5] }] [1,2,3,7,20])
(.cond (.s 20) (.seq (pr [.mv 6 (.c (.bool true))] [6])
.ret) .skip)))
(pr [.mv 12 (.s 7), .bin 13 false .add (.s 12) (.c (.int .i64 1)), .mv 7 (.s 13)] [1,2,3,7]))))))
(.seq (pr [.mv 6 (.c (.bool false))] [6])
.ret)))
theorem c_spec_l25Hidden (c : GCapture) (l : List GExclusion) (now : Int) : Ctr Tryz.prog n_spec_l25Hidden [aS c.enc, aL 5 (l.map GExclusion.enc), aI now] [rB (hiddenIn c l now)] := by
  refine ctr_at (M := m_spec_l25Hidden) (m := 1) (n := 21) (res := [(.tmp 6, [false])]) hmix Tryz.func178 rfl (by kernel_rfl) rfl (by kernel_rfl) (by kernel_rfl) (Nat.le_of_ble_eq_true rfl) ?_; unfold m_spec_l25Hidden
  intro hb
  simp only [bdA, bdL, bdT, bdR, bdR_map, wfB_i64, wfB_bool, wfB_str, roomB, and_true, true_and, List.length_map] at hb
  have hl := hb.2.1.1
  clear hb
  simp only [↓bk_bind, ↓bk_map, ↓bk_ite, ↓bk_some, ↓reduceIte, Nat.reduceEqDiff, Nat.reduceLT, Nat.reduceLeDiff, Nat.reduceAdd, Nat.reduceMul, reduceCtorEq, List.reduceReplicate, go_sem]
  refine loopK_rng l (fun k => [(7, vI k)]) (fun k => []) (fun k => ((l.take k).any fun x => hiddenBy x c now) = false) hl ?_
  simp only [↓bk_bind, ↓bk_map, ↓bk_ite, ↓bk_some, ↓reduceIte, Nat.reduceEqDiff, Nat.reduceLT, Nat.reduceLeDiff, Nat.reduceAdd, Nat.reduceMul, reduceCtorEq, List.reduceReplicate, go_sem]
  refine ⟨?_, by simp, ?_, ?_⟩
  · simp only [↓bk_bind, ↓bk_map, ↓bk_ite, ↓bk_some, ↓reduceIte, Nat.reduceEqDiff, Nat.reduceLT, Nat.reduceLeDiff, Nat.reduceAdd, Nat.reduceMul, reduceCtorEq, List.reduceReplicate, go_sem]
  · intro k x hx h h0 h1 hw
    simp only [↓bk_bind, ↓bk_map, ↓bk_ite, ↓bk_some, ↓reduceIte, Nat.reduceEqDiff, Nat.reduceLT, Nat.reduceLeDiff, Nat.reduceAdd, Nat.reduceMul, reduceCtorEq, List.reduceReplicate, go_sem, bk_eq hx, h0, h1, hw]
    refine callK_of (c_spec_IsHiddenBy _ _ _) ?_
    simp only [↓bk_bind, ↓bk_map, ↓bk_ite, ↓bk_some, ↓reduceIte, Nat.reduceEqDiff, Nat.reduceLT, Nat.reduceLeDiff, Nat.reduceAdd, Nat.reduceMul, reduceCtorEq, List.reduceReplicate, go_sem, hw]
    exact ⟨fun hn => (any_here hx hn).symm, fun hn => anyF_step hx h hn⟩
  · intro h
    simp only [↓bk_bind, ↓bk_map, ↓bk_ite, ↓bk_some, ↓reduceIte, Nat.reduceEqDiff, Nat.reduceLT, Nat.reduceLeDiff, Nat.reduceAdd, Nat.reduceMul, reduceCtorEq, List.reduceReplicate, go_sem]
    rw [List.take_length] at h
    exact h.symm
def m_spec_VisibleAt : MC :=
(.seq (pr [.nilo 6 0 9] [0,1,2])
(.seq (pr [.lit 9 0 9 88 [], .mv 7 (.s 9)] [0,1,2,7])
(.seq (.seq (pr [.mv 8 (.c (.int .i64 0))] [0,1,2,7,8])
(.block 0 (.loop ([0,1,2,7,8], [1]) (.seq (.seq (pr [.mv 10 (.s 8), .mv 11 (.s 0), .len 12 false (.s 11), .bin 13 false .lss (.s 10) (.s 12)] [0,1,2,7,8,13])
(.cond (.s 13) .skip (.exit 0)))
(.seq (.block 1 (.seq (pr [.mv 16 (.s 0), .mv 17 (.s 8), .idx 18 9 (.s 16) (.s 17), .load 19 true 9 (.s 18), .mv 20 (.s 1), .mv 21 (.s 2), .call 22 [] (.f n_spec_l25Hidden) [.s 19, .s 20, .s 21], .un 23 .not (.s 22)] [0,1,2,7,8,23])
(.cond (.s 23) (pr [.mv 24 (.s 7), .mv 25 (.s 0), .mv 26 (.s 8), .mv 27 (.s 8), .bin 28 false .add (.s 27) (.c (.int .i64 1)), .slc 29 9 (.s 25) (some (.s 26)) (some (.s 28)) none, .call 30 [1] (.f n_spec_l15Copy) [.s 29], .app 31 0 9 88 (.s 24) (.s 30), .mv 7 (.s 31)] [0,1,2,7,8]) .skip)))
(pr [.mv 14 (.s 8), .bin 15 false .add (.s 14) (.c (.int .i64 1)), .mv 8 (.s 15)] [0,1,2,7,8]))))))
(.seq (pr [.mv 32 (.s 7), .mv 6 (.s 32)] [6])
.ret))))
theorem c_spec_VisibleAt (cs : List GCapture) (l : List GExclusion) (now : Int) (hs : cs.length + (cs.map GCapture.size).sum ≤ 1073741824) : Ctr Tryz.prog n_spec_VisibleAt [aL 9 (cs.map GCapture.enc), aL 5 (l.map GExclusion.enc), aI now] [rL 9 ((visible cs l now).map GCapture.enc)] := by
  refine ctr_at (M := m_spec_VisibleAt) (m := 2) (n := 33) (res := [(.tmp 6, [true])]) hmix Tryz.func120 rfl (by kernel_rfl) rfl (by kernel_rfl) (by kernel_rfl) (Nat.le_of_ble_eq_true rfl) ?_; unfold m_spec_VisibleAt
  intro hb
  clear hb
  simp only [↓bk_bind, ↓bk_map, ↓bk_ite, ↓bk_some, ↓reduceIte, Nat.reduceEqDiff, Nat.reduceLT, Nat.reduceLeDiff, Nat.reduceAdd, Nat.reduceMul, reduceCtorEq, List.reduceReplicate, go_sem]
  refine loopK_rng cs (fun k => [(7, .val false [.ref 0 0 9 0 (visible (cs.take k) l now).length]), (8, vI k)]) (fun k => [(0, ⟨0, .row true 9 ((visible (cs.take k) l now).map GCapture.enc)⟩)]) (fun _ => True) (by simp only [roomB]; omega) ?_
  simp only [↓bk_bind, ↓bk_map, ↓bk_ite, ↓bk_some, ↓reduceIte, Nat.reduceEqDiff, Nat.reduceLT, Nat.reduceLeDiff, Nat.reduceAdd, Nat.reduceMul, reduceCtorEq, List.reduceReplicate, go_sem]
  refine ⟨?_, trivial, ?_, ?_⟩
  · simp only [↓bk_bind, ↓bk_map, ↓bk_ite, ↓bk_some, ↓reduceIte, Nat.reduceEqDiff, Nat.reduceLT, Nat.reduceLeDiff, Nat.reduceAdd, Nat.reduceMul, reduceCtorEq, List.reduceReplicate, go_sem, List.take_zero]
    exact ⟨rfl, rfl⟩
  · intro k x hx _ h0 h1 hw
    have hk : k < cs.length := by omega
    have hlt := List.length_take_le k cs
    have hv := visible_len (cs.take k) l now
    simp only [↓bk_bind, ↓bk_map, ↓bk_ite, ↓bk_some, ↓reduceIte, Nat.reduceEqDiff, Nat.reduceLT, Nat.reduceLeDiff, Nat.reduceAdd, Nat.reduceMul, reduceCtorEq, List.reduceReplicate, go_sem, bk_eq hx, h0, h1, hw]
    refine callK_of (c_spec_l25Hidden _ _ _) ?_
    simp only [↓bk_bind, ↓bk_map, ↓bk_ite, ↓bk_some, ↓reduceIte, Nat.reduceEqDiff, Nat.reduceLT, Nat.reduceLeDiff, Nat.reduceAdd, Nat.reduceMul, reduceCtorEq, List.reduceReplicate, go_sem, hw]
    refine ⟨fun h => ?_, fun h => ?_⟩
    · rw [cut_one hx]
      refine ⟨by omega, ?_⟩
      refine callK_of (c_spec_l15Copy [x] ?_) ?_
      · have hx1 := mem_sum (f := GCapture.size) (at_mem hx)
        simp only [List.length_cons, List.length_nil, List.map_cons, List.map_nil, List.sum_cons, List.sum_nil]
        omega
      simp only [↓bk_bind, ↓bk_map, ↓bk_ite, ↓bk_some, ↓reduceIte, Nat.reduceEqDiff, Nat.reduceLT, Nat.reduceLeDiff, Nat.reduceAdd, Nat.reduceMul, reduceCtorEq, List.reduceReplicate, go_sem, hw]
      simp only [roomB, visible_snoc hx, h, Bool.false_eq_true, if_false]
      exact ⟨by omega, fun _ => ⟨by simp, by simp [GCapture.enc]⟩⟩
    · simp only [visible_snoc hx, h, if_true]
      first | trivial | exact ⟨rfl, rfl⟩
  · intro _
    simp only [↓bk_bind, ↓bk_map, ↓bk_ite, ↓bk_some, ↓reduceIte, Nat.reduceEqDiff, Nat.reduceLT, Nat.reduceLeDiff, Nat.reduceAdd, Nat.reduceMul, reduceCtorEq, List.reduceReplicate, go_sem, List.take_length]
end Go.Proofs.YtbnbgekjjbpljaaGreatR
namespace Go.Proofs.YtbnbgekjjbpljaaGreatR
open Go Go.RowKit Go.Proofs
set_option linter.unusedSimpArgs false
set_option linter.unusedVariables false
def hidCount (cs : List GCapture) (l : List GExclusion) (now : Int) : Int := IntKind.i64.wrap ((cs.length : Int) - ((visible cs l now).length : Int))
def m_impl_HiddenCount : MC :=
(.seq (pr [.mv 6 (.c (.int .i64 0))] [0,1,2])
(.seq (pr [.mv 7 (.s 0), .len 8 false (.s 7), .mv 9 (.s 0), .mv 10 (.s 1), .mv 11 (.s 2), .call 12 [0] (.f n_impl_VisibleAt) [.s 9, .s 10, .s 11], .len 13 false (.s 12), .bin 14 false .sub (.s 8) (.s 13), .mv 6 (.s 14)] [6])
.ret))
theorem c_impl_HiddenCount (cs : List GCapture) (l : List GExclusion) (now : Int) (hs : cs.length + (cs.map GCapture.size).sum ≤ 1073741824) : Ctr Tryz.prog n_impl_HiddenCount [aL 9 (cs.map GCapture.enc), aL 5 (l.map GExclusion.enc), aI now] [rI (hidCount cs l now)] := by
  refine ctr_at (M := m_impl_HiddenCount) (m := 1) (n := 15) (res := [(.tmp 6, [false])]) hmix Tryz.func185 rfl (by kernel_rfl) rfl (by kernel_rfl) (by kernel_rfl) (Nat.le_of_ble_eq_true rfl) ?_; unfold m_impl_HiddenCount
  intro hb
  clear hb
  simp only [↓bk_bind, ↓bk_map, ↓bk_ite, ↓bk_some, ↓reduceIte, Nat.reduceEqDiff, Nat.reduceLT, Nat.reduceLeDiff, Nat.reduceAdd, Nat.reduceMul, reduceCtorEq, List.reduceReplicate, go_sem]
  apply callK_of (c_impl_VisibleAt _ _ _ hs)
  simp only [↓bk_bind, ↓bk_map, ↓bk_ite, ↓bk_some, ↓reduceIte, Nat.reduceEqDiff, Nat.reduceLT, Nat.reduceLeDiff, Nat.reduceAdd, Nat.reduceMul, reduceCtorEq, List.reduceReplicate, go_sem]
  intros
  rfl
def m_spec_HiddenCount : MC :=
(.seq (pr [.mv 6 (.c (.int .i64 0))] [0,1,2])
(.seq (pr [.mv 7 (.s 0), .len 8 false (.s 7), .mv 9 (.s 0), .mv 10 (.s 1), .mv 11 (.s 2), .call 12 [0] (.f n_spec_VisibleAt) [.s 9, .s 10, .s 11], .len 13 false (.s 12), .bin 14 false .sub (.s 8) (.s 13), .mv 6 (.s 14)] [6])
.ret))
theorem c_spec_HiddenCount (cs : List GCapture) (l : List GExclusion) (now : Int) (hs : cs.length + (cs.map GCapture.size).sum ≤ 1073741824) : Ctr Tryz.prog n_spec_HiddenCount [aL 9 (cs.map GCapture.enc), aL 5 (l.map GExclusion.enc), aI now] [rI (hidCount cs l now)] := by
  refine ctr_at (M := m_spec_HiddenCount) (m := 1) (n := 15) (res := [(.tmp 6, [false])]) hmix Tryz.func183 rfl (by kernel_rfl) rfl (by kernel_rfl) (by kernel_rfl) (Nat.le_of_ble_eq_true rfl) ?_; unfold m_spec_HiddenCount
  intro hb
  clear hb
  simp only [↓bk_bind, ↓bk_map, ↓bk_ite, ↓bk_some, ↓reduceIte, Nat.reduceEqDiff, Nat.reduceLT, Nat.reduceLeDiff, Nat.reduceAdd, Nat.reduceMul, reduceCtorEq, List.reduceReplicate, go_sem]
  apply callK_of (c_spec_VisibleAt _ _ _ hs)
  simp only [↓bk_bind, ↓bk_map, ↓bk_ite, ↓bk_some, ↓reduceIte, Nat.reduceEqDiff, Nat.reduceLT, Nat.reduceLeDiff, Nat.reduceAdd, Nat.reduceMul, reduceCtorEq, List.reduceReplicate, go_sem]
  intros
  rfl
def mayReplay (a : GArchive) (i : Int) : Bool := match a.Disk.Containers[i.toNat]? with
  | some x => decide (0 ≤ i) && hidCount x.Captures a.Exclusions a.Now == 0
  | none => false
theorem size_cap {a : GArchive} {x : GContainer} {k : Nat} (hx : a.Disk.Containers[k]? = some x) (hs : a.size ≤ 1073741824) : x.Captures.length + (x.Captures.map GCapture.size).sum ≤ 1073741824 := by
  have h := mem_sum (f := GContainer.size) (at_mem hx)
  simp only [GArchive.size, GDisk.size] at hs
  simp only [GContainer.size] at h
  omega
theorem mayReplay_out {a : GArchive} {i : Int} (h : ¬ (0 ≤ i ∧ i < a.Disk.Containers.length)) : mayReplay a i = false := by
  unfold mayReplay
  split
  · rename_i x hx
    have := len_at hx
    have : ¬ 0 ≤ i := fun h0 => h ⟨h0, by omega⟩
    simp [this]
  · rfl
def m_impl_MayReplay : MC :=
(.seq (pr [.box 2 0 (.s 0), .mv 4 (.c (.bool false))] [1,2])
(.seq (.dreg [{ o := .mv 5 (.s 1), hs := [6,7,8,9] }, { o := .fld 6 (.s 2) 2, hs := [5] }, { o := .fld 7 (.s 6) 0, hs := [5], bf := [1] }, { o := .load 8 false 1 (.s 7), hs := [5], bf := [1,2] }, { o := .len 9 false (.s 8), hs := [5], bf := [1,2,3] }, { o := .call 10 [] (.f n_impl_at) [.s 5, .s 9], bf := [0,1,2,3,4] }, { o := .mv 11 (.s 10), bf := [0,1,2,3,4,5] }, { o := .fld 12 (.s 2) 2, g := some (11, true), hs := [15,19,20,21,22], bf := [0,1,2,3,4,5,6] }, { o := .fld 13 (.s 12) 0, g := some (11, true), hs := [15,19,20,21,22], bf := [0,1,2,3,4,5,6,7] }, { o := .load 14 false 1 (.s 13), g := some (11, true), hs := [15,19,20,21,22], bf := [0,1,2,3,4,5,6,7,8] }, { o := .mv 15 (.s 1), g := some (11, true), hs := [12,13,14,19,20,21,22], bf := [0,1,2,3,4,5,6] }, { o := .idx 16 4 (.s 14) (.s 15), g := some (11, true), hs := [19,20,21,22], bf := [0,1,2,3,4,5,6,7,8,9,10] }, { o := .fld 17 (.s 16) 2, g := some (11, true), hs := [19,20,21,22], bf := [0,1,2,3,4,5,6,7,8,9,10,11] }, { o := .load 18 false 1 (.s 17), g := some (11, true), hs := [19,20,21,22], bf := [0,1,2,3,4,5,6,7,8,9,10,11,12] }, { o := .fld 19 (.s 2) 5, g := some (11, true), hs := [12,13,14,15,16,17,18,21,22], bf := [0,1,2,3,4,5,6] }, { o := .load 20 false 1 (.s 19), g := some (11, true), hs := [12,13,14,15,16,17,18,21,22], bf := [0,1,2,3,4,5,6,14] }, { o := .fld 21 (.s 2) 9, g := some (11, true), hs := [12,13,14,15,16,17,18,19,20], bf := [0,1,2,3,4,5,6] }, { o := .load 22 false 1 (.s 21), g := some (11, true), hs := [12,13,14,15,16,17,18,19,20], bf := [0,1,2,3,4,5,6,16] }, { o := .call 23 [] (.f n_impl_HiddenCount) [.s 18, .s 20, .s 22], g := some (11, true), bf := [0,1,2,3,4,5,6,7,8,9,10,11,12,13,14,15,16,17] }, { o := .bin 24 false .eql (.s 23) (.c (.int .i64 0)), g := some (11, true), bf := [0,1,2,3,4,5,6,7,8,9,10,11,12,13,14,15,16,17,18] }, { o := .pick 25 (.s 11) (.s 24) (.c (.bool false)), bf := [0,1,2,3,4,5,6,7,8,9,10,11,12,13,14,15,16,17,18,19] }, { o := .mv 4 (.s 25), bf := [0,1,2,3,4,5,6,7,8,9,10,11,12,13,14,15,16,17,18,19,20] }] [4])
.ret))
theorem c_impl_MayReplay (a : GArchive) (i : Int) (hs : a.size ≤ 1073741824) : Ctr Tryz.prog n_impl_MayReplay [aS a.enc, aI i] [rB (mayReplay a i)] := by
  refine ctr_at (M := m_impl_MayReplay) (m := 1) (n := 26) (res := [(.tmp 4, [false])]) hmix Tryz.func124 rfl (by kernel_rfl) rfl (by kernel_rfl) (by kernel_rfl) (Nat.le_of_ble_eq_true rfl) ?_; unfold m_impl_MayReplay
  intro hb
  clear hb
  simp only [↓bk_bind, ↓bk_map, ↓bk_ite, ↓bk_some, ↓reduceIte, Nat.reduceEqDiff, Nat.reduceLT, Nat.reduceLeDiff, Nat.reduceAdd, Nat.reduceMul, reduceCtorEq, List.reduceReplicate, go_sem]
  apply callK_of (c_impl_at _ _)
  simp only [↓bk_bind, ↓bk_map, ↓bk_ite, ↓bk_some, ↓reduceIte, Nat.reduceEqDiff, Nat.reduceLT, Nat.reduceLeDiff, Nat.reduceAdd, Nat.reduceMul, reduceCtorEq, List.reduceReplicate, go_sem]
  refine And.intro ?_ ?_ <;> intro h
  · obtain ⟨k, rfl⟩ := Int.eq_ofNat_of_zero_le h.1
    obtain ⟨x, hx⟩ := at_some (show k < a.Disk.Containers.length by omega)
    simp only [↓bk_bind, ↓bk_map, ↓bk_ite, ↓bk_some, ↓reduceIte, Nat.reduceEqDiff, Nat.reduceLT, Nat.reduceLeDiff, Nat.reduceAdd, Nat.reduceMul, reduceCtorEq, List.reduceReplicate, go_sem, bk_eq hx]
    refine ⟨h, ?_⟩
    apply callK_of (c_impl_HiddenCount _ _ _ (size_cap hx hs))
    simp only [↓bk_bind, ↓bk_map, ↓bk_ite, ↓bk_some, ↓reduceIte, Nat.reduceEqDiff, Nat.reduceLT, Nat.reduceLeDiff, Nat.reduceAdd, Nat.reduceMul, reduceCtorEq, List.reduceReplicate, go_sem]
    try intros
    simp [mayReplay, hx]
  · exact (mayReplay_out h).symm
def m_spec_MayReplay : MC :=
(.seq (pr [.box 2 0 (.s 0), .mv 4 (.c (.bool false))] [1,2])
(.seq (.dreg [{ o := .mv 5 (.s 1), hs := [6,7,8,9,10] }, { o := .fld 6 (.s 2) 2, hs := [5] }, { o := .fld 7 (.s 6) 0, hs := [5], bf := [1] }, { o := .load 8 false 1 (.s 7), hs := [5], bf := [1,2] }, { o := .len 9 false (.s 8), hs := [5], bf := [1,2,3] }, { o := .bin 10 false .sub (.s 9) (.c (.int .i64 1)), hs := [5], bf := [1,2,3,4] }, { o := .call 11 [] (.f n_spec_l1In) [.s 5, .c (.int .i64 0), .s 10], bf := [0,1,2,3,4,5] }, { o := .mv 12 (.s 11), bf := [0,1,2,3,4,5,6] }, { o := .fld 13 (.s 2) 2, g := some (12, true), hs := [16,20,21,22,23], bf := [0,1,2,3,4,5,6,7] }, { o := .fld 14 (.s 13) 0, g := some (12, true), hs := [16,20,21,22,23], bf := [0,1,2,3,4,5,6,7,8] }, { o := .load 15 false 1 (.s 14), g := some (12, true), hs := [16,20,21,22,23], bf := [0,1,2,3,4,5,6,7,8,9] }, { o := .mv 16 (.s 1), g := some (12, true), hs := [13,14,15,20,21,22,23], bf := [0,1,2,3,4,5,6,7] }, { o := .idx 17 4 (.s 15) (.s 16), g := some (12, true), hs := [20,21,22,23], bf := [0,1,2,3,4,5,6,7,8,9,10,11] }, { o := .fld 18 (.s 17) 2, g := some (12, true), hs := [20,21,22,23], bf := [0,1,2,3,4,5,6,7,8,9,10,11,12] }, { o := .load 19 false 1 (.s 18), g := some (12, true), hs := [20,21,22,23], bf := [0,1,2,3,4,5,6,7,8,9,10,11,12,13] }, { o := .fld 20 (.s 2) 5, g := some (12, true), hs := [13,14,15,16,17,18,19,22,23], bf := [0,1,2,3,4,5,6,7] }, { o := .load 21 false 1 (.s 20), g := some (12, true), hs := [13,14,15,16,17,18,19,22,23], bf := [0,1,2,3,4,5,6,7,15] }, { o := .fld 22 (.s 2) 9, g := some (12, true), hs := [13,14,15,16,17,18,19,20,21], bf := [0,1,2,3,4,5,6,7] }, { o := .load 23 false 1 (.s 22), g := some (12, true), hs := [13,14,15,16,17,18,19,20,21], bf := [0,1,2,3,4,5,6,7,17] }, { o := .call 24 [] (.f n_spec_HiddenCount) [.s 19, .s 21, .s 23], g := some (12, true), bf := [0,1,2,3,4,5,6,7,8,9,10,11,12,13,14,15,16,17,18] }, { o := .bin 25 false .eql (.s 24) (.c (.int .i64 0)), g := some (12, true), bf := [0,1,2,3,4,5,6,7,8,9,10,11,12,13,14,15,16,17,18,19] }, { o := .pick 26 (.s 12) (.s 25) (.c (.bool false)), bf := [0,1,2,3,4,5,6,7,8,9,10,11,12,13,14,15,16,17,18,19,20] }, { o := .mv 4 (.s 26), bf := [0,1,2,3,4,5,6,7,8,9,10,11,12,13,14,15,16,17,18,19,20,21] }] [4])
.ret))
theorem c_spec_MayReplay (a : GArchive) (i : Int) (hs : a.size ≤ 1073741824) : Ctr Tryz.prog n_spec_MayReplay [aS a.enc, aI i] [rB (mayReplay a i)] := by
  refine ctr_at (M := m_spec_MayReplay) (m := 1) (n := 27) (res := [(.tmp 4, [false])]) hmix Tryz.func123 rfl (by kernel_rfl) rfl (by kernel_rfl) (by kernel_rfl) (Nat.le_of_ble_eq_true rfl) ?_; unfold m_spec_MayReplay
  intro hb
  simp only [GArchive.enc, bdA, bdL, bdT, bdR, bdR_map, wfB_i64, wfB_bool, wfB_str, roomB, and_true, true_and, List.length_map] at hb
  have hlc := hb.1.2.2.1.1
  clear hb
  simp only [↓bk_bind, ↓bk_map, ↓bk_ite, ↓bk_some, ↓reduceIte, Nat.reduceEqDiff, Nat.reduceLT, Nat.reduceLeDiff, Nat.reduceAdd, Nat.reduceMul, reduceCtorEq, List.reduceReplicate, go_sem]
  apply callK_of (c_spec_l1In _ _ _)
  simp only [↓bk_bind, ↓bk_map, ↓bk_ite, ↓bk_some, ↓reduceIte, Nat.reduceEqDiff, Nat.reduceLT, Nat.reduceLeDiff, Nat.reduceAdd, Nat.reduceMul, reduceCtorEq, List.reduceReplicate, go_sem]
  have hl : IntKind.i64.wrap ((a.Disk.Containers.length : Int) - 1) = (a.Disk.Containers.length : Int) - 1 := wI (by omega) (by omega)
  refine And.intro ?_ ?_ <;> intro h
  · rw [hl] at h
    obtain ⟨k, rfl⟩ := Int.eq_ofNat_of_zero_le h.1
    obtain ⟨x, hx⟩ := at_some (show k < a.Disk.Containers.length by omega)
    simp only [↓bk_bind, ↓bk_map, ↓bk_ite, ↓bk_some, ↓reduceIte, Nat.reduceEqDiff, Nat.reduceLT, Nat.reduceLeDiff, Nat.reduceAdd, Nat.reduceMul, reduceCtorEq, List.reduceReplicate, go_sem, bk_eq hx]
    refine ⟨⟨by omega, by omega⟩, ?_⟩
    apply callK_of (c_spec_HiddenCount _ _ _ (size_cap hx hs))
    simp only [↓bk_bind, ↓bk_map, ↓bk_ite, ↓bk_some, ↓reduceIte, Nat.reduceEqDiff, Nat.reduceLT, Nat.reduceLeDiff, Nat.reduceAdd, Nat.reduceMul, reduceCtorEq, List.reduceReplicate, go_sem]
    try intros
    simp [mayReplay, hx]
  · rw [hl] at h
    exact (mayReplay_out (fun h2 => h ⟨h2.1, by omega⟩)).symm
end Go.Proofs.YtbnbgekjjbpljaaGreatR
namespace Go.Proofs.YtbnbgekjjbpljaaGreatR
open Go Go.RowKit Go.Proofs
set_option linter.unusedSimpArgs false
set_option linter.unusedVariables false
def digestAt (tick : Int) (l : List GChange) : Int := l.foldl (fun d c => if c.Tick ≤ tick then c.Digest else d) 0
end Go.Proofs.YtbnbgekjjbpljaaGreatR
namespace Go.Proofs.YtbnbgekjjbpljaaGreatR
open Go Go.RowKit Go.Proofs
set_option linter.unusedSimpArgs false
set_option linter.unusedVariables false
def countKind (kind : Int) (l : List GEvent) : Int := l.foldl (fun n e => if e.Kind = kind then IntKind.i64.wrap (n + 1) else n) 0
theorem countKind_snoc {kind : Int} {l : List GEvent} {k : Nat} {x : GEvent} (h : l[k]? = some x) : countKind kind (l.take (k + 1)) = if x.Kind = kind then IntKind.i64.wrap (countKind kind (l.take k) + 1) else countKind kind (l.take k) := by
  rw [take_snoc h, countKind, List.foldl_append]; rfl
end Go.Proofs.YtbnbgekjjbpljaaGreatR
namespace Go.Proofs.YtbnbgekjjbpljaaGreatR
open Go Go.RowKit Go.Proofs
set_option linter.unusedSimpArgs false
set_option linter.unusedVariables false
/-- No element of the first k is it. -/
theorem has_step {α : Type} [BEq α] [LawfulBEq α] {l : List α} {k : Nat} {x n : α} (hx : l[k]? = some x) (h : (l.take k).contains n = false) (hn : ¬ x = n) : (l.take (k + 1)).contains n = false := by
  rw [take_snoc hx]
  simp only [List.contains_eq_mem, List.mem_append, List.mem_singleton, decide_eq_false_iff_not, not_or] at h ⊢
  exact ⟨h, fun e => hn e.symm⟩
theorem has_here {α : Type} [BEq α] [LawfulBEq α] {l : List α} {k : Nat} {x n : α} (hx : l[k]? = some x) (hn : x = n) : l.contains n = true := by
  subst hn
  simp only [List.contains_eq_mem, decide_eq_true_eq]
  exact at_mem hx
/-- How many libraries that are up and do not lie hold it. -/
def goodCopies (digest : Int) (l : List GLibrary) : Int := l.foldl (fun n x => if x.Up && !x.Lies && x.Digests.contains digest then IntKind.i64.wrap (n + 1) else n) 0
theorem goodCopies_snoc {digest : Int} {l : List GLibrary} {k : Nat} {x : GLibrary} (h : l[k]? = some x) : goodCopies digest (l.take (k + 1)) = if x.Up && !x.Lies && x.Digests.contains digest then IntKind.i64.wrap (goodCopies digest (l.take k) + 1) else goodCopies digest (l.take k) := by
  rw [take_snoc h, goodCopies, List.foldl_append]; rfl
/-- The least of numbers, -1 where there is none. -/
def leastOf (l : List Int) : Int := l.foldl (fun m n => if m < 0 ∨ n < m then n else m) (-1)
def copiesLeft (a : GArchive) : Int := leastOf (a.Disk.Containers.map fun x => goodCopies x.Root a.Libraries)
theorem leastOf_snoc {α : Type} {f : α → Int} {l : List α} {k : Nat} {x : α} (h : l[k]? = some x) : leastOf ((l.take (k + 1)).map f) = if leastOf ((l.take k).map f) < 0 ∨ f x < leastOf ((l.take k).map f) then f x else leastOf ((l.take k).map f) := by
  rw [take_snoc h, List.map_append, leastOf, List.foldl_append]; rfl
end Go.Proofs.YtbnbgekjjbpljaaGreatR
namespace Go.Proofs.YtbnbgekjjbpljaaGreatR
open Go Go.RowKit Go.Proofs
set_option linter.unusedSimpArgs false
set_option linter.unusedVariables false
/-- What is kept of a list, as numbers: one round more. -/
theorem filter_snoc {α β : Type} {p : α → Bool} {f : α → β} {l : List α} {k : Nat} {x : α} (h : l[k]? = some x) : ((l.take (k + 1)).filter p).map f = if p x = true then ((l.take k).filter p).map f ++ [f x] else ((l.take k).filter p).map f := by
  rw [take_snoc h, List.filter_append, List.map_append]
  by_cases hp : p x = true <;> simp [hp]
/-- Does a library that is named hold what lies on the disk? -/
def isHeld (a : GArchive) : Bool := !(a.Libraries.any fun x => x.Up) || !(a.Disk.Containers.any fun c => !(a.Libraries.any fun x => x.Digests.contains c.Root))
def noUp (a : GArchive) : Bool := !(a.Libraries.any fun x => x.Up)
theorem any_snoc {α : Type} {p : α → Bool} {l : List α} {k : Nat} {x : α} (h : l[k]? = some x) : (l.take (k + 1)).any p = ((l.take k).any p || p x) := by
  rw [take_snoc h, List.any_append]; simp
theorem noUp_eq {a : GArchive} : (((a.Libraries.filter fun x => x.Up).length : Int) == 0) = noUp a := by
  unfold noUp
  rw [Bool.eq_iff_iff]
  simp [List.filter_eq_nil_iff]
end Go.Proofs.YtbnbgekjjbpljaaGreatR
namespace Go.Proofs.YtbnbgekjjbpljaaGreatR
open Go Go.RowKit Go.Proofs
set_option linter.unusedSimpArgs false
set_option linter.unusedVariables false
attribute [go_sem] eqB
def scriptInts (xs : List GOp) : List Int := xs.flatMap fun o => [o.Kind, o.A, o.B, o.C]
theorem scriptInts_inj : ∀ {xs ys : List GOp}, scriptInts xs = scriptInts ys ↔ xs = ys
  | [], [] => by simp
  | x :: xs, y :: ys => by
    have ih := scriptInts_inj (xs := xs) (ys := ys)
    simp only [scriptInts, List.flatMap_cons, List.cons_append, List.nil_append, List.cons.injEq] at ih ⊢
    rw [ih, GOp.eqv]
    simp only [and_assoc]
  | [], _ :: _ => by simp [scriptInts]
  | _ :: _, [] => by simp [scriptInts]
theorem scriptInts_snoc {l : List GOp} {k : Nat} {x : GOp} (h : l[k]? = some x) : scriptInts (l.take (k + 1)) = scriptInts (l.take k) ++ [x.Kind, x.A, x.B, x.C] := by
  rw [take_snoc h, scriptInts, List.flatMap_append]; rfl
theorem scriptInts_len {l : List GOp} : (scriptInts l).length = 4 * l.length := by
  induction l with
  | nil => rfl
  | cons x l ih => simp only [scriptInts, List.flatMap_cons, List.length_append, List.length_cons, List.length_nil] at ih ⊢; omega
end Go.Proofs.YtbnbgekjjbpljaaGreatR
namespace Go.Proofs.YtbnbgekjjbpljaaGreatR
open Go Go.RowKit Go.Proofs
set_option linter.unusedSimpArgs false
set_option linter.unusedVariables false
theorem any_nots {α : Type} {p : α → Bool} {l : List α} : (l.any fun x => !p x) = !l.all p := by
  induction l with
  | nil => rfl
  | cons x l ih => rw [List.any_cons, List.all_cons, ih]; cases p x <;> rfl
/-- All elements are so, and there are not too many. -/
def fewAll {α : Type} (n : Nat) (p : α → Bool) (l : List α) : Bool := decide (l.length ≤ n) && l.all p
theorem fewAll_no {α : Type} {n : Nat} {p : α → Bool} {l : List α} (h : ¬ l.length ≤ n) : false = fewAll n p l := by
  unfold fewAll; rw [decide_eq_false h]; rfl
theorem fewAll_yes {α : Type} {n : Nat} {p : α → Bool} {l : List α} (h : l.length ≤ n) : (!l.any fun x => !p x) = fewAll n p l := by
  unfold fewAll; rw [decide_eq_true h, any_nots, Bool.not_not]; rfl
theorem fewAll_at {α : Type} {n : Nat} {p : α → Bool} {l : List α} {k : Nat} {x : α} (hx : l[k]? = some x) (h : p x = false) : false = fewAll n p l := by
  unfold fewAll; rw [← all_not hx h, Bool.and_false]
theorem fewAll_end {α : Type} {n : Nat} {p : α → Bool} {l : List α} (h : l.all p = true) : decide (l.length ≤ n) = fewAll n p l := by
  unfold fewAll; rw [h, Bool.and_true]
theorem le_cast {n m : Nat} : decide ((n : Int) ≤ (m : Int)) = decide (n ≤ m) := by
  rw [Bool.eq_iff_iff]; simp only [decide_eq_true_eq]; omega
def opOk (o : GOp) : Bool := decide ((0 ≤ o.A ∧ o.A < 4) ∧ (
  (o.Kind = 1 ∧ (1 ≤ o.B ∧ o.B ≤ 9) ∧ (0 ≤ o.C ∧ o.C ≤ 99)) ∨
  ((o.Kind = 2 ∨ o.Kind = 3 ∨ o.Kind = 4) ∧ o.B = 0 ∧ o.C = 0) ∨
  (o.Kind = 5 ∧ (0 ≤ o.B ∧ o.B < 4) ∧ (0 ≤ o.C ∧ o.C < 4)) ∨
  (o.Kind = 6 ∧ (0 ≤ o.B ∧ o.B < 4) ∧ o.C = 0) ∨
  (o.Kind = 7 ∧ (1 ≤ o.B ∧ o.B ≤ 3) ∧ o.C = 0) ∨
  ((o.Kind = 8 ∨ o.Kind = 9) ∧ (0 ≤ o.B ∧ o.B < 3) ∧ o.C = 0)))
def scriptOk (l : List GOp) : Bool := fewAll 16 opOk l
def m_impl_isOp : MC :=
(.seq (pr [.box 1 0 (.s 0), .mv 2 (.c (.bool false))] [1])
(.seq (.seq (pr [.fld 3 (.s 1) 1, .load 4 false 1 (.s 3), .call 5 [] (.f n_impl_at) [.s 4, .c (.int .i64 4)], .un 6 .not (.s 5)] [1,6])
(.cond (.s 6) (.seq (pr [.mv 2 (.c (.bool false))] [2])
.ret) .skip))
(.seq (.seq (pr [.fld 7 (.s 1) 0, .load 8 false 1 (.s 7)] [1,8])
(.block 0 (.seq (pr [.bin 10 false .eql (.s 8) (.c (.int .i64 1)), .mv 9 (.s 10)] [1,8,9])
(.cond (.s 9) (.seq (.reg [{ o := .fld 11 (.s 1) 2 }, { o := .load 12 false 1 (.s 11) }, { o := .call 13 [] (.f n_impl_InRange) [.s 12, .c (.int .i64 1), .c (.int .i64 9)] }, { o := .mv 14 (.s 13) }, { o := .fld 15 (.s 1) 3, g := some (14, true) }, { o := .load 16 false 1 (.s 15), g := some (14, true) }, { o := .call 17 [] (.f n_impl_InRange) [.s 16, .c (.int .i64 0), .c (.int .i64 99)], g := some (14, true) }, { o := .pick 18 (.s 14) (.s 17) (.c (.bool false)) }, { o := .mv 2 (.s 18) }] [2])
.ret) (.seq (.seq (pr [.bin 20 false .eql (.s 8) (.c (.int .i64 2)), .mv 19 (.s 20)] [1,8,19])
(.cond (.s 19) .skip (.seq (pr [.bin 21 false .eql (.s 8) (.c (.int .i64 3)), .mv 19 (.s 21)] [1,8,19])
(.cond (.s 19) .skip (pr [.bin 22 false .eql (.s 8) (.c (.int .i64 4)), .mv 19 (.s 22)] [1,8,19])))))
(.cond (.s 19) (.seq (.reg [{ o := .fld 23 (.s 1) 2 }, { o := .load 24 false 1 (.s 23) }, { o := .bin 25 false .eql (.s 24) (.c (.int .i64 0)) }, { o := .mv 26 (.s 25) }, { o := .fld 27 (.s 1) 3, g := some (26, true) }, { o := .load 28 false 1 (.s 27), g := some (26, true) }, { o := .bin 29 false .eql (.s 28) (.c (.int .i64 0)), g := some (26, true) }, { o := .pick 30 (.s 26) (.s 29) (.c (.bool false)) }, { o := .mv 2 (.s 30) }] [2])
.ret) (.seq (pr [.bin 32 false .eql (.s 8) (.c (.int .i64 5)), .mv 31 (.s 32)] [1,8,31])
(.cond (.s 31) (.seq (.reg [{ o := .fld 33 (.s 1) 2 }, { o := .load 34 false 1 (.s 33) }, { o := .call 35 [] (.f n_impl_at) [.s 34, .c (.int .i64 4)] }, { o := .mv 36 (.s 35) }, { o := .fld 37 (.s 1) 3, g := some (36, true) }, { o := .load 38 false 1 (.s 37), g := some (36, true) }, { o := .call 39 [] (.f n_impl_at) [.s 38, .c (.int .i64 4)], g := some (36, true) }, { o := .pick 40 (.s 36) (.s 39) (.c (.bool false)) }, { o := .mv 2 (.s 40) }] [2])
.ret) (.seq (pr [.bin 42 false .eql (.s 8) (.c (.int .i64 6)), .mv 41 (.s 42)] [1,8,41])
(.cond (.s 41) (.seq (.reg [{ o := .fld 43 (.s 1) 2 }, { o := .load 44 false 1 (.s 43) }, { o := .call 45 [] (.f n_impl_at) [.s 44, .c (.int .i64 4)] }, { o := .mv 46 (.s 45) }, { o := .fld 47 (.s 1) 3, g := some (46, true) }, { o := .load 48 false 1 (.s 47), g := some (46, true) }, { o := .bin 49 false .eql (.s 48) (.c (.int .i64 0)), g := some (46, true) }, { o := .pick 50 (.s 46) (.s 49) (.c (.bool false)) }, { o := .mv 2 (.s 50) }] [2])
.ret) (.seq (pr [.bin 52 false .eql (.s 8) (.c (.int .i64 7)), .mv 51 (.s 52)] [1,8,51])
(.cond (.s 51) (.seq (.reg [{ o := .fld 53 (.s 1) 2 }, { o := .load 54 false 1 (.s 53) }, { o := .call 55 [] (.f n_impl_InRange) [.s 54, .c (.int .i64 1), .c (.int .i64 3)] }, { o := .mv 56 (.s 55) }, { o := .fld 57 (.s 1) 3, g := some (56, true) }, { o := .load 58 false 1 (.s 57), g := some (56, true) }, { o := .bin 59 false .eql (.s 58) (.c (.int .i64 0)), g := some (56, true) }, { o := .pick 60 (.s 56) (.s 59) (.c (.bool false)) }, { o := .mv 2 (.s 60) }] [2])
.ret) (.seq (.seq (pr [.bin 62 false .eql (.s 8) (.c (.int .i64 8)), .mv 61 (.s 62)] [1,8,61])
(.cond (.s 61) .skip (pr [.bin 63 false .eql (.s 8) (.c (.int .i64 9)), .mv 61 (.s 63)] [1,61])))
(.cond (.s 61) (.seq (.reg [{ o := .fld 64 (.s 1) 2 }, { o := .load 65 false 1 (.s 64) }, { o := .call 66 [] (.f n_impl_at) [.s 65, .c (.int .i64 3)] }, { o := .mv 67 (.s 66) }, { o := .fld 68 (.s 1) 3, g := some (67, true) }, { o := .load 69 false 1 (.s 68), g := some (67, true) }, { o := .bin 70 false .eql (.s 69) (.c (.int .i64 0)), g := some (67, true) }, { o := .pick 71 (.s 67) (.s 70) (.c (.bool false)) }, { o := .mv 2 (.s 71) }] [2])
.ret) .skip))))))))))))))
(.seq (pr [.mv 2 (.c (.bool false))] [2])
.ret))))
theorem c_impl_isOp (o : GOp) : Ctr Tryz.prog n_impl_isOp [aS o.enc] [rB (opOk o)] := by
  refine ctr_at (M := m_impl_isOp) (m := 1) (n := 72) (res := [(.tmp 2, [false])]) hmix Tryz.func208 rfl (by kernel_rfl) rfl (by kernel_rfl) (by kernel_rfl) (Nat.le_of_ble_eq_true rfl) ?_; unfold m_impl_isOp
  intro hb
  clear hb
  simp only [↓bk_bind, ↓bk_map, ↓bk_ite, ↓bk_some, ↓reduceIte, Nat.reduceEqDiff, Nat.reduceLT, Nat.reduceLeDiff, Nat.reduceAdd, Nat.reduceMul, reduceCtorEq, List.reduceReplicate, go_sem]
  repeat' first
    | (refine And.intro ?_ ?_ <;> intro h)
    | (apply callK_of (c_impl_at _ _); simp only [↓bk_bind, ↓bk_map, ↓bk_ite, ↓bk_some, ↓reduceIte, Nat.reduceEqDiff, Nat.reduceLT, Nat.reduceLeDiff, Nat.reduceAdd, Nat.reduceMul, reduceCtorEq, List.reduceReplicate, go_sem])
    | (apply callK_of (c_impl_InRange _ _ _); simp only [↓bk_bind, ↓bk_map, ↓bk_ite, ↓bk_some, ↓reduceIte, Nat.reduceEqDiff, Nat.reduceLT, Nat.reduceLeDiff, Nat.reduceAdd, Nat.reduceMul, reduceCtorEq, List.reduceReplicate, go_sem])
  all_goals (unfold opOk; first | (symm; rw [decide_eq_false_iff_not]; omega) | (symm; rw [decide_eq_true_eq]; omega) | (rw [Bool.eq_iff_iff]; simp only [decide_eq_true_eq, beq_iff_eq]; omega))
def m_spec_l10Ok : MC :=
(.seq (pr [.box 1 0 (.s 0), .mv 2 (.c (.bool false))] [1])
(.seq (pr [.mv 3 (.c (.int .i64 3))] [1,3])
(.seq (.seq (pr [.fld 4 (.s 1) 1, .load 5 false 1 (.s 4), .mv 6 (.s 3), .call 7 [] (.f n_spec_l1In) [.s 5, .c (.int .i64 0), .s 6], .un 8 .not (.s 7)] [1,3,8])
(.cond (.s 8) (.seq (pr [.mv 2 (.c (.bool false))] [2])
.ret) .skip))
(.seq (.seq (pr [.fld 9 (.s 1) 0, .load 10 false 1 (.s 9)] [1,3,10])
(.block 0 (.seq (pr [.bin 12 false .eql (.s 10) (.c (.int .i64 1)), .mv 11 (.s 12)] [1,3,10,11])
(.cond (.s 11) (.seq (.reg [{ o := .fld 13 (.s 1) 2 }, { o := .load 14 false 1 (.s 13) }, { o := .call 15 [] (.f n_spec_l1In) [.s 14, .c (.int .i64 1), .c (.int .i64 9)] }, { o := .mv 16 (.s 15) }, { o := .fld 17 (.s 1) 3, g := some (16, true) }, { o := .load 18 false 1 (.s 17), g := some (16, true) }, { o := .call 19 [] (.f n_spec_l1In) [.s 18, .c (.int .i64 0), .c (.int .i64 99)], g := some (16, true) }, { o := .pick 20 (.s 16) (.s 19) (.c (.bool false)) }, { o := .mv 2 (.s 20) }] [2])
.ret) (.seq (.seq (pr [.bin 22 false .eql (.s 10) (.c (.int .i64 2)), .mv 21 (.s 22)] [1,3,10,21])
(.cond (.s 21) .skip (.seq (pr [.bin 23 false .eql (.s 10) (.c (.int .i64 3)), .mv 21 (.s 23)] [1,3,10,21])
(.cond (.s 21) .skip (pr [.bin 24 false .eql (.s 10) (.c (.int .i64 4)), .mv 21 (.s 24)] [1,3,10,21])))))
(.cond (.s 21) (.seq (.reg [{ o := .fld 25 (.s 1) 2 }, { o := .load 26 false 1 (.s 25) }, { o := .bin 27 false .eql (.s 26) (.c (.int .i64 0)) }, { o := .mv 28 (.s 27) }, { o := .fld 29 (.s 1) 3, g := some (28, true) }, { o := .load 30 false 1 (.s 29), g := some (28, true) }, { o := .bin 31 false .eql (.s 30) (.c (.int .i64 0)), g := some (28, true) }, { o := .pick 32 (.s 28) (.s 31) (.c (.bool false)) }, { o := .mv 2 (.s 32) }] [2])
.ret) (.seq (pr [.bin 34 false .eql (.s 10) (.c (.int .i64 5)), .mv 33 (.s 34)] [1,3,10,33])
(.cond (.s 33) (.seq (.reg [{ o := .fld 35 (.s 1) 2 }, { o := .load 36 false 1 (.s 35) }, { o := .mv 37 (.s 3) }, { o := .call 38 [] (.f n_spec_l1In) [.s 36, .c (.int .i64 0), .s 37] }, { o := .mv 39 (.s 38) }, { o := .fld 40 (.s 1) 3, g := some (39, true) }, { o := .load 41 false 1 (.s 40), g := some (39, true) }, { o := .mv 42 (.s 3), g := some (39, true) }, { o := .call 43 [] (.f n_spec_l1In) [.s 41, .c (.int .i64 0), .s 42], g := some (39, true) }, { o := .pick 44 (.s 39) (.s 43) (.c (.bool false)) }, { o := .mv 2 (.s 44) }] [2])
.ret) (.seq (pr [.bin 46 false .eql (.s 10) (.c (.int .i64 6)), .mv 45 (.s 46)] [1,10,45])
(.cond (.s 45) (.seq (.reg [{ o := .fld 47 (.s 1) 2 }, { o := .load 48 false 1 (.s 47) }, { o := .call 49 [] (.f n_spec_l1In) [.s 48, .c (.int .i64 0), .c (.int .i64 3)] }, { o := .mv 50 (.s 49) }, { o := .fld 51 (.s 1) 3, g := some (50, true) }, { o := .load 52 false 1 (.s 51), g := some (50, true) }, { o := .bin 53 false .eql (.s 52) (.c (.int .i64 0)), g := some (50, true) }, { o := .pick 54 (.s 50) (.s 53) (.c (.bool false)) }, { o := .mv 2 (.s 54) }] [2])
.ret) (.seq (pr [.bin 56 false .eql (.s 10) (.c (.int .i64 7)), .mv 55 (.s 56)] [1,10,55])
(.cond (.s 55) (.seq (.reg [{ o := .fld 57 (.s 1) 2 }, { o := .load 58 false 1 (.s 57) }, { o := .call 59 [] (.f n_spec_l1In) [.s 58, .c (.int .i64 1), .c (.int .i64 3)] }, { o := .mv 60 (.s 59) }, { o := .fld 61 (.s 1) 3, g := some (60, true) }, { o := .load 62 false 1 (.s 61), g := some (60, true) }, { o := .bin 63 false .eql (.s 62) (.c (.int .i64 0)), g := some (60, true) }, { o := .pick 64 (.s 60) (.s 63) (.c (.bool false)) }, { o := .mv 2 (.s 64) }] [2])
.ret) (.seq (.seq (pr [.bin 66 false .eql (.s 10) (.c (.int .i64 8)), .mv 65 (.s 66)] [1,10,65])
(.cond (.s 65) .skip (pr [.bin 67 false .eql (.s 10) (.c (.int .i64 9)), .mv 65 (.s 67)] [1,65])))
(.cond (.s 65) (.seq (.reg [{ o := .fld 68 (.s 1) 2 }, { o := .load 69 false 1 (.s 68) }, { o := .call 70 [] (.f n_spec_l1In) [.s 69, .c (.int .i64 0), .c (.int .i64 2)] }, { o := .mv 71 (.s 70) }, { o := .fld 72 (.s 1) 3, g := some (71, true) }, { o := .load 73 false 1 (.s 72), g := some (71, true) }, { o := .bin 74 false .eql (.s 73) (.c (.int .i64 0)), g := some (71, true) }, { o := .pick 75 (.s 71) (.s 74) (.c (.bool false)) }, { o := .mv 2 (.s 75) }] [2])
.ret) .skip))))))))))))))
(.seq (pr [.mv 2 (.c (.bool false))] [2])
.ret)))))
theorem c_spec_l10Ok (o : GOp) : Ctr Tryz.prog n_spec_l10Ok [aS o.enc] [rB (opOk o)] := by
  refine ctr_at (M := m_spec_l10Ok) (m := 1) (n := 76) (res := [(.tmp 2, [false])]) hmix Tryz.func186 rfl (by kernel_rfl) rfl (by kernel_rfl) (by kernel_rfl) (Nat.le_of_ble_eq_true rfl) ?_; unfold m_spec_l10Ok
  intro hb
  clear hb
  simp only [↓bk_bind, ↓bk_map, ↓bk_ite, ↓bk_some, ↓reduceIte, Nat.reduceEqDiff, Nat.reduceLT, Nat.reduceLeDiff, Nat.reduceAdd, Nat.reduceMul, reduceCtorEq, List.reduceReplicate, go_sem]
  repeat' first
    | (refine And.intro ?_ ?_ <;> intro h)
    | (apply callK_of (c_spec_l1In _ _ _); simp only [↓bk_bind, ↓bk_map, ↓bk_ite, ↓bk_some, ↓reduceIte, Nat.reduceEqDiff, Nat.reduceLT, Nat.reduceLeDiff, Nat.reduceAdd, Nat.reduceMul, reduceCtorEq, List.reduceReplicate, go_sem])
  all_goals (unfold opOk; first | (symm; rw [decide_eq_false_iff_not]; omega) | (symm; rw [decide_eq_true_eq]; omega) | (rw [Bool.eq_iff_iff]; simp only [decide_eq_true_eq, beq_iff_eq]; omega))
def m_impl_IsScript_1 : MC :=
(.seq (pr [.box 1 0 (.s 0), .mv 2 (.c (.bool false))] [1])
(.seq (pr [.load 3 true 4 (.s 1), .call 4 [] (.f n_impl_isOp) [.s 3], .un 5 .not (.s 4), .mv 2 (.s 5)] [2])
.ret))
theorem c_impl_IsScript_1 (o : GOp) : Ctr Tryz.prog n_impl_IsScript_1 [aS o.enc] [rB (!opOk o)] := by
  refine ctr_at (M := m_impl_IsScript_1) (m := 1) (n := 6) (res := [(.tmp 2, [false])]) hmix Tryz.func207 rfl (by kernel_rfl) rfl (by kernel_rfl) (by kernel_rfl) (Nat.le_of_ble_eq_true rfl) ?_; unfold m_impl_IsScript_1
  intro hb
  clear hb
  simp only [↓bk_bind, ↓bk_map, ↓bk_ite, ↓bk_some, ↓reduceIte, Nat.reduceEqDiff, Nat.reduceLT, Nat.reduceLeDiff, Nat.reduceAdd, Nat.reduceMul, reduceCtorEq, List.reduceReplicate, go_sem]
  apply callK_of (c_impl_isOp _)
  simp only [↓bk_bind, ↓bk_map, ↓bk_ite, ↓bk_some, ↓reduceIte, Nat.reduceEqDiff, Nat.reduceLT, Nat.reduceLeDiff, Nat.reduceAdd, Nat.reduceMul, reduceCtorEq, List.reduceReplicate, go_sem]
def m_impl_IsScript : MC :=
(.seq (pr [.mv 2 (.c (.bool false))] [0])
(.seq (.reg [{ o := .mv 3 (.s 0) }, { o := .len 4 false (.s 3) }, { o := .bin 5 false .leq (.s 4) (.c (.int .i64 16)) }, { o := .mv 6 (.s 5) }, { o := .mv 7 (.s 0), g := some (6, true) }, { o := .call 8 [] (.f n_slices_ContainsFunc_impl_Op_impl_Op) [.s 7, .f n_impl_IsScript_1], g := some (6, true) }, { o := .un 9 .not (.s 8), g := some (6, true) }, { o := .pick 10 (.s 6) (.s 9) (.c (.bool false)) }, { o := .mv 2 (.s 10) }] [2])
.ret))
theorem c_impl_IsScript (l : List GOp) : Ctr Tryz.prog n_impl_IsScript [aL 4 (l.map GOp.enc)] [rB (scriptOk l)] := by
  refine ctr_at (M := m_impl_IsScript) (m := 0) (n := 11) (res := [(.tmp 2, [false])]) hmix Tryz.func171 rfl (by kernel_rfl) rfl (by kernel_rfl) (by kernel_rfl) (Nat.le_of_ble_eq_true rfl) ?_; unfold m_impl_IsScript
  intro hb
  clear hb
  simp only [↓bk_bind, ↓bk_map, ↓bk_ite, ↓bk_some, ↓reduceIte, Nat.reduceEqDiff, Nat.reduceLT, Nat.reduceLeDiff, Nat.reduceAdd, Nat.reduceMul, reduceCtorEq, List.reduceReplicate, go_sem]
  refine ⟨fun h => ?_, fun h => fewAll_no (by omega)⟩
  refine callK_of (c_slices_ContainsFunc_Op l _ [] (fun o => !opOk o) fun o _ => c_impl_IsScript_1 o) ?_
  simp only [↓bk_bind, ↓bk_map, ↓bk_ite, ↓bk_some, ↓reduceIte, Nat.reduceEqDiff, Nat.reduceLT, Nat.reduceLeDiff, Nat.reduceAdd, Nat.reduceMul, reduceCtorEq, List.reduceReplicate, go_sem]
  exact fewAll_yes (by omega)
def m_spec_IsScript : MC :=
(.seq (pr [.mv 2 (.c (.bool false))] [0])
(.seq (.seq (pr [.mv 3 (.c (.int .i64 0))] [0,3])
(.block 0 (.loop ([0,3], []) (.seq (.seq (pr [.mv 4 (.s 3), .mv 5 (.s 0), .len 6 false (.s 5), .bin 7 false .lss (.s 4) (.s 6)] [0,3,7])
(.cond (.s 7) .skip (.exit 0)))
(.seq (.block 1 (.seq (pr [.mv 10 (.s 0), .mv 11 (.s 3), .idx 12 4 (.s 10) (.s 11), .load 13 true 4 (.s 12), .call 14 [] (.f n_spec_l10Ok) [.s 13], .un 15 .not (.s 14)] [0,3,15])
(.cond (.s 15) (.seq (pr [.mv 2 (.c (.bool false))] [2])
.ret) .skip)))
(pr [.mv 8 (.s 3), .bin 9 false .add (.s 8) (.c (.int .i64 1)), .mv 3 (.s 9)] [0,3]))))))
(.seq (pr [.mv 16 (.s 0), .len 17 false (.s 16), .bin 18 false .leq (.s 17) (.c (.int .i64 16)), .mv 2 (.s 18)] [2])
.ret)))
theorem c_spec_IsScript (l : List GOp) : Ctr Tryz.prog n_spec_IsScript [aL 4 (l.map GOp.enc)] [rB (scriptOk l)] := by
  refine ctr_at (M := m_spec_IsScript) (m := 0) (n := 19) (res := [(.tmp 2, [false])]) hmix Tryz.func128 rfl (by kernel_rfl) rfl (by kernel_rfl) (by kernel_rfl) (Nat.le_of_ble_eq_true rfl) ?_; unfold m_spec_IsScript
  intro hb
  simp only [bdA, bdL, bdT, bdR, bdR_map, wfB_i64, wfB_bool, wfB_str, roomB, and_true, true_and, List.length_map] at hb
  have hl := hb.1
  clear hb
  simp only [↓bk_bind, ↓bk_map, ↓bk_ite, ↓bk_some, ↓reduceIte, Nat.reduceEqDiff, Nat.reduceLT, Nat.reduceLeDiff, Nat.reduceAdd, Nat.reduceMul, reduceCtorEq, List.reduceReplicate, go_sem]
  refine loopK_rng l (fun k => [(3, vI k)]) (fun k => []) (fun k => (l.take k).all opOk = true) hl ?_
  simp only [↓bk_bind, ↓bk_map, ↓bk_ite, ↓bk_some, ↓reduceIte, Nat.reduceEqDiff, Nat.reduceLT, Nat.reduceLeDiff, Nat.reduceAdd, Nat.reduceMul, reduceCtorEq, List.reduceReplicate, go_sem]
  refine ⟨?_, by simp, ?_, ?_⟩
  · simp only [↓bk_bind, ↓bk_map, ↓bk_ite, ↓bk_some, ↓reduceIte, Nat.reduceEqDiff, Nat.reduceLT, Nat.reduceLeDiff, Nat.reduceAdd, Nat.reduceMul, reduceCtorEq, List.reduceReplicate, go_sem]
  · intro k x hx h h0 h1 hw
    simp only [↓bk_bind, ↓bk_map, ↓bk_ite, ↓bk_some, ↓reduceIte, Nat.reduceEqDiff, Nat.reduceLT, Nat.reduceLeDiff, Nat.reduceAdd, Nat.reduceMul, reduceCtorEq, List.reduceReplicate, go_sem, bk_eq hx, h0, h1, hw]
    apply callK_of (c_spec_l10Ok _)
    simp only [↓bk_bind, ↓bk_map, ↓bk_ite, ↓bk_some, ↓reduceIte, Nat.reduceEqDiff, Nat.reduceLT, Nat.reduceLeDiff, Nat.reduceAdd, Nat.reduceMul, reduceCtorEq, List.reduceReplicate, go_sem, hw]
    exact ⟨fun hn => fewAll_at hx hn, fun hn => all_step hx h hn⟩
  · intro h
    simp only [↓bk_bind, ↓bk_map, ↓bk_ite, ↓bk_some, ↓reduceIte, Nat.reduceEqDiff, Nat.reduceLT, Nat.reduceLeDiff, Nat.reduceAdd, Nat.reduceMul, reduceCtorEq, List.reduceReplicate, go_sem]
    rw [List.take_length] at h
    exact le_cast.trans (fewAll_end h)
def asks (k : Int) : Bool := decide (1 ≤ k ∧ k ≤ 4)
def m_impl_Asks : MC :=
(.seq (pr [.mv 2 (.c (.bool false))] [0])
(.seq (pr [.mv 3 (.s 0), .call 4 [] (.f n_impl_InRange) [.s 3, .c (.int .i64 1), .c (.int .i64 4)], .mv 2 (.s 4)] [2])
.ret))
theorem c_impl_Asks (k : Int) : Ctr Tryz.prog n_impl_Asks [aI k] [rB (asks k)] := by
  refine ctr_at (M := m_impl_Asks) (m := 0) (n := 5) (res := [(.tmp 2, [false])]) hmix Tryz.func213 rfl (by kernel_rfl) rfl (by kernel_rfl) (by kernel_rfl) (Nat.le_of_ble_eq_true rfl) ?_; unfold m_impl_Asks
  intro hb
  clear hb
  simp only [↓bk_bind, ↓bk_map, ↓bk_ite, ↓bk_some, ↓reduceIte, Nat.reduceEqDiff, Nat.reduceLT, Nat.reduceLeDiff, Nat.reduceAdd, Nat.reduceMul, reduceCtorEq, List.reduceReplicate, go_sem]
  apply callK_of (c_impl_InRange _ _ _)
  simp only [↓bk_bind, ↓bk_map, ↓bk_ite, ↓bk_some, ↓reduceIte, Nat.reduceEqDiff, Nat.reduceLT, Nat.reduceLeDiff, Nat.reduceAdd, Nat.reduceMul, reduceCtorEq, List.reduceReplicate, go_sem]
  try rfl
def m_spec_Asks : MC :=
(.seq (pr [.mv 2 (.c (.bool false))] [0])
(.seq (pr [.mv 3 (.s 0), .call 4 [] (.f n_spec_l1In) [.s 3, .c (.int .i64 1), .c (.int .i64 4)], .mv 2 (.s 4)] [2])
.ret))
theorem c_spec_Asks (k : Int) : Ctr Tryz.prog n_spec_Asks [aI k] [rB (asks k)] := by
  refine ctr_at (M := m_spec_Asks) (m := 0) (n := 5) (res := [(.tmp 2, [false])]) hmix Tryz.func187 rfl (by kernel_rfl) rfl (by kernel_rfl) (by kernel_rfl) (Nat.le_of_ble_eq_true rfl) ?_; unfold m_spec_Asks
  intro hb
  clear hb
  simp only [↓bk_bind, ↓bk_map, ↓bk_ite, ↓bk_some, ↓reduceIte, Nat.reduceEqDiff, Nat.reduceLT, Nat.reduceLeDiff, Nat.reduceAdd, Nat.reduceMul, reduceCtorEq, List.reduceReplicate, go_sem]
  apply callK_of (c_spec_l1In _ _ _)
  simp only [↓bk_bind, ↓bk_map, ↓bk_ite, ↓bk_some, ↓reduceIte, Nat.reduceEqDiff, Nat.reduceLT, Nat.reduceLeDiff, Nat.reduceAdd, Nat.reduceMul, reduceCtorEq, List.reduceReplicate, go_sem]
  try rfl
def entOk (e : GEntry) : Bool := asks e.Kind && (decide (0 ≤ e.Value ∧ e.Value ≤ 999) && (if e.Kind = 1 then isAddr e.Address else noAddr e.Address))
def entsOk (l : List GEntry) : Bool := fewAll 16 entOk l
def m_impl_AreEntries_1 : MC :=
(.seq (pr [.box 1 0 (.s 0), .mv 2 (.c (.bool false))] [1])
(.seq (.seq (pr [.fld 3 (.s 1) 0, .load 4 false 1 (.s 3), .bin 5 false .eql (.s 4) (.c (.int .i64 1))] [1,5])
(.cond (.s 5) (.seq (.reg [{ o := .fld 6 (.s 1) 1 }, { o := .load 7 true 3 (.s 6) }, { o := .call 8 [] (.f n_impl_IsAddress) [.s 7] }, { o := .un 9 .not (.s 8) }, { o := .mv 10 (.s 9) }, { o := .fld 11 (.s 1) 4, g := some (10, false) }, { o := .load 12 false 1 (.s 11), g := some (10, false) }, { o := .call 13 [] (.f n_impl_InRange) [.s 12, .c (.int .i64 0), .c (.int .i64 999)], g := some (10, false) }, { o := .un 14 .not (.s 13), g := some (10, false) }, { o := .pick 15 (.s 10) (.c (.bool true)) (.s 14) }, { o := .mv 2 (.s 15) }] [2])
.ret) .skip))
(.seq (.reg [{ o := .fld 16 (.s 1) 0 }, { o := .load 17 false 1 (.s 16) }, { o := .call 18 [] (.f n_impl_Asks) [.s 17] }, { o := .un 19 .not (.s 18) }, { o := .mv 20 (.s 19) }, { o := .fld 21 (.s 1) 1, g := some (20, false) }, { o := .load 22 true 3 (.s 21), g := some (20, false) }, { o := .build 23 [.pl (.sc (.int .i64 0)), .pl (.sc (.int .i64 0)), .pl (.sc (.int .i64 0))] [], g := some (20, false) }, { o := .eqA 24 true [.i .i64, .i .i64, .i .i64] (.s 22) (.s 23), g := some (20, false) }, { o := .pick 25 (.s 20) (.c (.bool true)) (.s 24) }, { o := .mv 26 (.s 25) }, { o := .fld 27 (.s 1) 4, g := some (26, false) }, { o := .load 28 false 1 (.s 27), g := some (26, false) }, { o := .call 29 [] (.f n_impl_InRange) [.s 28, .c (.int .i64 0), .c (.int .i64 999)], g := some (26, false) }, { o := .un 30 .not (.s 29), g := some (26, false) }, { o := .pick 31 (.s 26) (.c (.bool true)) (.s 30) }, { o := .mv 2 (.s 31) }] [2])
.ret)))
theorem c_impl_AreEntries_1 (e : GEntry) : Ctr Tryz.prog n_impl_AreEntries_1 [aS e.enc] [rB (!entOk e)] := by
  refine ctr_at (M := m_impl_AreEntries_1) (m := 1) (n := 32) (res := [(.tmp 2, [false])]) hmix Tryz.func210 rfl (by kernel_rfl) rfl (by kernel_rfl) (by kernel_rfl) (Nat.le_of_ble_eq_true rfl) ?_; unfold m_impl_AreEntries_1
  intro hb
  clear hb
  simp only [↓bk_bind, ↓bk_map, ↓bk_ite, ↓bk_some, ↓reduceIte, Nat.reduceEqDiff, Nat.reduceLT, Nat.reduceLeDiff, Nat.reduceAdd, Nat.reduceMul, reduceCtorEq, List.reduceReplicate, go_sem]
  repeat' first
    | (refine And.intro ?_ ?_ <;> intro h)
    | (apply callK_of (c_impl_IsAddress _); simp only [↓bk_bind, ↓bk_map, ↓bk_ite, ↓bk_some, ↓reduceIte, Nat.reduceEqDiff, Nat.reduceLT, Nat.reduceLeDiff, Nat.reduceAdd, Nat.reduceMul, reduceCtorEq, List.reduceReplicate, go_sem])
    | (apply callK_of (c_impl_Asks _); simp only [↓bk_bind, ↓bk_map, ↓bk_ite, ↓bk_some, ↓reduceIte, Nat.reduceEqDiff, Nat.reduceLT, Nat.reduceLeDiff, Nat.reduceAdd, Nat.reduceMul, reduceCtorEq, List.reduceReplicate, go_sem])
    | (apply callK_of (c_impl_InRange _ _ _); simp only [↓bk_bind, ↓bk_map, ↓bk_ite, ↓bk_some, ↓reduceIte, Nat.reduceEqDiff, Nat.reduceLT, Nat.reduceLeDiff, Nat.reduceAdd, Nat.reduceMul, reduceCtorEq, List.reduceReplicate, go_sem])
  all_goals (simp_all [entOk, asks, noAddr]; try omega)
def m_impl_AreEntries : MC :=
(.seq (pr [.mv 2 (.c (.bool false))] [0])
(.seq (.reg [{ o := .mv 3 (.s 0) }, { o := .len 4 false (.s 3) }, { o := .bin 5 false .leq (.s 4) (.c (.int .i64 16)) }, { o := .mv 6 (.s 5) }, { o := .mv 7 (.s 0), g := some (6, true) }, { o := .call 8 [] (.f n_slices_ContainsFunc_impl_Entry_impl_Entry) [.s 7, .f n_impl_AreEntries_1], g := some (6, true) }, { o := .un 9 .not (.s 8), g := some (6, true) }, { o := .pick 10 (.s 6) (.s 9) (.c (.bool false)) }, { o := .mv 2 (.s 10) }] [2])
.ret))
theorem c_impl_AreEntries (l : List GEntry) : Ctr Tryz.prog n_impl_AreEntries [aL 5 (l.map GEntry.enc)] [rB (entsOk l)] := by
  refine ctr_at (M := m_impl_AreEntries) (m := 0) (n := 11) (res := [(.tmp 2, [false])]) hmix Tryz.func172 rfl (by kernel_rfl) rfl (by kernel_rfl) (by kernel_rfl) (Nat.le_of_ble_eq_true rfl) ?_; unfold m_impl_AreEntries
  intro hb
  clear hb
  simp only [↓bk_bind, ↓bk_map, ↓bk_ite, ↓bk_some, ↓reduceIte, Nat.reduceEqDiff, Nat.reduceLT, Nat.reduceLeDiff, Nat.reduceAdd, Nat.reduceMul, reduceCtorEq, List.reduceReplicate, go_sem]
  refine ⟨fun h => ?_, fun h => fewAll_no (by omega)⟩
  refine callK_of (c_slices_ContainsFunc_Entry l _ [] (fun o => !entOk o) fun o _ => c_impl_AreEntries_1 o) ?_
  simp only [↓bk_bind, ↓bk_map, ↓bk_ite, ↓bk_some, ↓reduceIte, Nat.reduceEqDiff, Nat.reduceLT, Nat.reduceLeDiff, Nat.reduceAdd, Nat.reduceMul, reduceCtorEq, List.reduceReplicate, go_sem]
  exact fewAll_yes (by omega)
def m_spec_AreEntries : MC :=
(.seq (pr [.mv 2 (.c (.bool false))] [0])
(.seq (.seq (pr [.mv 3 (.c (.int .i64 0))] [0,3])
(.block 0 (.loop ([0,3], [0]) (.seq (.seq (pr [.mv 5 (.s 3), .mv 6 (.s 0), .len 7 false (.s 6), .bin 8 false .lss (.s 5) (.s 7)] [0,3,8])
(.cond (.s 8) .skip (.exit 0)))
(.seq (.block 1 (.seq (pr [.mv 11 (.s 0), .mv 12 (.s 3), .idx 13 5 (.s 11) (.s 12), .load 14 true 5 (.s 13), .alloc 4 0 [.pl (.sc (.int .i64 0)), .pl (.sc (.int .i64 0)), .pl (.sc (.int .i64 0)), .pl (.sc (.int .i64 0)), .pl (.sc (.int .i64 0))], .store 5 (.s 4) (.s 14)] [0,3,4])
(.seq (.reg [{ o := .fld 15 (.s 4) 0 }, { o := .load 16 false 1 (.s 15) }, { o := .call 17 [] (.f n_spec_Asks) [.s 16] }, { o := .un 18 .not (.s 17) }, { o := .mv 19 (.s 18) }, { o := .fld 20 (.s 4) 4, g := some (19, false) }, { o := .load 21 false 1 (.s 20), g := some (19, false) }, { o := .call 22 [] (.f n_spec_l1In) [.s 21, .c (.int .i64 0), .c (.int .i64 999)], g := some (19, false) }, { o := .un 23 .not (.s 22), g := some (19, false) }, { o := .pick 24 (.s 19) (.c (.bool true)) (.s 23) }, { o := .mv 25 (.s 24) }, { o := .fld 26 (.s 4) 0, g := some (25, false) }, { o := .load 27 false 1 (.s 26), g := some (25, false) }, { o := .bin 28 false .eql (.s 27) (.c (.int .i64 1)), g := some (25, false) }, { o := .mv 29 (.s 28), g := some (25, false) }, { o := .fld 30 (.s 4) 1, g := some (29, true) }, { o := .load 31 true 3 (.s 30), g := some (29, true) }, { o := .call 32 [] (.f n_spec_IsAddress) [.s 31], g := some (29, true) }, { o := .un 33 .not (.s 32), g := some (29, true) }, { o := .pick 34 (.s 29) (.s 33) (.c (.bool false)), g := some (25, false) }, { o := .pick 35 (.s 25) (.c (.bool true)) (.s 34) }, { o := .mv 36 (.s 35) }, { o := .fld 37 (.s 4) 0, g := some (36, false) }, { o := .load 38 false 1 (.s 37), g := some (36, false) }, { o := .bin 39 false .neq (.s 38) (.c (.int .i64 1)), g := some (36, false) }, { o := .mv 40 (.s 39), g := some (36, false) }, { o := .fld 41 (.s 4) 1, g := some (40, true) }, { o := .load 42 true 3 (.s 41), g := some (40, true) }, { o := .build 43 [.pl (.sc (.int .i64 0)), .pl (.sc (.int .i64 0)), .pl (.sc (.int .i64 0))] [], g := some (40, true) }, { o := .eqA 44 true [.i .i64, .i .i64, .i .i64] (.s 42) (.s 43), g := some (40, true) }, { o := .pick 45 (.s 40) (.s 44) (.c (.bool false)), g := some (36, false) }, { o := .pick 46 (.s 36) (.c (.bool true)) (.s 45) }] [0,3,46])
(.cond (.s 46) (.seq (pr [.mv 2 (.c (.bool false))] [2])
.ret) .skip))))
(pr [.mv 9 (.s 3), .bin 10 false .add (.s 9) (.c (.int .i64 1)), .mv 3 (.s 10)] [0,3]))))))
(.seq (pr [.mv 47 (.s 0), .len 48 false (.s 47), .bin 49 false .leq (.s 48) (.c (.int .i64 16)), .mv 2 (.s 49)] [2])
.ret)))
theorem c_spec_AreEntries (l : List GEntry) : Ctr Tryz.prog n_spec_AreEntries [aL 5 (l.map GEntry.enc)] [rB (entsOk l)] := by
  refine ctr_at (M := m_spec_AreEntries) (m := 1) (n := 50) (res := [(.tmp 2, [false])]) hmix Tryz.func129 rfl (by kernel_rfl) rfl (by kernel_rfl) (by kernel_rfl) (Nat.le_of_ble_eq_true rfl) ?_; unfold m_spec_AreEntries
  intro hb
  simp only [bdA, bdL, bdT, bdR, bdR_map, wfB_i64, wfB_bool, wfB_str, roomB, and_true, true_and, List.length_map] at hb
  have hl := hb.1
  clear hb
  simp only [↓bk_bind, ↓bk_map, ↓bk_ite, ↓bk_some, ↓reduceIte, Nat.reduceEqDiff, Nat.reduceLT, Nat.reduceLeDiff, Nat.reduceAdd, Nat.reduceMul, reduceCtorEq, List.reduceReplicate, go_sem]
  refine loopK_rng l (fun k => [(3, vI k)]) (fun k => []) (fun k => (l.take k).all entOk = true) hl ?_
  simp only [↓bk_bind, ↓bk_map, ↓bk_ite, ↓bk_some, ↓reduceIte, Nat.reduceEqDiff, Nat.reduceLT, Nat.reduceLeDiff, Nat.reduceAdd, Nat.reduceMul, reduceCtorEq, List.reduceReplicate, go_sem]
  refine ⟨?_, by simp, ?_, ?_⟩
  · simp only [↓bk_bind, ↓bk_map, ↓bk_ite, ↓bk_some, ↓reduceIte, Nat.reduceEqDiff, Nat.reduceLT, Nat.reduceLeDiff, Nat.reduceAdd, Nat.reduceMul, reduceCtorEq, List.reduceReplicate, go_sem]
  · intro k x hx hT h0 h1 hw
    have hy : entOk x = true → (l.take (k + 1)).all entOk = true := fun hn => all_step hx hT hn
    have hn : entOk x = false → false = entsOk l := fun hn => fewAll_at hx hn
    clear hT
    simp only [↓bk_bind, ↓bk_map, ↓bk_ite, ↓bk_some, ↓reduceIte, Nat.reduceEqDiff, Nat.reduceLT, Nat.reduceLeDiff, Nat.reduceAdd, Nat.reduceMul, reduceCtorEq, List.reduceReplicate, go_sem, bk_eq hx, h0, h1, hw]
    repeat' first
      | (refine And.intro ?_ ?_ <;> intro h)
      | (apply callK_of (c_spec_IsAddress _); simp only [↓bk_bind, ↓bk_map, ↓bk_ite, ↓bk_some, ↓reduceIte, Nat.reduceEqDiff, Nat.reduceLT, Nat.reduceLeDiff, Nat.reduceAdd, Nat.reduceMul, reduceCtorEq, List.reduceReplicate, go_sem, bk_eq hx, h0, h1, hw])
      | (apply callK_of (c_spec_Asks _); simp only [↓bk_bind, ↓bk_map, ↓bk_ite, ↓bk_some, ↓reduceIte, Nat.reduceEqDiff, Nat.reduceLT, Nat.reduceLeDiff, Nat.reduceAdd, Nat.reduceMul, reduceCtorEq, List.reduceReplicate, go_sem, bk_eq hx, h0, h1, hw])
      | (apply callK_of (c_spec_l1In _ _ _); simp only [↓bk_bind, ↓bk_map, ↓bk_ite, ↓bk_some, ↓reduceIte, Nat.reduceEqDiff, Nat.reduceLT, Nat.reduceLeDiff, Nat.reduceAdd, Nat.reduceMul, reduceCtorEq, List.reduceReplicate, go_sem, bk_eq hx, h0, h1, hw])
    all_goals first | (apply hy; clear hy hn hx hw; simp_all [entOk, noAddr]; done) | (apply hn; clear hy hn hx hw; simp_all [entOk, noAddr]; done) | (apply hn; clear hy hn hx hw; unfold entOk; rw [decide_eq_false (by assumption)]; simp; done)
  · intro h
    simp only [↓bk_bind, ↓bk_map, ↓bk_ite, ↓bk_some, ↓reduceIte, Nat.reduceEqDiff, Nat.reduceLT, Nat.reduceLeDiff, Nat.reduceAdd, Nat.reduceMul, reduceCtorEq, List.reduceReplicate, go_sem]
    rw [List.take_length] at h
    exact le_cast.trans (fewAll_end h)
def capOk (c : GCapture) : Bool := isAddr c.Address && (decide (0 ≤ c.Tick ∧ c.Tick ≤ 2000) && isRes c.Resource)
def capsOk (l : List GCapture) : Bool := fewAll 20 capOk l
end Go.Proofs.YtbnbgekjjbpljaaGreatR
namespace Go.Proofs.YtbnbgekjjbpljaaGreatR
open Go Go.RowKit Go.Proofs
set_option linter.unusedSimpArgs false
set_option linter.unusedVariables false
theorem addrB {x y : GAddress} : (x.Host == y.Host && (x.Path == y.Path && x.Query == y.Query)) = decide (x = y) := by
  rw [Bool.eq_iff_iff]; simp [GAddress.eqv]
def m_spec_Max : MC :=
(.seq (pr [.mv 4 (.c (.int .i64 0))] [0,1])
(.seq (.seq (pr [.mv 5 (.s 1), .mv 6 (.s 0), .bin 7 false .gtr (.s 5) (.s 6)] [0,1,7])
(.cond (.s 7) (.seq (pr [.mv 8 (.s 1), .mv 4 (.s 8)] [4])
.ret) .skip))
(.seq (pr [.mv 9 (.s 0), .mv 4 (.s 9)] [4])
.ret)))
theorem c_spec_Max (x y : Int) : Ctr Tryz.prog n_spec_Max [aI x, aI y] [rI (if y > x then y else x)] := by
  refine ctr_at (M := m_spec_Max) (m := 0) (n := 10) (res := [(.tmp 4, [false])]) hmix Tryz.func121 rfl (by kernel_rfl) rfl (by kernel_rfl) (by kernel_rfl) (Nat.le_of_ble_eq_true rfl) ?_; unfold m_spec_Max
  intro hb
  clear hb
  simp only [↓bk_bind, ↓bk_map, ↓bk_ite, ↓bk_some, ↓reduceIte, Nat.reduceEqDiff, Nat.reduceLT, Nat.reduceLeDiff, Nat.reduceAdd, Nat.reduceMul, reduceCtorEq, List.reduceReplicate, go_sem]
  refine ⟨fun h => ?_, fun h => ?_⟩
  · rw [if_pos (by omega)]
  · rw [if_neg (by omega)]
def m_spec_Min : MC :=
(.seq (pr [.mv 4 (.c (.int .i64 0))] [0,1])
(.seq (.seq (pr [.mv 5 (.s 1), .mv 6 (.s 0), .bin 7 false .lss (.s 5) (.s 6)] [0,1,7])
(.cond (.s 7) (.seq (pr [.mv 8 (.s 1), .mv 4 (.s 8)] [4])
.ret) .skip))
(.seq (pr [.mv 9 (.s 0), .mv 4 (.s 9)] [4])
.ret)))
theorem c_spec_Min (x y : Int) : Ctr Tryz.prog n_spec_Min [aI x, aI y] [rI (if y < x then y else x)] := by
  refine ctr_at (M := m_spec_Min) (m := 0) (n := 10) (res := [(.tmp 4, [false])]) hmix Tryz.func247 rfl (by kernel_rfl) rfl (by kernel_rfl) (by kernel_rfl) (Nat.le_of_ble_eq_true rfl) ?_; unfold m_spec_Min
  intro hb
  clear hb
  simp only [↓bk_bind, ↓bk_map, ↓bk_ite, ↓bk_some, ↓reduceIte, Nat.reduceEqDiff, Nat.reduceLT, Nat.reduceLeDiff, Nat.reduceAdd, Nat.reduceMul, reduceCtorEq, List.reduceReplicate, go_sem]
  refine ⟨fun h => ?_, fun h => ?_⟩
  · rw [if_pos (by omega)]
  · rw [if_neg (by omega)]
end Go.Proofs.YtbnbgekjjbpljaaGreatR
namespace Go.Proofs.YtbnbgekjjbpljaaGreatR
open Go Go.RowKit Go.Proofs
set_option linter.unusedSimpArgs false
set_option linter.unusedVariables false
def zeros (n : Nat) : List Int := List.replicate n 0
theorem zeros_snoc {k : Nat} : zeros (k + 1) = zeros k ++ [0] := by
  unfold zeros; rw [List.replicate_succ']
def st0 : GState := ⟨0, zeros 4, zeros 3, zeros 4⟩
def m_spec_l11Zeros : MC :=
(.seq (pr [.nilo 2 0 1] [0])
(.seq (pr [.lit 5 0 1 8 [], .mv 3 (.s 5)] [0,3])
(.seq (.seq (pr [.mv 4 (.c (.int .i64 0))] [0,3,4])
(.block 0 (.loop ([0,3,4], [1]) (.seq (.seq (pr [.mv 6 (.s 4), .mv 7 (.s 0), .bin 8 false .lss (.s 6) (.s 7)] [0,3,4,8])
(.cond (.s 8) .skip (.exit 0)))
(.seq (.block 1 (pr [.mv 11 (.s 3), .lit 12 1 1 8 [.c (.int .i64 0)], .app 13 0 1 8 (.s 11) (.s 12), .mv 3 (.s 13)] [0,3,4]))
(pr [.mv 9 (.s 4), .bin 10 false .add (.s 9) (.c (.int .i64 1)), .mv 4 (.s 10)] [0,3,4]))))))
(.seq (pr [.mv 14 (.s 3), .mv 2 (.s 14)] [2])
.ret))))
theorem c_spec_l11Zeros (n : Nat) (hn : n ≤ 4) : Ctr Tryz.prog n_spec_l11Zeros [aI n] [rL 1 ((zeros n).map encI)] := by
  refine ctr_at (M := m_spec_l11Zeros) (m := 2) (n := 15) (res := [(.tmp 2, [true])]) hmix Tryz.func245 rfl (by kernel_rfl) rfl (by kernel_rfl) (by kernel_rfl) (Nat.le_of_ble_eq_true rfl) ?_; unfold m_spec_l11Zeros
  intro hb
  clear hb
  simp only [↓bk_bind, ↓bk_map, ↓bk_ite, ↓bk_some, ↓reduceIte, Nat.reduceEqDiff, Nat.reduceLT, Nat.reduceLeDiff, Nat.reduceAdd, Nat.reduceMul, reduceCtorEq, List.reduceReplicate, go_sem]
  refine loopK_up (fun k : Nat => [(3, .val false [.ref 0 0 1 0 (zeros k).length]), (4, vI k)]) (fun k => [(0, ⟨0, .row true 1 ((zeros k).map encI)⟩)]) (fun k => k ≤ n) (fun k => n - k) 0 ?_
  simp only [↓bk_bind, ↓bk_map, ↓bk_ite, ↓bk_some, ↓reduceIte, Nat.reduceEqDiff, Nat.reduceLT, Nat.reduceLeDiff, Nat.reduceAdd, Nat.reduceMul, reduceCtorEq, List.reduceReplicate, go_sem]
  refine ⟨?_, Nat.zero_le _, ?_⟩
  · simp only [↓bk_bind, ↓bk_map, ↓bk_ite, ↓bk_some, ↓reduceIte, Nat.reduceEqDiff, Nat.reduceLT, Nat.reduceLeDiff, Nat.reduceAdd, Nat.reduceMul, reduceCtorEq, List.reduceReplicate, go_sem]
    exact ⟨rfl, rfl⟩
  · intro k hk
    have hzl : (zeros k).length = k := by simp [zeros]
    have hw1 : IntKind.i64.wrap ((k : Int) + 1) = ((k + 1 : Nat) : Int) := by rw [wI (by omega) (by omega)]; omega
    simp only [↓bk_bind, ↓bk_map, ↓bk_ite, ↓bk_some, ↓reduceIte, Nat.reduceEqDiff, Nat.reduceLT, Nat.reduceLeDiff, Nat.reduceAdd, Nat.reduceMul, reduceCtorEq, List.reduceReplicate, go_sem, hw1]
    refine ⟨fun hlt => ⟨by decide, ?_⟩, fun hge => ?_⟩
    · exact ⟨by simp only [roomB]; omega, k + 1, ⟨⟨by simp [zeros], rfl⟩, by rw [zeros_snoc]; simp [encI]⟩, by omega, by omega⟩
    · rw [show k = n by omega]
def m_spec_StartState : MC :=
(.seq (pr [.alloc 0 0 [.pl (.sc (.int .i64 0)), .emp 1, .emp 1, .emp 1]] [0])
(.seq (pr [.call 1 [1] (.f n_spec_l11Zeros) [.c (.int .i64 4)], .call 2 [2] (.f n_spec_l11Zeros) [.c (.int .i64 3)], .call 3 [3] (.f n_spec_l11Zeros) [.c (.int .i64 4)], .build 4 [.pl (.sc (.int .i64 0)), .emp 1, .emp 1, .emp 1] [(1, 1, .s 1), (2, 1, .s 2), (3, 1, .s 3)], .store 4 (.s 0) (.s 4)] [0])
.ret))
theorem c_spec_StartState : Ctr Tryz.prog n_spec_StartState [] [rS st0.enc] := by
  refine ctr_at (M := m_spec_StartState) (m := 4) (n := 5) (res := [(.cell 0 true 4, [false, true, true, true])]) hmix Tryz.func228 rfl (by kernel_rfl) rfl (by kernel_rfl) (by kernel_rfl) (Nat.le_of_ble_eq_true rfl) ?_; unfold m_spec_StartState
  intro hb
  clear hb
  simp only [↓bk_bind, ↓bk_map, ↓bk_ite, ↓bk_some, ↓reduceIte, Nat.reduceEqDiff, Nat.reduceLT, Nat.reduceLeDiff, Nat.reduceAdd, Nat.reduceMul, reduceCtorEq, List.reduceReplicate, go_sem]
  apply callK_of (c_spec_l11Zeros 4 (by omega))
  simp only [↓bk_bind, ↓bk_map, ↓bk_ite, ↓bk_some, ↓reduceIte, Nat.reduceEqDiff, Nat.reduceLT, Nat.reduceLeDiff, Nat.reduceAdd, Nat.reduceMul, reduceCtorEq, List.reduceReplicate, go_sem]
  try intros
  apply callK_of (c_spec_l11Zeros 3 (by omega))
  simp only [↓bk_bind, ↓bk_map, ↓bk_ite, ↓bk_some, ↓reduceIte, Nat.reduceEqDiff, Nat.reduceLT, Nat.reduceLeDiff, Nat.reduceAdd, Nat.reduceMul, reduceCtorEq, List.reduceReplicate, go_sem]
  try intros
  apply callK_of (c_spec_l11Zeros 4 (by omega))
  simp only [↓bk_bind, ↓bk_map, ↓bk_ite, ↓bk_some, ↓reduceIte, Nat.reduceEqDiff, Nat.reduceLT, Nat.reduceLeDiff, Nat.reduceAdd, Nat.reduceMul, reduceCtorEq, List.reduceReplicate, go_sem]
  try intros
  exact ⟨rfl, rfl, rfl, rfl⟩
def m_impl_StartState : MC :=
(.seq (pr [.alloc 0 0 [.pl (.sc (.int .i64 0)), .emp 1, .emp 1, .emp 1]] [0])
(.seq (.dreg [{ o := .mk 1 1 1 8 [.sc (.int .i64 0)] (.c (.int .i64 4)), hs := [2,3], ho := [2,3], ws := [1] }, { o := .mk 2 2 1 8 [.sc (.int .i64 0)] (.c (.int .i64 3)), hs := [1,3], ho := [1,3], ws := [2] }, { o := .mk 3 3 1 8 [.sc (.int .i64 0)] (.c (.int .i64 4)), hs := [1,2], ho := [1,2], ws := [3] }, { o := .build 4 [.pl (.sc (.int .i64 0)), .emp 1, .emp 1, .emp 1] [(1, 1, .s 1), (2, 1, .s 2), (3, 1, .s 3)], bf := [0,1,2] }, { o := .store 4 (.s 0) (.s 4), ws := [0,1,2,3], bf := [0,1,2,3] }] [0])
.ret))
theorem c_impl_StartState : Ctr Tryz.prog n_impl_StartState [] [rS st0.enc] := by
  refine ctr_at (M := m_impl_StartState) (m := 4) (n := 5) (res := [(.cell 0 true 4, [false, true, true, true])]) hmix Tryz.func232 rfl (by kernel_rfl) rfl (by kernel_rfl) (by kernel_rfl) (Nat.le_of_ble_eq_true rfl) ?_; unfold m_impl_StartState
  intro hb
  clear hb
  simp only [↓bk_bind, ↓bk_map, ↓bk_ite, ↓bk_some, ↓reduceIte, Nat.reduceEqDiff, Nat.reduceLT, Nat.reduceLeDiff, Nat.reduceAdd, Nat.reduceMul, reduceCtorEq, List.reduceReplicate, go_sem]
  exact ⟨by simp only [roomB]; omega, by simp only [roomB]; omega, by simp only [roomB]; omega, rfl, rfl, rfl, rfl, rfl, rfl, rfl⟩
def m_impl_copyState : MC :=
(.seq (pr [.box 1 0 (.s 0), .alloc 2 1 [.pl (.sc (.int .i64 0)), .emp 1, .emp 1, .emp 1]] [1,2])
(.seq (.dreg [{ o := .fld 3 (.s 1) 0, hs := [5,6,7,8,9,10,11,12,13], ho := [2,3,4] }, { o := .load 4 false 1 (.s 3), hs := [5,6,7,8,9,10,11,12,13], ho := [2,3,4], bf := [0] }, { o := .fld 5 (.s 1) 1, hs := [3,4,8,9,11,12] }, { o := .load 6 false 1 (.s 5), hs := [3,4,8,9,11,12], bf := [2] }, { o := .call 7 [2] (.f n_slices_Clone_int_int) [.s 6], hs := [3,4,8,9,11,12], ws := [2], bf := [2,3] }, { o := .fld 8 (.s 1) 2, hs := [3,4,5,6,7,11,12], ho := [2] }, { o := .load 9 false 1 (.s 8), hs := [3,4,5,6,7,11,12], ho := [2], bf := [5] }, { o := .call 10 [3] (.f n_slices_Clone_int_int) [.s 9], hs := [3,4,11,12], ws := [3], bf := [2,3,4,5,6] }, { o := .fld 11 (.s 1) 3, hs := [3,4,5,6,7,8,9,10], ho := [2,3] }, { o := .load 12 false 1 (.s 11), hs := [3,4,5,6,7,8,9,10], ho := [2,3], bf := [8] }, { o := .call 13 [4] (.f n_slices_Clone_int_int) [.s 12], hs := [3,4], ws := [4], bf := [2,3,4,5,6,7,8,9] }, { o := .build 14 [.pl (.sc (.int .i64 0)), .emp 1, .emp 1, .emp 1] [(0, 1, .s 4), (1, 1, .s 7), (2, 1, .s 10), (3, 1, .s 13)], bf := [0,1,2,3,4,5,6,7,8,9,10] }, { o := .store 4 (.s 2) (.s 14), ws := [1,2,3,4], bf := [0,1,2,3,4,5,6,7,8,9,10,11] }] [2])
.ret))
theorem c_impl_copyState (s : GState) (hs : s.size ≤ 1073741824) : Ctr Tryz.prog n_impl_copyState [aS s.enc] [rS s.enc] := by
  refine ctr_at (M := m_impl_copyState) (m := 5) (n := 15) (res := [(.cell 2 true 4, [false, true, true, true])]) hmix Tryz.func203 rfl (by kernel_rfl) rfl (by kernel_rfl) (by kernel_rfl) (Nat.le_of_ble_eq_true rfl) ?_; unfold m_impl_copyState
  intro hb
  clear hb
  simp only [GState.size] at hs
  simp only [↓bk_bind, ↓bk_map, ↓bk_ite, ↓bk_some, ↓reduceIte, Nat.reduceEqDiff, Nat.reduceLT, Nat.reduceLeDiff, Nat.reduceAdd, Nat.reduceMul, reduceCtorEq, List.reduceReplicate, go_sem]
  apply callK_of (c_slices_Clone_int s.Regs (by omega))
  simp only [↓bk_bind, ↓bk_map, ↓bk_ite, ↓bk_some, ↓reduceIte, Nat.reduceEqDiff, Nat.reduceLT, Nat.reduceLeDiff, Nat.reduceAdd, Nat.reduceMul, reduceCtorEq, List.reduceReplicate, go_sem]
  try intros
  apply callK_of (c_slices_Clone_int s.Slots (by omega))
  simp only [↓bk_bind, ↓bk_map, ↓bk_ite, ↓bk_some, ↓reduceIte, Nat.reduceEqDiff, Nat.reduceLT, Nat.reduceLeDiff, Nat.reduceAdd, Nat.reduceMul, reduceCtorEq, List.reduceReplicate, go_sem]
  try intros
  apply callK_of (c_slices_Clone_int s.Nodes (by omega))
  simp only [↓bk_bind, ↓bk_map, ↓bk_ite, ↓bk_some, ↓reduceIte, Nat.reduceEqDiff, Nat.reduceLT, Nat.reduceLeDiff, Nat.reduceAdd, Nat.reduceMul, reduceCtorEq, List.reduceReplicate, go_sem]
  try intros
  try trivial
def m_spec_l11Copy : MC :=
(.seq (pr [.box 1 0 (.s 0), .alloc 2 1 [.pl (.sc (.int .i64 0)), .emp 1, .emp 1, .emp 1]] [1,2])
(.seq (.dreg [{ o := .fld 3 (.s 1) 0, hs := [5,6,7,8,9,10,11,12,13,14,15,16], ho := [2,3,4] }, { o := .load 4 false 1 (.s 3), hs := [5,6,7,8,9,10,11,12,13,14,15,16], ho := [2,3,4], bf := [0] }, { o := .lit 5 2 1 8 [], hs := [3,4,6,7,9,10,11,13,14,15], ho := [3,4], ws := [2] }, { o := .fld 6 (.s 1) 1, hs := [3,4,5,9,10,11,13,14,15], ho := [2,3,4] }, { o := .load 7 false 1 (.s 6), hs := [3,4,5,9,10,11,13,14,15], ho := [2,3,4], bf := [3] }, { o := .app 8 2 1 8 (.s 5) (.s 7), hs := [3,4,9,10,11,13,14,15], ho := [3,4], ws := [2], bf := [2,3,4] }, { o := .lit 9 3 1 8 [], hs := [3,4,5,6,7,8,10,11,13,14,15], ho := [2,4], ws := [3] }, { o := .fld 10 (.s 1) 2, hs := [3,4,5,6,7,8,9,13,14,15], ho := [2,3,4] }, { o := .load 11 false 1 (.s 10), hs := [3,4,5,6,7,8,9,13,14,15], ho := [2,3,4], bf := [7] }, { o := .app 12 3 1 8 (.s 9) (.s 11), hs := [3,4,13,14,15], ho := [4], ws := [3], bf := [2,3,4,5,6,7,8] }, { o := .lit 13 4 1 8 [], hs := [3,4,5,6,7,8,9,10,11,12,14,15], ho := [2,3], ws := [4] }, { o := .fld 14 (.s 1) 3, hs := [3,4,5,6,7,8,9,10,11,12,13], ho := [2,3,4] }, { o := .load 15 false 1 (.s 14), hs := [3,4,5,6,7,8,9,10,11,12,13], ho := [2,3,4], bf := [11] }, { o := .app 16 4 1 8 (.s 13) (.s 15), hs := [3,4], ws := [4], bf := [2,3,4,5,6,7,8,9,10,11,12] }, { o := .build 17 [.pl (.sc (.int .i64 0)), .emp 1, .emp 1, .emp 1] [(0, 1, .s 4), (1, 1, .s 8), (2, 1, .s 12), (3, 1, .s 16)], bf := [0,1,2,3,4,5,6,7,8,9,10,11,12,13] }, { o := .store 4 (.s 2) (.s 17), ws := [1,2,3,4], bf := [0,1,2,3,4,5,6,7,8,9,10,11,12,13,14] }] [2])
.ret))
theorem c_spec_l11Copy (s : GState) (hs : s.size ≤ 1073741824) : Ctr Tryz.prog n_spec_l11Copy [aS s.enc] [rS s.enc] := by
  refine ctr_at (M := m_spec_l11Copy) (m := 5) (n := 18) (res := [(.cell 2 true 4, [false, true, true, true])]) hmix Tryz.func200 rfl (by kernel_rfl) rfl (by kernel_rfl) (by kernel_rfl) (Nat.le_of_ble_eq_true rfl) ?_; unfold m_spec_l11Copy
  intro hb
  clear hb
  simp only [GState.size] at hs
  simp only [↓bk_bind, ↓bk_map, ↓bk_ite, ↓bk_some, ↓reduceIte, Nat.reduceEqDiff, Nat.reduceLT, Nat.reduceLeDiff, Nat.reduceAdd, Nat.reduceMul, reduceCtorEq, List.reduceReplicate, go_sem, ↓flat_of (f := encI) (fun _ => rfl) s.Regs, ↓flat_of (f := encI) (fun _ => rfl) s.Slots, ↓flat_of (f := encI) (fun _ => rfl) s.Nodes]
  simp only [roomB]
  omega
def stOk (s : GState) : Bool := decide (0 ≤ s.Pc ∧ s.Pc ≤ 19) && (decide (s.Regs.length = 4 ∧ s.Slots.length = 3 ∧ s.Nodes.length = 4) && (allIn s.Regs 0 999 && (allIn s.Slots 0 999 && allIn s.Nodes 0 999)))
def m_spec_l11All : MC :=
(.seq (pr [.mv 4 (.c (.bool false))] [0,1])
(.seq (.seq (pr [.mv 5 (.c (.int .i64 0))] [0,1,5])
(.block 0 (.loop ([0,1,5], []) (.seq (.seq (pr [.mv 6 (.s 5), .mv 7 (.s 0), .len 8 false (.s 7), .bin 9 false .lss (.s 6) (.s 8)] [0,1,5,9])
(.cond (.s 9) .skip (.exit 0)))
(.seq (.block 1 (.seq (pr [.mv 12 (.s 0), .mv 13 (.s 5), .idx 14 1 (.s 12) (.s 13), .load 15 false 1 (.s 14), .call 16 [] (.f n_spec_l1In) [.s 15, .c (.int .i64 0), .c (.int .i64 999)], .un 17 .not (.s 16)] [0,1,5,17])
(.cond (.s 17) (.seq (pr [.mv 4 (.c (.bool false))] [4])
.ret) .skip)))
(pr [.mv 10 (.s 5), .bin 11 false .add (.s 10) (.c (.int .i64 1)), .mv 5 (.s 11)] [0,1,5]))))))
(.seq (pr [.mv 18 (.s 0), .len 19 false (.s 18), .mv 20 (.s 1), .bin 21 false .eql (.s 19) (.s 20), .mv 4 (.s 21)] [4])
.ret)))
theorem c_spec_l11All (l : List Int) (n : Nat) : Ctr Tryz.prog n_spec_l11All [aL 1 (l.map encI), aI n] [rB (decide (l.length = n) && allIn l 0 999)] := by
  refine ctr_at (M := m_spec_l11All) (m := 0) (n := 22) (res := [(.tmp 4, [false])]) hmix Tryz.func253 rfl (by kernel_rfl) rfl (by kernel_rfl) (by kernel_rfl) (Nat.le_of_ble_eq_true rfl) ?_; unfold m_spec_l11All
  intro hb
  simp only [bdA, bdL, bdT, bdR, bdR_map, wfB_i64, wfB_bool, wfB_str, roomB, and_true, true_and, List.length_map] at hb
  obtain ⟨⟨hl, -⟩, -⟩ := hb
  simp only [↓bk_bind, ↓bk_map, ↓bk_ite, ↓bk_some, ↓reduceIte, Nat.reduceEqDiff, Nat.reduceLT, Nat.reduceLeDiff, Nat.reduceAdd, Nat.reduceMul, reduceCtorEq, List.reduceReplicate, go_sem]
  refine loopK_rng l (fun k => [(5, vI k)]) (fun k => []) (fun k => ((l.take k).all fun x => decide (0 ≤ x ∧ x ≤ 999)) = true) hl ?_
  simp only [↓bk_bind, ↓bk_map, ↓bk_ite, ↓bk_some, ↓reduceIte, Nat.reduceEqDiff, Nat.reduceLT, Nat.reduceLeDiff, Nat.reduceAdd, Nat.reduceMul, reduceCtorEq, List.reduceReplicate, go_sem]
  refine ⟨?_, by simp, ?_, ?_⟩
  · simp only [↓bk_bind, ↓bk_map, ↓bk_ite, ↓bk_some, ↓reduceIte, Nat.reduceEqDiff, Nat.reduceLT, Nat.reduceLeDiff, Nat.reduceAdd, Nat.reduceMul, reduceCtorEq, List.reduceReplicate, go_sem]
  · intro k x hx h h0 h1 hw
    simp only [↓bk_bind, ↓bk_map, ↓bk_ite, ↓bk_some, ↓reduceIte, Nat.reduceEqDiff, Nat.reduceLT, Nat.reduceLeDiff, Nat.reduceAdd, Nat.reduceMul, reduceCtorEq, List.reduceReplicate, go_sem, bk_eq hx, h0, h1, hw]
    refine callK_of (c_spec_l1In _ _ _) ?_
    simp only [↓bk_bind, ↓bk_map, ↓bk_ite, ↓bk_some, ↓reduceIte, Nat.reduceEqDiff, Nat.reduceLT, Nat.reduceLeDiff, Nat.reduceAdd, Nat.reduceMul, reduceCtorEq, List.reduceReplicate, go_sem, hw]
    refine ⟨fun hn => ?_, fun hn => all_step hx h (by simpa using hn)⟩
    rw [show allIn l 0 999 = false from (all_not hx (by simpa using hn)).symm, Bool.and_false]
  · intro h
    simp only [↓bk_bind, ↓bk_map, ↓bk_ite, ↓bk_some, ↓reduceIte, Nat.reduceEqDiff, Nat.reduceLT, Nat.reduceLeDiff, Nat.reduceAdd, Nat.reduceMul, reduceCtorEq, List.reduceReplicate, go_sem]
    rw [List.take_length] at h
    rw [show allIn l 0 999 = true from h, Bool.and_true, Bool.eq_iff_iff]
    simp only [decide_eq_true_eq, beq_iff_eq]
    omega
def m_impl_IsState : MC :=
(.seq (pr [.box 1 0 (.s 0), .mv 2 (.c (.bool false))] [1])
(.seq (.reg [{ o := .fld 3 (.s 1) 0 }, { o := .load 4 false 1 (.s 3) }, { o := .call 5 [] (.f n_impl_InRange) [.s 4, .c (.int .i64 0), .c (.int .i64 19)] }, { o := .mv 6 (.s 5) }, { o := .fld 7 (.s 1) 1, g := some (6, true) }, { o := .load 8 false 1 (.s 7), g := some (6, true) }, { o := .len 9 false (.s 8), g := some (6, true) }, { o := .bin 10 false .eql (.s 9) (.c (.int .i64 4)), g := some (6, true) }, { o := .pick 11 (.s 6) (.s 10) (.c (.bool false)) }, { o := .mv 12 (.s 11) }, { o := .fld 13 (.s 1) 2, g := some (12, true) }, { o := .load 14 false 1 (.s 13), g := some (12, true) }, { o := .len 15 false (.s 14), g := some (12, true) }, { o := .bin 16 false .eql (.s 15) (.c (.int .i64 3)), g := some (12, true) }, { o := .pick 17 (.s 12) (.s 16) (.c (.bool false)) }, { o := .mv 18 (.s 17) }, { o := .fld 19 (.s 1) 3, g := some (18, true) }, { o := .load 20 false 1 (.s 19), g := some (18, true) }, { o := .len 21 false (.s 20), g := some (18, true) }, { o := .bin 22 false .eql (.s 21) (.c (.int .i64 4)), g := some (18, true) }, { o := .pick 23 (.s 18) (.s 22) (.c (.bool false)) }, { o := .mv 24 (.s 23) }, { o := .fld 25 (.s 1) 1, g := some (24, true) }, { o := .load 26 false 1 (.s 25), g := some (24, true) }, { o := .call 27 [] (.f n_impl_allIn) [.s 26, .c (.int .i64 0), .c (.int .i64 999)], g := some (24, true) }, { o := .pick 28 (.s 24) (.s 27) (.c (.bool false)) }, { o := .mv 29 (.s 28) }, { o := .fld 30 (.s 1) 2, g := some (29, true) }, { o := .load 31 false 1 (.s 30), g := some (29, true) }, { o := .call 32 [] (.f n_impl_allIn) [.s 31, .c (.int .i64 0), .c (.int .i64 999)], g := some (29, true) }, { o := .pick 33 (.s 29) (.s 32) (.c (.bool false)) }, { o := .mv 34 (.s 33) }, { o := .fld 35 (.s 1) 3, g := some (34, true) }, { o := .load 36 false 1 (.s 35), g := some (34, true) }, { o := .call 37 [] (.f n_impl_allIn) [.s 36, .c (.int .i64 0), .c (.int .i64 999)], g := some (34, true) }, { o := .pick 38 (.s 34) (.s 37) (.c (.bool false)) }, { o := .mv 2 (.s 38) }] [2])
.ret))
theorem c_impl_IsState (s : GState) : Ctr Tryz.prog n_impl_IsState [aS s.enc] [rB (stOk s)] := by
  refine ctr_at (M := m_impl_IsState) (m := 1) (n := 39) (res := [(.tmp 2, [false])]) hmix Tryz.func252 rfl (by kernel_rfl) rfl (by kernel_rfl) (by kernel_rfl) (Nat.le_of_ble_eq_true rfl) ?_; unfold m_impl_IsState
  intro hb
  clear hb
  simp only [↓bk_bind, ↓bk_map, ↓bk_ite, ↓bk_some, ↓reduceIte, Nat.reduceEqDiff, Nat.reduceLT, Nat.reduceLeDiff, Nat.reduceAdd, Nat.reduceMul, reduceCtorEq, List.reduceReplicate, go_sem]
  repeat' first
    | (refine And.intro ?_ ?_ <;> intro h)
    | (apply callK_of (c_impl_InRange _ _ _); simp only [↓bk_bind, ↓bk_map, ↓bk_ite, ↓bk_some, ↓reduceIte, Nat.reduceEqDiff, Nat.reduceLT, Nat.reduceLeDiff, Nat.reduceAdd, Nat.reduceMul, reduceCtorEq, List.reduceReplicate, go_sem])
    | (apply callK_of (c_impl_allIn _ _ _); simp only [↓bk_bind, ↓bk_map, ↓bk_ite, ↓bk_some, ↓reduceIte, Nat.reduceEqDiff, Nat.reduceLT, Nat.reduceLeDiff, Nat.reduceAdd, Nat.reduceMul, reduceCtorEq, List.reduceReplicate, go_sem])
  all_goals (unfold stOk; by_cases c1 : s.Regs.length = 4 <;> by_cases c2 : s.Slots.length = 3 <;> by_cases c3 : s.Nodes.length = 4 <;> simp_all <;> omega)
def m_spec_IsState : MC :=
(.seq (pr [.box 1 0 (.s 0), .mv 2 (.c (.bool false))] [1])
(.seq (.reg [{ o := .fld 3 (.s 1) 0 }, { o := .load 4 false 1 (.s 3) }, { o := .call 5 [] (.f n_spec_l1In) [.s 4, .c (.int .i64 0), .c (.int .i64 19)] }, { o := .mv 6 (.s 5) }, { o := .fld 7 (.s 1) 1, g := some (6, true) }, { o := .load 8 false 1 (.s 7), g := some (6, true) }, { o := .call 9 [] (.f n_spec_l11All) [.s 8, .c (.int .i64 4)], g := some (6, true) }, { o := .pick 10 (.s 6) (.s 9) (.c (.bool false)) }, { o := .mv 11 (.s 10) }, { o := .fld 12 (.s 1) 2, g := some (11, true) }, { o := .load 13 false 1 (.s 12), g := some (11, true) }, { o := .call 14 [] (.f n_spec_l11All) [.s 13, .c (.int .i64 3)], g := some (11, true) }, { o := .pick 15 (.s 11) (.s 14) (.c (.bool false)) }, { o := .mv 16 (.s 15) }, { o := .fld 17 (.s 1) 3, g := some (16, true) }, { o := .load 18 false 1 (.s 17), g := some (16, true) }, { o := .call 19 [] (.f n_spec_l11All) [.s 18, .c (.int .i64 4)], g := some (16, true) }, { o := .pick 20 (.s 16) (.s 19) (.c (.bool false)) }, { o := .mv 2 (.s 20) }] [2])
.ret))
theorem c_spec_IsState (s : GState) : Ctr Tryz.prog n_spec_IsState [aS s.enc] [rB (stOk s)] := by
  refine ctr_at (M := m_spec_IsState) (m := 1) (n := 21) (res := [(.tmp 2, [false])]) hmix Tryz.func251 rfl (by kernel_rfl) rfl (by kernel_rfl) (by kernel_rfl) (Nat.le_of_ble_eq_true rfl) ?_; unfold m_spec_IsState
  intro hb
  clear hb
  simp only [↓bk_bind, ↓bk_map, ↓bk_ite, ↓bk_some, ↓reduceIte, Nat.reduceEqDiff, Nat.reduceLT, Nat.reduceLeDiff, Nat.reduceAdd, Nat.reduceMul, reduceCtorEq, List.reduceReplicate, go_sem]
  repeat' first
    | (refine And.intro ?_ ?_ <;> intro h)
    | (apply callK_of (c_spec_l1In _ _ _); simp only [↓bk_bind, ↓bk_map, ↓bk_ite, ↓bk_some, ↓reduceIte, Nat.reduceEqDiff, Nat.reduceLT, Nat.reduceLeDiff, Nat.reduceAdd, Nat.reduceMul, reduceCtorEq, List.reduceReplicate, go_sem])
    | (apply callK_of (c_spec_l11All s.Regs 4); simp only [↓bk_bind, ↓bk_map, ↓bk_ite, ↓bk_some, ↓reduceIte, Nat.reduceEqDiff, Nat.reduceLT, Nat.reduceLeDiff, Nat.reduceAdd, Nat.reduceMul, reduceCtorEq, List.reduceReplicate, go_sem])
    | (apply callK_of (c_spec_l11All s.Slots 3); simp only [↓bk_bind, ↓bk_map, ↓bk_ite, ↓bk_some, ↓reduceIte, Nat.reduceEqDiff, Nat.reduceLT, Nat.reduceLeDiff, Nat.reduceAdd, Nat.reduceMul, reduceCtorEq, List.reduceReplicate, go_sem])
    | (apply callK_of (c_spec_l11All s.Nodes 4); simp only [↓bk_bind, ↓bk_map, ↓bk_ite, ↓bk_some, ↓reduceIte, Nat.reduceEqDiff, Nat.reduceLT, Nat.reduceLeDiff, Nat.reduceAdd, Nat.reduceMul, reduceCtorEq, List.reduceReplicate, go_sem])
  all_goals (unfold stOk; by_cases c1 : s.Regs.length = 4 <;> by_cases c2 : s.Slots.length = 3 <;> by_cases c3 : s.Nodes.length = 4 <;> simp_all <;> omega)
end Go.Proofs.YtbnbgekjjbpljaaGreatR
namespace Go.Proofs.YtbnbgekjjbpljaaGreatR
open Go Go.RowKit Go.Proofs
set_option linter.unusedSimpArgs false
set_option linter.unusedVariables false
def canDo (l : List GOp) (s : GState) : Bool := scriptOk l && (stOk s && decide (s.Pc < l.length))
def zAt (l : List Int) (i : Int) : Int := (l[i.toNat]?).getD 0
def opAt (l : List GOp) (i : Int) : GOp := (l[i.toNat]?).getD ⟨0, 0, 0, 0⟩
theorem zAt_of {l : List Int} {i : Nat} {x : Int} (h : l[i]? = some x) : zAt l i = x := by simp [zAt, h]
structure Doing (l : List GOp) (s : GState) (k : Nat) (o : GOp) : Prop where
  pc : s.Pc = k
  op : l[k]? = some o
  at_ : opAt l s.Pc = o
  ok : opOk o = true
  lt : k < l.length
  few : l.length ≤ 16
  regs : s.Regs.length = 4
  slots : s.Slots.length = 3
  nodes : s.Nodes.length = 4
  rin : ∀ (i : Nat) (x : Int), s.Regs[i]? = some x → 0 ≤ x ∧ x ≤ 999
  sin : ∀ (i : Nat) (x : Int), s.Slots[i]? = some x → 0 ≤ x ∧ x ≤ 999
  nin : ∀ (i : Nat) (x : Int), s.Nodes[i]? = some x → 0 ≤ x ∧ x ≤ 999
theorem allIn_at {l : List Int} {a b : Int} (h : allIn l a b = true) (i : Nat) (x : Int) (hx : l[i]? = some x) : a ≤ x ∧ x ≤ b := by
  have := List.all_eq_true.1 h x (at_mem hx)
  simpa using this
theorem canDo_out {l : List GOp} {s : GState} (h : canDo l s = true) : ∃ k o, Doing l s k o := by
  simp only [canDo, scriptOk, fewAll, stOk, Bool.and_eq_true, decide_eq_true_eq] at h
  obtain ⟨⟨h1, h2⟩, ⟨⟨h3, h4⟩, ⟨h5, h6, h7⟩, h8, h9, h10⟩, h11⟩ := h
  obtain ⟨k, hk⟩ := Int.eq_ofNat_of_zero_le h3
  obtain ⟨o, ho⟩ := at_some (show k < l.length by omega)
  exact ⟨k, o, hk, ho, by simp [opAt, hk, ho], List.all_eq_true.1 h2 o (at_mem ho), by omega, h1, h5, h6, h7, allIn_at h8, allIn_at h9, allIn_at h10⟩
theorem opOk_cases {o : GOp} (h : opOk o = true) : ∃ i : Nat, i < 4 ∧ o.A = i ∧ (
    (o.Kind = 5 ∧ ∃ j m : Nat, j < 4 ∧ m < 4 ∧ o.B = j ∧ o.C = m) ∨ (o.Kind = 6 ∧ ∃ j : Nat, j < 4 ∧ o.B = j) ∨ (o.Kind = 7 ∧ 1 ≤ o.B ∧ o.B ≤ 3) ∨
    (o.Kind = 8 ∧ ∃ j : Nat, j < 3 ∧ o.B = j) ∨ (o.Kind = 9 ∧ ∃ j : Nat, j < 3 ∧ o.B = j) ∨ (1 ≤ o.Kind ∧ o.Kind ≤ 4)) := by
  simp only [opOk, decide_eq_true_eq] at h
  obtain ⟨⟨h1, h2⟩, h⟩ := h
  refine ⟨o.A.toNat, by omega, by omega, ?_⟩
  rcases h with h | h | ⟨h, h3, h4⟩ | ⟨h, h3, h4⟩ | h | ⟨h, h3, h4⟩
  · omega
  · omega
  · exact .inl ⟨h, o.B.toNat, o.C.toNat, by omega, by omega, by omega, by omega⟩
  · exact .inr (.inl ⟨h, o.B.toNat, by omega, by omega⟩)
  · omega
  · rcases h with h | h
    · exact .inr (.inr (.inr (.inl ⟨h, o.B.toNat, by omega, by omega⟩)))
    · exact .inr (.inr (.inr (.inr (.inl ⟨h, o.B.toNat, by omega, by omega⟩))))
def m_impl_canStep : MC :=
(.seq (pr [.box 3 0 (.s 1), .mv 4 (.c (.bool false))] [0,3])
(.seq (.reg [{ o := .mv 5 (.s 0) }, { o := .call 6 [] (.f n_impl_IsScript) [.s 5] }, { o := .mv 7 (.s 6) }, { o := .load 8 true 4 (.s 3), g := some (7, true) }, { o := .call 9 [] (.f n_impl_IsState) [.s 8], g := some (7, true) }, { o := .pick 10 (.s 7) (.s 9) (.c (.bool false)) }, { o := .mv 11 (.s 10) }, { o := .fld 12 (.s 3) 0, g := some (11, true) }, { o := .load 13 false 1 (.s 12), g := some (11, true) }, { o := .mv 14 (.s 0), g := some (11, true) }, { o := .len 15 false (.s 14), g := some (11, true) }, { o := .bin 16 false .lss (.s 13) (.s 15), g := some (11, true) }, { o := .pick 17 (.s 11) (.s 16) (.c (.bool false)) }, { o := .mv 4 (.s 17) }] [4])
.ret))
theorem c_impl_canStep (l : List GOp) (s : GState) : Ctr Tryz.prog n_impl_canStep [aL 4 (l.map GOp.enc), aS s.enc] [rB (canDo l s)] := by
  refine ctr_at (M := m_impl_canStep) (m := 1) (n := 18) (res := [(.tmp 4, [false])]) hmix Tryz.func248 rfl (by kernel_rfl) rfl (by kernel_rfl) (by kernel_rfl) (Nat.le_of_ble_eq_true rfl) ?_; unfold m_impl_canStep
  intro hb
  clear hb
  simp only [↓bk_bind, ↓bk_map, ↓bk_ite, ↓bk_some, ↓reduceIte, Nat.reduceEqDiff, Nat.reduceLT, Nat.reduceLeDiff, Nat.reduceAdd, Nat.reduceMul, reduceCtorEq, List.reduceReplicate, go_sem]
  repeat' first
    | (refine And.intro ?_ ?_ <;> intro h)
    | (apply callK_of (c_impl_IsScript _); simp only [↓bk_bind, ↓bk_map, ↓bk_ite, ↓bk_some, ↓reduceIte, Nat.reduceEqDiff, Nat.reduceLT, Nat.reduceLeDiff, Nat.reduceAdd, Nat.reduceMul, reduceCtorEq, List.reduceReplicate, go_sem])
    | (apply callK_of (c_impl_IsState s); simp only [↓bk_bind, ↓bk_map, ↓bk_ite, ↓bk_some, ↓reduceIte, Nat.reduceEqDiff, Nat.reduceLT, Nat.reduceLeDiff, Nat.reduceAdd, Nat.reduceMul, reduceCtorEq, List.reduceReplicate, go_sem])
  all_goals (unfold canDo; simp_all)
def m_spec_l11Can : MC :=
(.seq (pr [.box 3 0 (.s 1), .mv 4 (.c (.bool false))] [0,3])
(.seq (.reg [{ o := .mv 5 (.s 0) }, { o := .call 6 [] (.f n_spec_IsScript) [.s 5] }, { o := .mv 7 (.s 6) }, { o := .load 8 true 4 (.s 3), g := some (7, true) }, { o := .call 9 [] (.f n_spec_IsState) [.s 8], g := some (7, true) }, { o := .pick 10 (.s 7) (.s 9) (.c (.bool false)) }, { o := .mv 11 (.s 10) }, { o := .fld 12 (.s 3) 0, g := some (11, true) }, { o := .load 13 false 1 (.s 12), g := some (11, true) }, { o := .mv 14 (.s 0), g := some (11, true) }, { o := .len 15 false (.s 14), g := some (11, true) }, { o := .bin 16 false .lss (.s 13) (.s 15), g := some (11, true) }, { o := .pick 17 (.s 11) (.s 16) (.c (.bool false)) }, { o := .mv 4 (.s 17) }] [4])
.ret))
theorem c_spec_l11Can (l : List GOp) (s : GState) : Ctr Tryz.prog n_spec_l11Can [aL 4 (l.map GOp.enc), aS s.enc] [rB (canDo l s)] := by
  refine ctr_at (M := m_spec_l11Can) (m := 1) (n := 18) (res := [(.tmp 4, [false])]) hmix Tryz.func246 rfl (by kernel_rfl) rfl (by kernel_rfl) (by kernel_rfl) (Nat.le_of_ble_eq_true rfl) ?_; unfold m_spec_l11Can
  intro hb
  clear hb
  simp only [↓bk_bind, ↓bk_map, ↓bk_ite, ↓bk_some, ↓reduceIte, Nat.reduceEqDiff, Nat.reduceLT, Nat.reduceLeDiff, Nat.reduceAdd, Nat.reduceMul, reduceCtorEq, List.reduceReplicate, go_sem]
  repeat' first
    | (refine And.intro ?_ ?_ <;> intro h)
    | (apply callK_of (c_spec_IsScript _); simp only [↓bk_bind, ↓bk_map, ↓bk_ite, ↓bk_some, ↓reduceIte, Nat.reduceEqDiff, Nat.reduceLT, Nat.reduceLeDiff, Nat.reduceAdd, Nat.reduceMul, reduceCtorEq, List.reduceReplicate, go_sem])
    | (apply callK_of (c_spec_IsState s); simp only [↓bk_bind, ↓bk_map, ↓bk_ite, ↓bk_some, ↓reduceIte, Nat.reduceEqDiff, Nat.reduceLT, Nat.reduceLeDiff, Nat.reduceAdd, Nat.reduceMul, reduceCtorEq, List.reduceReplicate, go_sem])
  all_goals (unfold canDo; simp_all)
def wantOf (l : List GOp) (s : GState) : GWant := if canDo l s = true ∧ asks (opAt l s.Pc).Kind = true then ⟨(opAt l s.Pc).Kind, if (opAt l s.Pc).Kind = 1 then ⟨(opAt l s.Pc).B, (opAt l s.Pc).C, (zAt s.Regs (opAt l s.Pc).A).tmod 100⟩ else ⟨0, 0, 0⟩⟩ else ⟨0, ⟨0, 0, 0⟩⟩
theorem c100 : ¬ (100 : Int) = 0 := by decide
theorem c1000 : ¬ (1000 : Int) = 0 := by decide
def m_impl_WantOf : MC :=
(.seq (pr [.box 3 0 (.s 1), .alloc 4 1 [.pl (.sc (.int .i64 0)), .pl (.sc (.int .i64 0)), .pl (.sc (.int .i64 0)), .pl (.sc (.int .i64 0))]] [0,3,4])
(.seq (.seq (.reg [{ o := .mv 7 (.s 0) }, { o := .load 8 true 4 (.s 3) }, { o := .call 9 [] (.f n_impl_canStep) [.s 7, .s 8] }, { o := .un 10 .not (.s 9) }, { o := .mv 11 (.s 10) }, { o := .mv 12 (.s 0), g := some (11, false) }, { o := .fld 13 (.s 3) 0, g := some (11, false) }, { o := .load 14 false 1 (.s 13), g := some (11, false) }, { o := .idx 15 4 (.s 12) (.s 14), g := some (11, false) }, { o := .fld 16 (.s 15) 0, g := some (11, false) }, { o := .load 17 false 1 (.s 16), g := some (11, false) }, { o := .call 18 [] (.f n_impl_Asks) [.s 17], g := some (11, false) }, { o := .un 19 .not (.s 18), g := some (11, false) }, { o := .pick 20 (.s 11) (.c (.bool true)) (.s 19) }] [0,3,4,20])
(.cond (.s 20) (.seq (pr [.build 21 [.pl (.sc (.int .i64 0)), .pl (.sc (.int .i64 0)), .pl (.sc (.int .i64 0)), .pl (.sc (.int .i64 0))] [], .store 4 (.s 4) (.s 21)] [4])
.ret) .skip))
(.seq (pr [.mv 22 (.s 0), .fld 23 (.s 3) 0, .load 24 false 1 (.s 23), .idx 25 4 (.s 22) (.s 24), .load 26 true 4 (.s 25), .alloc 5 2 [.pl (.sc (.int .i64 0)), .pl (.sc (.int .i64 0)), .pl (.sc (.int .i64 0)), .pl (.sc (.int .i64 0))], .store 4 (.s 5) (.s 26)] [3,4,5])
(.seq (pr [.fld 27 (.s 5) 0, .load 28 false 1 (.s 27), .build 29 [.pl (.sc (.int .i64 0)), .pl (.sc (.int .i64 0)), .pl (.sc (.int .i64 0)), .pl (.sc (.int .i64 0))] [(0, 1, .s 28)], .alloc 6 3 [.pl (.sc (.int .i64 0)), .pl (.sc (.int .i64 0)), .pl (.sc (.int .i64 0)), .pl (.sc (.int .i64 0))], .store 4 (.s 6) (.s 29)] [3,4,5,6])
(.seq (.seq (pr [.fld 30 (.s 5) 0, .load 31 false 1 (.s 30), .bin 32 false .eql (.s 31) (.c (.int .i64 1))] [3,4,5,6,32])
(.cond (.s 32) (.dreg [{ o := .fld 33 (.s 5) 2, hs := [35,36,37,38,39,40,41,42,43] }, { o := .load 34 false 1 (.s 33), hs := [35,36,37,38,39,40,41,42,43], bf := [0] }, { o := .fld 35 (.s 5) 3, hs := [33,34,37,38,39,40,41,42,43] }, { o := .load 36 false 1 (.s 35), hs := [33,34,37,38,39,40,41,42,43], bf := [2] }, { o := .fld 37 (.s 3) 1, hs := [33,34,35,36,39,40] }, { o := .load 38 false 1 (.s 37), hs := [33,34,35,36,39,40], bf := [4] }, { o := .fld 39 (.s 5) 1, hs := [33,34,35,36,37,38] }, { o := .load 40 false 1 (.s 39), hs := [33,34,35,36,37,38], bf := [6] }, { o := .idx 41 1 (.s 38) (.s 40), hs := [33,34,35,36], bf := [4,5,6,7] }, { o := .load 42 false 1 (.s 41), hs := [33,34,35,36], bf := [4,5,6,7,8] }, { o := .bin 43 false .rem (.s 42) (.c (.int .i64 100)), hs := [33,34,35,36], bf := [4,5,6,7,8,9] }, { o := .build 44 [.pl (.sc (.int .i64 0)), .pl (.sc (.int .i64 0)), .pl (.sc (.int .i64 0))] [(0, 1, .s 34), (1, 1, .s 36), (2, 1, .s 43)], bf := [0,1,2,3,4,5,6,7,8,9,10] }, { o := .fld 45 (.s 6) 1, bf := [0,1,2,3,4,5,6,7,8,9,10,11] }, { o := .store 3 (.s 45) (.s 44), ws := [3], bf := [0,1,2,3,4,5,6,7,8,9,10,11,12] }] [4,6]) .skip))
(.seq (pr [.load 46 true 4 (.s 6), .store 4 (.s 4) (.s 46)] [4])
.ret))))))
theorem c_impl_WantOf (l : List GOp) (s : GState) : Ctr Tryz.prog n_impl_WantOf [aL 4 (l.map GOp.enc), aS s.enc] [rS (wantOf l s).enc] := by
  refine ctr_at (M := m_impl_WantOf) (m := 4) (n := 47) (res := [(.cell 4 true 4, [false, false, false, false])]) hmix Tryz.func234 rfl (by kernel_rfl) rfl (by kernel_rfl) (by kernel_rfl) (Nat.le_of_ble_eq_true rfl) ?_; unfold m_impl_WantOf
  intro hb
  clear hb
  simp only [↓bk_bind, ↓bk_map, ↓bk_ite, ↓bk_some, ↓reduceIte, Nat.reduceEqDiff, Nat.reduceLT, Nat.reduceLeDiff, Nat.reduceAdd, Nat.reduceMul, reduceCtorEq, List.reduceReplicate, go_sem]
  apply callK_of (c_impl_canStep l s)
  simp only [↓bk_bind, ↓bk_map, ↓bk_ite, ↓bk_some, ↓reduceIte, Nat.reduceEqDiff, Nat.reduceLT, Nat.reduceLeDiff, Nat.reduceAdd, Nat.reduceMul, reduceCtorEq, List.reduceReplicate, go_sem]
  refine And.intro ?_ ?_ <;> intro h
  · rw [wantOf, if_neg (by simp [h])]
    try exact ⟨rfl, rfl, rfl, rfl⟩
  · obtain ⟨k, o, D⟩ := canDo_out h
    obtain ⟨i, hi, hA, -⟩ := opOk_cases D.ok
    have hrl := D.regs
    obtain ⟨r, hr⟩ := at_some (show i < s.Regs.length by omega)
    have hp0 : (0 : Int) ≤ (k : Int) := by omega
    have hp1 : (k : Int) < l.length := by have := D.lt; omega
    have hi0 : (0 : Int) ≤ (i : Int) := by omega
    have hi1 : (i : Int) < s.Regs.length := by omega
    have hz : zAt s.Regs o.A = r := by rw [hA]; exact zAt_of hr
    have hW : wantOf l s = if asks o.Kind = true then ⟨o.Kind, if o.Kind = 1 then ⟨o.B, o.C, r.tmod 100⟩ else ⟨0, 0, 0⟩⟩ else ⟨0, ⟨0, 0, 0⟩⟩ := by
      simp only [wantOf, h, D.at_, hz, true_and]
    rw [hW]
    simp only [↓bk_bind, ↓bk_map, ↓bk_ite, ↓bk_some, ↓reduceIte, Nat.reduceEqDiff, Nat.reduceLT, Nat.reduceLeDiff, Nat.reduceAdd, Nat.reduceMul, reduceCtorEq, List.reduceReplicate, go_sem, D.pc, bk_eq D.op, hp0, hp1]
    apply callK_of (c_impl_Asks o.Kind)
    simp only [↓bk_bind, ↓bk_map, ↓bk_ite, ↓bk_some, ↓reduceIte, Nat.reduceEqDiff, Nat.reduceLT, Nat.reduceLeDiff, Nat.reduceAdd, Nat.reduceMul, reduceCtorEq, List.reduceReplicate, go_sem, D.pc, bk_eq D.op, hp0, hp1]
    refine And.intro ?_ ?_ <;> intro h2
    · rw [if_neg (by simp [h2])]
      try exact ⟨rfl, rfl, rfl, rfl⟩
    · rw [if_pos h2]
      refine And.intro ?_ ?_ <;> intro h3
      · simp only [↓bk_bind, ↓bk_map, ↓bk_ite, ↓bk_some, ↓reduceIte, Nat.reduceEqDiff, Nat.reduceLT, Nat.reduceLeDiff, Nat.reduceAdd, Nat.reduceMul, reduceCtorEq, List.reduceReplicate, go_sem, hA, bk_eq hr, hi0, hi1, h3, c100]
      · rw [if_neg h3]
        try exact ⟨rfl, rfl, rfl, rfl⟩
def m_spec_WantOf : MC :=
(.seq (pr [.box 3 0 (.s 1), .alloc 4 1 [.pl (.sc (.int .i64 0)), .pl (.sc (.int .i64 0)), .pl (.sc (.int .i64 0)), .pl (.sc (.int .i64 0))]] [0,3,4])
(.seq (.seq (.reg [{ o := .mv 7 (.s 0) }, { o := .load 8 true 4 (.s 3) }, { o := .call 9 [] (.f n_spec_l11Can) [.s 7, .s 8] }, { o := .un 10 .not (.s 9) }, { o := .mv 11 (.s 10) }, { o := .mv 12 (.s 0), g := some (11, false) }, { o := .fld 13 (.s 3) 0, g := some (11, false) }, { o := .load 14 false 1 (.s 13), g := some (11, false) }, { o := .idx 15 4 (.s 12) (.s 14), g := some (11, false) }, { o := .fld 16 (.s 15) 0, g := some (11, false) }, { o := .load 17 false 1 (.s 16), g := some (11, false) }, { o := .call 18 [] (.f n_spec_Asks) [.s 17], g := some (11, false) }, { o := .un 19 .not (.s 18), g := some (11, false) }, { o := .pick 20 (.s 11) (.c (.bool true)) (.s 19) }] [0,3,4,20])
(.cond (.s 20) (.seq (pr [.build 21 [.pl (.sc (.int .i64 0)), .pl (.sc (.int .i64 0)), .pl (.sc (.int .i64 0)), .pl (.sc (.int .i64 0))] [], .store 4 (.s 4) (.s 21)] [4])
.ret) .skip))
(.seq (pr [.mv 22 (.s 0), .fld 23 (.s 3) 0, .load 24 false 1 (.s 23), .idx 25 4 (.s 22) (.s 24), .load 26 true 4 (.s 25), .alloc 5 2 [.pl (.sc (.int .i64 0)), .pl (.sc (.int .i64 0)), .pl (.sc (.int .i64 0)), .pl (.sc (.int .i64 0))], .store 4 (.s 5) (.s 26)] [3,4,5])
(.seq (pr [.fld 27 (.s 5) 0, .load 28 false 1 (.s 27), .build 29 [.pl (.sc (.int .i64 0)), .pl (.sc (.int .i64 0)), .pl (.sc (.int .i64 0)), .pl (.sc (.int .i64 0))] [(0, 1, .s 28)], .alloc 6 3 [.pl (.sc (.int .i64 0)), .pl (.sc (.int .i64 0)), .pl (.sc (.int .i64 0)), .pl (.sc (.int .i64 0))], .store 4 (.s 6) (.s 29)] [3,4,5,6])
(.seq (.seq (pr [.fld 30 (.s 5) 0, .load 31 false 1 (.s 30), .bin 32 false .eql (.s 31) (.c (.int .i64 1))] [3,4,5,6,32])
(.cond (.s 32) (.dreg [{ o := .fld 33 (.s 5) 2, hs := [35,36,37,38,39,40,41,42,43] }, { o := .load 34 false 1 (.s 33), hs := [35,36,37,38,39,40,41,42,43], bf := [0] }, { o := .fld 35 (.s 5) 3, hs := [33,34,37,38,39,40,41,42,43] }, { o := .load 36 false 1 (.s 35), hs := [33,34,37,38,39,40,41,42,43], bf := [2] }, { o := .fld 37 (.s 3) 1, hs := [33,34,35,36,39,40] }, { o := .load 38 false 1 (.s 37), hs := [33,34,35,36,39,40], bf := [4] }, { o := .fld 39 (.s 5) 1, hs := [33,34,35,36,37,38] }, { o := .load 40 false 1 (.s 39), hs := [33,34,35,36,37,38], bf := [6] }, { o := .idx 41 1 (.s 38) (.s 40), hs := [33,34,35,36], bf := [4,5,6,7] }, { o := .load 42 false 1 (.s 41), hs := [33,34,35,36], bf := [4,5,6,7,8] }, { o := .bin 43 false .rem (.s 42) (.c (.int .i64 100)), hs := [33,34,35,36], bf := [4,5,6,7,8,9] }, { o := .build 44 [.pl (.sc (.int .i64 0)), .pl (.sc (.int .i64 0)), .pl (.sc (.int .i64 0))] [(0, 1, .s 34), (1, 1, .s 36), (2, 1, .s 43)], bf := [0,1,2,3,4,5,6,7,8,9,10] }, { o := .fld 45 (.s 6) 1, bf := [0,1,2,3,4,5,6,7,8,9,10,11] }, { o := .store 3 (.s 45) (.s 44), ws := [3], bf := [0,1,2,3,4,5,6,7,8,9,10,11,12] }] [4,6]) .skip))
(.seq (pr [.load 46 true 4 (.s 6), .store 4 (.s 4) (.s 46)] [4])
.ret))))))
theorem c_spec_WantOf (l : List GOp) (s : GState) : Ctr Tryz.prog n_spec_WantOf [aL 4 (l.map GOp.enc), aS s.enc] [rS (wantOf l s).enc] := by
  refine ctr_at (M := m_spec_WantOf) (m := 4) (n := 47) (res := [(.cell 4 true 4, [false, false, false, false])]) hmix Tryz.func230 rfl (by kernel_rfl) rfl (by kernel_rfl) (by kernel_rfl) (Nat.le_of_ble_eq_true rfl) ?_; unfold m_spec_WantOf
  intro hb
  clear hb
  simp only [↓bk_bind, ↓bk_map, ↓bk_ite, ↓bk_some, ↓reduceIte, Nat.reduceEqDiff, Nat.reduceLT, Nat.reduceLeDiff, Nat.reduceAdd, Nat.reduceMul, reduceCtorEq, List.reduceReplicate, go_sem]
  apply callK_of (c_spec_l11Can l s)
  simp only [↓bk_bind, ↓bk_map, ↓bk_ite, ↓bk_some, ↓reduceIte, Nat.reduceEqDiff, Nat.reduceLT, Nat.reduceLeDiff, Nat.reduceAdd, Nat.reduceMul, reduceCtorEq, List.reduceReplicate, go_sem]
  refine And.intro ?_ ?_ <;> intro h
  · rw [wantOf, if_neg (by simp [h])]
    try exact ⟨rfl, rfl, rfl, rfl⟩
  · obtain ⟨k, o, D⟩ := canDo_out h
    obtain ⟨i, hi, hA, -⟩ := opOk_cases D.ok
    have hrl := D.regs
    obtain ⟨r, hr⟩ := at_some (show i < s.Regs.length by omega)
    have hp0 : (0 : Int) ≤ (k : Int) := by omega
    have hp1 : (k : Int) < l.length := by have := D.lt; omega
    have hi0 : (0 : Int) ≤ (i : Int) := by omega
    have hi1 : (i : Int) < s.Regs.length := by omega
    have hz : zAt s.Regs o.A = r := by rw [hA]; exact zAt_of hr
    have hW : wantOf l s = if asks o.Kind = true then ⟨o.Kind, if o.Kind = 1 then ⟨o.B, o.C, r.tmod 100⟩ else ⟨0, 0, 0⟩⟩ else ⟨0, ⟨0, 0, 0⟩⟩ := by
      simp only [wantOf, h, D.at_, hz, true_and]
    rw [hW]
    simp only [↓bk_bind, ↓bk_map, ↓bk_ite, ↓bk_some, ↓reduceIte, Nat.reduceEqDiff, Nat.reduceLT, Nat.reduceLeDiff, Nat.reduceAdd, Nat.reduceMul, reduceCtorEq, List.reduceReplicate, go_sem, D.pc, bk_eq D.op, hp0, hp1]
    apply callK_of (c_spec_Asks o.Kind)
    simp only [↓bk_bind, ↓bk_map, ↓bk_ite, ↓bk_some, ↓reduceIte, Nat.reduceEqDiff, Nat.reduceLT, Nat.reduceLeDiff, Nat.reduceAdd, Nat.reduceMul, reduceCtorEq, List.reduceReplicate, go_sem, D.pc, bk_eq D.op, hp0, hp1]
    refine And.intro ?_ ?_ <;> intro h2
    · rw [if_neg (by simp [h2])]
      try exact ⟨rfl, rfl, rfl, rfl⟩
    · rw [if_pos h2]
      refine And.intro ?_ ?_ <;> intro h3
      · simp only [↓bk_bind, ↓bk_map, ↓bk_ite, ↓bk_some, ↓reduceIte, Nat.reduceEqDiff, Nat.reduceLT, Nat.reduceLeDiff, Nat.reduceAdd, Nat.reduceMul, reduceCtorEq, List.reduceReplicate, go_sem, hA, bk_eq hr, hi0, hi1, h3, c100]
      · rw [if_neg h3]
        try exact ⟨rfl, rfl, rfl, rfl⟩
end Go.Proofs.YtbnbgekjjbpljaaGreatR
