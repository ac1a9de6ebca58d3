/- What the functions compute that the laws of StepVisit reach: contracts. Conditions stand in each theorem. -/
import Derived.Test.YtpclnmleldeleaaGreatProg
import Derived.KernelRfl
import Derived.Test.YtpclnmleldeleaaGreatTStepVisitb
namespace Go.Proofs.YtpclnmleldeleaaGreatR
open Go Go.RowKit Go.Proofs
open Nat (reduceEqDiff reduceLT reduceLeDiff reduceAdd reduceMul)
open List (reduceReplicate)
set_option linter.unusedSimpArgs false
set_option linter.unusedVariables false
abbrev fI (f : FuncId) : RV := ⟨false, [(false, .fn f [])]⟩
attribute [go_sem] fI
def two (A : List (List T)) (e : List T) (B : List (List T)) (e' : List T) (C : List (List T)) : List (List T) := A ++ e :: (B ++ e' :: C)
theorem two_at {A B C : List (List T)} {p q : Nat} (hp : A.length = p) (hq : p + 1 + B.length = q) :
  (∀ e e', (two A e B e' C)[p]? = some e) ∧ (∀ e e', (two A e B e' C)[q]? = some e') ∧
  (∀ e e' u, (two A e B e' C).set p u = two A u B e' C) ∧ (∀ e e' u, (two A e B e' C).set q u = two A e B u C) ∧
  (∀ e e', (two A e B e' C).length = A.length + B.length + C.length + 2) ∧
  (∀ e e', (two A e B e' C).getD p [] = e) ∧ (∀ e e', (two A e B e' C).getD q [] = e') := by
 subst hp hq
 have h1 : ∀ e e', (two A e B e' C)[A.length]? = some e := fun e e' => by simp [two]
 have h2 : ∀ e e', (two A e B e' C)[A.length + 1 + B.length]? = some e' := fun e e' => by
  unfold two
  rw [List.getElem?_append_right (by omega), show A.length + 1 + B.length - A.length = B.length + 1 by omega, List.getElem?_cons_succ, List.getElem?_append_right (by omega), Nat.sub_self]
  rfl
 refine ⟨h1, h2, fun e e' u => by simp [two], fun e e' u => ?_, fun e e' => by simp [two]; omega, fun e e' => by rw [List.getD_eq_getElem?_getD, h1]; rfl, fun e e' => by rw [List.getD_eq_getElem?_getD, h2]; rfl⟩
 unfold two
 rw [List.set_append_right _ _ (by omega), show A.length + 1 + B.length - A.length = B.length + 1 by omega, List.set_cons_succ, List.set_append_right _ _ (by omega), Nat.sub_self]
 rfl
def swp {α : Type} (P X M Y Q : List α) (i : Nat) : List α := (P ++ Y.take i) ++ (X.drop i ++ M ++ X.take i) ++ (Y.drop i ++ Q)
theorem swp_len {α : Type} {P X M Y Q : List α} {i : Nat} (h : X.length = Y.length) : (swp P X M Y Q i).length = (P ++ X ++ M ++ Y ++ Q).length := by
 simp [swp, List.length_take, List.length_drop]; omega
theorem swp_two {α : Type} {P X M Y Q : List α} {i : Nat} {x y : α} {f : α → List T} (hx : X[i]? = some x) (hy : Y[i]? = some y) :
  (swp P X M Y Q i).map f = two ((P ++ Y.take i).map f) (f x) ((X.drop (i + 1) ++ M ++ X.take i).map f) (f y) ((Y.drop (i + 1) ++ Q).map f) ∧
  (swp P X M Y Q (i + 1)).map f = two ((P ++ Y.take i).map f) (f y) ((X.drop (i + 1) ++ M ++ X.take i).map f) (f x) ((Y.drop (i + 1) ++ Q).map f) := by
 constructor
 ·simp [swp, two, drop_cons hx, drop_cons hy]
 ·simp [swp, two, take_snoc hx, take_snoc hy]
theorem wN {a b : Nat} (h : a + b ≤ 9223372036854775807) : IntKind.i64.wrap ((a : Int) + (b : Int)) = ((a + b : Nat) : Int) := by
 rw [wI (by omega) (by omega)]; omega
theorem wN1 {a : Nat} (h : a + 1 ≤ 9223372036854775807) : IntKind.i64.wrap ((a : Int) + 1) = ((a + 1 : Nat) : Int) := by
 rw [wI (by omega) (by omega)]; omega
theorem wS {a b : Nat} (h : b ≤ a) (h2 : a ≤ 9223372036854775807) : IntKind.i64.wrap ((a : Int) - (b : Int)) = ((a - b : Nat) : Int) := by
 rw [wI (by omega) (by omega)]; omega
theorem wS1 {a : Nat} (h : 1 ≤ a) (h2 : a ≤ 9223372036854775807) : IntKind.i64.wrap ((a : Int) - 1) = ((a - 1 : Nat) : Int) := by
 rw [wI (by omega) (by omega)]; omega
def m_slices_swapRangeCmpFunc_impl_Found : MC :=
(.seq (pr [.mv 10 (ci 0)] [0,1,2,3,10])
(.block 0 (.loop ([0,1,2,3,10], []) (.seq (.seq (pr [.mv 11 (.s 10), .mv 12 (.s 3), .bin 13 false .lss (.s 11) (.s 12)] [0,1,2,3,10,13])
(.cond (.s 13) .skip (.exit 0)))
(.seq (.block 1 (.dreg [Zc [17,18,19,20,21,22,23,24,25,26,27,28,29,30,31,32,33,34,35] (.mv 16 (.s 0)), Zc [16,18,20,21,22,23,24,25,26,27,28,29,30,31,32,33,34,35] (.mv 17 (.s 1)), Zc [16,17,20,21,22,23,24,25,26,27,28,29,30,31,32,33,34,35] (.mv 18 (.s 10)), Zd [16,20,21,22,23,24,25,26,27,28,29,30,31,32,33,34,35] [1,2] (.bin 19 false .add (.s 17) (.s 18)), Zf [16,17,18,19,21,22,23,24,25,26,27,28,29,30,31,32,33,34,35,36] [0] (.mv 20 (.s 0)), Zf [16,17,18,19,20,22,24,25,26,27,28,29,30,31,32,33,34,35,36] [0] (.mv 21 (.s 2)), Zf [16,17,18,19,20,21,24,25,26,27,28,29,30,31,32,33,34,35,36] [0] (.mv 22 (.s 10)), Zg [16,17,18,19,20,24,25,26,27,28,29,30,31,32,33,34,35,36] [0] [5,6] (.bin 23 false .add (.s 21) (.s 22)), Zc [16,17,18,19,20,21,22,23,25,26,27,30,31,32,33,34,35] (.mv 24 (.s 0)), Zc [16,17,18,19,20,21,22,23,24,26,30,31,32,33,34,35] (.mv 25 (.s 2)), Zc [16,17,18,19,20,21,22,23,24,25,30,31,32,33,34,35] (.mv 26 (.s 10)), Zd [16,17,18,19,20,21,22,23,24,30,31,32,33,34,35] [9,10] (.bin 27 false .add (.s 25) (.s 26)), Zd [16,17,18,19,20,21,22,23,30,31,32,33,34,35] [8,9,10,11] (.idx 28 6 (.s 24) (.s 27)), Zd [16,17,18,19,20,21,22,23,30,31,32,33,34,35] [8,9,10,11,12] (.load 29 true 6 (.s 28)), Zc [16,17,18,19,20,21,22,23,24,25,26,27,28,29,31,32,33] (.mv 30 (.s 0)), Zc [16,17,18,19,20,21,22,23,24,25,26,27,28,29,30,32] (.mv 31 (.s 1)), Zc [16,17,18,19,20,21,22,23,24,25,26,27,28,29,30,31] (.mv 32 (.s 10)), Zd [16,17,18,19,20,21,22,23,24,25,26,27,28,29,30] [15,16] (.bin 33 false .add (.s 31) (.s 32)), Zd [16,17,18,19,20,21,22,23,24,25,26,27,28,29] [14,15,16,17] (.idx 34 6 (.s 30) (.s 33)), Zd [16,17,18,19,20,21,22,23,24,25,26,27,28,29] [14,15,16,17,18] (.load 35 true 6 (.s 34)), Zd [20,21,22,23] [0,1,2,3,8,9,10,11,12,13,14,15,16,17,18,19] (.idx 36 6 (.s 16) (.s 19)), { o := .store 6 (.s 36) (.s 29), hs := [20,21,22,23], ws := [0], bf := [0,1,2,3,8,9,10,11,12,13,14,15,16,17,18,19,20] }, Ze (.range 22) (.idx 37 6 (.s 20) (.s 23)), { o := .store 6 (.s 37) (.s 35), ws := [0], bf := (.range 23) }] [0,1,2,3,10]))
(pr [.mv 14 (.s 10), .bin 15 false .add (.s 14) (ci 1), .mv 10 (.s 15)] [0,1,2,3,10]))))))
theorem c_slices_swapRangeCmpFunc (P X M Y Q : List GFound) (f : FuncId) {a b n : Nat} (ha : P.length = a) (hb : (P ++ X ++ M).length = b) (hX : X.length = n) (hY : Y.length = n) : CtrI Tryz.prog n_slices_swapRangeCmpFunc_impl_Found [oL 6 ((P ++ X ++ M ++ Y ++ Q).map GFound.enc), iI a, iI b, iI n, fI f] [some (6, (P ++ Y ++ M ++ X ++ Q).map GFound.enc)] [] := by
 have hL0 : (P ++ X ++ M ++ Y ++ Q).length = b + n + Q.length := by rw [List.length_append, List.length_append, hb, hY]
 have hL1 : (P ++ Y ++ M ++ X ++ Q).length = (P ++ X ++ M ++ Y ++ Q).length := by simp; omega
 have hb' : b = a + n + M.length := by rw [← hb]; simp; omega
 have hsw0 : swp P X M Y Q 0 = P ++ X ++ M ++ Y ++ Q := by simp [swp]
 have hswn : swp P X M Y Q n = P ++ Y ++ M ++ X ++ Q := by simp [swp, ← hX, List.take_of_length_le (show Y.length ≤ X.length by omega), List.drop_of_length_le (show Y.length ≤ X.length by omega)]
 refine ctrI_at (M := m_slices_swapRangeCmpFunc_impl_Found) (m := 0) (n := 38) (res := []) hmix Tryz.func315 rfl (by kernel_rfl) rfl (by kernel_rfl) (by kernel_rfl) (Nat.le_of_ble_eq_true rfl) rfl rfl ?_; unfold m_slices_swapRangeCmpFunc_impl_Found
 intro hbd
 have hl := len_of_bd hbd
 clear hbd
 simp only [roomB] at hl
 rw [← hsw0, ← hswn]
 rw [← hsw0, ← hswn] at hL1
 rw [← hsw0] at hl hL0
 subst hX
 generalize hN : (swp P X M Y Q 0).length = N at *
 simp only [↓reduceIte, reduceEqDiff, reduceLT, reduceAdd, reduceCtorEq, go_sem, hN]
 refine loopK_rng X (fun i => [(10, vI i)]) (fun i => [(0, ⟨1, .row true 6 ((swp P X M Y Q i).map GFound.enc)⟩)]) (fun _ => True) (by simp only [roomB]; omega) ?_
 simp only [↓reduceIte, reduceEqDiff, reduceCtorEq, go_sem]
 refine ⟨?_, trivial, ?_, ?_⟩
 ·simp only [↓reduceIte, reduceEqDiff, reduceLT, reduceCtorEq, go_sem]
 ·intro i x hx _ h0 h1 hw
  have hi := len_at hx
  obtain ⟨y, hy⟩ := at_some (show i < Y.length by omega)
  obtain ⟨e1, e2⟩ := swp_two (P := P) (M := M) (Q := Q) (f := GFound.enc) hx hy
  have hlen := swp_len (P := P) (X := X) (M := M) (Y := Y) (Q := Q) (i := i) hY.symm
  rw [e1, e2]
  generalize hAe : (P ++ Y.take i).map GFound.enc = A at e1 e2
  generalize hBe : (X.drop (i + 1) ++ M ++ X.take i).map GFound.enc = B at e1 e2
  generalize hCe : (Y.drop (i + 1) ++ Q).map GFound.enc = C at e1 e2
  have hA : A.length = a + i := by subst hAe; simp; omega
  have hB : (a + i) + 1 + B.length = b + i := by subst hBe; simp; omega
  have hC : C.length = Y.length - (i + 1) + Q.length := by subst hCe; simp
  obtain ⟨g1, g2, s1, s2, hL, d1, d2⟩ := two_at (C := C) hA hB
  have hL' : ∀ e e', (two A e B e' C).length = N := fun e e' => by rw [hL]; omega
  have k1 : (0 : Int) ≤ ((a + i : Nat) : Int) := by omega
  have k2 : ((a + i : Nat) : Int) < (N : Int) := by omega
  have k3 : (0 : Int) ≤ ((b + i : Nat) : Int) := by omega
  have k4 : ((b + i : Nat) : Int) < (N : Int) := by omega
  have k5 : ¬ b + i = a + i := by omega
  simp only [↓reduceIte, reduceEqDiff, reduceLT, reduceAdd, reduceCtorEq, go_sem, g1, g2, s1, s2, hL', hw, h1, wN (a := a) (b := i) (by omega), wN (a := b) (b := i) (by omega), k1, k2, k3, k4]
 ·intro _
  simp only [↓reduceIte, reduceEqDiff, reduceLT, reduceCtorEq, go_sem]
def RotI (P X Y Q : List GFound) (m : Nat) (d : List GFound) (i j : Nat) : Prop :=
 ∃ C X' Y' D, d = P ++ C ++ X' ++ Y' ++ D ++ Q ∧ X'.length = i ∧ Y'.length = j ∧ P.length + C.length + i = m ∧ C ++ Y' ++ X' ++ D = Y ++ X ∧ 0 < i ∧ 0 < j
theorem RotI.gt {P X Y Q : List GFound} {m : Nat} {d : List GFound} {i j : Nat} (h : RotI P X Y Q m d i j) (hij : j < i) :
  ∃ P' X1 M Y' Q', d = P' ++ X1 ++ M ++ Y' ++ Q' ∧ P'.length = m - i ∧ (P' ++ X1 ++ M).length = m ∧ X1.length = j ∧ Y'.length = j ∧ RotI P X Y Q m (P' ++ Y' ++ M ++ X1 ++ Q') (i - j) j := by
 obtain ⟨C, X', Y', D, rfl, rfl, rfl, h3, h4, h5, h6⟩ := h
 obtain ⟨X1, X2, rfl, hX1⟩ : ∃ X1 X2, X' = X1 ++ X2 ∧ X1.length = Y'.length := ⟨X'.take Y'.length, X'.drop Y'.length, (List.take_append_drop _ _).symm, by simp; omega⟩
 simp only [List.length_append] at *
 exact ⟨P ++ C, X1, X2, Y', D ++ Q, by simp, by simp; omega, by simp; omega, hX1, rfl, C ++ Y', X2, X1, D, by simp, by omega, by omega, by simp; omega, by rw [← h4]; simp, by omega, by omega⟩
theorem RotI.le {P X Y Q : List GFound} {m : Nat} {d : List GFound} {i j : Nat} (h : RotI P X Y Q m d i j) (hij : i < j) :
  ∃ P' X' M Y2 Q', d = P' ++ X' ++ M ++ Y2 ++ Q' ∧ P'.length = m - i ∧ (P' ++ X' ++ M).length = m + j - i ∧ X'.length = i ∧ Y2.length = i ∧ RotI P X Y Q m (P' ++ Y2 ++ M ++ X' ++ Q') i (j - i) := by
 obtain ⟨C, X', Y', D, rfl, rfl, rfl, h3, h4, h5, h6⟩ := h
 obtain ⟨Y1, Y2, rfl, hY2⟩ : ∃ Y1 Y2, Y' = Y1 ++ Y2 ∧ Y2.length = X'.length := ⟨Y'.take (Y'.length - X'.length), Y'.drop (Y'.length - X'.length), (List.take_append_drop _ _).symm, by simp; omega⟩
 simp only [List.length_append] at *
 exact ⟨P ++ C, X', Y1, Y2, D ++ Q, by simp, by simp; omega, by simp; omega, rfl, hY2, C, Y2, Y1, X' ++ D, by simp, by omega, by omega, by omega, by rw [← h4]; simp, by omega, by omega⟩
theorem RotI.eq {P X Y Q : List GFound} {m : Nat} {d : List GFound} {i : Nat} (h : RotI P X Y Q m d i i) :
  ∃ P' X' Y' Q', d = P' ++ X' ++ [] ++ Y' ++ Q' ∧ P'.length = m - i ∧ (P' ++ X' ++ []).length = m ∧ X'.length = i ∧ Y'.length = i ∧ P' ++ Y' ++ [] ++ X' ++ Q' = P ++ Y ++ X ++ Q := by
 obtain ⟨C, X', Y', D, rfl, rfl, h2, h3, h4, h5, h6⟩ := h
 refine ⟨P ++ C, X', Y', D ++ Q, by simp, by simp; omega, by simp; omega, rfl, h2, ?_⟩
 have := congrArg (fun l => P ++ (l ++ Q)) h4
 simpa using this
theorem RotI.len {P X Y Q : List GFound} {m : Nat} {d : List GFound} {i j : Nat} (h : RotI P X Y Q m d i j) : d.length = (P ++ X ++ Y ++ Q).length ∧ i ≤ m ∧ m + j ≤ d.length ∧ 0 < i ∧ 0 < j := by
 obtain ⟨C, X', Y', D, rfl, rfl, rfl, h3, h4, h5, h6⟩ := h
 have := congrArg List.length h4
 simp at this ⊢
 omega
theorem RotI.start {P X Y Q : List GFound} {m i j : Nat} (hm : P.length + X.length = m) (hi : X.length = i) (hj : Y.length = j) (hX : 0 < X.length) (hY : 0 < Y.length) : RotI P X Y Q m (P ++ X ++ Y ++ Q) i j :=
 ⟨[], X, Y, [], by simp, hi, hj, by simp; omega, by simp, by omega, by omega⟩
def m_slices_rotateCmpFunc_impl_Found : MC :=
(.seq (pr [.mv 12 (.s 2), .mv 13 (.s 1), .bin 14 false .sub (.s 12) (.s 13), .mv 10 (.s 14)] [0,2,3,4,10])
(.seq (pr [.mv 15 (.s 3), .mv 16 (.s 2), .bin 17 false .sub (.s 15) (.s 16), .mv 11 (.s 17)] [0,2,4,10,11])
(.seq (.block 0 (.loop ([0,2,4,10,11], []) (.seq (.seq (pr [.mv 18 (.s 10), .mv 19 (.s 11), .bin 20 false .neq (.s 18) (.s 19)] [0,2,4,10,11,20])
(.cond (.s 20) .skip (.exit 0)))
(.block 1 (.seq (pr [.mv 21 (.s 10), .mv 22 (.s 11), .bin 23 false .gtr (.s 21) (.s 22)] [0,2,4,10,11,23])
(.cond (.s 23) (.seq (pr [.mv 24 (.s 0), .mv 25 (.s 2), .mv 26 (.s 10), .bin 27 false .sub (.s 25) (.s 26), .mv 28 (.s 2), .mv 29 (.s 11), .mv 30 (.s 4), .callI 31 [] (.f n_slices_swapRangeCmpFunc_impl_Found) [.s 24, .s 27, .s 28, .s 29, .s 30] [0] []] [0,2,4,10,11])
(pr [.mv 32 (.s 10), .mv 33 (.s 11), .bin 34 false .sub (.s 32) (.s 33), .mv 10 (.s 34)] [0,2,4,10,11])) (.seq (pr [.mv 35 (.s 0), .mv 36 (.s 2), .mv 37 (.s 10), .bin 38 false .sub (.s 36) (.s 37), .mv 39 (.s 2), .mv 40 (.s 11), .bin 41 false .add (.s 39) (.s 40), .mv 42 (.s 10), .bin 43 false .sub (.s 41) (.s 42), .mv 44 (.s 10), .mv 45 (.s 4), .callI 46 [] (.f n_slices_swapRangeCmpFunc_impl_Found) [.s 35, .s 38, .s 43, .s 44, .s 45] [0] []] [0,2,4,10,11])
(pr [.mv 47 (.s 11), .mv 48 (.s 10), .bin 49 false .sub (.s 47) (.s 48), .mv 11 (.s 49)] [0,2,4,10,11]))))))))
(pr [.mv 50 (.s 0), .mv 51 (.s 2), .mv 52 (.s 10), .bin 53 false .sub (.s 51) (.s 52), .mv 54 (.s 2), .mv 55 (.s 10), .mv 56 (.s 4), .callI 57 [] (.f n_slices_swapRangeCmpFunc_impl_Found) [.s 50, .s 53, .s 54, .s 55, .s 56] [0] []] []))))
theorem c_slices_rotateCmpFunc (P X Y Q : List GFound) (f : FuncId) {a m b : Nat} (ha : P.length = a) (hm : (P ++ X).length = m) (hb : (P ++ X ++ Y).length = b) (hX : 0 < X.length) (hY : 0 < Y.length) : CtrI Tryz.prog n_slices_rotateCmpFunc_impl_Found [oL 6 ((P ++ X ++ Y ++ Q).map GFound.enc), iI a, iI m, iI b, fI f] [some (6, (P ++ Y ++ X ++ Q).map GFound.enc)] [] := by
 refine ctrI_at (M := m_slices_rotateCmpFunc_impl_Found) (m := 0) (n := 58) (res := []) hmix Tryz.func306 rfl (by kernel_rfl) rfl (by kernel_rfl) (by kernel_rfl) (Nat.le_of_ble_eq_true rfl) rfl rfl ?_; unfold m_slices_rotateCmpFunc_impl_Found
 intro hbd
 have hl := len_of_bd hbd
 clear hbd
 have hN2 : (P ++ Y ++ X ++ Q).length = (P ++ X ++ Y ++ Q).length := by simp; omega
 have hm' : m = a + X.length := by rw [← hm, ← ha]; simp
 have hb' : b = m + Y.length := by rw [← hb, ← hm]; simp; omega
 have hbN : b ≤ (P ++ X ++ Y ++ Q).length := by rw [List.length_append, hb]; omega
 generalize hN : (P ++ X ++ Y ++ Q).length = N at *
 simp only [roomB] at hl
 simp only [↓reduceIte, reduceEqDiff, reduceLT, reduceAdd, reduceCtorEq, go_sem, hN, wS (a := m) (b := a) (by omega) (by omega), wS (a := b) (b := m) (by omega) (by omega)]
 refine loopK_up (ι := List GFound × Nat × Nat) (fun s => [(10, vI s.2.1), (11, vI s.2.2)]) (fun s => [(0, ⟨1, .row true 6 (s.1.map GFound.enc)⟩)]) (fun s => RotI P X Y Q m s.1 s.2.1 s.2.2) (fun s => s.2.1 + s.2.2) (P ++ X ++ Y ++ Q, m - a, b - m) ?_
 simp only [↓reduceIte, reduceEqDiff, reduceCtorEq, go_sem]
 refine ⟨?_, RotI.start (by omega) (show X.length = m - a by omega) (show Y.length = b - m by omega) hX hY, ?_⟩
 ·simp only [↓reduceIte, reduceEqDiff, reduceLT, reduceCtorEq, go_sem]
 ·rintro ⟨d, i, j⟩ hI
  simp only at hI
  obtain ⟨hd, h1, h2, h3, h4⟩ := hI.len
  rw [hN] at hd
  simp only [↓reduceIte, reduceEqDiff, reduceLT, reduceCtorEq, go_sem, hd]
  refine ⟨fun hne => ⟨fun hgt => ?_, fun hle => ?_⟩, fun heq => ?_⟩
  ·obtain ⟨P', X1, M, Y', Q', rfl, k1, k2, k3, k4, hR⟩ := hI.gt (by omega)
   have hd2 := hR.len.1
   rw [hN] at hd2
   rw [wS h1 (by omega)]
   apply callIK_of (c_slices_swapRangeCmpFunc P' X1 M Y' Q' f k1 k2 k3 k4)
   simp only [↓reduceIte, reduceEqDiff, reduceLT, reduceCtorEq, go_sem, wS (a := i) (b := j) (by omega) (by omega)]
   exact ⟨(_, i - j, j), ⟨⟨rfl, rfl⟩, rfl⟩, hR, by show i - j + j < i + j; omega⟩
  ·obtain ⟨P', X1, M, Y', Q', rfl, k1, k2, k3, k4, hR⟩ := hI.le (by omega)
   have hd2 := hR.len.1
   rw [hN] at hd2
   rw [wS h1 (by omega), wN (by omega), wS (a := m + j) (b := i) (by omega) (by omega)]
   apply callIK_of (c_slices_swapRangeCmpFunc P' X1 M Y' Q' f k1 k2 k3 k4)
   simp only [↓reduceIte, reduceEqDiff, reduceLT, reduceCtorEq, go_sem, wS (a := j) (b := i) (by omega) (by omega)]
   exact ⟨(_, i, j - i), ⟨⟨rfl, rfl⟩, rfl⟩, hR, by show i + (j - i) < i + j; omega⟩
  ·obtain rfl : i = j := by omega
   obtain ⟨P', X1, Y', Q', rfl, k1, k2, k3, k4, hR⟩ := hI.eq
   rw [wS h1 (by omega)]
   apply callIK_of (c_slices_swapRangeCmpFunc P' X1 [] Y' Q' f k1 k2 k3 k4)
   rw [hR]
   simp only [↓reduceIte, reduceCtorEq, go_sem]
def ltc (c : GFound → GFound → Int) (x y : GFound) : Bool := decide (c x y < 0)
def InsI (lt : GFound → GFound → Bool) (P S R : List GFound) (x : GFound) (d : List GFound) (j : Nat) : Prop :=
 ∃ s1 s2, d = P ++ s1 ++ x :: s2 ++ R ∧ P.length + s1.length = j ∧ s1 ++ s2 = S ∧ ∀ y ∈ s2, lt x y = true
theorem InsI.len {lt : GFound → GFound → Bool} {P S R : List GFound} {x : GFound} {d : List GFound} {j : Nat} (h : InsI lt P S R x d j) : d.length = P.length + S.length + 1 + R.length ∧ P.length ≤ j ∧ j ≤ P.length + S.length := by
 obtain ⟨s1, s2, rfl, rfl, rfl, h⟩ := h
 simp; omega
theorem InsI.done {lt : GFound → GFound → Bool} (hw : Srt.Swo lt) {P S R : List GFound} {x : GFound} {d : List GFound} {j : Nat} (h : InsI lt P S R x d j) (hs : Srt.srt lt S) (hj : j = P.length ∨ ∀ z ∈ d[j - 1]?, lt x z = false) : d = P ++ Srt.ins lt x S ++ R := by
 obtain ⟨s1, s2, rfl, rfl, rfl, h⟩ := h
 rw [Srt.ins_mid]
 ·simp
 ·intro y hy
  rcases List.eq_nil_or_concat s1 with rfl | ⟨s, z, rfl⟩
  ·simp at hy
  ·rcases hj with hj | hj
   ·simp at hj
   ·rw [List.concat_eq_append] at *
    have hz : lt x z = false := hj z (by simp [])
    rcases List.mem_append.1 hy with k | k
    ·have := (Srt.srt_append.1 (Srt.srt_append.1 hs).1).2.2 y k z (by simp)
     exact hw.ntr hz this
    ·obtain rfl := List.mem_singleton.1 k
     exact hz
 ·intro y hy
  exact h y (List.mem_of_mem_head? hy)
theorem InsI.step {lt : GFound → GFound → Bool} {P S R : List GFound} {x : GFound} {d : List GFound} {j : Nat} (h : InsI lt P S R x d j) (hj : P.length < j) :
  ∃ A z C, d = A ++ z :: ([] ++ x :: C) ∧ A.length = j - 1 ∧ d[j - 1]? = some z ∧ (lt x z = true → InsI lt P S R x (A ++ x :: ([] ++ z :: C)) (j - 1)) := by
 obtain ⟨s1, s2, rfl, rfl, rfl, h⟩ := h
 rcases List.eq_nil_or_concat s1 with rfl | ⟨s, z, rfl⟩
 ·simp at hj
 ·rw [List.concat_eq_append] at *
  refine ⟨P ++ s, z, s2 ++ R, by simp, by simp, by simp [], fun hl => ⟨s, z :: s2, by simp, by simp, by simp, ?_⟩⟩
  intro y hy
  rcases List.mem_cons.1 hy with rfl | k
  ·exact hl
  ·exact h y k
def m_slices_insertionSortCmpFunc_impl_Found : MC :=
(.seq (pr [.mv 10 (.s 1), .bin 11 false .add (.s 10) (ci 1), .mv 8 (.s 11)] [0,1,2,3,8])
(.block 0 (.loop ([0,1,2,3,8], []) (.seq (.seq (pr [.mv 12 (.s 8), .mv 13 (.s 2), .bin 14 false .lss (.s 12) (.s 13)] [0,1,2,3,8,14])
(.cond (.s 14) .skip (.exit 0)))
(.seq (.block 1 (.seq (pr [.mv 17 (.s 8), .mv 9 (.s 17)] [0,1,2,3,8,9])
(.block 2 (.loop ([0,1,2,3,8,9], []) (.seq (.seq (.dreg [Zc [19] (.mv 18 (.s 9)), Zc [18] (.mv 19 (.s 1)), Ze [0,1] (.bin 20 false .gtr (.s 18) (.s 19)), Ze [0,1,2] (.mv 21 (.s 20)), { o := .mv 22 (.s 3), g := some (21, true), hs := [23,24,25,26,27,28,29,30,31], bf := (.range 4) }, { o := .mv 23 (.s 0), g := some (21, true), hs := [22,24,27,28,29,30,31], bf := (.range 4) }, { o := .mv 24 (.s 9), g := some (21, true), hs := [22,23,27,28,29,30,31], bf := (.range 4) }, { o := .idx 25 6 (.s 23) (.s 24), g := some (21, true), hs := [22,27,28,29,30,31], bf := [0,1,2,3,5,6] }, { o := .load 26 true 6 (.s 25), g := some (21, true), hs := [22,27,28,29,30,31], bf := [0,1,2,3,5,6,7] }, { o := .mv 27 (.s 0), g := some (21, true), hs := [22,23,24,25,26,28,29], bf := (.range 4) }, { o := .mv 28 (.s 9), g := some (21, true), hs := [22,23,24,25,26,27], bf := (.range 4) }, { o := .bin 29 false .sub (.s 28) (ci 1), g := some (21, true), hs := [22,23,24,25,26,27], bf := [0,1,2,3,10] }, { o := .idx 30 6 (.s 27) (.s 29), g := some (21, true), hs := [22,23,24,25,26], bf := [0,1,2,3,9,10,11] }, { o := .load 31 true 6 (.s 30), g := some (21, true), hs := [22,23,24,25,26], bf := [0,1,2,3,9,10,11,12] }, { o := .call 32 [] (.s 22) [.s 26, .s 31], g := some (21, true), bf := (.range 14) }, { o := .bin 33 false .lss (.s 32) (ci 0), g := some (21, true), bf := (.range 15) }, Ze (.range 16) (.pick 34 (.s 21) (.s 33) cF)] [0,1,2,3,8,9,34])
(.cond (.s 34) .skip (.exit 2)))
(.seq (.block 3 (.dreg [Zc [38,39,40,41,42,43,44,45,46,47,48,49,50] (.mv 37 (.s 0)), Zc [37,39,40,41,42,43,44,45,46,47,48,49,50] (.mv 38 (.s 9)), Zf [37,38,40,41,42,43,44,45,46,47,48,49,50,51] [0] (.mv 39 (.s 0)), Zf [37,38,39,42,43,44,45,46,47,48,49,50,51] [0] (.mv 40 (.s 9)), Zg [37,38,39,42,43,44,45,46,47,48,49,50,51] [0] [3] (.bin 41 false .sub (.s 40) (ci 1)), Zc [37,38,39,40,41,43,44,47,48,49,50] (.mv 42 (.s 0)), Zc [37,38,39,40,41,42,47,48,49,50] (.mv 43 (.s 9)), Zd [37,38,39,40,41,42,47,48,49,50] [6] (.bin 44 false .sub (.s 43) (ci 1)), Zd [37,38,39,40,41,47,48,49,50] [5,6,7] (.idx 45 6 (.s 42) (.s 44)), Zd [37,38,39,40,41,47,48,49,50] [5,6,7,8] (.load 46 true 6 (.s 45)), Zc [37,38,39,40,41,42,43,44,45,46,48] (.mv 47 (.s 0)), Zc [37,38,39,40,41,42,43,44,45,46,47] (.mv 48 (.s 9)), Zd [37,38,39,40,41,42,43,44,45,46] [10,11] (.idx 49 6 (.s 47) (.s 48)), Zd [37,38,39,40,41,42,43,44,45,46] [10,11,12] (.load 50 true 6 (.s 49)), Zd [39,40,41] [0,1,5,6,7,8,9,10,11,12,13] (.idx 51 6 (.s 37) (.s 38)), { o := .store 6 (.s 51) (.s 46), hs := [39,40,41], ws := [0], bf := [0,1,5,6,7,8,9,10,11,12,13,14] }, Ze (.range 16) (.idx 52 6 (.s 39) (.s 41)), { o := .store 6 (.s 52) (.s 50), ws := [0], bf := (.range 17) }] [0,1,2,3,8,9]))
(pr [.mv 35 (.s 9), .bin 36 false .sub (.s 35) (ci 1), .mv 9 (.s 36)] [0,1,2,3,8,9])))))))
(pr [.mv 15 (.s 8), .bin 16 false .add (.s 15) (ci 1), .mv 8 (.s 16)] [0,1,2,3,8]))))))
theorem c_slices_insertionSortCmpFunc (P X Q : List GFound) (f : FuncId) (c : GFound → GFound → Int) (hc : ∀ x y, Ctr Tryz.prog f [aS x.enc, aS y.enc] [rI (c x y)]) (hw : Srt.Swo (ltc c)) {a b : Nat} (ha : P.length = a) (hb : (P ++ X).length = b) : CtrI Tryz.prog n_slices_insertionSortCmpFunc_impl_Found [oL 6 ((P ++ X ++ Q).map GFound.enc), iI a, iI b, fI f] [some (6, (P ++ Srt.isort (ltc c) X ++ Q).map GFound.enc)] [] := by
 have hlk : ∀ k, (P ++ Srt.isort (ltc c) (X.take k) ++ (X.drop k ++ Q)).length = (P ++ X ++ Q).length := fun k => by simp [Srt.len_isort]; omega
 refine ctrI_at (M := m_slices_insertionSortCmpFunc_impl_Found) (m := 0) (n := 53) (res := []) hmix Tryz.func284 rfl (by kernel_rfl) rfl (by kernel_rfl) (by kernel_rfl) (Nat.le_of_ble_eq_true rfl) rfl rfl ?_; unfold m_slices_insertionSortCmpFunc_impl_Found
 intro hbd
 have hl := len_of_bd hbd
 clear hbd
 have hb' : b = a + X.length := by rw [← hb, ← ha]; simp
 have hbN : b ≤ (P ++ X ++ Q).length := by rw [List.length_append, hb]; omega
 generalize hN : (P ++ X ++ Q).length = N at *
 simp only [roomB] at hl
 simp only [↓reduceIte, reduceEqDiff, reduceLT, reduceAdd, reduceCtorEq, go_sem, hN, wN1 (a := a) (by omega)]
 refine loopK_up (fun k : Nat => [(8, vI ((a + k : Nat) : Int))]) (fun k => [(0, ⟨1, .row true 6 ((P ++ Srt.isort (ltc c) (X.take k) ++ (X.drop k ++ Q)).map GFound.enc)⟩)]) (fun k => 1 ≤ k ∧ (k ≤ X.length ∨ k = 1)) (fun k => X.length - k) 1 ?_
 simp only [↓reduceIte, reduceEqDiff, reduceCtorEq, go_sem]
 refine ⟨?_, ⟨by omega, by omega⟩, ?_⟩
 ·simp only [↓reduceIte, reduceEqDiff, reduceLT, reduceCtorEq, go_sem]
  cases X with
  | nil => simp [Srt.isort, Srt.mrg]
  | cons x X => simp [Srt.isort, Srt.mrg, Srt.ins]
 ·rintro k ⟨h1, h2⟩
  simp only [↓reduceIte, reduceEqDiff, reduceLT, reduceCtorEq, go_sem]
  refine ⟨fun hlt => ?_, fun hge => ?_⟩
  ·obtain ⟨x, hx⟩ := at_some (show k < X.length by omega)
   refine loopK_up (ι := List GFound × Nat) (fun s => [(9, vI s.2)]) (fun s => [(0, ⟨1, .row true 6 (s.1.map GFound.enc)⟩)]) (fun s => InsI (ltc c) P (Srt.isort (ltc c) (X.take k)) (X.drop (k + 1) ++ Q) x s.1 s.2) (fun s => s.2) (P ++ Srt.isort (ltc c) (X.take k) ++ (X.drop k ++ Q), a + k) ?_
   simp only [↓reduceIte, reduceEqDiff, reduceCtorEq, go_sem]
   refine ⟨?_, ⟨Srt.isort (ltc c) (X.take k), [], by simp [drop_cons hx], by simp [Srt.len_isort]; omega, by simp, by simp⟩, ?_⟩
   ·simp only [↓reduceIte, reduceEqDiff, reduceLT, reduceCtorEq, go_sem]
   ·rintro ⟨d, j⟩ hI
    simp only at hI
    obtain ⟨hd, h3, h4⟩ := hI.len
    have hdN : d.length = N := by
     have := hlk k
     simp [drop_cons hx] at this hd
     omega
    have hdone : (j = P.length ∨ ∀ z ∈ d[j - 1]?, ltc c x z = false) → d.map GFound.enc = (P ++ Srt.isort (ltc c) (X.take (k + 1)) ++ (X.drop (k + 1) ++ Q)).map GFound.enc := fun h => by
     rw [hI.done hw (Srt.srt_isort hw _) h, take_snoc hx, Srt.isort_snoc]
    by_cases hj : P.length < j
    ·obtain ⟨A, z, C, e, k1, k2, k3⟩ := hI.step hj
     have e' : d.map GFound.enc = two (A.map GFound.enc) z.enc [] x.enc (C.map GFound.enc) := by subst e; simp [two]
     have e2 : (A ++ x :: ([] ++ z :: C)).map GFound.enc = two (A.map GFound.enc) x.enc [] z.enc (C.map GFound.enc) := by simp [two]
     obtain ⟨g1, g2, s1, s2, hL, d1, d2⟩ := two_at (A := A.map GFound.enc) (B := []) (C := C.map GFound.enc) (p := j - 1) (q := j) (by simpa using k1) (by simp; omega)
     have hL' : ∀ u v, (two (A.map GFound.enc) u [] v (C.map GFound.enc)).length = N := fun u v => by
      rw [← hdN, hL, e]; simp; omega
     rw [e']
     have j0 : (j : Int) > (a : Int) := by omega
     have j1 : (0 : Int) ≤ (j : Int) := by omega
     have j2 : (j : Int) < (N : Int) := by omega
     have j3 : (0 : Int) ≤ ((j - 1 : Nat) : Int) := by omega
     have j4 : ((j - 1 : Nat) : Int) < (N : Int) := by omega
     simp only [↓reduceIte, reduceEqDiff, reduceLT, reduceAdd, reduceCtorEq, go_sem, hL', g1, g2, j0, j1, j2, j3, j4, wS1 (a := j) (by omega) (by omega)]
     apply callK_of (hc x z)
     simp only [↓reduceIte, reduceEqDiff, reduceLT, reduceAdd, reduceCtorEq, go_sem, hL', g1, g2, s1, s2, j1, j2, j3, j4, wS1 (a := j) (by omega) (by omega), wN1 (a := a + k) (by omega)]
     intro _
     refine ⟨fun hn => ⟨(A ++ x :: ([] ++ z :: C), j - 1), ⟨rfl, e2.symm⟩, k3 (by simpa [ltc] using hn), by show j - 1 < j; omega⟩, fun hn => ?_⟩
     have hz : ltc c x z = false := by simpa [ltc] using hn
     have := hdone (.inr (by rw [k2]; intro y hy; obtain rfl := Option.some.inj hy; exact hz))
     rw [e'] at this
     exact ⟨k + 1, ⟨rfl, this⟩, ⟨by omega, by omega⟩, by omega⟩
    ·have j0 : ¬ (j : Int) > (a : Int) := by omega
     simp only [↓reduceIte, reduceEqDiff, reduceLT, reduceCtorEq, go_sem, j0, wN1 (a := a + k) (by omega)]
     have := hdone (.inl (by omega))
     exact ⟨k + 1, ⟨rfl, this⟩, ⟨by omega, by omega⟩, by omega⟩
  ·have hk : X.length ≤ k := by omega
   rw [List.take_of_length_le hk, List.drop_of_length_le hk, List.nil_append]
end Go.Proofs.YtpclnmleldeleaaGreatR
namespace Go.Proofs.YtpclnmleldeleaaGreatR
open Go Go.RowKit Go.Proofs
open Nat (reduceEqDiff reduceLT reduceLeDiff reduceAdd reduceMul)
open List (reduceReplicate)
set_option linter.unusedSimpArgs false
set_option linter.unusedVariables false
namespace Srt
variable {α : Type} {lt : α → α → Bool}
theorem srt_at {l : List α} (h : srt lt l) {i j : Nat} {x y : α} (hi : l[i]? = some x) (hj : l[j]? = some y) (hij : i < j) : lt y x = false := by
 obtain ⟨h1, rfl⟩ := List.getElem?_eq_some_iff.1 hi
 obtain ⟨h2, rfl⟩ := List.getElem?_eq_some_iff.1 hj
 exact (List.pairwise_iff_getElem.1 h) i j h1 h2 hij
theorem srt_at_le (hw : Swo lt) {l : List α} (h : srt lt l) {i j : Nat} {x y : α} (hi : l[i]? = some x) (hj : l[j]? = some y) (hij : i ≤ j) : lt y x = false := by
 rcases Nat.lt_or_eq_of_le hij with k | rfl
 ·exact srt_at h hi hj k
 ·obtain rfl := Option.some.inj (hi.symm.trans hj)
  exact hw.irr x
theorem mem_take_at {l : List α} {u : Nat} {x : α} (h : x ∈ l.take u) : ∃ i, i < u ∧ l[i]? = some x := by
 obtain ⟨i, hi⟩ := List.mem_iff_getElem?.1 h
 rw [List.getElem?_take] at hi
 split at hi
 ·exact ⟨i, by assumption, hi⟩
 ·cases hi
theorem mem_drop_at {l : List α} {u : Nat} {x : α} (h : x ∈ l.drop u) : ∃ i, u ≤ i ∧ l[i]? = some x := by
 obtain ⟨i, hi⟩ := List.mem_iff_getElem?.1 h
 rw [List.getElem?_drop] at hi
 exact ⟨u + i, by omega, hi⟩
theorem head_drop_at {l : List α} {u : Nat} {x : α} (h : x ∈ (l.drop u).head?) : l[u]? = some x := by
 rw [List.head?_drop] at h
 exact h
theorem mrg_sym (hw : Swo lt) {X Y : List α} (hX : srt lt X) (hY : srt lt Y) {u M : Nat} (huX : u ≤ X.length) (huM : u ≤ M)
  (h1 : u = 0 ∨ Y.length ≤ M - u ∨ ∃ y x, Y[M - u]? = some y ∧ X[u - 1]? = some x ∧ lt y x = false)
  (h2 : u = M ∨ u = X.length ∨ ∃ y x, Y[M - 1 - u]? = some y ∧ X[u]? = some x ∧ lt y x = true) :
  mrg lt X Y = mrg lt (X.take u) (Y.take (M - u)) ++ mrg lt (X.drop u) (Y.drop (M - u)) := by
 conv => lhs; rw [← List.take_append_drop u X, ← List.take_append_drop (M - u) Y]
 refine mrg_split ?_ ?_ ?_
 ·intro b hb a ha
  obtain ⟨i, hi, eb⟩ := mem_take_at hb
  have ea := head_drop_at ha
  have hlt := len_at ea
  rcases h2 with h2 | h2 | ⟨y, x, e1, e2, h2⟩
  ·omega
  ·omega
  ·obtain rfl := Option.some.inj (e2.symm.trans ea)
   exact hw.fl (srt_at_le hw hY eb e1 (by omega)) h2
 ·intro b hb a ha
  obtain ⟨i, hi, eb⟩ := mem_drop_at hb
  obtain ⟨k, hk, ea⟩ := mem_take_at ha
  have hlt := len_at eb
  rcases h1 with h1 | h1 | ⟨y, x, e1, e2, h1⟩
  ·omega
  ·omega
  ·have p1 := srt_at_le hw hY e1 eb (by omega)
   have p2 := srt_at_le hw hX ea e2 (by omega)
   exact hw.ntr (hw.ntr p1 h1) p2
 ·intro b hb a ha
  obtain ⟨i, hi, eb⟩ := mem_drop_at hb
  obtain ⟨k, hk, ea⟩ := mem_take_at ha
  exact srt_at hY ea eb (by omega)
theorem mrg_one (hw : Swo lt) {x : α} {Y : List α} (hY : srt lt Y) {u : Nat} (h1 : ∀ y ∈ Y.take u, lt y x = true) (h2 : ∀ y ∈ Y.drop u, lt y x = false) : mrg lt [x] Y = Y.take u ++ x :: Y.drop u := by
 have e := mrg_split (lt := lt) (A1 := []) (A2 := [x]) (B1 := Y.take u) (B2 := Y.drop u) (by simpa using h1) (by simp) (by
  intro b hb a ha
  obtain ⟨i, hi, eb⟩ := mem_drop_at hb
  obtain ⟨k, hk, ea⟩ := mem_take_at ha
  exact srt_at hY ea eb (by omega))
 rw [List.take_append_drop, List.nil_append] at e
 rw [e, mrg_nil_srt hw (srt_append.1 ((List.take_append_drop u Y).symm ▸ hY)).1]
 have e2 := mrg_right (lt := lt) (A1 := [x]) (A2 := []) (B := Y.drop u) (by simpa using h2)
 rw [List.append_nil] at e2
 rw [e2, mrg_nil_srt hw (srt_append.1 ((List.take_append_drop u Y).symm ▸ hY)).2.1]
 rfl
theorem mrg_last {y : α} {X : List α} {u : Nat} (h1 : ∀ z ∈ X.take u, lt y z = false) (h2 : ∀ z ∈ X.drop u, lt y z = true) : mrg lt X [y] = X.take u ++ y :: X.drop u := by
 have := ins_mid (lt := lt) (x := y) h1 (fun z hz => h2 z (List.mem_of_mem_head? hz))
 rw [List.take_append_drop] at this
 exact this
theorem lo_of (hw : Swo lt) {Y : List α} (hY : srt lt Y) {w : Nat} {x y : α} (e : Y[w]? = some y) (h : lt y x = true) : ∀ z ∈ Y.take (w + 1), lt z x = true := fun z hz => by
 obtain ⟨i, hi, ez⟩ := mem_take_at hz
 exact hw.fl (srt_at_le hw hY ez e (by omega)) h
theorem hi_of (hw : Swo lt) {Y : List α} (hY : srt lt Y) {w : Nat} {x y : α} (e : Y[w]? = some y) (h : lt y x = false) : ∀ z ∈ Y.drop w, lt z x = false := fun z hz => by
 obtain ⟨i, hi, ez⟩ := mem_drop_at hz
 exact hw.ntr (srt_at_le hw hY e ez hi) h
theorem lo_of' (hw : Swo lt) {X : List α} (hX : srt lt X) {w : Nat} {x y : α} (e : X[w]? = some x) (h : lt y x = false) : ∀ z ∈ X.take (w + 1), lt y z = false := fun z hz => by
 obtain ⟨i, hi, ez⟩ := mem_take_at hz
 exact hw.ntr h (srt_at_le hw hX ez e (by omega))
theorem hi_of' (hw : Swo lt) {X : List α} (hX : srt lt X) {w : Nat} {x y : α} (e : X[w]? = some x) (h : lt y x = true) : ∀ z ∈ X.drop w, lt y z = true := fun z hz => by
 obtain ⟨i, hi, ez⟩ := mem_drop_at hz
 exact hw.lf h (srt_at_le hw hX e ez hi)
end Srt
theorem shr1 {k : Int} : (if (1 : Int) < 0 then none else some (Value.int IntKind.u64 (k.fdiv (2 ^ min (Int.toNat 1) 64)))) = some (Value.int IntKind.u64 (k.fdiv 2)) := by rw [if_neg (by decide)]; rfl
theorem u64_wrap {n : Int} (h1 : 0 ≤ n) (h2 : n ≤ 9223372036854775807) : IntKind.u64.wrap n = n := by
 simp only [IntKind.wrap, IntKind.signed, IntKind.bits, Bool.false_and, Bool.false_eq_true, if_false]
 omega
theorem half_of {i j : Nat} (h : i + j ≤ 9223372036854775807) : (IntKind.u64.wrap (IntKind.i64.wrap ((i : Int) + (j : Int)))).fdiv 2 = (((i + j) / 2 : Nat) : Int) := by
 rw [wN h, u64_wrap (by omega) (by omega), Int.fdiv_eq_ediv_of_nonneg _ (by omega)]
 omega
theorem wK {k : Nat} (h : k ≤ 9223372036854775807) : IntKind.i64.wrap (k : Int) = (k : Int) := wI (by omega) (by omega)
def SymI (lt : GFound → GFound → Bool) (X Y : List GFound) (M u0 v0 u v : Nat) : Prop :=
 u0 ≤ u ∧ u ≤ v ∧ v ≤ v0 ∧ (u = 0 ∨ Y.length ≤ M - u ∨ ∃ y x, Y[M - u]? = some y ∧ X[u - 1]? = some x ∧ lt y x = false) ∧
  (v = M ∨ v = X.length ∨ ∃ y x, Y[M - 1 - v]? = some y ∧ X[v]? = some x ∧ lt y x = true)
theorem SymI.fin {lt : GFound → GFound → Bool} (hw : Srt.Swo lt) {X Y : List GFound} {M u0 v0 u : Nat} (h : SymI lt X Y M u0 v0 u u) (hX : Srt.srt lt X) (hY : Srt.srt lt Y) (q2 : v0 ≤ M) (q3 : v0 ≤ X.length) (q4 : M ≤ u0 + Y.length) :
  ∃ A1 A2 B1 B2, X = A1 ++ A2 ∧ Y = B1 ++ B2 ∧ A1.length = u ∧ B1.length = M - u ∧ u ≤ M ∧ Srt.mrg lt X Y = Srt.mrg lt A1 B1 ++ Srt.mrg lt A2 B2 ∧ Srt.srt lt A1 ∧ Srt.srt lt A2 ∧ Srt.srt lt B1 ∧ Srt.srt lt B2 := by
 obtain ⟨h1, h2, h3, h4, h5⟩ := h
 have e := Srt.mrg_sym hw hX hY (by omega) (by omega) h4 h5
 have sX := Srt.srt_append.1 ((List.take_append_drop u X).symm ▸ hX)
 have sY := Srt.srt_append.1 ((List.take_append_drop (M - u) Y).symm ▸ hY)
 exact ⟨X.take u, X.drop u, Y.take (M - u), Y.drop (M - u), (List.take_append_drop _ _).symm, (List.take_append_drop _ _).symm, by simp; omega, by simp; omega, by omega, e, sX.1, sX.2.1, sY.1, sY.2.1⟩
theorem sym7 {u l2 k l4 M : Nat} (hk : k = M - u) (huM : u ≤ M) (hM : M = (u + l2 + (k + l4)) / 2) (hX : 2 ≤ u + l2) (hY : 2 ≤ k + l4) :
  (0 < u ∧ 0 < l2 ∧ 0 < k ∧ 0 < l4) ∨ (u = 0 ∧ 0 < l2 ∧ 0 < k ∧ 0 < l4) ∨ (0 < u ∧ l2 = 0 ∧ 0 < k ∧ 0 < l4) ∨ (0 < u ∧ 0 < l2 ∧ k = 0 ∧ 0 < l4) ∨ (0 < u ∧ 0 < l2 ∧ 0 < k ∧ l4 = 0) ∨ (u = 0 ∧ 0 < l2 ∧ 0 < k ∧ l4 = 0) ∨ (0 < u ∧ l2 = 0 ∧ k = 0 ∧ 0 < l4) := by omega
theorem lt_yes {i j : Nat} (k : Nat) (h : j = i + k) (hk : 0 < k) : (i : Int) < (j : Int) := by omega
theorem lt_no {i j : Nat} (k : Nat) (h : j = i + k) (hk : k = 0) : ¬ (i : Int) < (j : Int) := by omega
theorem symL (lt : GFound → GFound → Bool) {P A1 A2 B1 B2 Q : List GFound} {a m b M u N n : Nat} (ha : P.length = a) (hA1 : A1.length = u) (hB1 : B1.length = M - u) (huM : u ≤ M) (hm : m = a + (A1 ++ A2).length) (hb : b = m + (B1 ++ B2).length)
  (hN : (P ++ (A1 ++ A2) ++ (B1 ++ B2) ++ Q).length = N) (hM : M = ((A1 ++ A2).length + (B1 ++ B2).length) / 2) (hn : (A1 ++ A2).length + (B1 ++ B2).length ≤ n + 1) (h1 : ¬ ((m - a : Nat) : Int) = 1) (h2 : ¬ ((b - m : Nat) : Int) = 1) (hX : 0 < (A1 ++ A2).length) (hY : 0 < (B1 ++ B2).length) :
  ((P ++ A1 ++ B1 ++ A2 ++ (B2 ++ Q)).length = N ∧ (P ++ A1 ++ A2 ++ B1 ++ (B2 ++ Q)).length = N ∧ (P ++ A1 ++ B1 ++ (A2 ++ (B2 ++ Q))).length = N ∧ (P ++ Srt.mrg lt A1 B1 ++ A2 ++ B2 ++ Q).length = N ∧ (P ++ Srt.mrg lt A1 B1 ++ (A2 ++ (B2 ++ Q))).length = N ∧ (P ++ Srt.mrg lt A1 B1 ++ Srt.mrg lt A2 B2 ++ Q).length = N) ∧
  ((P ++ A1).length = a + u ∧ (P ++ A1 ++ A2).length = m ∧ (P ++ A1 ++ A2 ++ B1).length = m + (M - u) ∧ (P ++ A1 ++ B1).length = a + M ∧ (P ++ Srt.mrg lt A1 B1).length = a + M ∧ (P ++ Srt.mrg lt A1 B1 ++ A2).length = m + (M - u) ∧ (P ++ Srt.mrg lt A1 B1 ++ A2 ++ B2).length = b) ∧
  A1.length + B1.length ≤ n ∧ A2.length + B2.length ≤ n ∧
  (m = a + u + A2.length ∧ m + (M - u) = m + B1.length ∧ a + u = a + A1.length ∧ a + M = a + u + B1.length ∧ m + (M - u) = a + M + A2.length ∧ b = m + (M - u) + B2.length) ∧
  ((0 < A1.length ∧ 0 < A2.length ∧ 0 < B1.length ∧ 0 < B2.length) ∨ (A1.length = 0 ∧ 0 < A2.length ∧ 0 < B1.length ∧ 0 < B2.length) ∨ (0 < A1.length ∧ A2.length = 0 ∧ 0 < B1.length ∧ 0 < B2.length) ∨ (0 < A1.length ∧ 0 < A2.length ∧ B1.length = 0 ∧ 0 < B2.length) ∨ (0 < A1.length ∧ 0 < A2.length ∧ 0 < B1.length ∧ B2.length = 0) ∨ (A1.length = 0 ∧ 0 < A2.length ∧ 0 < B1.length ∧ B2.length = 0) ∨ (0 < A1.length ∧ A2.length = 0 ∧ B1.length = 0 ∧ 0 < B2.length)) := by
 simp only [List.length_append, Srt.len_mrg] at *
 have h7 := sym7 (u := A1.length) (l2 := A2.length) (k := B1.length) (l4 := B2.length) (M := M) (by omega) (by omega) (by omega) (by omega) (by omega)
 refine ⟨⟨?_, ?_, ?_, ?_, ?_, ?_⟩, ⟨?_, ?_, ?_, ?_, ?_, ?_, ?_⟩, ?_, ?_, ⟨?_, ?_, ?_, ?_, ?_, ?_⟩, h7⟩ <;> clear h7 <;> omega
def m_slices_symMergeCmpFunc_impl_Found : MC :=
(.seq (.seq (pr [.mv 25 (.s 2), .mv 26 (.s 1), .bin 27 false .sub (.s 25) (.s 26), .bin 28 false .eql (.s 27) (ci 1)] [0,1,2,3,4,28])
(.cond (.s 28) (.seq (pr [.mv 29 (.s 2), .mv 10 (.s 29)] [0,1,3,4,10])
(.seq (pr [.mv 30 (.s 3), .mv 11 (.s 30)] [0,1,4,10,11])
(.seq (.block 0 (.loop ([0,1,4,10,11], []) (.seq (.seq (pr [.mv 31 (.s 10), .mv 32 (.s 11), .bin 33 false .lss (.s 31) (.s 32)] [0,1,4,10,11,33])
(.cond (.s 33) .skip (.exit 0)))
(.block 1 (.seq (pr [.mv 34 (.s 10), .mv 35 (.s 11), .bin 36 false .add (.s 34) (.s 35), .convI 37 .u64 (.s 36), .bin 38 false .shr (.s 37) (.c (.int .u64 1)), .convI 39 .i64 (.s 38), .mv 12 (.s 39)] [0,1,4,10,11,12])
(.seq (.dreg [Zc [41,42,43,44,45,46,47,48] (.mv 40 (.s 4)), Zc [40,42,45,46,47,48] (.mv 41 (.s 0)), Zc [40,41,45,46,47,48] (.mv 42 (.s 12)), Zd [40,45,46,47,48] [1,2] (.idx 43 6 (.s 41) (.s 42)), Zd [40,45,46,47,48] [1,2,3] (.load 44 true 6 (.s 43)), Zc [40,41,42,43,44,46] (.mv 45 (.s 0)), Zc [40,41,42,43,44,45] (.mv 46 (.s 1)), Zd [40,41,42,43,44] [5,6] (.idx 47 6 (.s 45) (.s 46)), Zd [40,41,42,43,44] [5,6,7] (.load 48 true 6 (.s 47)), Ze (.range 9) (.call 49 [] (.s 40) [.s 44, .s 48]), Ze (.range 10) (.bin 50 false .lss (.s 49) (ci 0))] [0,1,4,10,11,12,50])
(.cond (.s 50) (pr [.mv 51 (.s 12), .bin 52 false .add (.s 51) (ci 1), .mv 10 (.s 52)] [0,1,4,10,11]) (pr [.mv 53 (.s 12), .mv 11 (.s 53)] [0,1,4,10,11]))))))))
(.seq (.seq (pr [.mv 54 (.s 1), .mv 13 (.s 54)] [0,10,13])
(.block 2 (.loop ([0,10,13], []) (.seq (.seq (pr [.mv 55 (.s 13), .mv 56 (.s 10), .bin 57 false .sub (.s 56) (ci 1), .bin 58 false .lss (.s 55) (.s 57)] [0,10,13,58])
(.cond (.s 58) .skip (.exit 2)))
(.seq (.block 3 (.dreg [Zc [62,63,64,65,66,67,68,69,70,71,72,73,74] (.mv 61 (.s 0)), Zc [61,63,64,65,66,67,68,69,70,71,72,73,74] (.mv 62 (.s 13)), Zf [61,62,64,65,66,67,68,69,70,71,72,73,74,75] [0] (.mv 63 (.s 0)), Zf [61,62,63,66,67,68,69,70,71,72,73,74,75] [0] (.mv 64 (.s 13)), Zg [61,62,63,66,67,68,69,70,71,72,73,74,75] [0] [3] (.bin 65 false .add (.s 64) (ci 1)), Zc [61,62,63,64,65,67,68,71,72,73,74] (.mv 66 (.s 0)), Zc [61,62,63,64,65,66,71,72,73,74] (.mv 67 (.s 13)), Zd [61,62,63,64,65,66,71,72,73,74] [6] (.bin 68 false .add (.s 67) (ci 1)), Zd [61,62,63,64,65,71,72,73,74] [5,6,7] (.idx 69 6 (.s 66) (.s 68)), Zd [61,62,63,64,65,71,72,73,74] [5,6,7,8] (.load 70 true 6 (.s 69)), Zc [61,62,63,64,65,66,67,68,69,70,72] (.mv 71 (.s 0)), Zc [61,62,63,64,65,66,67,68,69,70,71] (.mv 72 (.s 13)), Zd [61,62,63,64,65,66,67,68,69,70] [10,11] (.idx 73 6 (.s 71) (.s 72)), Zd [61,62,63,64,65,66,67,68,69,70] [10,11,12] (.load 74 true 6 (.s 73)), Zd [63,64,65] [0,1,5,6,7,8,9,10,11,12,13] (.idx 75 6 (.s 61) (.s 62)), { o := .store 6 (.s 75) (.s 70), hs := [63,64,65], ws := [0], bf := [0,1,5,6,7,8,9,10,11,12,13,14] }, Ze (.range 16) (.idx 76 6 (.s 63) (.s 65)), { o := .store 6 (.s 76) (.s 74), ws := [0], bf := (.range 17) }] [0,10,13]))
(pr [.mv 59 (.s 13), .bin 60 false .add (.s 59) (ci 1), .mv 13 (.s 60)] [0,10,13]))))))
.ret)))) .skip))
(.seq (.seq (pr [.mv 77 (.s 3), .mv 78 (.s 2), .bin 79 false .sub (.s 77) (.s 78), .bin 80 false .eql (.s 79) (ci 1)] [0,1,2,3,4,80])
(.cond (.s 80) (.seq (pr [.mv 81 (.s 1), .mv 14 (.s 81)] [0,2,4,14])
(.seq (pr [.mv 82 (.s 2), .mv 15 (.s 82)] [0,2,4,14,15])
(.seq (.block 4 (.loop ([0,2,4,14,15], []) (.seq (.seq (pr [.mv 83 (.s 14), .mv 84 (.s 15), .bin 85 false .lss (.s 83) (.s 84)] [0,2,4,14,15,85])
(.cond (.s 85) .skip (.exit 4)))
(.block 5 (.seq (pr [.mv 86 (.s 14), .mv 87 (.s 15), .bin 88 false .add (.s 86) (.s 87), .convI 89 .u64 (.s 88), .bin 90 false .shr (.s 89) (.c (.int .u64 1)), .convI 91 .i64 (.s 90), .mv 16 (.s 91)] [0,2,4,14,15,16])
(.seq (.dreg [Zc [93,94,95,96,97,98,99,100] (.mv 92 (.s 4)), Zc [92,94,97,98,99,100] (.mv 93 (.s 0)), Zc [92,93,97,98,99,100] (.mv 94 (.s 2)), Zd [92,97,98,99,100] [1,2] (.idx 95 6 (.s 93) (.s 94)), Zd [92,97,98,99,100] [1,2,3] (.load 96 true 6 (.s 95)), Zc [92,93,94,95,96,98] (.mv 97 (.s 0)), Zc [92,93,94,95,96,97] (.mv 98 (.s 16)), Zd [92,93,94,95,96] [5,6] (.idx 99 6 (.s 97) (.s 98)), Zd [92,93,94,95,96] [5,6,7] (.load 100 true 6 (.s 99)), Ze (.range 9) (.call 101 [] (.s 92) [.s 96, .s 100]), Ze (.range 10) (.bin 102 false .lss (.s 101) (ci 0)), Ze (.range 11) (.un 103 .not (.s 102))] [0,2,4,14,15,16,103])
(.cond (.s 103) (pr [.mv 104 (.s 16), .bin 105 false .add (.s 104) (ci 1), .mv 14 (.s 105)] [0,2,4,14,15]) (pr [.mv 106 (.s 16), .mv 15 (.s 106)] [0,2,4,14,15]))))))))
(.seq (.seq (pr [.mv 107 (.s 2), .mv 17 (.s 107)] [0,14,17])
(.block 6 (.loop ([0,14,17], []) (.seq (.seq (pr [.mv 108 (.s 17), .mv 109 (.s 14), .bin 110 false .gtr (.s 108) (.s 109)] [0,14,17,110])
(.cond (.s 110) .skip (.exit 6)))
(.seq (.block 7 (.dreg [Zc [114,115,116,117,118,119,120,121,122,123,124,125,126] (.mv 113 (.s 0)), Zc [113,115,116,117,118,119,120,121,122,123,124,125,126] (.mv 114 (.s 17)), Zf [113,114,116,117,118,119,120,121,122,123,124,125,126,127] [0] (.mv 115 (.s 0)), Zf [113,114,115,118,119,120,121,122,123,124,125,126,127] [0] (.mv 116 (.s 17)), Zg [113,114,115,118,119,120,121,122,123,124,125,126,127] [0] [3] (.bin 117 false .sub (.s 116) (ci 1)), Zc [113,114,115,116,117,119,120,123,124,125,126] (.mv 118 (.s 0)), Zc [113,114,115,116,117,118,123,124,125,126] (.mv 119 (.s 17)), Zd [113,114,115,116,117,118,123,124,125,126] [6] (.bin 120 false .sub (.s 119) (ci 1)), Zd [113,114,115,116,117,123,124,125,126] [5,6,7] (.idx 121 6 (.s 118) (.s 120)), Zd [113,114,115,116,117,123,124,125,126] [5,6,7,8] (.load 122 true 6 (.s 121)), Zc [113,114,115,116,117,118,119,120,121,122,124] (.mv 123 (.s 0)), Zc [113,114,115,116,117,118,119,120,121,122,123] (.mv 124 (.s 17)), Zd [113,114,115,116,117,118,119,120,121,122] [10,11] (.idx 125 6 (.s 123) (.s 124)), Zd [113,114,115,116,117,118,119,120,121,122] [10,11,12] (.load 126 true 6 (.s 125)), Zd [115,116,117] [0,1,5,6,7,8,9,10,11,12,13] (.idx 127 6 (.s 113) (.s 114)), { o := .store 6 (.s 127) (.s 122), hs := [115,116,117], ws := [0], bf := [0,1,5,6,7,8,9,10,11,12,13,14] }, Ze (.range 16) (.idx 128 6 (.s 115) (.s 117)), { o := .store 6 (.s 128) (.s 126), ws := [0], bf := (.range 17) }] [0,14,17]))
(pr [.mv 111 (.s 17), .bin 112 false .sub (.s 111) (ci 1), .mv 17 (.s 112)] [0,14,17]))))))
.ret)))) .skip))
(.seq (pr [.mv 129 (.s 1), .mv 130 (.s 3), .bin 131 false .add (.s 129) (.s 130), .convI 132 .u64 (.s 131), .bin 133 false .shr (.s 132) (.c (.int .u64 1)), .convI 134 .i64 (.s 133), .mv 18 (.s 134)] [0,1,2,3,4,18])
(.seq (pr [.mv 135 (.s 18), .mv 136 (.s 2), .bin 137 false .add (.s 135) (.s 136), .mv 19 (.s 137)] [0,1,2,3,4,18,19])
(.seq (pr [.mv 20 (ci 0), .mv 21 (ci 0)] [0,1,2,3,4,18,19])
(.seq (.seq (pr [.mv 138 (.s 2), .mv 139 (.s 18), .bin 140 false .gtr (.s 138) (.s 139)] [0,1,2,3,4,18,19,140])
(.cond (.s 140) (.seq (pr [.mv 141 (.s 19), .mv 142 (.s 3), .bin 143 false .sub (.s 141) (.s 142), .mv 20 (.s 143)] [0,1,2,3,4,18,19,20])
(pr [.mv 144 (.s 18), .mv 21 (.s 144)] [0,1,2,3,4,18,19,20,21])) (.seq (pr [.mv 145 (.s 1), .mv 20 (.s 145)] [0,1,2,3,4,18,19,20])
(pr [.mv 146 (.s 2), .mv 21 (.s 146)] [0,1,2,3,4,18,19,20,21]))))
(.seq (pr [.mv 147 (.s 19), .bin 148 false .sub (.s 147) (ci 1), .mv 22 (.s 148)] [0,1,2,3,4,18,19,20,21,22])
(.seq (.block 8 (.loop ([0,1,2,3,4,18,19,20,21,22], []) (.seq (.seq (pr [.mv 149 (.s 20), .mv 150 (.s 21), .bin 151 false .lss (.s 149) (.s 150)] [0,1,2,3,4,18,19,20,21,22,151])
(.cond (.s 151) .skip (.exit 8)))
(.block 9 (.seq (pr [.mv 152 (.s 20), .mv 153 (.s 21), .bin 154 false .add (.s 152) (.s 153), .convI 155 .u64 (.s 154), .bin 156 false .shr (.s 155) (.c (.int .u64 1)), .convI 157 .i64 (.s 156), .mv 23 (.s 157)] [0,1,2,3,4,18,19,20,21,22,23])
(.seq (.dreg [Zc [159,160,161,162,163,164,165,166,167,168] (.mv 158 (.s 4)), Zc [158,160,161,162,165,166,167,168] (.mv 159 (.s 0)), Zc [158,159,161,165,166,167,168] (.mv 160 (.s 22)), Zc [158,159,160,165,166,167,168] (.mv 161 (.s 23)), Zd [158,159,165,166,167,168] [2,3] (.bin 162 false .sub (.s 160) (.s 161)), Zd [158,165,166,167,168] [1,2,3,4] (.idx 163 6 (.s 159) (.s 162)), Zd [158,165,166,167,168] [1,2,3,4,5] (.load 164 true 6 (.s 163)), Zc [158,159,160,161,162,163,164,166] (.mv 165 (.s 0)), Zc [158,159,160,161,162,163,164,165] (.mv 166 (.s 23)), Zd [158,159,160,161,162,163,164] [7,8] (.idx 167 6 (.s 165) (.s 166)), Zd [158,159,160,161,162,163,164] [7,8,9] (.load 168 true 6 (.s 167)), Ze (.range 11) (.call 169 [] (.s 158) [.s 164, .s 168]), Ze (.range 12) (.bin 170 false .lss (.s 169) (ci 0)), Ze (.range 13) (.un 171 .not (.s 170))] [0,1,2,3,4,18,19,20,21,22,23,171])
(.cond (.s 171) (pr [.mv 172 (.s 23), .bin 173 false .add (.s 172) (ci 1), .mv 20 (.s 173)] [0,1,2,3,4,18,19,20,21,22]) (pr [.mv 174 (.s 23), .mv 21 (.s 174)] [0,1,2,3,4,18,19,20,21,22]))))))))
(.seq (pr [.mv 175 (.s 19), .mv 176 (.s 20), .bin 177 false .sub (.s 175) (.s 176), .mv 24 (.s 177)] [0,1,2,3,4,18,20,24])
(.seq (.seq (.reg [Za (.mv 178 (.s 20)), Za (.mv 179 (.s 2)), Za (.bin 180 false .lss (.s 178) (.s 179)), Za (.mv 181 (.s 180)), Zb 181 true (.mv 182 (.s 2)), Zb 181 true (.mv 183 (.s 24)), Zb 181 true (.bin 184 false .lss (.s 182) (.s 183)), Za (.pick 185 (.s 181) (.s 184) cF)] [0,1,2,3,4,18,20,24,185])
(.cond (.s 185) (pr [.mv 186 (.s 0), .mv 187 (.s 20), .mv 188 (.s 2), .mv 189 (.s 24), .mv 190 (.s 4), .callI 191 [] (.f n_slices_rotateCmpFunc_impl_Found) [.s 186, .s 187, .s 188, .s 189, .s 190] [0] []] [0,1,3,4,18,20,24]) .skip))
(.seq (.seq (.reg [Za (.mv 192 (.s 1)), Za (.mv 193 (.s 20)), Za (.bin 194 false .lss (.s 192) (.s 193)), Za (.mv 195 (.s 194)), Zb 195 true (.mv 196 (.s 20)), Zb 195 true (.mv 197 (.s 18)), Zb 195 true (.bin 198 false .lss (.s 196) (.s 197)), Za (.pick 199 (.s 195) (.s 198) cF)] [0,1,3,4,18,20,24,199])
(.cond (.s 199) (pr [.mv 200 (.s 0), .mv 201 (.s 1), .mv 202 (.s 20), .mv 203 (.s 18), .mv 204 (.s 4), .callI 205 [] (.f n_slices_symMergeCmpFunc_impl_Found) [.s 200, .s 201, .s 202, .s 203, .s 204] [0] []] [0,3,4,18,24]) .skip))
(.seq (.reg [Za (.mv 206 (.s 18)), Za (.mv 207 (.s 24)), Za (.bin 208 false .lss (.s 206) (.s 207)), Za (.mv 209 (.s 208)), Zb 209 true (.mv 210 (.s 24)), Zb 209 true (.mv 211 (.s 3)), Zb 209 true (.bin 212 false .lss (.s 210) (.s 211)), Za (.pick 213 (.s 209) (.s 212) cF)] [0,3,4,18,24,213])
(.cond (.s 213) (pr [.mv 214 (.s 0), .mv 215 (.s 18), .mv 216 (.s 24), .mv 217 (.s 3), .mv 218 (.s 4), .callI 219 [] (.f n_slices_symMergeCmpFunc_impl_Found) [.s 214, .s 215, .s 216, .s 217, .s 218] [0] []] []) .skip)))))))))))))
set_option maxHeartbeats 4000000 in
theorem c_slices_symMergeCmpFunc (f : FuncId) (c : GFound → GFound → Int) (hc : ∀ x y, Ctr Tryz.prog f [aS x.enc, aS y.enc] [rI (c x y)]) (hw : Srt.Swo (ltc c)) (n : Nat) : ∀ (P X Y Q : List GFound) {a m b : Nat}, X.length + Y.length ≤ n → P.length = a → (P ++ X).length = m → (P ++ X ++ Y).length = b → 0 < X.length → 0 < Y.length → Srt.srt (ltc c) X → Srt.srt (ltc c) Y →
  CtrI Tryz.prog n_slices_symMergeCmpFunc_impl_Found [oL 6 ((P ++ X ++ Y ++ Q).map GFound.enc), iI a, iI m, iI b, fI f] [some (6, (P ++ Srt.mrg (ltc c) X Y ++ Q).map GFound.enc)] [] := by
 induction n with
 | zero => intro P X Y Q a m b hn _ _ _ hX; omega
 | succ n ih =>
  intro P X Y Q a m b hn ha hm hb hX hY sX sY
  have hN2 : (P ++ Srt.mrg (ltc c) X Y ++ Q).length = (P ++ X ++ Y ++ Q).length := by simp [Srt.len_mrg]; omega
  refine ctrI_at (M := m_slices_symMergeCmpFunc_impl_Found) (m := 0) (n := 220) (res := []) hmix Tryz.func285 rfl (by kernel_rfl) rfl (by kernel_rfl) (by kernel_rfl) (Nat.le_of_ble_eq_true rfl) rfl rfl ?_; unfold m_slices_symMergeCmpFunc_impl_Found
  intro hbd
  have hl := len_of_bd hbd
  clear hbd
  have hm' : m = a + X.length := by rw [← hm, ← ha]; simp
  have hb' : b = m + Y.length := by rw [← hb, ← hm]; simp; omega
  have hbN : b ≤ (P ++ X ++ Y ++ Q).length := by rw [List.length_append, hb]; omega
  generalize hN : (P ++ X ++ Y ++ Q).length = N at *
  simp only [roomB] at hl
  simp only [↓reduceIte, reduceEqDiff, reduceLT, reduceAdd, reduceCtorEq, go_sem, hN, wS (a := m) (b := a) (by omega) (by omega)]
  refine ⟨fun h1 => ?_, fun h1 => ?_⟩
  ·obtain ⟨x, rfl⟩ : ∃ x, X = [x] := List.length_eq_one_iff.1 (by omega)
   simp only [List.length_cons, List.length_nil] at hm' hn
   have hxa : (P ++ [x] ++ Y ++ Q)[a]? = some x := by rw [← ha]; simp
   have hya : ∀ w, w < Y.length → (P ++ [x] ++ Y ++ Q)[m + w]? = Y[w]? := fun w hw => by
    rw [List.append_assoc, List.getElem?_append_right (by simp; omega), List.getElem?_append_left (by simp; omega)]
    congr 1; simp; omega
   refine loopK_up (ι := Nat × Nat) (fun s => [(10, vI ((m + s.1 : Nat) : Int)), (11, vI ((m + s.2 : Nat) : Int))]) (fun s => []) (fun s => s.1 ≤ s.2 ∧ s.2 ≤ Y.length ∧ (∀ y ∈ Y.take s.1, ltc c y x = true) ∧ (∀ y ∈ Y.drop s.2, ltc c y x = false)) (fun s => s.2 - s.1) (0, Y.length) ?_
   simp only [↓reduceIte, reduceEqDiff, reduceCtorEq, go_sem]
   refine ⟨?_, ⟨by omega, by omega, by simp, by simp⟩, ?_⟩
   ·simp only [↓reduceIte, reduceEqDiff, reduceLT, reduceCtorEq, go_sem]
    exact ⟨by omega, by omega⟩
   ·rintro ⟨u, v⟩ ⟨i1, i2, i3, i4⟩
    simp only at i1 i2 i3 i4
    simp only [↓reduceIte, reduceEqDiff, reduceLT, reduceAdd, reduceCtorEq, go_sem, hN, shr1, half_of (i := m + u) (j := m + v) (by omega)]
    refine ⟨fun hlt => ?_, fun hge => ?_⟩
    ·have hwx : (m + u + (m + v)) / 2 = m + (u + v) / 2 := by omega
     have w1 : u ≤ (u + v) / 2 := by omega
     have w2 : (u + v) / 2 < v := by omega
     rw [hwx]
     generalize (u + v) / 2 = w at w1 w2
     obtain ⟨y, hy⟩ := at_some (show w < Y.length by omega)
     have hyw := (hya w (by omega)).trans hy
     have k1 : (0 : Int) ≤ ((m + w : Nat) : Int) := by omega
     have k2 : ((m + w : Nat) : Int) < (N : Int) := by omega
     have k3 : (0 : Int) ≤ (a : Int) := by omega
     have k4 : (a : Int) < (N : Int) := by omega
     simp only [go_sem, wK (k := m + w) (by omega), k1, k2, k3, k4, bk_eq hyw, bk_eq hxa]
     apply callK_of (hc y x)
     simp only [↓reduceIte, reduceEqDiff, reduceLT, reduceCtorEq, go_sem, wN1 (a := m + w) (by omega)]
     intro _
     refine ⟨fun hn => ⟨(w + 1, v), ⟨rfl, rfl⟩, ⟨by omega, i2, Srt.lo_of hw sY hy (by simpa [ltc] using hn), i4⟩, by omega⟩, fun hn => ⟨(u, w), ⟨rfl, rfl⟩, ⟨w1, by omega, i3, Srt.hi_of hw sY hy (by simpa [ltc] using hn)⟩, by omega⟩⟩
    ·obtain rfl : u = v := by omega
     have hres := Srt.mrg_one hw sY i3 i4
     have hlt : ∀ t, (P ++ (Y.take t ++ x :: Y.drop t) ++ Q).length = N := fun t => by rw [← hN]; simp; omega
     refine loopK_up (fun t : Nat => [(13, vI ((a + t : Nat) : Int))]) (fun t => [(0, ⟨1, .row true 6 ((P ++ (Y.take t ++ x :: Y.drop t) ++ Q).map GFound.enc)⟩)]) (fun t => t ≤ u) (fun t => u - t) 0 ?_
     simp only [↓reduceIte, reduceEqDiff, reduceCtorEq, go_sem]
     refine ⟨?_, by omega, ?_⟩
     ·simp only [↓reduceIte, reduceEqDiff, reduceLT, reduceCtorEq, go_sem]
      simp
     ·intro t ht
      have hs1 : IntKind.i64.wrap (((m + u : Nat) : Int) - 1) = ((a + u : Nat) : Int) := by
       rw [wI (by omega) (by omega)]; omega
      by_cases htu : t < u
      ·obtain ⟨y, hy⟩ := at_some (show t < Y.length by omega)
       have e1 : (P ++ (Y.take t ++ x :: Y.drop t) ++ Q).map GFound.enc = two ((P ++ Y.take t).map GFound.enc) x.enc [] y.enc ((Y.drop (t + 1) ++ Q).map GFound.enc) := by simp [two, drop_cons hy]
       have e2 : (P ++ (Y.take (t + 1) ++ x :: Y.drop (t + 1)) ++ Q).map GFound.enc = two ((P ++ Y.take t).map GFound.enc) y.enc [] x.enc ((Y.drop (t + 1) ++ Q).map GFound.enc) := by simp [two, take_snoc hy]
       have hA : ((P ++ Y.take t).map GFound.enc).length = a + t := by simp; omega
       have hL0 : ∀ p q, (two ((P ++ Y.take t).map GFound.enc) p [] q ((Y.drop (t + 1) ++ Q).map GFound.enc)).length = N := fun p q => by
        rw [← hlt t]; simp [two, drop_cons hy]
       generalize (P ++ Y.take t).map GFound.enc = A at *
       generalize (Y.drop (t + 1) ++ Q).map GFound.enc = C at *
       obtain ⟨g1, g2, s1, s2, hL, d1, d2⟩ := two_at (A := A) (B := []) (C := C) (p := a + t) (q := a + t + 1) hA (by simp)
       have k1 : (0 : Int) ≤ ((a + t : Nat) : Int) := by omega
       have k2 : ((a + t : Nat) : Int) < (N : Int) := by omega
       have k3 : (0 : Int) ≤ ((a + t + 1 : Nat) : Int) := by omega
       have k4 : ((a + t + 1 : Nat) : Int) < (N : Int) := by omega
       have k5 : ((a + t : Nat) : Int) < ((a + u : Nat) : Int) := by omega
       rw [e1]
       simp only [↓reduceIte, reduceEqDiff, reduceLT, reduceAdd, reduceCtorEq, go_sem, hs1, hL0, g1, g2, s1, s2, k1, k2, k3, k4, k5, wN1 (a := a + t) (by omega)]
       exact ⟨t + 1, ⟨rfl, e2.symm⟩, by omega, by omega⟩
      ·obtain rfl : t = u := by omega
       simp only [↓reduceIte, reduceEqDiff, reduceLT, reduceCtorEq, go_sem, hs1]
       rw [hres]
  ·simp only [go_sem, wS (a := b) (b := m) (by omega) (by omega)]
   refine ⟨fun h2 => ?_, fun h2 => ?_⟩
   ·obtain ⟨y, rfl⟩ : ∃ y, Y = [y] := List.length_eq_one_iff.1 (by omega)
    simp only [List.length_cons, List.length_nil] at hb' hn
    have hym : (P ++ X ++ [y] ++ Q)[m]? = some y := by rw [← hm]; simp
    have hxa : ∀ w, w < X.length → (P ++ X ++ [y] ++ Q)[a + w]? = X[w]? := fun w hw => by
     rw [List.append_assoc, List.append_assoc, List.getElem?_append_right (by omega), List.getElem?_append_left (by omega)]
     congr 1; omega
    refine loopK_up (ι := Nat × Nat) (fun s => [(14, vI ((a + s.1 : Nat) : Int)), (15, vI ((a + s.2 : Nat) : Int))]) (fun s => []) (fun s => s.1 ≤ s.2 ∧ s.2 ≤ X.length ∧ (∀ z ∈ X.take s.1, ltc c y z = false) ∧ (∀ z ∈ X.drop s.2, ltc c y z = true)) (fun s => s.2 - s.1) (0, X.length) ?_
    simp only [↓reduceIte, reduceEqDiff, reduceCtorEq, go_sem]
    refine ⟨?_, ⟨by omega, by omega, by simp, by simp⟩, ?_⟩
    ·simp only [↓reduceIte, reduceEqDiff, reduceLT, reduceCtorEq, go_sem]
     exact ⟨by omega, by omega⟩
    ·rintro ⟨u, v⟩ ⟨i1, i2, i3, i4⟩
     simp only at i1 i2 i3 i4
     simp only [↓reduceIte, reduceEqDiff, reduceLT, reduceAdd, reduceCtorEq, go_sem, hN, shr1, half_of (i := a + u) (j := a + v) (by omega)]
     refine ⟨fun hlt => ?_, fun hge => ?_⟩
     ·have hwx : (a + u + (a + v)) / 2 = a + (u + v) / 2 := by omega
      have w1 : u ≤ (u + v) / 2 := by omega
      have w2 : (u + v) / 2 < v := by omega
      rw [hwx]
      generalize (u + v) / 2 = w at w1 w2
      obtain ⟨x, hx⟩ := at_some (show w < X.length by omega)
      have hxw := (hxa w (by omega)).trans hx
      have k1 : (0 : Int) ≤ ((a + w : Nat) : Int) := by omega
      have k2 : ((a + w : Nat) : Int) < (N : Int) := by omega
      have k3 : (0 : Int) ≤ (m : Int) := by omega
      have k4 : (m : Int) < (N : Int) := by omega
      simp only [go_sem, wK (k := a + w) (by omega), k1, k2, k3, k4, bk_eq hxw, bk_eq hym]
      apply callK_of (hc y x)
      simp only [↓reduceIte, reduceEqDiff, reduceLT, reduceCtorEq, go_sem, wN1 (a := a + w) (by omega)]
      intro _
      refine ⟨fun hn => ⟨(w + 1, v), ⟨rfl, rfl⟩, ⟨by omega, i2, Srt.lo_of' hw sX hx (by simpa [ltc] using hn), i4⟩, by omega⟩, fun hn => ⟨(u, w), ⟨rfl, rfl⟩, ⟨w1, by omega, i3, Srt.hi_of' hw sX hx (by simpa [ltc] using hn)⟩, by omega⟩⟩
     ·obtain rfl : u = v := by omega
      have hres := Srt.mrg_last i3 i4
      have hlt : ∀ t, (P ++ (X.take t ++ y :: X.drop t) ++ Q).length = N := fun t => by rw [← hN]; simp; omega
      refine loopK_up (fun t : Nat => [(17, vI ((a + t : Nat) : Int))]) (fun t => [(0, ⟨1, .row true 6 ((P ++ (X.take t ++ y :: X.drop t) ++ Q).map GFound.enc)⟩)]) (fun t => u ≤ t ∧ t ≤ X.length) (fun t => t - u) X.length ?_
      simp only [↓reduceIte, reduceEqDiff, reduceCtorEq, go_sem]
      refine ⟨?_, ⟨i2, by omega⟩, ?_⟩
      ·simp only [↓reduceIte, reduceEqDiff, reduceLT, reduceCtorEq, go_sem, hm']
       simp
      ·rintro t ⟨ht, ht2⟩
       by_cases htu : u < t
       ·obtain ⟨t, rfl⟩ : ∃ s, t = s + 1 := ⟨t - 1, by omega⟩
        obtain ⟨x, hx⟩ := at_some (show t < X.length by omega)
        have e1 : (P ++ (X.take (t + 1) ++ y :: X.drop (t + 1)) ++ Q).map GFound.enc = two ((P ++ X.take t).map GFound.enc) x.enc [] y.enc ((X.drop (t + 1) ++ Q).map GFound.enc) := by simp [two, take_snoc hx]
        have e2 : (P ++ (X.take t ++ y :: X.drop t) ++ Q).map GFound.enc = two ((P ++ X.take t).map GFound.enc) y.enc [] x.enc ((X.drop (t + 1) ++ Q).map GFound.enc) := by simp [two, drop_cons hx]
        have hA : ((P ++ X.take t).map GFound.enc).length = a + t := by simp; omega
        have hL0 : ∀ p q, (two ((P ++ X.take t).map GFound.enc) p [] q ((X.drop (t + 1) ++ Q).map GFound.enc)).length = N := fun p q => by
         rw [← hlt t]; simp [two, drop_cons hx]
        generalize (P ++ X.take t).map GFound.enc = A at *
        generalize (X.drop (t + 1) ++ Q).map GFound.enc = C at *
        obtain ⟨g1, g2, s1, s2, hL, d1, d2⟩ := two_at (A := A) (B := []) (C := C) (p := a + t) (q := a + t + 1) hA (by simp)
        have k1 : (0 : Int) ≤ ((a + t : Nat) : Int) := by omega
        have k2 : ((a + t : Nat) : Int) < (N : Int) := by omega
        have k3 : (0 : Int) ≤ ((a + t + 1 : Nat) : Int) := by omega
        have k4 : ((a + t + 1 : Nat) : Int) < (N : Int) := by omega
        have k5 : ((a + t + 1 : Nat) : Int) > ((a + u : Nat) : Int) := by omega
        have k6 : IntKind.i64.wrap (((a + t + 1 : Nat) : Int) - 1) = ((a + t : Nat) : Int) := by
         rw [wI (by omega) (by omega)]; omega
        rw [e1, show a + (t + 1) = a + t + 1 from rfl]
        simp only [↓reduceIte, reduceEqDiff, reduceLT, reduceAdd, reduceCtorEq, go_sem, hL0, g1, g2, s1, s2, k1, k2, k3, k4, k5, k6]
        exact ⟨t, ⟨rfl, e2.symm⟩, ⟨by omega, by omega⟩, by omega⟩
       ·obtain rfl : t = u := by omega
        simp only [↓reduceIte, reduceEqDiff, reduceLT, reduceCtorEq, go_sem]
        rw [hres]
   ·obtain ⟨M, hM⟩ : ∃ M, M = (X.length + Y.length) / 2 := ⟨_, rfl⟩
    have hmid : (a + b) / 2 = a + M := by omega
    have hxa : ∀ w, w < X.length → (P ++ X ++ Y ++ Q)[a + w]? = X[w]? := fun w hw => by
     rw [List.append_assoc, List.append_assoc, List.getElem?_append_right (by omega), List.getElem?_append_left (by omega)]
     congr 1; omega
    have hya : ∀ w, w < Y.length → (P ++ X ++ Y ++ Q)[m + w]? = Y[w]? := fun w hw => by
     rw [List.append_assoc, List.getElem?_append_right (by omega), List.getElem?_append_left (by omega)]
     congr 1; omega
    simp only [↓reduceIte, reduceEqDiff, reduceLT, reduceCtorEq, go_sem, shr1, half_of (i := a) (j := b) (by omega), hmid, wK (k := a + M) (by omega), wN (a := a + M) (b := m) (by omega)]
    refine ⟨fun h3 => ?_, fun h3 => ?_⟩
    ·have hs : IntKind.i64.wrap (((a + M + m : Nat) : Int) - (b : Int)) = ((a + (M - Y.length) : Nat) : Int) := by
      rw [wI (by omega) (by omega)]; omega
     simp only [go_sem, hs, wS1 (a := a + M + m) (by omega) (by omega)]
     obtain ⟨u0, hu0⟩ : ∃ u, u = M - Y.length := ⟨_, rfl⟩
     obtain ⟨v0, hv0⟩ : ∃ v, v = M := ⟨_, rfl⟩
     rw [← hu0]
     have q1 : u0 ≤ v0 := by omega
     have q2 : v0 ≤ M := by omega
     have q3 : v0 ≤ X.length := by omega
     have q4 : M ≤ u0 + Y.length := by omega
     have q5 : u0 = 0 ∨ Y.length ≤ M - u0 := by omega
     have q6 : v0 = M ∨ v0 = X.length := by omega
     have q7 : a + M = a + v0 := by omega
     refine loopK_up (ι := Nat × Nat) (fun s => [(20, vI ((a + s.1 : Nat) : Int)), (21, vI ((a + s.2 : Nat) : Int))]) (fun s => []) (fun s => SymI (ltc c) X Y M u0 v0 s.1 s.2) (fun s => s.2 - s.1) (u0, v0) ?_
     simp only [↓reduceIte, reduceEqDiff, reduceCtorEq, go_sem]
     refine ⟨?_, ⟨by omega, q1, by omega, q5.imp_right .inl, q6.imp_right .inl⟩, ?_⟩
     ·simp only [↓reduceIte, reduceEqDiff, reduceLT, reduceCtorEq, go_sem]
      first | exact ⟨by omega, by omega⟩ | omega
     ·rintro ⟨u, v⟩ hI
      obtain ⟨i1, i2, i3, i4, i5⟩ := hI
      simp only at i1 i2 i3 i4 i5
      simp only [↓reduceIte, reduceEqDiff, reduceLT, reduceAdd, reduceCtorEq, go_sem, hN, shr1, half_of (i := a + u) (j := a + v) (by omega)]
      refine ⟨fun hlt => ?_, fun hge => ?_⟩
      ·have hwx : (a + u + (a + v)) / 2 = a + (u + v) / 2 := by omega
       have w1 : u ≤ (u + v) / 2 := by omega
       have w2 : (u + v) / 2 < v := by omega
       rw [hwx]
       generalize (u + v) / 2 = w at w1 w2
       have hpc : IntKind.i64.wrap (((a + M + m - 1 : Nat) : Int) - ((a + w : Nat) : Int)) = ((m + (M - 1 - w) : Nat) : Int) := by
        rw [wI (by omega) (by omega)]; omega
       obtain ⟨x, hx⟩ := at_some (show w < X.length by omega)
       obtain ⟨y, hy⟩ := at_some (show M - 1 - w < Y.length by omega)
       have hxw := (hxa w (by omega)).trans hx
       have hyw := (hya (M - 1 - w) (by omega)).trans hy
       have k1 : (0 : Int) ≤ ((a + w : Nat) : Int) := by omega
       have k2 : ((a + w : Nat) : Int) < (N : Int) := by omega
       have k3 : (0 : Int) ≤ ((m + (M - 1 - w) : Nat) : Int) := by omega
       have k4 : ((m + (M - 1 - w) : Nat) : Int) < (N : Int) := by omega
       simp only [go_sem, wK (k := a + w) (by omega), hpc, k1, k2, k3, k4, bk_eq hxw, bk_eq hyw]
       apply callK_of (hc y x)
       simp only [↓reduceIte, reduceEqDiff, reduceLT, reduceCtorEq, go_sem, wN1 (a := a + w) (by omega)]
       intro _
       refine ⟨fun hn => ⟨(w + 1, v), ⟨rfl, rfl⟩, ⟨by omega, by omega, i3, .inr (.inr ⟨y, x, by rw [show M - (w + 1) = M - 1 - w by omega]; exact hy, hx, by simpa [ltc] using hn⟩), i5⟩, by show v - (w + 1) < v - u; omega⟩, fun hn => ⟨(u, w), ⟨rfl, rfl⟩, ⟨i1, w1, by omega, i4, .inr (.inr ⟨y, x, hy, hx, by simpa [ltc] using hn⟩)⟩, by show w - u < v - u; omega⟩⟩
      ·obtain rfl : u = v := by omega
       obtain ⟨A1, A2, B1, B2, rfl, rfl, hA1, hB1, huM, hres, t1, t2, t3, t4⟩ := SymI.fin hw ⟨i1, i2, i3, i4, i5⟩ sX sY q2 q3 q4
       have hend : IntKind.i64.wrap (((a + M + m : Nat) : Int) - ((a + u : Nat) : Int)) = ((m + (M - u) : Nat) : Int) := by
        rw [wI (by omega) (by omega)]; omega
       have r0 : P ++ (A1 ++ A2) ++ (B1 ++ B2) ++ Q = (P ++ A1) ++ A2 ++ B1 ++ (B2 ++ Q) := by simp
       have r1 : (P ++ A1) ++ B1 ++ A2 ++ (B2 ++ Q) = P ++ A1 ++ B1 ++ (A2 ++ (B2 ++ Q)) := by simp
       have r2 : A2.length = 0 ∨ B1.length = 0 → P ++ (A1 ++ A2) ++ (B1 ++ B2) ++ Q = P ++ A1 ++ B1 ++ (A2 ++ (B2 ++ Q)) := fun h => by
        rcases h with h | h
        ·rw [List.length_eq_zero_iff.1 h]; simp
        ·rw [List.length_eq_zero_iff.1 h]; simp
       have r3 : A1.length = 0 ∨ B1.length = 0 → P ++ A1 ++ B1 ++ (A2 ++ (B2 ++ Q)) = (P ++ Srt.mrg (ltc c) A1 B1) ++ A2 ++ B2 ++ Q := fun h => by
        rcases h with h | h
        ·rw [List.length_eq_zero_iff.1 h, Srt.mrg_nil_srt hw t3]; simp
        ·rw [List.length_eq_zero_iff.1 h, Srt.mrg_nil]; simp
       have r4 : P ++ Srt.mrg (ltc c) A1 B1 ++ (A2 ++ (B2 ++ Q)) = (P ++ Srt.mrg (ltc c) A1 B1) ++ A2 ++ B2 ++ Q := by simp
       have r5 : A2.length = 0 ∨ B2.length = 0 → (P ++ Srt.mrg (ltc c) A1 B1) ++ A2 ++ B2 ++ Q = (P ++ Srt.mrg (ltc c) A1 B1) ++ Srt.mrg (ltc c) A2 B2 ++ Q := fun h => by
        rcases h with h | h
        ·rw [List.length_eq_zero_iff.1 h, Srt.mrg_nil_srt hw t4]; simp
        ·rw [List.length_eq_zero_iff.1 h, Srt.mrg_nil]; simp
       have r6 : P ++ Srt.mrg (ltc c) (A1 ++ A2) (B1 ++ B2) ++ Q = (P ++ Srt.mrg (ltc c) A1 B1) ++ Srt.mrg (ltc c) A2 B2 ++ Q := by rw [hres]; simp
       obtain ⟨⟨l0, l1, l2, l3, l4, l5⟩, ⟨L1, L2, L3, L4, L5, L6, L7⟩, hn1, hn2, ⟨eA, eB, eC, eD, eE, eF⟩, h7⟩ := symL (ltc c) ha hA1 hB1 huM hm' hb' hN hM hn h1 h2 hX hY
       clear hxa hya hres i4 i5
       rcases h7 with ⟨z1, z2, z3, z4⟩ | ⟨z1, z2, z3, z4⟩ | ⟨z1, z2, z3, z4⟩ | ⟨z1, z2, z3, z4⟩ | ⟨z1, z2, z3, z4⟩ | ⟨z1, z2, z3, z4⟩ | ⟨z1, z2, z3, z4⟩
       ·have fA := lt_yes A2.length eA z2
        have fB := lt_yes B1.length eB z3
        have fC := lt_yes A1.length eC z1
        have fD := lt_yes B1.length eD z3
        have fE := lt_yes A2.length eE z2
        have fF := lt_yes B2.length eF z4
        simp only [go_sem, hend, fA, fB, fC, fD, fE, fF]
        rw [r0]
        apply callIK_of (c_slices_rotateCmpFunc (P ++ A1) A2 B1 (B2 ++ Q) f L1 L2 L3 z2 z3)
        simp only [↓reduceIte, reduceEqDiff, reduceLT, reduceCtorEq, go_sem, fC, fD, l0]
        rw [r1]
        apply callIK_of (ih P A1 B1 (A2 ++ (B2 ++ Q)) hn1 ha L1 L4 z1 z3 t1 t3)
        simp only [↓reduceIte, reduceEqDiff, reduceLT, reduceCtorEq, go_sem, fE, fF, l4]
        rw [r4]
        apply callIK_of (ih (P ++ Srt.mrg (ltc c) A1 B1) A2 B2 Q hn2 L5 L6 L7 z2 z4 t2 t4)
        simp only [↓reduceIte, reduceCtorEq, go_sem]
        rw [r6]
       ·have fA := lt_yes A2.length eA z2
        have fB := lt_yes B1.length eB z3
        have fC := lt_no A1.length eC z1
        have fD := lt_yes B1.length eD z3
        have fE := lt_yes A2.length eE z2
        have fF := lt_yes B2.length eF z4
        simp only [go_sem, hend, fA, fB, fC, fD, fE, fF]
        rw [r0]
        apply callIK_of (c_slices_rotateCmpFunc (P ++ A1) A2 B1 (B2 ++ Q) f L1 L2 L3 z2 z3)
        simp only [↓reduceIte, reduceEqDiff, reduceLT, reduceCtorEq, go_sem, fC, fE, fF, l0]
        rw [r1]
        rw [r3 (.inl z1)]
        apply callIK_of (ih (P ++ Srt.mrg (ltc c) A1 B1) A2 B2 Q hn2 L5 L6 L7 z2 z4 t2 t4)
        simp only [↓reduceIte, reduceCtorEq, go_sem]
        rw [r6]
       ·have fA := lt_no A2.length eA z2
        have fB := lt_yes B1.length eB z3
        have fC := lt_yes A1.length eC z1
        have fD := lt_yes B1.length eD z3
        have fE := lt_no A2.length eE z2
        have fF := lt_yes B2.length eF z4
        simp only [go_sem, hend, fA, fB, fC, fD, fE, fF]
        rw [r2 (.inl z2)]
        apply callIK_of (ih P A1 B1 (A2 ++ (B2 ++ Q)) hn1 ha L1 L4 z1 z3 t1 t3)
        simp only [↓reduceIte, reduceEqDiff, reduceLT, reduceCtorEq, go_sem, fE]
        rw [r4]
        rw [r5 (.inl z2)]
        rw [r6]
       ·have fA := lt_yes A2.length eA z2
        have fB := lt_no B1.length eB z3
        have fC := lt_yes A1.length eC z1
        have fD := lt_no B1.length eD z3
        have fE := lt_yes A2.length eE z2
        have fF := lt_yes B2.length eF z4
        simp only [go_sem, hend, fA, fB, fC, fD, fE, fF]
        rw [r2 (.inr z3)]
        rw [r3 (.inr z3)]
        apply callIK_of (ih (P ++ Srt.mrg (ltc c) A1 B1) A2 B2 Q hn2 L5 L6 L7 z2 z4 t2 t4)
        simp only [↓reduceIte, reduceCtorEq, go_sem]
        rw [r6]
       ·have fA := lt_yes A2.length eA z2
        have fB := lt_yes B1.length eB z3
        have fC := lt_yes A1.length eC z1
        have fD := lt_yes B1.length eD z3
        have fE := lt_yes A2.length eE z2
        have fF := lt_no B2.length eF z4
        simp only [go_sem, hend, fA, fB, fC, fD, fE, fF]
        rw [r0]
        apply callIK_of (c_slices_rotateCmpFunc (P ++ A1) A2 B1 (B2 ++ Q) f L1 L2 L3 z2 z3)
        simp only [↓reduceIte, reduceEqDiff, reduceLT, reduceCtorEq, go_sem, fC, fD, l0]
        rw [r1]
        apply callIK_of (ih P A1 B1 (A2 ++ (B2 ++ Q)) hn1 ha L1 L4 z1 z3 t1 t3)
        simp only [↓reduceIte, reduceEqDiff, reduceLT, reduceCtorEq, go_sem, fE, fF]
        rw [r4]
        rw [r5 (.inr z4)]
        rw [r6]
       ·have fA := lt_yes A2.length eA z2
        have fB := lt_yes B1.length eB z3
        have fC := lt_no A1.length eC z1
        have fD := lt_yes B1.length eD z3
        have fE := lt_yes A2.length eE z2
        have fF := lt_no B2.length eF z4
        simp only [go_sem, hend, fA, fB, fC, fD, fE, fF]
        rw [r0]
        apply callIK_of (c_slices_rotateCmpFunc (P ++ A1) A2 B1 (B2 ++ Q) f L1 L2 L3 z2 z3)
        simp only [↓reduceIte, reduceEqDiff, reduceLT, reduceCtorEq, go_sem, fC, fE, fF]
        rw [r1]
        rw [r3 (.inl z1)]
        rw [r5 (.inr z4)]
        rw [r6]
       ·have fA := lt_no A2.length eA z2
        have fB := lt_no B1.length eB z3
        have fC := lt_yes A1.length eC z1
        have fD := lt_no B1.length eD z3
        have fE := lt_no A2.length eE z2
        have fF := lt_yes B2.length eF z4
        simp only [go_sem, hend, fA, fB, fC, fD, fE, fF]
        rw [r2 (.inl z2)]
        rw [r3 (.inr z3)]
        rw [r5 (.inl z2)]
        rw [r6]
    ·simp only [go_sem, wS1 (a := a + M + m) (by omega) (by omega)]
     obtain ⟨u0, hu0⟩ : ∃ u, u = 0 := ⟨_, rfl⟩
     obtain ⟨v0, hv0⟩ : ∃ v, v = X.length := ⟨_, rfl⟩
     have q1 : u0 ≤ v0 := by omega
     have q2 : v0 ≤ M := by omega
     have q3 : v0 ≤ X.length := by omega
     have q4 : M ≤ u0 + Y.length := by omega
     have q5 : u0 = 0 ∨ Y.length ≤ M - u0 := by omega
     have q6 : v0 = M ∨ v0 = X.length := by omega
     refine loopK_up (ι := Nat × Nat) (fun s => [(20, vI ((a + s.1 : Nat) : Int)), (21, vI ((a + s.2 : Nat) : Int))]) (fun s => []) (fun s => SymI (ltc c) X Y M u0 v0 s.1 s.2) (fun s => s.2 - s.1) (u0, v0) ?_
     simp only [↓reduceIte, reduceEqDiff, reduceCtorEq, go_sem]
     refine ⟨?_, ⟨by omega, q1, by omega, q5.imp_right .inl, q6.imp_right .inl⟩, ?_⟩
     ·simp only [↓reduceIte, reduceEqDiff, reduceLT, reduceCtorEq, go_sem]
      first | exact ⟨by omega, by omega⟩ | omega
     ·rintro ⟨u, v⟩ hI
      obtain ⟨i1, i2, i3, i4, i5⟩ := hI
      simp only at i1 i2 i3 i4 i5
      simp only [↓reduceIte, reduceEqDiff, reduceLT, reduceAdd, reduceCtorEq, go_sem, hN, shr1, half_of (i := a + u) (j := a + v) (by omega)]
      refine ⟨fun hlt => ?_, fun hge => ?_⟩
      ·have hwx : (a + u + (a + v)) / 2 = a + (u + v) / 2 := by omega
       have w1 : u ≤ (u + v) / 2 := by omega
       have w2 : (u + v) / 2 < v := by omega
       rw [hwx]
       generalize (u + v) / 2 = w at w1 w2
       have hpc : IntKind.i64.wrap (((a + M + m - 1 : Nat) : Int) - ((a + w : Nat) : Int)) = ((m + (M - 1 - w) : Nat) : Int) := by
        rw [wI (by omega) (by omega)]; omega
       obtain ⟨x, hx⟩ := at_some (show w < X.length by omega)
       obtain ⟨y, hy⟩ := at_some (show M - 1 - w < Y.length by omega)
       have hxw := (hxa w (by omega)).trans hx
       have hyw := (hya (M - 1 - w) (by omega)).trans hy
       have k1 : (0 : Int) ≤ ((a + w : Nat) : Int) := by omega
       have k2 : ((a + w : Nat) : Int) < (N : Int) := by omega
       have k3 : (0 : Int) ≤ ((m + (M - 1 - w) : Nat) : Int) := by omega
       have k4 : ((m + (M - 1 - w) : Nat) : Int) < (N : Int) := by omega
       simp only [go_sem, wK (k := a + w) (by omega), hpc, k1, k2, k3, k4, bk_eq hxw, bk_eq hyw]
       apply callK_of (hc y x)
       simp only [↓reduceIte, reduceEqDiff, reduceLT, reduceCtorEq, go_sem, wN1 (a := a + w) (by omega)]
       intro _
       refine ⟨fun hn => ⟨(w + 1, v), ⟨rfl, rfl⟩, ⟨by omega, by omega, i3, .inr (.inr ⟨y, x, by rw [show M - (w + 1) = M - 1 - w by omega]; exact hy, hx, by simpa [ltc] using hn⟩), i5⟩, by show v - (w + 1) < v - u; omega⟩, fun hn => ⟨(u, w), ⟨rfl, rfl⟩, ⟨i1, w1, by omega, i4, .inr (.inr ⟨y, x, hy, hx, by simpa [ltc] using hn⟩)⟩, by show w - u < v - u; omega⟩⟩
      ·obtain rfl : u = v := by omega
       obtain ⟨A1, A2, B1, B2, rfl, rfl, hA1, hB1, huM, hres, t1, t2, t3, t4⟩ := SymI.fin hw ⟨i1, i2, i3, i4, i5⟩ sX sY q2 q3 q4
       have hend : IntKind.i64.wrap (((a + M + m : Nat) : Int) - ((a + u : Nat) : Int)) = ((m + (M - u) : Nat) : Int) := by
        rw [wI (by omega) (by omega)]; omega
       have r0 : P ++ (A1 ++ A2) ++ (B1 ++ B2) ++ Q = (P ++ A1) ++ A2 ++ B1 ++ (B2 ++ Q) := by simp
       have r1 : (P ++ A1) ++ B1 ++ A2 ++ (B2 ++ Q) = P ++ A1 ++ B1 ++ (A2 ++ (B2 ++ Q)) := by simp
       have r2 : A2.length = 0 ∨ B1.length = 0 → P ++ (A1 ++ A2) ++ (B1 ++ B2) ++ Q = P ++ A1 ++ B1 ++ (A2 ++ (B2 ++ Q)) := fun h => by
        rcases h with h | h
        ·rw [List.length_eq_zero_iff.1 h]; simp
        ·rw [List.length_eq_zero_iff.1 h]; simp
       have r3 : A1.length = 0 ∨ B1.length = 0 → P ++ A1 ++ B1 ++ (A2 ++ (B2 ++ Q)) = (P ++ Srt.mrg (ltc c) A1 B1) ++ A2 ++ B2 ++ Q := fun h => by
        rcases h with h | h
        ·rw [List.length_eq_zero_iff.1 h, Srt.mrg_nil_srt hw t3]; simp
        ·rw [List.length_eq_zero_iff.1 h, Srt.mrg_nil]; simp
       have r4 : P ++ Srt.mrg (ltc c) A1 B1 ++ (A2 ++ (B2 ++ Q)) = (P ++ Srt.mrg (ltc c) A1 B1) ++ A2 ++ B2 ++ Q := by simp
       have r5 : A2.length = 0 ∨ B2.length = 0 → (P ++ Srt.mrg (ltc c) A1 B1) ++ A2 ++ B2 ++ Q = (P ++ Srt.mrg (ltc c) A1 B1) ++ Srt.mrg (ltc c) A2 B2 ++ Q := fun h => by
        rcases h with h | h
        ·rw [List.length_eq_zero_iff.1 h, Srt.mrg_nil_srt hw t4]; simp
        ·rw [List.length_eq_zero_iff.1 h, Srt.mrg_nil]; simp
       have r6 : P ++ Srt.mrg (ltc c) (A1 ++ A2) (B1 ++ B2) ++ Q = (P ++ Srt.mrg (ltc c) A1 B1) ++ Srt.mrg (ltc c) A2 B2 ++ Q := by rw [hres]; simp
       obtain ⟨⟨l0, l1, l2, l3, l4, l5⟩, ⟨L1, L2, L3, L4, L5, L6, L7⟩, hn1, hn2, ⟨eA, eB, eC, eD, eE, eF⟩, h7⟩ := symL (ltc c) ha hA1 hB1 huM hm' hb' hN hM hn h1 h2 hX hY
       clear hxa hya hres i4 i5
       rcases h7 with ⟨z1, z2, z3, z4⟩ | ⟨z1, z2, z3, z4⟩ | ⟨z1, z2, z3, z4⟩ | ⟨z1, z2, z3, z4⟩ | ⟨z1, z2, z3, z4⟩ | ⟨z1, z2, z3, z4⟩ | ⟨z1, z2, z3, z4⟩
       ·have fA := lt_yes A2.length eA z2
        have fB := lt_yes B1.length eB z3
        have fC := lt_yes A1.length eC z1
        have fD := lt_yes B1.length eD z3
        have fE := lt_yes A2.length eE z2
        have fF := lt_yes B2.length eF z4
        simp only [go_sem, hend, fA, fB, fC, fD, fE, fF]
        rw [r0]
        apply callIK_of (c_slices_rotateCmpFunc (P ++ A1) A2 B1 (B2 ++ Q) f L1 L2 L3 z2 z3)
        simp only [↓reduceIte, reduceEqDiff, reduceLT, reduceCtorEq, go_sem, fC, fD, l0]
        rw [r1]
        apply callIK_of (ih P A1 B1 (A2 ++ (B2 ++ Q)) hn1 ha L1 L4 z1 z3 t1 t3)
        simp only [↓reduceIte, reduceEqDiff, reduceLT, reduceCtorEq, go_sem, fE, fF, l4]
        rw [r4]
        apply callIK_of (ih (P ++ Srt.mrg (ltc c) A1 B1) A2 B2 Q hn2 L5 L6 L7 z2 z4 t2 t4)
        simp only [↓reduceIte, reduceCtorEq, go_sem]
        rw [r6]
       ·have fA := lt_yes A2.length eA z2
        have fB := lt_yes B1.length eB z3
        have fC := lt_no A1.length eC z1
        have fD := lt_yes B1.length eD z3
        have fE := lt_yes A2.length eE z2
        have fF := lt_yes B2.length eF z4
        simp only [go_sem, hend, fA, fB, fC, fD, fE, fF]
        rw [r0]
        apply callIK_of (c_slices_rotateCmpFunc (P ++ A1) A2 B1 (B2 ++ Q) f L1 L2 L3 z2 z3)
        simp only [↓reduceIte, reduceEqDiff, reduceLT, reduceCtorEq, go_sem, fC, fE, fF, l0]
        rw [r1]
        rw [r3 (.inl z1)]
        apply callIK_of (ih (P ++ Srt.mrg (ltc c) A1 B1) A2 B2 Q hn2 L5 L6 L7 z2 z4 t2 t4)
        simp only [↓reduceIte, reduceCtorEq, go_sem]
        rw [r6]
       ·have fA := lt_no A2.length eA z2
        have fB := lt_yes B1.length eB z3
        have fC := lt_yes A1.length eC z1
        have fD := lt_yes B1.length eD z3
        have fE := lt_no A2.length eE z2
        have fF := lt_yes B2.length eF z4
        simp only [go_sem, hend, fA, fB, fC, fD, fE, fF]
        rw [r2 (.inl z2)]
        apply callIK_of (ih P A1 B1 (A2 ++ (B2 ++ Q)) hn1 ha L1 L4 z1 z3 t1 t3)
        simp only [↓reduceIte, reduceEqDiff, reduceLT, reduceCtorEq, go_sem, fE]
        rw [r4]
        rw [r5 (.inl z2)]
        rw [r6]
       ·have fA := lt_yes A2.length eA z2
        have fB := lt_no B1.length eB z3
        have fC := lt_yes A1.length eC z1
        have fD := lt_no B1.length eD z3
        have fE := lt_yes A2.length eE z2
        have fF := lt_yes B2.length eF z4
        simp only [go_sem, hend, fA, fB, fC, fD, fE, fF]
        rw [r2 (.inr z3)]
        rw [r3 (.inr z3)]
        apply callIK_of (ih (P ++ Srt.mrg (ltc c) A1 B1) A2 B2 Q hn2 L5 L6 L7 z2 z4 t2 t4)
        simp only [↓reduceIte, reduceCtorEq, go_sem]
        rw [r6]
       ·have fA := lt_yes A2.length eA z2
        have fB := lt_yes B1.length eB z3
        have fC := lt_yes A1.length eC z1
        have fD := lt_yes B1.length eD z3
        have fE := lt_yes A2.length eE z2
        have fF := lt_no B2.length eF z4
        simp only [go_sem, hend, fA, fB, fC, fD, fE, fF]
        rw [r0]
        apply callIK_of (c_slices_rotateCmpFunc (P ++ A1) A2 B1 (B2 ++ Q) f L1 L2 L3 z2 z3)
        simp only [↓reduceIte, reduceEqDiff, reduceLT, reduceCtorEq, go_sem, fC, fD, l0]
        rw [r1]
        apply callIK_of (ih P A1 B1 (A2 ++ (B2 ++ Q)) hn1 ha L1 L4 z1 z3 t1 t3)
        simp only [↓reduceIte, reduceEqDiff, reduceLT, reduceCtorEq, go_sem, fE, fF]
        rw [r4]
        rw [r5 (.inr z4)]
        rw [r6]
       ·have fA := lt_yes A2.length eA z2
        have fB := lt_yes B1.length eB z3
        have fC := lt_no A1.length eC z1
        have fD := lt_yes B1.length eD z3
        have fE := lt_yes A2.length eE z2
        have fF := lt_no B2.length eF z4
        simp only [go_sem, hend, fA, fB, fC, fD, fE, fF]
        rw [r0]
        apply callIK_of (c_slices_rotateCmpFunc (P ++ A1) A2 B1 (B2 ++ Q) f L1 L2 L3 z2 z3)
        simp only [↓reduceIte, reduceEqDiff, reduceLT, reduceCtorEq, go_sem, fC, fE, fF]
        rw [r1]
        rw [r3 (.inl z1)]
        rw [r5 (.inr z4)]
        rw [r6]
       ·have fA := lt_no A2.length eA z2
        have fB := lt_no B1.length eB z3
        have fC := lt_yes A1.length eC z1
        have fD := lt_no B1.length eD z3
        have fE := lt_no A2.length eE z2
        have fF := lt_yes B2.length eF z4
        simp only [go_sem, hend, fA, fB, fC, fD, fE, fF]
        rw [r2 (.inl z2)]
        rw [r3 (.inr z3)]
        rw [r5 (.inl z2)]
        rw [r6]
end Go.Proofs.YtpclnmleldeleaaGreatR
namespace Go.Proofs.YtpclnmleldeleaaGreatR
open Go Go.RowKit Go.Proofs
open Nat (reduceEqDiff reduceLT reduceLeDiff reduceAdd reduceMul)
open List (reduceReplicate)
set_option linter.unusedSimpArgs false
set_option linter.unusedVariables false
namespace Srt
variable {α : Type} {lt : α → α → Bool}
def blks (lt : α → α → Bool) (s : Nat) : Nat → List α → List α
 | 0, l => l
 | k + 1, l => isort lt (l.take s) ++ blks lt s k (l.drop s)
theorem len_blks {s : Nat} : ∀ {k : Nat} {l : List α}, (blks lt s k l).length = l.length
 | 0, l => rfl
 | k + 1, l => by
  simp only [blks, List.length_append, len_isort, len_blks, List.length_take, List.length_drop]; omega
theorem blks_snoc {s : Nat} : ∀ {k : Nat} {l : List α}, (k + 1) * s ≤ l.length → ∃ A, A.length = k * s ∧ blks lt s k l = A ++ ((l.drop (k * s)).take s ++ l.drop ((k + 1) * s)) ∧ blks lt s (k + 1) l = A ++ (isort lt ((l.drop (k * s)).take s) ++ l.drop ((k + 1) * s))
 | 0, l, h => ⟨[], by simp, by simp [blks], by simp [blks]⟩
 | k + 1, l, h => by
  have h' : (k + 1) * s ≤ (l.drop s).length := by
   rw [Nat.succ_mul] at h
   simp only [List.length_drop]; omega
  obtain ⟨A, hA, e1, e2⟩ := blks_snoc (k := k) (l := l.drop s) h'
  have d1 : s + k * s = (k + 1) * s := by rw [Nat.succ_mul]; omega
  have d2 : s + (k + 1) * s = (k + 1 + 1) * s := by rw [Nat.succ_mul (k + 1)]; omega
  have hs : s ≤ l.length := by rw [Nat.succ_mul] at h; omega
  refine ⟨isort lt (l.take s) ++ A, ?_, ?_, ?_⟩
  ·rw [List.length_append, len_isort, List.length_take, Nat.min_eq_left hs, hA, d1]
  ·rw [blks, e1, List.drop_drop, List.drop_drop, d1, d2, List.append_assoc]
  ·rw [blks, e2, List.drop_drop, List.drop_drop, d1, d2, List.append_assoc]
theorem blks_last {s : Nat} : ∀ {k : Nat} {l : List α}, k * s ≤ l.length → l.length < (k + 1) * s → ∃ A, A.length = k * s ∧ blks lt s k l = A ++ l.drop (k * s) ∧ blks lt s (k + 1) l = A ++ isort lt (l.drop (k * s))
 | 0, l, _, h => by
  have h' : l.length ≤ s := by omega
  exact ⟨[], by simp, by simp [blks], by simp [blks, List.take_of_length_le h', List.drop_of_length_le h']⟩
 | k + 1, l, h0, h => by
  have d1 : s + k * s = (k + 1) * s := by rw [Nat.succ_mul]; omega
  have d2 : s + (k + 1) * s = (k + 1 + 1) * s := by rw [Nat.succ_mul (k + 1)]; omega
  have h1 : k * s + s ≤ l.length := by rw [← Nat.succ_mul]; exact h0
  have h2 : l.length < k * s + s + s := by rw [← Nat.succ_mul, ← Nat.succ_mul]; exact h
  obtain ⟨A, hA, e1, e2⟩ := blks_last (k := k) (l := l.drop s) (Nat.le_trans (Nat.le_sub_of_add_le h1) (by rw [List.length_drop]; exact Nat.le_refl _)) (by rw [List.length_drop, Nat.succ_mul]; exact Nat.sub_lt_right_of_lt_add (Nat.le_trans (Nat.le_add_left _ _) h1) h2)
  have hs : s ≤ l.length := Nat.le_trans (Nat.le_add_left _ _) h1
  refine ⟨isort lt (l.take s) ++ A, ?_, ?_, ?_⟩
  ·rw [List.length_append, len_isort, List.length_take, Nat.min_eq_left hs, hA, d1]
  ·rw [blks, e1, List.drop_drop, d1, List.append_assoc]
  ·rw [blks, e2, List.drop_drop, d1, List.append_assoc]
theorem blk_le {s : Nat} {l : List α} (h : l.length ≤ s) : blk lt s l = isort lt l := by
 rw [blk, dif_pos (.inr h)]
theorem blk_eq {s : Nat} {l : List α} : blk lt s l = isort lt (l.take s) ++ blk lt s (l.drop s) := by
 by_cases h : s = 0 ∨ l.length ≤ s
 ·rcases h with rfl | h
  ·simp [isort, mrg]
  ·rw [blk_le h, List.take_of_length_le h, List.drop_of_length_le h, blk_le (by simp)]
   simp [isort, mrg]
 ·rw [blk, dif_neg h]
theorem len_blk {s : Nat} : ∀ {n : Nat} {l : List α}, l.length ≤ n → (blk lt s l).length = l.length
 | 0, l, h => by rw [blk_le (by omega), len_isort]
 | n + 1, l, h => by
  by_cases h2 : s = 0 ∨ l.length ≤ s
  ·rw [blk, dif_pos h2, len_isort]
  ·rw [blk_eq, List.length_append, len_isort, len_blk (n := n) (by simp only [List.length_drop]; omega), List.length_take, List.length_drop]
   omega
theorem blks_blk {s : Nat} : ∀ {k : Nat} {l : List α}, k * s ≤ l.length → l.length < (k + 1) * s → blks lt s (k + 1) l = blk lt s l
 | 0, l, _, h => by
  have h' : l.length ≤ s := by omega
  rw [blk_le h']
  simp [blks, List.take_of_length_le h', List.drop_of_length_le h']
 | k + 1, l, h0, h => by
  rw [Nat.succ_mul] at h0 h
  rw [blks, blk_eq, blks_blk (k := k) (l := l.drop s) (by rw [List.length_drop]; omega) (by rw [List.length_drop]; omega)]
def mix (lt : α → α → Bool) (s : Nat) : Nat → List α → List α
 | 0, l => blk lt s l
 | k + 1, l => isort lt (l.take (2 * s)) ++ mix lt s k (l.drop (2 * s))
theorem len_mix {s : Nat} : ∀ {k : Nat} {l : List α}, (mix lt s k l).length = l.length
 | 0, l => len_blk (Nat.le_refl _)
 | k + 1, l => by
  rw [mix, List.length_append, len_isort, len_mix, List.length_take, List.length_drop]; omega
theorem mix_step (hw : Swo lt) {s : Nat} : ∀ {k : Nat} {l : List α}, k * (2 * s) + 2 * s ≤ l.length → ∃ P X Y Q, P.length = k * (2 * s) ∧ X.length = s ∧ Y.length = s ∧ srt lt X ∧ srt lt Y ∧ mix lt s k l = P ++ X ++ Y ++ Q ∧ mix lt s (k + 1) l = P ++ mrg lt X Y ++ Q
 | 0, l, h => by
  refine ⟨[], isort lt (l.take s), isort lt ((l.drop s).take s), blk lt s (l.drop (2 * s)), by simp, ?_, ?_, srt_isort hw _, srt_isort hw _, ?_, ?_⟩
  ·rw [len_isort, List.length_take]; omega
  ·rw [len_isort, List.length_take, List.length_drop]; omega
  ·rw [mix, blk_eq, blk_eq (l := l.drop s), List.drop_drop, show s + s = 2 * s by omega]
   simp
  ·rw [← isort_append hw, mix, mix, List.nil_append, ← List.take_add, show s + s = 2 * s by omega]
 | k + 1, l, h => by
  have e : (k + 1) * (2 * s) = k * (2 * s) + 2 * s := Nat.succ_mul ..
  rw [e] at h
  obtain ⟨P, X, Y, Q, h1, h2, h3, h4, h5, h6, h7⟩ := mix_step hw (s := s) (k := k) (l := l.drop (2 * s)) (by rw [List.length_drop]; omega)
  refine ⟨isort lt (l.take (2 * s)) ++ P, X, Y, Q, ?_, h2, h3, h4, h5, ?_, ?_⟩
  ·rw [List.length_append, len_isort, h1, List.length_take, e]; omega
  ·rw [mix, h6]; simp
  ·rw [mix, h7]; simp
theorem mix_end (hw : Swo lt) {s : Nat} : ∀ {k : Nat} {l : List α}, k * (2 * s) ≤ l.length → l.length < k * (2 * s) + 2 * s →
  (k * (2 * s) + s < l.length → ∃ P X Y, P.length = k * (2 * s) ∧ X.length = s ∧ k * (2 * s) + s + Y.length = l.length ∧ srt lt X ∧ srt lt Y ∧ mix lt s k l = P ++ X ++ Y ∧ blk lt (2 * s) l = P ++ mrg lt X Y) ∧
  (l.length ≤ k * (2 * s) + s → mix lt s k l = blk lt (2 * s) l)
 | 0, l, h0, h => by
  refine ⟨fun h1 => ⟨[], isort lt (l.take s), isort lt (l.drop s), by simp, ?_, ?_, srt_isort hw _, srt_isort hw _, ?_, ?_⟩, fun h1 => ?_⟩
  ·rw [len_isort, List.length_take]; omega
  ·rw [len_isort, List.length_drop]; omega
  ·rw [mix, blk_eq, blk_le (l := l.drop s) (by rw [List.length_drop]; omega), List.nil_append]
  ·rw [← isort_append hw, List.take_append_drop, blk_le (by omega), List.nil_append]
  ·rw [mix, blk_le (by omega), blk_le (by omega)]
 | k + 1, l, h0, h => by
  have e : (k + 1) * (2 * s) = k * (2 * s) + 2 * s := Nat.succ_mul ..
  rw [e] at h h0
  obtain ⟨i1, i2⟩ := mix_end hw (s := s) (k := k) (l := l.drop (2 * s)) (by rw [List.length_drop]; omega) (by rw [List.length_drop]; omega)
  rw [List.length_drop] at i1 i2
  rw [e]
  refine ⟨fun h1 => ?_, fun h1 => ?_⟩
  ·obtain ⟨P, X, Y, h1, h2, h3, h4, h5, h6, h7⟩ := i1 (by omega)
   refine ⟨isort lt (l.take (2 * s)) ++ P, X, Y, ?_, h2, by omega, h4, h5, ?_, ?_⟩
   ·rw [List.length_append, len_isort, h1, List.length_take]; omega
   ·rw [mix, h6]; simp
   ·rw [blk_eq, h7]; simp
  ·rw [mix, i2 (by omega), ← blk_eq]
end Srt
def m_slices_stableCmpFunc_impl_Found : MC :=
(.seq (pr [.mv 6 (ci 20)] [0,1,2,6])
(.seq (pr [.mv 10 (.s 6), .mv 7 (ci 0), .mv 8 (.s 10)] [0,1,2,6,7,8])
(.seq (.block 0 (.loop ([0,1,2,6,7,8], []) (.seq (.seq (pr [.mv 11 (.s 8), .mv 12 (.s 1), .bin 13 false .leq (.s 11) (.s 12)] [0,1,2,6,7,8,13])
(.cond (.s 13) .skip (.exit 0)))
(.block 1 (.seq (pr [.mv 14 (.s 0), .mv 15 (.s 7), .mv 16 (.s 8), .mv 17 (.s 2), .callI 18 [] (.f n_slices_insertionSortCmpFunc_impl_Found) [.s 14, .s 15, .s 16, .s 17] [0] []] [0,1,2,6,8])
(.seq (pr [.mv 19 (.s 8), .mv 7 (.s 19)] [0,1,2,6,7,8])
(pr [.mv 20 (.s 8), .mv 21 (.s 6), .bin 22 false .add (.s 20) (.s 21), .mv 8 (.s 22)] [0,1,2,6,7,8])))))))
(.seq (pr [.mv 23 (.s 0), .mv 24 (.s 7), .mv 25 (.s 1), .mv 26 (.s 2), .callI 27 [] (.f n_slices_insertionSortCmpFunc_impl_Found) [.s 23, .s 24, .s 25, .s 26] [0] []] [0,1,2,6])
(.block 2 (.loop ([0,1,2,6], []) (.seq (.seq (pr [.mv 28 (.s 6), .mv 29 (.s 1), .bin 30 false .lss (.s 28) (.s 29)] [0,1,2,6,30])
(.cond (.s 30) .skip (.exit 2)))
(.block 3 (.seq (pr [.mv 31 (.s 6), .bin 32 false .mul (ci 2) (.s 31), .mv 7 (ci 0), .mv 8 (.s 32)] [0,1,2,6,7,8])
(.seq (.block 4 (.loop ([0,1,2,6,7,8], []) (.seq (.seq (pr [.mv 33 (.s 8), .mv 34 (.s 1), .bin 35 false .leq (.s 33) (.s 34)] [0,1,2,6,7,8,35])
(.cond (.s 35) .skip (.exit 4)))
(.block 5 (.seq (pr [.mv 36 (.s 0), .mv 37 (.s 7), .mv 38 (.s 7), .mv 39 (.s 6), .bin 40 false .add (.s 38) (.s 39), .mv 41 (.s 8), .mv 42 (.s 2), .callI 43 [] (.f n_slices_symMergeCmpFunc_impl_Found) [.s 36, .s 37, .s 40, .s 41, .s 42] [0] []] [0,1,2,6,8])
(.seq (pr [.mv 44 (.s 8), .mv 7 (.s 44)] [0,1,2,6,7,8])
(pr [.mv 45 (.s 8), .mv 46 (.s 6), .bin 47 false .mul (ci 2) (.s 46), .bin 48 false .add (.s 45) (.s 47), .mv 8 (.s 48)] [0,1,2,6,7,8])))))))
(.seq (.seq (pr [.mv 49 (.s 7), .mv 50 (.s 6), .bin 51 false .add (.s 49) (.s 50), .mv 9 (.s 51)] [0,1,2,6,7,9])
(.seq (pr [.mv 52 (.s 9), .mv 53 (.s 1), .bin 54 false .lss (.s 52) (.s 53)] [0,1,2,6,7,9,54])
(.cond (.s 54) (pr [.mv 55 (.s 0), .mv 56 (.s 7), .mv 57 (.s 9), .mv 58 (.s 1), .mv 59 (.s 2), .callI 60 [] (.f n_slices_symMergeCmpFunc_impl_Found) [.s 55, .s 56, .s 57, .s 58, .s 59] [0] []] [0,1,2,6]) .skip)))
(pr [.mv 61 (.s 6), .bin 62 false .mul (.s 61) (ci 2), .mv 6 (.s 62)] [0,1,2,6]))))))))))))
set_option maxHeartbeats 4000000 in
theorem c_slices_stableCmpFunc (X : List GFound) (f : FuncId) (c : GFound → GFound → Int) (hc : ∀ x y, Ctr Tryz.prog f [aS x.enc, aS y.enc] [rI (c x y)]) (hw : Srt.Swo (ltc c)) : CtrI Tryz.prog n_slices_stableCmpFunc_impl_Found [oL 6 (X.map GFound.enc), iI X.length, fI f] [some (6, (Srt.isort (ltc c) X).map GFound.enc)] [] := by
 refine ctrI_at (M := m_slices_stableCmpFunc_impl_Found) (m := 0) (n := 63) (res := []) hmix Tryz.func251 rfl (by kernel_rfl) rfl (by kernel_rfl) (by kernel_rfl) (Nat.le_of_ble_eq_true rfl) rfl rfl ?_; unfold m_slices_stableCmpFunc_impl_Found
 intro hbd
 have hl := len_of_bd hbd
 clear hbd
 simp only [roomB] at hl
 simp only [↓reduceIte, reduceEqDiff, reduceLT, reduceAdd, reduceCtorEq, go_sem]
 refine loopK_up (fun k : Nat => [(7, vI ((k * 20 : Nat) : Int)), (8, vI (((k + 1) * 20 : Nat) : Int))]) (fun k => [(0, ⟨1, .row true 6 ((Srt.blks (ltc c) 20 k X).map GFound.enc)⟩)]) (fun k => k * 20 ≤ X.length) (fun k => X.length - k * 20) 0 ?_
 simp only [↓reduceIte, reduceEqDiff, reduceCtorEq, go_sem]
 refine ⟨?_, by omega, ?_⟩
 ·simp only [↓reduceIte, reduceEqDiff, reduceLT, reduceMul, reduceCtorEq, go_sem]
  exact ⟨rfl, rfl⟩
 ·intro k hk
  simp only [↓reduceIte, reduceEqDiff, reduceLT, reduceCtorEq, go_sem, Srt.len_blks]
  refine ⟨fun hlt => ?_, fun hge => ?_⟩
  ·obtain ⟨A, hA, e1, e2⟩ := Srt.blks_snoc (lt := ltc c) (s := 20) (k := k) (l := X) (by omega)
   have g1 := congrArg List.length e1
   have g2 := congrArg List.length e2
   rw [Srt.len_blks] at g1 g2
   rw [← List.append_assoc] at e1 e2 g1 g2
   rw [e1]
   apply callIK_of (c_slices_insertionSortCmpFunc A _ _ f c hc hw hA (by simp [hA]; omega))
   have w1 : IntKind.i64.wrap ((((k + 1) * 20 : Nat) : Int) + 20) = (((k + 1 + 1) * 20 : Nat) : Int) := by
    rw [wI (by omega) (by omega)]; omega
   simp only [↓reduceIte, reduceEqDiff, reduceLT, reduceCtorEq, go_sem, w1]
   exact ⟨k + 1, ⟨⟨rfl, rfl⟩, by rw [e2]⟩, by omega, by omega⟩
  ·obtain ⟨A, hA, e1, e2⟩ := Srt.blks_last (lt := ltc c) (s := 20) (k := k) (l := X) (by omega) (by omega)
   have g1 := congrArg List.length e1
   have g2 := congrArg List.length e2
   rw [Srt.len_blks] at g1 g2
   have e1' : A ++ X.drop (k * 20) = A ++ X.drop (k * 20) ++ [] := by simp
   rw [e1, e1']
   apply callIK_of (c_slices_insertionSortCmpFunc A _ [] f c hc hw hA (by simp [hA]; omega))
   rw [List.append_nil, ← e2]
   rw [Srt.blks_blk (by omega) (by omega)]
   simp only [↓reduceIte, reduceEqDiff, reduceLT, reduceCtorEq, go_sem]
   refine loopK_up (fun s : Nat => [(6, vI (s : Int))]) (fun s => [(0, ⟨1, .row true 6 ((Srt.blk (ltc c) s X).map GFound.enc)⟩)]) (fun s => 0 < s ∧ s ≤ 2 * X.length + 20) (fun s => X.length - s) 20 ?_
   simp only [↓reduceIte, reduceEqDiff, reduceCtorEq, go_sem]
   refine ⟨?_, ⟨by omega, by omega⟩, ?_⟩
   ·simp only [↓reduceIte, reduceEqDiff, reduceLT, reduceCtorEq, go_sem]
    first | rfl | exact ⟨rfl, rfl⟩
   ·rintro s ⟨hs0, hs1⟩
    clear e1' e1 e2 g1 g2 hA A hge hk
    have w2 : IntKind.i64.wrap (2 * (s : Int)) = ((2 * s : Nat) : Int) := by rw [wI (by omega) (by omega)]; omega
    have w3 : IntKind.i64.wrap ((s : Int) * 2) = ((2 * s : Nat) : Int) := by rw [wI (by omega) (by omega)]; omega
    simp only [↓reduceIte, reduceEqDiff, reduceLT, reduceCtorEq, go_sem, w2]
    refine ⟨fun hlt => ?_, fun hge => ?_⟩
    ·refine loopK_up (fun k : Nat => [(7, vI ((k * (2 * s) : Nat) : Int)), (8, vI ((k * (2 * s) + 2 * s : Nat) : Int))]) (fun k => [(0, ⟨1, .row true 6 ((Srt.mix (ltc c) s k X).map GFound.enc)⟩)]) (fun k => k * (2 * s) ≤ X.length) (fun k => X.length - k * (2 * s)) 0 ?_
     simp only [↓reduceIte, reduceEqDiff, reduceCtorEq, go_sem]
     refine ⟨?_, by omega, ?_⟩
     ·simp only [↓reduceIte, reduceEqDiff, reduceLT, reduceCtorEq, go_sem]
      refine ⟨⟨?_, ?_⟩, rfl⟩
      ·rw [Nat.zero_mul]; rfl
      ·rw [Nat.zero_mul, Nat.zero_add]
     ·intro k hk
      simp only [↓reduceIte, reduceEqDiff, reduceLT, reduceCtorEq, go_sem, Srt.len_mix, w3]
      refine ⟨fun hle => ?_, fun hgt => ?_⟩
      ·obtain ⟨P, A, B, Q, m1, m2, m3, m4, m5, m6, m7⟩ := Srt.mix_step hw (s := s) (k := k) (l := X) (by omega)
       have g1 : (P ++ A ++ B ++ Q).length = X.length := by rw [← m6, Srt.len_mix]
       have g2 : (P ++ Srt.mrg (ltc c) A B ++ Q).length = X.length := by rw [← m7, Srt.len_mix]
       have wa : IntKind.i64.wrap (((k * (2 * s) : Nat) : Int) + (s : Int)) = ((k * (2 * s) + s : Nat) : Int) := wN (by omega)
       have wb : IntKind.i64.wrap (((k * (2 * s) + 2 * s : Nat) : Int) + ((2 * s : Nat) : Int)) = (((k + 1) * (2 * s) + 2 * s : Nat) : Int) := by
        rw [wN (by omega), Nat.succ_mul k (2 * s)]
       rw [m6]
       simp only [go_sem, wa]
       apply callIK_of (c_slices_symMergeCmpFunc f c hc hw _ P A B Q (Nat.le_refl _) m1 (m := k * (2 * s) + s) (b := k * (2 * s) + 2 * s) (by rw [List.length_append]; omega) (by rw [List.length_append, List.length_append]; omega) (by omega) (by omega) m4 m5)
       simp only [↓reduceIte, reduceEqDiff, reduceLT, reduceCtorEq, go_sem]
       have hj : (k + 1) * (2 * s) = k * (2 * s) + 2 * s := Nat.succ_mul k (2 * s)
       exact ⟨k + 1, ⟨⟨by rw [hj], by rw [w2, wb]⟩, by rw [m7]⟩, by omega, by omega⟩
      ·obtain ⟨i1, i2⟩ := Srt.mix_end hw (s := s) (k := k) (l := X) hk (by omega)
       have wa : IntKind.i64.wrap (((k * (2 * s) : Nat) : Int) + (s : Int)) = ((k * (2 * s) + s : Nat) : Int) := wN (by omega)
       simp only [go_sem, wa]
       refine ⟨fun hlt2 => ?_, fun hge2 => ?_⟩
       ·obtain ⟨P, A, B, m1, m2, m3, m4, m5, m6, m7⟩ := i1 (by omega)
        have g1 : (P ++ A ++ B ++ []).length = X.length := by rw [List.append_nil, ← m6, Srt.len_mix]
        have g2 : (P ++ Srt.mrg (ltc c) A B ++ []).length = X.length := by rw [List.append_nil, ← m7, Srt.len_blk (Nat.le_refl _)]
        rw [m6, ← List.append_nil (P ++ A ++ B)]
        apply callIK_of (c_slices_symMergeCmpFunc f c hc hw _ P A B [] (Nat.le_refl _) m1 (m := k * (2 * s) + s) (b := X.length) (by rw [List.length_append]; omega) (by rw [List.length_append, List.length_append]; omega) (by omega) (by omega) m4 m5)
        simp only [↓reduceIte, reduceEqDiff, reduceLT, reduceCtorEq, go_sem, w3]
        exact ⟨2 * s, ⟨rfl, by rw [m7]⟩, ⟨by omega, by omega⟩, by omega⟩
       ·exact ⟨2 * s, ⟨rfl, by rw [i2 (by omega)]⟩, ⟨by omega, by omega⟩, by omega⟩
    ·rw [Srt.blk_le (by omega)]
end Go.Proofs.YtpclnmleldeleaaGreatR
namespace Go.Proofs.YtpclnmleldeleaaGreatR
open Go Go.RowKit Go.Proofs
open Nat (reduceEqDiff reduceLT reduceLeDiff reduceAdd reduceMul)
open List (reduceReplicate)
set_option linter.unusedSimpArgs false
set_option linter.unusedVariables false
def m_slices_SortStableFunc_impl_Found_impl_Found : MC :=
(pr [.mv 4 (.s 0), .mv 5 (.s 0), .len 6 false (.s 5), .mv 7 (.s 1), .callI 8 [] (.f n_slices_stableCmpFunc_impl_Found) [.s 4, .s 6, .s 7] [0] []] [])
theorem c_slices_SortStableFunc (X : List GFound) (f : FuncId) (c : GFound → GFound → Int) (hc : ∀ x y, Ctr Tryz.prog f [aS x.enc, aS y.enc] [rI (c x y)]) (hw : Srt.Swo (ltc c)) : CtrI Tryz.prog n_slices_SortStableFunc_impl_Found_impl_Found [oL 6 (X.map GFound.enc), fI f] [some (6, (Srt.isort (ltc c) X).map GFound.enc)] [] := by
 refine ctrI_at (M := m_slices_SortStableFunc_impl_Found_impl_Found) (m := 0) (n := 9) (res := []) hmix Tryz.func209 rfl (by kernel_rfl) rfl (by kernel_rfl) (by kernel_rfl) (Nat.le_of_ble_eq_true rfl) rfl rfl ?_; unfold m_slices_SortStableFunc_impl_Found_impl_Found
 intro hbd
 have hl := len_of_bd hbd
 clear hbd
 simp only [roomB] at hl
 simp only [↓reduceIte, reduceEqDiff, reduceLT, reduceCtorEq, go_sem]
 apply callIK_of (c_slices_stableCmpFunc X f c hc hw)
 simp only [↓reduceIte, reduceCtorEq, go_sem]
 try intros
 try trivial
end Go.Proofs.YtpclnmleldeleaaGreatR
namespace Go.Proofs.YtpclnmleldeleaaGreatR
open Go Go.RowKit Go.Proofs
open Nat (reduceEqDiff reduceLT reduceLeDiff reduceAdd reduceMul)
open List (reduceReplicate)
set_option linter.unusedSimpArgs false
set_option linter.unusedVariables false
attribute [go_sem] eqB
def addrLt (a b : GAddress) : Bool := decide (a.Host < b.Host ∨ a.Host = b.Host ∧ (a.Path < b.Path ∨ a.Path = b.Path ∧ a.Query < b.Query))
def cmpI (x y : Int) : Int := if x < y then -1 else if y < x then 1 else 0
def fndCmp (a b : GFound) : Int := if addrLt a.Address b.Address = true then -1 else if addrLt b.Address a.Address = true then 1 else cmpI a.Tick b.Tick
def fndLt (a b : GFound) : Bool := decide (a.Address.Host < b.Address.Host ∨ a.Address.Host = b.Address.Host ∧ (a.Address.Path < b.Address.Path ∨ a.Address.Path = b.Address.Path ∧ (a.Address.Query < b.Address.Query ∨ a.Address.Query = b.Address.Query ∧ a.Tick < b.Tick)))
theorem fndLt_eq : ltc fndCmp = fndLt := by
 funext a b
 unfold ltc fndCmp fndLt addrLt cmpI
 rw [Bool.eq_iff_iff]
 simp only [decide_eq_true_eq]
 split
 ·simp; omega
 ·split
  ·simp; omega
  ·split
   ·simp; omega
   ·split <;> simp <;> omega
theorem fndSwo : Srt.Swo (ltc fndCmp) := by
 rw [fndLt_eq]
 constructor
 ·intro x y h
  simp only [fndLt, decide_eq_true_eq, decide_eq_false_iff_not] at *
  omega
 ·intro x y z h
  simp only [fndLt, decide_eq_true_eq] at *
  omega
def fnd1 (i : Nat) : Nat → List GCapture → List GFound
 | _, [] => []
 | k, c :: cs => ⟨c.Address, c.Tick, i, k⟩ :: fnd1 i (k + 1) cs
def fnds : Nat → List GContainer → List GFound
 | _, [] => []
 | i, x :: xs => fnd1 i 0 x.Captures ++ fnds (i + 1) xs
theorem fnd1_snoc {i : Nat} : ∀ {cs : List GCapture} {k m : Nat} {c : GCapture}, cs[k]? = some c → fnd1 i m (cs.take (k + 1)) = fnd1 i m (cs.take k) ++ [⟨c.Address, c.Tick, i, (m + k : Nat)⟩]
 | [], _, _, _, h => by simp at h
 | c :: cs, 0, m, d, h => by
  simp only [List.getElem?_cons_zero, Option.some.injEq] at h
  subst h
  simp [fnd1]
 | c :: cs, k + 1, m, d, h => by
  simp only [List.getElem?_cons_succ] at h
  rw [List.take_succ_cons, List.take_succ_cons, fnd1, fnd1, fnd1_snoc h, List.cons_append, show m + 1 + k = m + (k + 1) by omega]
theorem fnds_snoc : ∀ {l : List GContainer} {k m : Nat} {x : GContainer}, l[k]? = some x → fnds m (l.take (k + 1)) = fnds m (l.take k) ++ fnd1 (m + k) 0 x.Captures
 | [], _, _, _, h => by simp at h
 | c :: cs, 0, m, d, h => by
  simp only [List.getElem?_cons_zero, Option.some.injEq] at h
  subst h
  simp [fnds]
 | c :: cs, k + 1, m, d, h => by
  simp only [List.getElem?_cons_succ] at h
  rw [List.take_succ_cons, List.take_succ_cons, fnds, fnds, fnds_snoc h, List.append_assoc, show m + 1 + k = m + (k + 1) by omega]
theorem len_fnd1 {i : Nat} : ∀ {cs : List GCapture} {k : Nat}, (fnd1 i k cs).length = cs.length
 | [], _ => rfl
 | c :: cs, k => by rw [fnd1, List.length_cons, len_fnd1, List.length_cons]
theorem len_fnds : ∀ {l : List GContainer} {m : Nat}, (fnds m l).length = (l.map fun x => x.Captures.length).sum
 | [], _ => rfl
 | x :: l, m => by rw [fnds, List.length_append, len_fnd1, len_fnds, List.map_cons, List.sum_cons]
def index (l : List GContainer) : List GFound := Srt.isort fndLt (fnds 0 l)
theorem fndSwo' : Srt.Swo fndLt := fndLt_eq ▸ fndSwo
theorem len_fnds_le {m : Nat} : ∀ {l : List GContainer}, (fnds m l).length ≤ (l.map GContainer.size).sum := by
 intro l
 rw [len_fnds]
 induction l with
 | nil => simp
 | cons x l ih => simp only [List.map_cons, List.sum_cons, GContainer.size]; omega
theorem len_fnds_at {l : List GContainer} {i k : Nat} {x : GContainer} (hx : l[i]? = some x) : (fnds 0 (l.take i) ++ fnd1 i 0 (x.Captures.take k)).length ≤ (l.map GContainer.size).sum := by
 have h1 : (fnds 0 (l.take (i + 1))).length ≤ (l.map GContainer.size).sum := Nat.le_trans len_fnds_le (sum_take_le l (i + 1))
 rw [fnds_snoc hx, List.length_append, len_fnd1] at h1
 rw [List.length_append, len_fnd1, List.length_take]
 omega
theorem fnds_step {l : List GContainer} {i k : Nat} {x : GContainer} {c : GCapture} (hc : x.Captures[k]? = some c) : fnds 0 (l.take i) ++ fnd1 i 0 (x.Captures.take (k + 1)) = fnds 0 (l.take i) ++ fnd1 i 0 (x.Captures.take k) ++ [⟨c.Address, c.Tick, i, k⟩] := by
 rw [fnd1_snoc hc, List.append_assoc, Nat.zero_add]
theorem cutA {α : Type} {f : α → List T} {l : List α} {m : Nat} (h : m ≤ l.length) : (if ((m : Int) - 0).toNat = l.length then l.map f else List.take ((m : Int) - 0).toNat (l.map f)) = (l.take m).map f := by
 rw [show ((m : Int) - 0).toNat = m by omega]
 split
 ·rename_i e; rw [List.take_of_length_le (by omega)]
 ·rw [List.map_take]
theorem cutB {α : Type} {f : α → List T} {l : List α} {m : Nat} (h : m ≤ l.length) : (if m = 0 ∧ ((l.length : Int) - (m : Int)).toNat = l.length then l.map f else List.take ((l.length : Int) - (m : Int)).toNat (List.drop m (l.map f))) = (l.drop m).map f := by
 rw [show ((l.length : Int) - (m : Int)).toNat = l.length - m by omega]
 split
 ·rename_i e; rw [e.1]; rfl
 ·rw [List.take_of_length_le (by simp), List.map_drop]
namespace Srt
variable {α : Type} {lt : α → α → Bool}
theorem ins_at {l : List α} (hw : Swo lt) (hs : srt lt l) {x : α} {n : Nat} (h1 : ∀ z ∈ l.drop n, lt x z = true) (h2 : n = 0 ∨ ∃ y, l[n - 1]? = some y ∧ lt x y = false) : ins lt x l = l.take n ++ [x] ++ l.drop n := by
 have e : ins lt x (l.take n ++ l.drop n) = l.take n ++ x :: l.drop n := by
  refine ins_mid ?_ (fun a ha => h1 a (List.mem_of_mem_head? ha))
  intro a ha
  rcases h2 with rfl | ⟨y, hy, h⟩
  ·simp at ha
  ·obtain ⟨i, hi⟩ := List.mem_iff_getElem?.1 ha
   rw [List.getElem?_take] at hi
   split at hi
   ·rename_i hlt
    by_cases hin : i = n - 1
    ·subst hin
     obtain rfl := Option.some.inj (hi.symm.trans hy)
     exact h
    ·obtain ⟨h1, rfl⟩ := List.getElem?_eq_some_iff.1 hi
     obtain ⟨h2, rfl⟩ := List.getElem?_eq_some_iff.1 hy
     exact hw.ntr h ((List.pairwise_iff_getElem.1 hs) i (n - 1) h1 h2 (by omega))
   ·cases hi
 rw [List.take_append_drop] at e
 rw [e]; simp
theorem drop_step {l : List α} {x : α} {n : Nat} {y : α} (hn : 0 < n) (hy : l[n - 1]? = some y) (h : ∀ z ∈ l.drop n, lt x z = true) (hx : lt x y = true) : ∀ z ∈ l.drop (n - 1), lt x z = true := by
 obtain ⟨h1, rfl⟩ := List.getElem?_eq_some_iff.1 hy
 rw [List.drop_eq_getElem_cons h1, show n - 1 + 1 = n by omega]
 intro z hz
 rcases List.mem_cons.1 hz with rfl | hz
 ·exact hx
 ·exact h z hz
end Srt
def m_impl_BeforeAddress : MC :=
(.seq (pr [.box 2 0 (.s 0), .box 3 1 (.s 1), .mv 4 cF] [2,3])
(.seq (.block 0 (.seq (pr [.fld 6 (.s 2) 0, .load 7 false 1 (.s 6), .fld 8 (.s 3) 0, .load 9 false 1 (.s 8), .bin 10 false .neq (.s 7) (.s 9), .mv 5 (.s 10)] [2,3,5])
(.cond (.s 5) (.seq (pr [.fld 11 (.s 2) 0, .load 12 false 1 (.s 11), .fld 13 (.s 3) 0, .load 14 false 1 (.s 13), .bin 15 false .lss (.s 12) (.s 14), .mv 4 (.s 15)] [4])
.ret) (.seq (pr [.fld 17 (.s 2) 1, .load 18 false 1 (.s 17), .fld 19 (.s 3) 1, .load 20 false 1 (.s 19), .bin 21 false .neq (.s 18) (.s 20), .mv 16 (.s 21)] [2,3,16])
(.cond (.s 16) (.seq (pr [.fld 22 (.s 2) 1, .load 23 false 1 (.s 22), .fld 24 (.s 3) 1, .load 25 false 1 (.s 24), .bin 26 false .lss (.s 23) (.s 25), .mv 4 (.s 26)] [4])
.ret) .skip)))))
(.seq (pr [.fld 27 (.s 2) 2, .load 28 false 1 (.s 27), .fld 29 (.s 3) 2, .load 30 false 1 (.s 29), .bin 31 false .lss (.s 28) (.s 30), .mv 4 (.s 31)] [4])
.ret)))
theorem c_impl_BeforeAddress (a b : GAddress) : Ctr Tryz.prog n_impl_BeforeAddress [aS a.enc, aS b.enc] [rB (addrLt a b)] := by
 refine cA m_impl_BeforeAddress 2 32 [(.tmp 4, [false])] Tryz.func211 rfl rfl ?_; unfold m_impl_BeforeAddress
 intro hb
 clear hb
 simp only [↓reduceIte, reduceEqDiff, reduceLT, reduceLeDiff, reduceAdd, reduceCtorEq, go_sem]
 repeat' first
  | (refine And.intro ?_ ?_ <;> intro h)
 all_goals (unfold addrLt; first | (symm; rw [decide_eq_false_iff_not]; omega) | (rw [Bool.eq_iff_iff]; simp only [decide_eq_true_eq]; omega))
def m_spec_BeforeAddress : MC :=
(.seq (pr [.box 2 0 (.s 0), .box 3 1 (.s 1), .mv 4 cF] [2,3])
(.seq (.seq (pr [.fld 5 (.s 2) 0, .load 6 false 1 (.s 5), .fld 7 (.s 3) 0, .load 8 false 1 (.s 7), .bin 9 false .neq (.s 6) (.s 8)] [2,3,9])
(.cond (.s 9) (.seq (pr [.fld 10 (.s 2) 0, .load 11 false 1 (.s 10), .fld 12 (.s 3) 0, .load 13 false 1 (.s 12), .bin 14 false .lss (.s 11) (.s 13), .mv 4 (.s 14)] [4])
.ret) .skip))
(.seq (.seq (pr [.fld 15 (.s 2) 1, .load 16 false 1 (.s 15), .fld 17 (.s 3) 1, .load 18 false 1 (.s 17), .bin 19 false .neq (.s 16) (.s 18)] [2,3,19])
(.cond (.s 19) (.seq (pr [.fld 20 (.s 2) 1, .load 21 false 1 (.s 20), .fld 22 (.s 3) 1, .load 23 false 1 (.s 22), .bin 24 false .lss (.s 21) (.s 23), .mv 4 (.s 24)] [4])
.ret) .skip))
(.seq (pr [.fld 25 (.s 2) 2, .load 26 false 1 (.s 25), .fld 27 (.s 3) 2, .load 28 false 1 (.s 27), .bin 29 false .lss (.s 26) (.s 28), .mv 4 (.s 29)] [4])
.ret))))
theorem c_spec_BeforeAddress (a b : GAddress) : Ctr Tryz.prog n_spec_BeforeAddress [aS a.enc, aS b.enc] [rB (addrLt a b)] := by
 refine cA m_spec_BeforeAddress 2 30 [(.tmp 4, [false])] Tryz.func250 rfl rfl ?_; unfold m_spec_BeforeAddress
 intro hb
 clear hb
 simp only [↓reduceIte, reduceEqDiff, reduceLT, reduceLeDiff, reduceAdd, reduceCtorEq, go_sem]
 repeat' first
  | (refine And.intro ?_ ?_ <;> intro h)
 all_goals (unfold addrLt; first | (symm; rw [decide_eq_false_iff_not]; omega) | (rw [Bool.eq_iff_iff]; simp only [decide_eq_true_eq]; omega))
def m_spec_l31Before : MC :=
(.seq (pr [.box 2 0 (.s 0), .box 3 1 (.s 1), .mv 4 cF] [2,3])
(.seq (.seq (pr [.fld 5 (.s 2) 0, .load 6 true 3 (.s 5), .fld 7 (.s 3) 0, .load 8 true 3 (.s 7), .eqA 9 true [.i .i64, .i .i64, .i .i64] (.s 6) (.s 8)] [2,3,9])
(.cond (.s 9) (.seq (pr [.fld 10 (.s 2) 0, .load 11 true 3 (.s 10), .fld 12 (.s 3) 0, .load 13 true 3 (.s 12), .call 14 [] (.f n_spec_BeforeAddress) [.s 11, .s 13], .mv 4 (.s 14)] [4])
.ret) .skip))
(.seq (pr [.fld 15 (.s 2) 3, .load 16 false 1 (.s 15), .fld 17 (.s 3) 3, .load 18 false 1 (.s 17), .bin 19 false .lss (.s 16) (.s 18), .mv 4 (.s 19)] [4])
.ret)))
theorem c_spec_l31Before (a b : GFound) : Ctr Tryz.prog n_spec_l31Before [aS a.enc, aS b.enc] [rB (fndLt a b)] := by
 refine cA m_spec_l31Before 2 20 [(.tmp 4, [false])] Tryz.func208 rfl rfl ?_; unfold m_spec_l31Before
 intro hb
 clear hb
 simp only [↓reduceIte, reduceEqDiff, reduceLT, reduceLeDiff, reduceAdd, reduceCtorEq, go_sem]
 repeat' first
  | (refine And.intro ?_ ?_ <;> intro h)
  | (apply callK_of (c_spec_BeforeAddress _ _); simp only [↓reduceIte, reduceEqDiff, reduceLT, go_sem])
 all_goals (simp only [fndLt, addrLt]; rw [Bool.eq_iff_iff]; simp only [decide_eq_true_eq]; simp at h; omega)
def m_cmp_isNaN_int : MC :=
(.seq (pr [.mv 2 cF] [0])
(.seq (pr [.mv 3 (.s 0), .mv 4 (.s 0), .bin 5 false .neq (.s 3) (.s 4), .mv 2 (.s 5)] [2])
.ret))
theorem c_cmp_isNaN (x : Int) : Ctr Tryz.prog n_cmp_isNaN_int [aI x] [rB false] := by
 refine cA m_cmp_isNaN_int 0 6 [(.tmp 2, [false])] Tryz.func252 rfl rfl ?_; unfold m_cmp_isNaN_int
 intro hb
 clear hb
 simp only [↓reduceIte, reduceEqDiff, reduceLT, reduceCtorEq, go_sem]
def m_cmp_Compare_int : MC :=
(.seq (pr [.mv 4 (ci 0)] [0,1])
(.seq (pr [.mv 7 (.s 0), .call 8 [] (.f n_cmp_isNaN_int) [.s 7], .mv 5 (.s 8)] [0,1,5])
(.seq (pr [.mv 9 (.s 1), .call 10 [] (.f n_cmp_isNaN_int) [.s 9], .mv 6 (.s 10)] [0,1,5,6])
(.seq (.seq (pr [.mv 11 (.s 5)] [0,1,6,11])
(.cond (.s 11) (.seq (.seq (pr [.mv 12 (.s 6)] [12])
(.cond (.s 12) (.seq (pr [.mv 4 (ci 0)] [4])
.ret) .skip))
(.seq (pr [.mv 4 (.c (.int .i64 (-1)))] [4])
.ret)) .skip))
(.seq (.seq (pr [.mv 13 (.s 6)] [0,1,13])
(.cond (.s 13) (.seq (pr [.mv 4 (ci 1)] [4])
.ret) .skip))
(.seq (.seq (pr [.mv 14 (.s 0), .mv 15 (.s 1), .bin 16 false .lss (.s 14) (.s 15)] [0,1,16])
(.cond (.s 16) (.seq (pr [.mv 4 (.c (.int .i64 (-1)))] [4])
.ret) .skip))
(.seq (.seq (pr [.mv 17 (.s 0), .mv 18 (.s 1), .bin 19 false .gtr (.s 17) (.s 18)] [19])
(.cond (.s 19) (.seq (pr [.mv 4 (ci 1)] [4])
.ret) .skip))
(.seq (pr [.mv 4 (ci 0)] [4])
.ret))))))))
theorem c_cmp_Compare (x y : Int) : Ctr Tryz.prog n_cmp_Compare_int [aI x, aI y] [rI (cmpI x y)] := by
 refine cA m_cmp_Compare_int 0 20 [(.tmp 4, [false])] Tryz.func212 rfl rfl ?_; unfold m_cmp_Compare_int
 intro hb
 clear hb
 simp only [↓reduceIte, reduceEqDiff, reduceLT, reduceCtorEq, go_sem]
 repeat' first
  | (refine And.intro ?_ ?_ <;> intro h)
  | (apply callK_of (c_cmp_isNaN _); simp only [↓reduceIte, reduceEqDiff, reduceLT, reduceCtorEq, go_sem])
 all_goals (unfold cmpI; first | rfl | (repeat' split) <;> first | rfl | omega)
def m_impl_BuildIndex_1 : MC :=
(.seq (pr [.box 2 0 (.s 0), .box 3 1 (.s 1), .mv 4 (ci 0)] [2,3])
(.seq (.block 0 (.seq (pr [.fld 6 (.s 2) 0, .load 7 true 3 (.s 6), .fld 8 (.s 3) 0, .load 9 true 3 (.s 8), .call 10 [] (.f n_impl_BeforeAddress) [.s 7, .s 9], .mv 5 (.s 10)] [2,3,5])
(.cond (.s 5) (.seq (pr [.mv 4 (.c (.int .i64 (-1)))] [4])
.ret) (.seq (pr [.fld 12 (.s 3) 0, .load 13 true 3 (.s 12), .fld 14 (.s 2) 0, .load 15 true 3 (.s 14), .call 16 [] (.f n_impl_BeforeAddress) [.s 13, .s 15], .mv 11 (.s 16)] [2,3,11])
(.cond (.s 11) (.seq (pr [.mv 4 (ci 1)] [4])
.ret) .skip)))))
(.seq (pr [.fld 17 (.s 2) 3, .load 18 false 1 (.s 17), .fld 19 (.s 3) 3, .load 20 false 1 (.s 19), .call 21 [] (.f n_cmp_Compare_int) [.s 18, .s 20], .mv 4 (.s 21)] [4])
.ret)))
theorem c_impl_BuildIndex_1 (a b : GFound) : Ctr Tryz.prog n_impl_BuildIndex_1 [aS a.enc, aS b.enc] [rI (fndCmp a b)] := by
 refine cA m_impl_BuildIndex_1 2 22 [(.tmp 4, [false])] Tryz.func210 rfl rfl ?_; unfold m_impl_BuildIndex_1
 intro hb
 clear hb
 simp only [↓reduceIte, reduceEqDiff, reduceLT, reduceLeDiff, reduceAdd, reduceCtorEq, go_sem]
 repeat' first
  | (refine And.intro ?_ ?_ <;> intro h)
  | (apply callK_of (c_impl_BeforeAddress _ _); simp only [↓reduceIte, reduceEqDiff, reduceLT, reduceLeDiff, reduceAdd, reduceCtorEq, go_sem])
  | (apply callK_of (c_cmp_Compare _ _); simp only [↓reduceIte, reduceEqDiff, reduceLT, go_sem])
 all_goals (unfold fndCmp; simp_all)
def m_impl_BuildIndex : MC :=
(.seq (pr [.nilo 2 0 6] [0])
(.seq (pr [.nilo 3 0 6] [0,3])
(.seq (.seq (pr [.mv 8 (.s 0), .len 9 false (.s 8), .mv 10 (ci 0)] [3,8,9,10])
(.block 0 (.loop ([3,8,9,10], [1,2,3]) (.seq (pr [.bin 11 false .lss (.s 10) (.s 9)] [3,8,9,10,11])
(.seq (.cond (.s 11) .skip (.exit 0))
(.seq (.block 1 (.seq (pr [.mv 12 (.s 10), .idx 13 4 (.s 8) (.s 10), .load 14 true 4 (.s 13), .alloc 5 1 [.emp 4, .emp 5, .emp 9, pz], .mv 4 (.s 12), .store 4 (.s 5) (.s 14)] [3,4,5,8,9,10])
(.seq (pr [.fld 15 (.s 5) 2, .load 16 false 1 (.s 15), .len 17 false (.s 16), .mv 18 (ci 0)] [3,4,8,9,10,16,17,18])
(.block 2 (.loop ([3,4,8,9,10,16,17,18], [1,2,3]) (.seq (pr [.bin 19 false .lss (.s 18) (.s 17)] [3,4,8,9,10,16,17,18,19])
(.seq (.cond (.s 19) .skip (.exit 2))
(.seq (.block 3 (.seq (pr [.mv 20 (.s 18), .idx 21 9 (.s 16) (.s 18), .load 22 true 9 (.s 21), .alloc 7 2 [pz, pz, pz, pz, pz, .emp 1, pz, pz, pz], .mv 6 (.s 20), .store 9 (.s 7) (.s 22)] [3,4,6,7,8,9,10,16,17,18])
(pr [.mv 23 (.s 3), .fld 24 (.s 7) 0, .load 25 true 3 (.s 24), .fld 26 (.s 7) 3, .load 27 false 1 (.s 26), .mv 28 (.s 4), .mv 29 (.s 6), .build 30 [pz, pz, pz, pz, pz, pz] [(0, 3, .s 25), (3, 1, .s 27), (4, 1, .s 28), (5, 1, .s 29)], .lit 31 3 6 48 [.s 30], .app 32 0 6 48 (.s 23) (.s 31), .mv 3 (.s 32)] [3,4,8,9,10,16,17,18])))
(pr [.bin 33 false .add (.s 18) (ci 1), .mv 18 (.s 33)] [3,4,8,9,10,16,17,18])))))))))
(pr [.bin 34 false .add (.s 10) (ci 1), .mv 10 (.s 34)] [3,8,9,10])))))))
(.seq (pr [.mv 35 (.s 3), .callI 36 [] (.f n_slices_SortStableFunc_impl_Found_impl_Found) [.s 35, .f n_impl_BuildIndex_1] [0] []] [3])
(.seq (pr [.mv 37 (.s 3), .mv 2 (.s 37)] [2])
.ret)))))
theorem c_impl_BuildIndex (l : List GContainer) (hs : l.length + (l.map GContainer.size).sum ≤ 1073741824) : Ctr Tryz.prog n_impl_BuildIndex [aL 4 (l.map GContainer.enc)] [rL 6 ((index l).map GFound.enc)] := by
 refine cA m_impl_BuildIndex 4 38 [(.tmp 2, [true])] Tryz.func154 rfl rfl ?_; unfold m_impl_BuildIndex
 intro hb
 clear hb
 simp only [↓reduceIte, reduceEqDiff, reduceLT, reduceAdd, reduceCtorEq, go_sem]
 refine loopK_rng l (fun i => [(3, .val false [.ref 0 0 6 0 (fnds 0 (l.take i)).length]), (10, vI i)]) (fun i => [(0, ⟨0, .row true 6 ((fnds 0 (l.take i)).map GFound.enc)⟩)]) (fun _ => True) (by simp only [roomB]; omega) ?_
 simp only [↓reduceIte, reduceEqDiff, reduceAdd, reduceCtorEq, go_sem]
 refine ⟨?_, trivial, ?_, ?_⟩
 ·simp only [↓reduceIte, reduceEqDiff, reduceLT, go_sem, List.take_zero]
  exact ⟨rfl, rfl⟩
 ·intro i x hx _ h0 h1 hw
  have hx1 := mem_sum (f := GContainer.size) (at_mem hx)
  have hi := len_at hx
  have hxl : x.Captures.length ≤ x.size := by simp only [GContainer.size]; omega
  simp only [↓reduceIte, reduceEqDiff, reduceLT, reduceLeDiff, reduceAdd, reduceCtorEq, go_sem, bk_eq hx, h0, h1]
  refine loopK_rng x.Captures (fun k => [(3, .val false [.ref 0 0 6 0 (fnds 0 (l.take i) ++ fnd1 i 0 (x.Captures.take k)).length]), (18, vI k)]) (fun k => [(0, ⟨0, .row true 6 ((fnds 0 (l.take i) ++ fnd1 i 0 (x.Captures.take k)).map GFound.enc)⟩)]) (fun _ => True) (by simp only [roomB]; omega) ?_
  simp only [↓reduceIte, reduceEqDiff, reduceAdd, reduceCtorEq, go_sem]
  refine ⟨?_, trivial, ?_, ?_⟩
  ·simp only [↓reduceIte, reduceEqDiff, reduceLT, go_sem, List.take_zero]
   exact ⟨by simp [fnd1], by simp [fnd1]⟩
  ·intro k c hc _ h2 h3 hw2
   have hn := len_fnds_at (k := k) hx
   simp only [↓reduceIte, reduceEqDiff, reduceLT, reduceLeDiff, reduceAdd, reduceMul, reduceCtorEq, go_sem, bk_eq hc, h2, h3, hw2, fnds_step hc]
   exact ⟨by simp only [roomB]; omega, by simp only [roomB]; omega, by simp only [List.length_append, List.length_cons, List.length_nil], by simp [GFound.enc]⟩
  ·intro _
   simp only [↓reduceIte, reduceEqDiff, reduceLT, reduceAdd, reduceCtorEq, go_sem, List.take_length, hw]
   exact ⟨by rw [fnds_snoc hx, Nat.zero_add], by rw [fnds_snoc hx, Nat.zero_add]⟩
 ·intro _
  simp only [↓reduceIte, reduceEqDiff, reduceLT, reduceCtorEq, go_sem, List.take_length]
  apply callIK_of (c_slices_SortStableFunc (fnds 0 l) _ fndCmp c_impl_BuildIndex_1 fndSwo)
  simp only [↓reduceIte, reduceEqDiff, reduceLT, reduceCtorEq, go_sem]
  exact ⟨Srt.len_isort.symm, by rw [index, fndLt_eq]⟩
def m_spec_BuildIndex : MC :=
(.seq (pr [.nilo 2 0 6] [0])
(.seq (pr [.lit 8 0 6 48 [], .mv 3 (.s 8)] [0,3])
(.seq (.seq (pr [.mv 4 (ci 0)] [0,3,4])
(.block 0 (.loop ([0,3,4], [1,2,3]) (.seq (.seq (pr [.mv 9 (.s 4), .mv 10 (.s 0), .len 11 false (.s 10), .bin 12 false .lss (.s 9) (.s 11)] [0,3,4,12])
(.cond (.s 12) .skip (.exit 0)))
(.seq (.block 1 (.seq (pr [.mv 5 (ci 0)] [0,3,4,5])
(.block 2 (.loop ([0,3,4,5], [1,2,3]) (.seq (.seq (pr [.mv 15 (.s 5), .mv 16 (.s 0), .mv 17 (.s 4), .idx 18 4 (.s 16) (.s 17), .fld 19 (.s 18) 2, .load 20 false 1 (.s 19), .len 21 false (.s 20), .bin 22 false .lss (.s 15) (.s 21)] [0,3,4,5,22])
(.cond (.s 22) .skip (.exit 2)))
(.seq (.block 3 (.seq (.dreg [Zf [6,26,30,34,35,36,37,38,39,40,41,42,43,44] [1] (.mv 25 (.s 0)), Zf [6,25,30,34,35,36,37,38,39,40,41,42,43,44] [1] (.mv 26 (.s 4)), Zg [6,30,34,35,36,37,38,39,40,41,42,43,44] [1] [0,1] (.idx 27 4 (.s 25) (.s 26)), Zg [6,30,34,35,36,37,38,39,40,41,42,43,44] [1] [0,1,2] (.fld 28 (.s 27) 2), Zg [6,30,34,35,36,37,38,39,40,41,42,43,44] [1] (.range 4) (.load 29 false 1 (.s 28)), Zf [6,25,26,27,28,29,34,35,36,37,38,39,40,41,42,43,44] [1] (.mv 30 (.s 5)), Zg [6,34,35,36,37,38,39,40,41,42,43,44] [1] (.range 6) (.idx 31 9 (.s 29) (.s 30)), Zg [6,34,35,36,37,38,39,40,41,42,43,44] [1] (.range 7) (.fld 32 (.s 31) 0), Zg [6,34,35,36,37,38,39,40,41,42,43,44] [1] (.range 8) (.load 33 true 3 (.s 32)), Zf [6,25,26,27,28,29,30,31,32,33,35,39,43,44] [1] (.mv 34 (.s 0)), Zf [6,25,26,27,28,29,30,31,32,33,34,39,43,44] [1] (.mv 35 (.s 4)), Zg [6,25,26,27,28,29,30,31,32,33,39,43,44] [1] [9,10] (.idx 36 4 (.s 34) (.s 35)), Zg [6,25,26,27,28,29,30,31,32,33,39,43,44] [1] [9,10,11] (.fld 37 (.s 36) 2), Zg [6,25,26,27,28,29,30,31,32,33,39,43,44] [1] [9,10,11,12] (.load 38 false 1 (.s 37)), Zf [6,25,26,27,28,29,30,31,32,33,34,35,36,37,38,43,44] [1] (.mv 39 (.s 5)), Zg [6,25,26,27,28,29,30,31,32,33,43,44] [1] [9,10,11,12,13,14] (.idx 40 9 (.s 38) (.s 39)), Zg [6,25,26,27,28,29,30,31,32,33,43,44] [1] [9,10,11,12,13,14,15] (.fld 41 (.s 40) 3), Zg [6,25,26,27,28,29,30,31,32,33,43,44] [1] [9,10,11,12,13,14,15,16] (.load 42 false 1 (.s 41)), Zf [6,25,26,27,28,29,30,31,32,33,34,35,36,37,38,39,40,41,42,44] [1] (.mv 43 (.s 4)), Zf [6,25,26,27,28,29,30,31,32,33,34,35,36,37,38,39,40,41,42,43] [1] (.mv 44 (.s 5)), Zg [6] [1] (.range 20) (.build 45 [pz, pz, pz, pz, pz, pz] [(0, 3, .s 33), (3, 1, .s 42), (4, 1, .s 43), (5, 1, .s 44)]), { o := .alloc 6 1 [pz, pz, pz, pz, pz, pz], hs := [25,26,27,28,29,30,31,32,33,34,35,36,37,38,39,40,41,42,43,44,45], ws := [1] }, { o := .store 6 (.s 6) (.s 45), ws := [1], bf := (.range 22) }] [0,3,4,5,6])
(.seq (pr [.mv 46 (.s 3), .len 47 false (.s 46), .mv 7 (.s 47)] [0,3,4,5,6,7])
(.seq (.block 4 (.loop ([0,3,4,5,6,7], [2,3]) (.seq (.seq (.dreg [Za (.mv 48 (.s 7)), Ze [0] (.bin 49 false .gtr (.s 48) (ci 0)), Ze [0,1] (.mv 50 (.s 49)), { o := .load 51 true 6 (.s 6), g := some (50, true), hs := [52,53,54,55,56], bf := [0,1,2] }, { o := .mv 52 (.s 3), g := some (50, true), hs := [51,53,54], bf := [0,1,2] }, { o := .mv 53 (.s 7), g := some (50, true), hs := [51,52], bf := [0,1,2] }, { o := .bin 54 false .sub (.s 53) (ci 1), g := some (50, true), hs := [51,52], bf := [0,1,2,5] }, { o := .idx 55 6 (.s 52) (.s 54), g := some (50, true), hs := [51], bf := [0,1,2,4,5,6] }, { o := .load 56 true 6 (.s 55), g := some (50, true), hs := [51], bf := [0,1,2,4,5,6,7] }, { o := .call 57 [] (.f n_spec_l31Before) [.s 51, .s 56], g := some (50, true), bf := (.range 9) }, Ze (.range 10) (.pick 58 (.s 50) (.s 57) cF)] [0,3,4,5,6,7,58])
(.cond (.s 58) .skip (.exit 4)))
(.block 5 (pr [.mv 59 (.s 7), .bin 60 false .sub (.s 59) (ci 1), .mv 7 (.s 60)] [0,3,4,5,6,7])))))
(.dreg [{ o := .lit 61 2 6 48 [], hs := [62,63,64,66,67,69,70,71], ho := [3], ws := [2] }, Zf [61,63,66,67,69,70,71] [2,3] (.mv 62 (.s 3)), Zf [61,62,66,67,69,70,71] [2,3] (.mv 63 (.s 7)), Zg [61,66,67,69,70,71] [2,3] [1,2] (.slc 64 6 (.s 62) none (some (.s 63)) none), { o := .app 65 2 6 48 (.s 61) (.s 64), hs := [66,67,69,70,71], ho := [3], ws := [2], bf := (.range 4) }, Zf [61,62,63,64,65,69,70,71] [2] (.load 66 true 6 (.s 6)), { o := .lit 67 3 6 48 [.s 66], hs := [61,62,63,64,65,69,70,71], ho := [2], ws := [3], bf := [5] }, { o := .app 68 2 6 48 (.s 65) (.s 67), hs := [69,70,71], ws := [2], bf := (.range 7) }, Zf [61,62,63,64,65,66,67,68,70] [2,3] (.mv 69 (.s 3)), Zf [61,62,63,64,65,66,67,68,69] [2,3] (.mv 70 (.s 7)), Zg [61,62,63,64,65,66,67,68] [2,3] [8,9] (.slc 71 6 (.s 69) (some (.s 70)) none none), { o := .app 72 0 6 48 (.s 68) (.s 71), ws := [0,2], bf := (.range 11) }, Ze (.range 12) (.mv 3 (.s 72))] [0,3,4,5])))))
(pr [.mv 23 (.s 5), .bin 24 false .add (.s 23) (ci 1), .mv 5 (.s 24)] [0,3,4,5])))))))
(pr [.mv 13 (.s 4), .bin 14 false .add (.s 13) (ci 1), .mv 4 (.s 14)] [0,3,4]))))))
(.seq (pr [.mv 73 (.s 3), .mv 2 (.s 73)] [2])
.ret))))
theorem c_spec_BuildIndex (l : List GContainer) (hs : l.length + (l.map GContainer.size).sum ≤ 1073741824) : Ctr Tryz.prog n_spec_BuildIndex [aL 4 (l.map GContainer.enc)] [rL 6 ((index l).map GFound.enc)] := by
 refine cA m_spec_BuildIndex 4 74 [(.tmp 2, [true])] Tryz.func153 rfl rfl ?_; unfold m_spec_BuildIndex
 intro hb
 clear hb
 simp only [↓reduceIte, reduceEqDiff, reduceLT, reduceAdd, reduceMul, reduceCtorEq, go_sem]
 refine loopK_rng l (fun i => [(3, .val false [.ref 0 0 6 0 (Srt.isort fndLt (fnds 0 (l.take i))).length]), (4, vI i)]) (fun i => [(0, ⟨0, .row true 6 ((Srt.isort fndLt (fnds 0 (l.take i))).map GFound.enc)⟩)]) (fun _ => True) (by simp only [roomB]; omega) ?_
 simp only [↓reduceIte, reduceEqDiff, reduceAdd, reduceCtorEq, go_sem]
 refine ⟨?_, trivial, ?_, ?_⟩
 ·simp only [↓reduceIte, reduceEqDiff, reduceLT, reduceCtorEq, go_sem, List.take_zero]
  exact ⟨rfl, rfl⟩
 ·intro i x hx _ h0 h1 hw
  have hx1 := mem_sum (f := GContainer.size) (at_mem hx)
  have hi := len_at hx
  have hxl : x.Captures.length ≤ x.size := by simp only [GContainer.size]; omega
  simp only [↓reduceIte, reduceEqDiff, reduceLT, reduceCtorEq, go_sem, h1]
  refine loopK_rng x.Captures (fun k => [(3, .val false [.ref 0 0 6 0 (Srt.isort fndLt (fnds 0 (l.take i) ++ fnd1 i 0 (x.Captures.take k))).length]), (5, vI k)]) (fun k => [(0, ⟨0, .row true 6 ((Srt.isort fndLt (fnds 0 (l.take i) ++ fnd1 i 0 (x.Captures.take k))).map GFound.enc)⟩)]) (fun _ => True) (by simp only [roomB]; omega) ?_
  simp only [↓reduceIte, reduceEqDiff, reduceAdd, reduceCtorEq, go_sem]
  refine ⟨?_, trivial, ?_, ?_⟩
  ·simp only [↓reduceIte, reduceEqDiff, reduceLT, reduceCtorEq, go_sem, List.take_zero]
   exact ⟨by simp [fnd1], by simp [fnd1]⟩
  ·intro k c hc _ h2 h3 hw2
   have hn := len_fnds_at (k := k) hx
   obtain ⟨y, hy⟩ : ∃ y : GFound, y = ⟨c.Address, c.Tick, i, k⟩ := ⟨_, rfl⟩
   obtain ⟨out, hout⟩ : ∃ out, out = Srt.isort fndLt (fnds 0 (l.take i) ++ fnd1 i 0 (x.Captures.take k)) := ⟨_, rfl⟩
   have hsr : Srt.srt fndLt out := hout ▸ Srt.srt_isort fndSwo' _
   have hol : out.length ≤ (l.map GContainer.size).sum := by rw [hout, Srt.len_isort]; exact hn
   have hst : Srt.isort fndLt (fnds 0 (l.take i) ++ fnd1 i 0 (x.Captures.take (k + 1))) = Srt.ins fndLt y out := by
    rw [fnds_step hc, Srt.isort_snoc, ← hout, ← hy]
   have hye : ([tI c.Address.Host, tI c.Address.Path, tI c.Address.Query, tI c.Tick, tI (i : Int), tI (k : Int)] : List T) = y.enc := by rw [hy]; rfl
   rw [hst, ← hout]
   simp only [↓reduceIte, reduceEqDiff, reduceLT, reduceLeDiff, reduceAdd, reduceCtorEq, go_sem, bk_eq hx, bk_eq hc, h0, h1, h2, h3, hw]
   refine loopK_up (fun n : Nat => [(7, vI n)]) (fun n => []) (fun n => n ≤ out.length ∧ ∀ z ∈ out.drop n, fndLt y z = true) (fun n => n) out.length ?_
   simp only [↓reduceIte, reduceEqDiff, reduceAdd, reduceCtorEq, go_sem]
   refine ⟨?_, ⟨Nat.le_refl _, by simp⟩, ?_⟩
   ·simp only [↓reduceIte, reduceEqDiff, reduceLT, reduceCtorEq, go_sem]
   ·rintro n ⟨hn1, hn2⟩
    simp only [↓reduceIte, reduceEqDiff, reduceLT, reduceAdd, reduceMul, reduceCtorEq, go_sem]
    refine ⟨fun hpos => ?_, fun hzero => ?_⟩
    ·obtain ⟨m, hm⟩ : ∃ m, m = n - 1 := ⟨_, rfl⟩
     obtain ⟨z, hz⟩ := at_some (show m < out.length by omega)
     have e1 : IntKind.i64.wrap ((n : Int) - 1) = (m : Int) := by rw [wI (by omega) (by omega)]; omega
     rw [e1]
     simp only [go_sem, bk_eq hz]
     refine ⟨⟨by omega, by omega⟩, ?_⟩
     apply callK_of (c_spec_l31Before ⟨c.Address, c.Tick, (i : Int), (k : Int)⟩ z)
     simp only [↓reduceIte, reduceEqDiff, reduceLT, reduceAdd, reduceMul, reduceCtorEq, go_sem]
     rw [e1]
     refine ⟨fun ht => ⟨m, rfl, ⟨by omega, ?_⟩, by omega⟩, fun hf => ?_⟩
     ·rw [hm]
      exact Srt.drop_step (by omega) (hm ▸ hz) hn2 (hy ▸ ht)
     ·have hstop : n = 0 ∨ ∃ y', out[n - 1]? = some y' ∧ fndLt y y' = false := .inr ⟨z, hm ▸ hz, hy ▸ hf⟩
      rw [cutA hn1]
      refine ⟨by omega, by omega, ?_⟩
      have hA : (out.take n).length = n := by rw [List.length_take]; omega
      have hB : out.length = n + (out.drop n).length := by rw [List.length_drop]; omega
      have eC := cutB (f := GFound.enc) hn1
      have e5 : List.map GFound.enc (out.take n) ++ [[T.sc (Value.int IntKind.i64 c.Address.Host), T.sc (Value.int IntKind.i64 c.Address.Path), T.sc (Value.int IntKind.i64 c.Address.Query), T.sc (Value.int IntKind.i64 c.Tick), T.sc (Value.int IntKind.i64 (i : Int)), T.sc (Value.int IntKind.i64 (k : Int))]] = (out.take n ++ [y]).map GFound.enc := by rw [hy]; simp [GFound.enc]
      have e6 : ((out.take n ++ [y]).map GFound.enc).length = (out.take n).length + 1 := by simp
      simp only [↓reduceIte, reduceEqDiff, reduceLT, reduceAdd, reduceMul, reduceCtorEq, go_sem, ↓flat_of (f := GFound.enc) (fun _ => rfl) (out.take n), ↓eC, ↓e5, ↓e6, ↓flat_of (f := GFound.enc) (fun _ => rfl) (out.drop n)]
      rw [Srt.ins_at fndSwo' hsr hn2 hstop]
      simp only [roomB]
      exact ⟨by omega, by omega, by omega, ⟨by omega, by omega, by omega⟩, by omega, by omega, ⟨by simp only [List.length_append, List.length_cons, List.length_nil], hw2⟩, by rw [← List.map_append]⟩
    ·have hstop : n = 0 ∨ ∃ y', out[n - 1]? = some y' ∧ fndLt y y' = false := .inl (by omega)
     rw [cutA hn1]
     refine ⟨by omega, by omega, ?_⟩
     have hA : (out.take n).length = n := by rw [List.length_take]; omega
     have hB : out.length = n + (out.drop n).length := by rw [List.length_drop]; omega
     have eC := cutB (f := GFound.enc) hn1
     have e5 : List.map GFound.enc (out.take n) ++ [[T.sc (Value.int IntKind.i64 c.Address.Host), T.sc (Value.int IntKind.i64 c.Address.Path), T.sc (Value.int IntKind.i64 c.Address.Query), T.sc (Value.int IntKind.i64 c.Tick), T.sc (Value.int IntKind.i64 (i : Int)), T.sc (Value.int IntKind.i64 (k : Int))]] = (out.take n ++ [y]).map GFound.enc := by rw [hy]; simp [GFound.enc]
     have e6 : ((out.take n ++ [y]).map GFound.enc).length = (out.take n).length + 1 := by simp
     simp only [↓reduceIte, reduceEqDiff, reduceLT, reduceAdd, reduceMul, reduceCtorEq, go_sem, ↓flat_of (f := GFound.enc) (fun _ => rfl) (out.take n), ↓eC, ↓e5, ↓e6, ↓flat_of (f := GFound.enc) (fun _ => rfl) (out.drop n)]
     rw [Srt.ins_at fndSwo' hsr hn2 hstop]
     simp only [roomB]
     exact ⟨by omega, by omega, by omega, ⟨by omega, by omega, by omega⟩, by omega, by omega, ⟨by simp only [List.length_append, List.length_cons, List.length_nil], hw2⟩, by rw [← List.map_append]⟩
  ·intro _
   simp only [↓reduceIte, reduceEqDiff, reduceLT, reduceLeDiff, reduceAdd, reduceCtorEq, go_sem, List.take_length, bk_eq hx, h0, h1, hw, Int.lt_irrefl]
   exact ⟨by rw [fnds_snoc hx, Nat.zero_add], by rw [fnds_snoc hx, Nat.zero_add]⟩
 ·intro _
  simp only [↓reduceIte, reduceEqDiff, reduceLT, reduceCtorEq, go_sem, List.take_length]
  rfl
end Go.Proofs.YtpclnmleldeleaaGreatR
namespace Go.Proofs.YtpclnmleldeleaaGreatR
open Go Go.RowKit Go.Proofs
open Nat (reduceEqDiff reduceLT reduceLeDiff reduceAdd reduceMul)
open List (reduceReplicate)
set_option linter.unusedSimpArgs false
set_option linter.unusedVariables false
theorem any_nots {α : Type} {p : α → Bool} {l : List α} : (l.any fun x => !p x) = !l.all p := by
 induction l with
 | nil => rfl
 | cons x l ih => rw [List.any_cons, List.all_cons, ih]; cases p x <;> rfl
def fewAll {α : Type} (n : Nat) (p : α → Bool) (l : List α) : Bool := decide (l.length ≤ n) && l.all p
theorem fewAll_no {α : Type} {n : Nat} {p : α → Bool} {l : List α} (h : ¬ l.length ≤ n) : false = fewAll n p l := by
 unfold fewAll; rw [decide_eq_false h]; rfl
theorem fewAll_yes {α : Type} {n : Nat} {p : α → Bool} {l : List α} (h : l.length ≤ n) : (!l.any fun x => !p x) = fewAll n p l := by
 unfold fewAll; rw [decide_eq_true h, any_nots, Bool.not_not]; rfl
theorem fewAll_at {α : Type} {n : Nat} {p : α → Bool} {l : List α} {k : Nat} {x : α} (hx : l[k]? = some x) (h : p x = false) : false = fewAll n p l := by
 unfold fewAll; rw [← all_not hx h, Bool.and_false]
theorem fewAll_end {α : Type} {n : Nat} {p : α → Bool} {l : List α} (h : l.all p = true) : decide (l.length ≤ n) = fewAll n p l := by
 unfold fewAll; rw [h, Bool.and_true]
theorem le_cast {n m : Nat} : decide ((n : Int) ≤ (m : Int)) = decide (n ≤ m) := by
 rw [Bool.eq_iff_iff]; simp only [decide_eq_true_eq]; omega
def opOk (o : GOp) : Bool := decide ((0 ≤ o.A ∧ o.A < 4) ∧ (
 (o.Kind = 1 ∧ (1 ≤ o.B ∧ o.B ≤ 9) ∧ (0 ≤ o.C ∧ o.C ≤ 99)) ∨
 ((o.Kind = 2 ∨ o.Kind = 3 ∨ o.Kind = 4) ∧ o.B = 0 ∧ o.C = 0) ∨
 (o.Kind = 5 ∧ (0 ≤ o.B ∧ o.B < 4) ∧ (0 ≤ o.C ∧ o.C < 4)) ∨
 (o.Kind = 6 ∧ (0 ≤ o.B ∧ o.B < 4) ∧ o.C = 0) ∨
 (o.Kind = 7 ∧ (1 ≤ o.B ∧ o.B ≤ 3) ∧ o.C = 0) ∨
 ((o.Kind = 8 ∨ o.Kind = 9) ∧ (0 ≤ o.B ∧ o.B < 3) ∧ o.C = 0)))
def scriptOk (l : List GOp) : Bool := fewAll 16 opOk l
def m_impl_isOp : MC :=
(.seq (pr [.box 1 0 (.s 0), .mv 2 cF] [1])
(.seq (.seq (pr [.fld 3 (.s 1) 1, .load 4 false 1 (.s 3), .call 5 [] (.f n_impl_at) [.s 4, .c (.int .i64 4)], .un 6 .not (.s 5)] [1,6])
(.cond (.s 6) (.seq (pr [.mv 2 cF] [2])
.ret) .skip))
(.seq (.seq (pr [.fld 7 (.s 1) 0, .load 8 false 1 (.s 7)] [1,8])
(.block 0 (.seq (pr [.bin 10 false .eql (.s 8) (ci 1), .mv 9 (.s 10)] [1,8,9])
(.cond (.s 9) (.seq (.reg [Za (.fld 11 (.s 1) 2), Za (.load 12 false 1 (.s 11)), Za (.call 13 [] (.f n_impl_InRange) [.s 12, .c (.int .i64 1), .c (.int .i64 9)]), Za (.mv 14 (.s 13)), Zb 14 true (.fld 15 (.s 1) 3), Zb 14 true (.load 16 false 1 (.s 15)), Zb 14 true (.call 17 [] (.f n_impl_InRange) [.s 16, .c (.int .i64 0), .c (.int .i64 99)]), Za (.pick 18 (.s 14) (.s 17) cF), Za (.mv 2 (.s 18))] [2])
.ret) (.seq (.seq (pr [.bin 20 false .eql (.s 8) (ci 2), .mv 19 (.s 20)] [1,8,19])
(.cond (.s 19) .skip (.seq (pr [.bin 21 false .eql (.s 8) (ci 3), .mv 19 (.s 21)] [1,8,19])
(.cond (.s 19) .skip (pr [.bin 22 false .eql (.s 8) (ci 4), .mv 19 (.s 22)] [1,8,19])))))
(.cond (.s 19) (.seq (.reg [Za (.fld 23 (.s 1) 2), Za (.load 24 false 1 (.s 23)), Za (.bin 25 false .eql (.s 24) (ci 0)), Za (.mv 26 (.s 25)), Zb 26 true (.fld 27 (.s 1) 3), Zb 26 true (.load 28 false 1 (.s 27)), Zb 26 true (.bin 29 false .eql (.s 28) (ci 0)), Za (.pick 30 (.s 26) (.s 29) cF), Za (.mv 2 (.s 30))] [2])
.ret) (.seq (pr [.bin 32 false .eql (.s 8) (ci 5), .mv 31 (.s 32)] [1,8,31])
(.cond (.s 31) (.seq (.reg [Za (.fld 33 (.s 1) 2), Za (.load 34 false 1 (.s 33)), Za (.call 35 [] (.f n_impl_at) [.s 34, .c (.int .i64 4)]), Za (.mv 36 (.s 35)), Zb 36 true (.fld 37 (.s 1) 3), Zb 36 true (.load 38 false 1 (.s 37)), Zb 36 true (.call 39 [] (.f n_impl_at) [.s 38, .c (.int .i64 4)]), Za (.pick 40 (.s 36) (.s 39) cF), Za (.mv 2 (.s 40))] [2])
.ret) (.seq (pr [.bin 42 false .eql (.s 8) (ci 6), .mv 41 (.s 42)] [1,8,41])
(.cond (.s 41) (.seq (.reg [Za (.fld 43 (.s 1) 2), Za (.load 44 false 1 (.s 43)), Za (.call 45 [] (.f n_impl_at) [.s 44, .c (.int .i64 4)]), Za (.mv 46 (.s 45)), Zb 46 true (.fld 47 (.s 1) 3), Zb 46 true (.load 48 false 1 (.s 47)), Zb 46 true (.bin 49 false .eql (.s 48) (ci 0)), Za (.pick 50 (.s 46) (.s 49) cF), Za (.mv 2 (.s 50))] [2])
.ret) (.seq (pr [.bin 52 false .eql (.s 8) (ci 7), .mv 51 (.s 52)] [1,8,51])
(.cond (.s 51) (.seq (.reg [Za (.fld 53 (.s 1) 2), Za (.load 54 false 1 (.s 53)), Za (.call 55 [] (.f n_impl_InRange) [.s 54, .c (.int .i64 1), .c (.int .i64 3)]), Za (.mv 56 (.s 55)), Zb 56 true (.fld 57 (.s 1) 3), Zb 56 true (.load 58 false 1 (.s 57)), Zb 56 true (.bin 59 false .eql (.s 58) (ci 0)), Za (.pick 60 (.s 56) (.s 59) cF), Za (.mv 2 (.s 60))] [2])
.ret) (.seq (.seq (pr [.bin 62 false .eql (.s 8) (ci 8), .mv 61 (.s 62)] [1,8,61])
(.cond (.s 61) .skip (pr [.bin 63 false .eql (.s 8) (ci 9), .mv 61 (.s 63)] [1,61])))
(.cond (.s 61) (.seq (.reg [Za (.fld 64 (.s 1) 2), Za (.load 65 false 1 (.s 64)), Za (.call 66 [] (.f n_impl_at) [.s 65, .c (.int .i64 3)]), Za (.mv 67 (.s 66)), Zb 67 true (.fld 68 (.s 1) 3), Zb 67 true (.load 69 false 1 (.s 68)), Zb 67 true (.bin 70 false .eql (.s 69) (ci 0)), Za (.pick 71 (.s 67) (.s 70) cF), Za (.mv 2 (.s 71))] [2])
.ret) .skip))))))))))))))
(.seq (pr [.mv 2 cF] [2])
.ret))))
theorem c_impl_isOp (o : GOp) : Ctr Tryz.prog n_impl_isOp [aS o.enc] [rB (opOk o)] := by
 refine cA m_impl_isOp 1 72 [(.tmp 2, [false])] Tryz.func185 rfl rfl ?_; unfold m_impl_isOp
 intro hb
 clear hb
 simp only [↓reduceIte, reduceEqDiff, reduceLT, reduceLeDiff, reduceAdd, reduceCtorEq, go_sem]
 repeat' first
  | (refine And.intro ?_ ?_ <;> intro h)
  | (apply callK_of (c_impl_at _ _); simp only [↓reduceIte, reduceEqDiff, reduceLT, reduceLeDiff, reduceAdd, reduceCtorEq, go_sem])
  | (apply callK_of (c_impl_InRange _ _ _); simp only [↓reduceIte, reduceEqDiff, reduceLT, reduceAdd, reduceCtorEq, go_sem])
 all_goals (unfold opOk; first | (symm; rw [decide_eq_false_iff_not]; omega) | (symm; rw [decide_eq_true_eq]; omega) | (rw [Bool.eq_iff_iff]; simp only [decide_eq_true_eq, beq_iff_eq]; omega))
def m_spec_l10Ok : MC :=
(.seq (pr [.box 1 0 (.s 0), .mv 2 cF] [1])
(.seq (pr [.mv 3 (ci 3)] [1,3])
(.seq (.seq (pr [.fld 4 (.s 1) 1, .load 5 false 1 (.s 4), .mv 6 (.s 3), .call 7 [] (.f n_spec_l1In) [.s 5, .c (.int .i64 0), .s 6], .un 8 .not (.s 7)] [1,3,8])
(.cond (.s 8) (.seq (pr [.mv 2 cF] [2])
.ret) .skip))
(.seq (.seq (pr [.fld 9 (.s 1) 0, .load 10 false 1 (.s 9)] [1,3,10])
(.block 0 (.seq (pr [.bin 12 false .eql (.s 10) (ci 1), .mv 11 (.s 12)] [1,3,10,11])
(.cond (.s 11) (.seq (.reg [Za (.fld 13 (.s 1) 2), Za (.load 14 false 1 (.s 13)), Za (.call 15 [] (.f n_spec_l1In) [.s 14, .c (.int .i64 1), .c (.int .i64 9)]), Za (.mv 16 (.s 15)), Zb 16 true (.fld 17 (.s 1) 3), Zb 16 true (.load 18 false 1 (.s 17)), Zb 16 true (.call 19 [] (.f n_spec_l1In) [.s 18, .c (.int .i64 0), .c (.int .i64 99)]), Za (.pick 20 (.s 16) (.s 19) cF), Za (.mv 2 (.s 20))] [2])
.ret) (.seq (.seq (pr [.bin 22 false .eql (.s 10) (ci 2), .mv 21 (.s 22)] [1,3,10,21])
(.cond (.s 21) .skip (.seq (pr [.bin 23 false .eql (.s 10) (ci 3), .mv 21 (.s 23)] [1,3,10,21])
(.cond (.s 21) .skip (pr [.bin 24 false .eql (.s 10) (ci 4), .mv 21 (.s 24)] [1,3,10,21])))))
(.cond (.s 21) (.seq (.reg [Za (.fld 25 (.s 1) 2), Za (.load 26 false 1 (.s 25)), Za (.bin 27 false .eql (.s 26) (ci 0)), Za (.mv 28 (.s 27)), Zb 28 true (.fld 29 (.s 1) 3), Zb 28 true (.load 30 false 1 (.s 29)), Zb 28 true (.bin 31 false .eql (.s 30) (ci 0)), Za (.pick 32 (.s 28) (.s 31) cF), Za (.mv 2 (.s 32))] [2])
.ret) (.seq (pr [.bin 34 false .eql (.s 10) (ci 5), .mv 33 (.s 34)] [1,3,10,33])
(.cond (.s 33) (.seq (.reg [Za (.fld 35 (.s 1) 2), Za (.load 36 false 1 (.s 35)), Za (.mv 37 (.s 3)), Za (.call 38 [] (.f n_spec_l1In) [.s 36, .c (.int .i64 0), .s 37]), Za (.mv 39 (.s 38)), Zb 39 true (.fld 40 (.s 1) 3), Zb 39 true (.load 41 false 1 (.s 40)), Zb 39 true (.mv 42 (.s 3)), Zb 39 true (.call 43 [] (.f n_spec_l1In) [.s 41, .c (.int .i64 0), .s 42]), Za (.pick 44 (.s 39) (.s 43) cF), Za (.mv 2 (.s 44))] [2])
.ret) (.seq (pr [.bin 46 false .eql (.s 10) (ci 6), .mv 45 (.s 46)] [1,10,45])
(.cond (.s 45) (.seq (.reg [Za (.fld 47 (.s 1) 2), Za (.load 48 false 1 (.s 47)), Za (.call 49 [] (.f n_spec_l1In) [.s 48, .c (.int .i64 0), .c (.int .i64 3)]), Za (.mv 50 (.s 49)), Zb 50 true (.fld 51 (.s 1) 3), Zb 50 true (.load 52 false 1 (.s 51)), Zb 50 true (.bin 53 false .eql (.s 52) (ci 0)), Za (.pick 54 (.s 50) (.s 53) cF), Za (.mv 2 (.s 54))] [2])
.ret) (.seq (pr [.bin 56 false .eql (.s 10) (ci 7), .mv 55 (.s 56)] [1,10,55])
(.cond (.s 55) (.seq (.reg [Za (.fld 57 (.s 1) 2), Za (.load 58 false 1 (.s 57)), Za (.call 59 [] (.f n_spec_l1In) [.s 58, .c (.int .i64 1), .c (.int .i64 3)]), Za (.mv 60 (.s 59)), Zb 60 true (.fld 61 (.s 1) 3), Zb 60 true (.load 62 false 1 (.s 61)), Zb 60 true (.bin 63 false .eql (.s 62) (ci 0)), Za (.pick 64 (.s 60) (.s 63) cF), Za (.mv 2 (.s 64))] [2])
.ret) (.seq (.seq (pr [.bin 66 false .eql (.s 10) (ci 8), .mv 65 (.s 66)] [1,10,65])
(.cond (.s 65) .skip (pr [.bin 67 false .eql (.s 10) (ci 9), .mv 65 (.s 67)] [1,65])))
(.cond (.s 65) (.seq (.reg [Za (.fld 68 (.s 1) 2), Za (.load 69 false 1 (.s 68)), Za (.call 70 [] (.f n_spec_l1In) [.s 69, .c (.int .i64 0), .c (.int .i64 2)]), Za (.mv 71 (.s 70)), Zb 71 true (.fld 72 (.s 1) 3), Zb 71 true (.load 73 false 1 (.s 72)), Zb 71 true (.bin 74 false .eql (.s 73) (ci 0)), Za (.pick 75 (.s 71) (.s 74) cF), Za (.mv 2 (.s 75))] [2])
.ret) .skip))))))))))))))
(.seq (pr [.mv 2 cF] [2])
.ret)))))
theorem c_spec_l10Ok (o : GOp) : Ctr Tryz.prog n_spec_l10Ok [aS o.enc] [rB (opOk o)] := by
 refine cA m_spec_l10Ok 1 76 [(.tmp 2, [false])] Tryz.func181 rfl rfl ?_; unfold m_spec_l10Ok
 intro hb
 clear hb
 simp only [↓reduceIte, reduceEqDiff, reduceLT, reduceLeDiff, reduceAdd, reduceCtorEq, go_sem]
 repeat' first
  | (refine And.intro ?_ ?_ <;> intro h)
  | (apply callK_of (c_spec_l1In _ _ _); simp only [↓reduceIte, reduceEqDiff, reduceLT, reduceLeDiff, reduceAdd, reduceCtorEq, go_sem])
 all_goals (unfold opOk; first | (symm; rw [decide_eq_false_iff_not]; omega) | (symm; rw [decide_eq_true_eq]; omega) | (rw [Bool.eq_iff_iff]; simp only [decide_eq_true_eq, beq_iff_eq]; omega))
def m_impl_IsScript_1 : MC :=
(.seq (pr [.box 1 0 (.s 0), .mv 2 cF] [1])
(.seq (pr [.load 3 true 4 (.s 1), .call 4 [] (.f n_impl_isOp) [.s 3], .un 5 .not (.s 4), .mv 2 (.s 5)] [2])
.ret))
theorem c_impl_IsScript_1 (o : GOp) : Ctr Tryz.prog n_impl_IsScript_1 [aS o.enc] [rB (!opOk o)] := by
 refine cA m_impl_IsScript_1 1 6 [(.tmp 2, [false])] Tryz.func184 rfl rfl ?_; unfold m_impl_IsScript_1
 intro hb
 clear hb
 simp only [↓reduceIte, reduceEqDiff, reduceLT, reduceAdd, go_sem]
 apply callK_of (c_impl_isOp _)
 simp only [↓reduceIte, reduceEqDiff, reduceLT, go_sem]
def m_impl_IsScript : MC :=
(.seq (pr [.mv 2 cF] [0])
(.seq (.reg [Za (.mv 3 (.s 0)), Za (.len 4 false (.s 3)), Za (.bin 5 false .leq (.s 4) (ci 16)), Za (.mv 6 (.s 5)), Zb 6 true (.mv 7 (.s 0)), Zb 6 true (.call 8 [] (.f n_slices_ContainsFunc_impl_Op_impl_Op) [.s 7, .f n_impl_IsScript_1]), Zb 6 true (.un 9 .not (.s 8)), Za (.pick 10 (.s 6) (.s 9) cF), Za (.mv 2 (.s 10))] [2])
.ret))
theorem c_impl_IsScript (l : List GOp) : Ctr Tryz.prog n_impl_IsScript [aL 4 (l.map GOp.enc)] [rB (scriptOk l)] := by
 refine cA m_impl_IsScript 0 11 [(.tmp 2, [false])] Tryz.func105 rfl rfl ?_; unfold m_impl_IsScript
 intro hb
 clear hb
 simp only [↓reduceIte, reduceEqDiff, reduceLT, reduceCtorEq, go_sem]
 refine ⟨fun h => ?_, fun h => fewAll_no (by omega)⟩
 refine callK_of (c_slices_ContainsFunc_Op l _ [] (fun o => !opOk o) fun o _ => c_impl_IsScript_1 o) ?_
 simp only [↓reduceIte, reduceEqDiff, reduceLT, go_sem]
 exact fewAll_yes (by omega)
def m_spec_IsScript : MC :=
(.seq (pr [.mv 2 cF] [0])
(.seq (.seq (pr [.mv 3 (ci 0)] [0,3])
(.block 0 (.loop ([0,3], []) (.seq (.seq (pr [.mv 4 (.s 3), .mv 5 (.s 0), .len 6 false (.s 5), .bin 7 false .lss (.s 4) (.s 6)] [0,3,7])
(.cond (.s 7) .skip (.exit 0)))
(.seq (.block 1 (.seq (pr [.mv 10 (.s 0), .mv 11 (.s 3), .idx 12 4 (.s 10) (.s 11), .load 13 true 4 (.s 12), .call 14 [] (.f n_spec_l10Ok) [.s 13], .un 15 .not (.s 14)] [0,3,15])
(.cond (.s 15) (.seq (pr [.mv 2 cF] [2])
.ret) .skip)))
(pr [.mv 8 (.s 3), .bin 9 false .add (.s 8) (ci 1), .mv 3 (.s 9)] [0,3]))))))
(.seq (pr [.mv 16 (.s 0), .len 17 false (.s 16), .bin 18 false .leq (.s 17) (ci 16), .mv 2 (.s 18)] [2])
.ret)))
theorem c_spec_IsScript (l : List GOp) : Ctr Tryz.prog n_spec_IsScript [aL 4 (l.map GOp.enc)] [rB (scriptOk l)] := by
 refine cA m_spec_IsScript 0 19 [(.tmp 2, [false])] Tryz.func101 rfl rfl ?_; unfold m_spec_IsScript
 intro hb
 simp only [bdA, bdL, bdT, bdR_map, roomB, and_true, List.length_map] at hb
 have hl := hb.1
 clear hb
 simp only [↓reduceIte, reduceLT, reduceCtorEq, go_sem]
 refine loopK_rng l (fun k => [(3, vI k)]) (fun k => []) (fun k => (l.take k).all opOk = true) hl ?_
 simp only [↓reduceIte, reduceCtorEq, go_sem]
 refine ⟨?_, by simp, ?_, ?_⟩
 ·simp only [↓reduceIte, reduceLT, reduceCtorEq, go_sem]
 ·intro k x hx h h0 h1 hw
  simp only [↓reduceIte, reduceEqDiff, reduceLT, reduceAdd, reduceCtorEq, go_sem, bk_eq hx, h0, h1]
  apply callK_of (c_spec_l10Ok _)
  simp only [↓reduceIte, reduceEqDiff, reduceLT, reduceCtorEq, go_sem, hw]
  exact ⟨fun hn => fewAll_at hx hn, fun hn => all_step hx h hn⟩
 ·intro h
  simp only [↓reduceIte, reduceEqDiff, reduceLT, reduceCtorEq, go_sem]
  rw [List.take_length] at h
  exact le_cast.trans (fewAll_end h)
def asks (k : Int) : Bool := decide (1 ≤ k ∧ k ≤ 4)
def m_impl_Asks : MC :=
(.seq (pr [.mv 2 cF] [0])
(.seq (pr [.mv 3 (.s 0), .call 4 [] (.f n_impl_InRange) [.s 3, .c (.int .i64 1), .c (.int .i64 4)], .mv 2 (.s 4)] [2])
.ret))
theorem c_impl_Asks (k : Int) : Ctr Tryz.prog n_impl_Asks [aI k] [rB (asks k)] := by
 refine cA m_impl_Asks 0 5 [(.tmp 2, [false])] Tryz.func272 rfl rfl ?_; unfold m_impl_Asks
 intro hb
 clear hb
 simp only [↓reduceIte, reduceLT, reduceCtorEq, go_sem]
 apply callK_of (c_impl_InRange _ _ _)
 simp only [↓reduceIte, reduceEqDiff, reduceLT, go_sem]
 try rfl
def m_spec_Asks : MC :=
(.seq (pr [.mv 2 cF] [0])
(.seq (pr [.mv 3 (.s 0), .call 4 [] (.f n_spec_l1In) [.s 3, .c (.int .i64 1), .c (.int .i64 4)], .mv 2 (.s 4)] [2])
.ret))
theorem c_spec_Asks (k : Int) : Ctr Tryz.prog n_spec_Asks [aI k] [rB (asks k)] := by
 refine cA m_spec_Asks 0 5 [(.tmp 2, [false])] Tryz.func261 rfl rfl ?_; unfold m_spec_Asks
 intro hb
 clear hb
 simp only [↓reduceIte, reduceLT, reduceCtorEq, go_sem]
 apply callK_of (c_spec_l1In _ _ _)
 simp only [↓reduceIte, reduceEqDiff, reduceLT, go_sem]
 try rfl
def entOk (e : GEntry) : Bool := asks e.Kind && (decide (0 ≤ e.Value ∧ e.Value ≤ 999) && (if e.Kind = 1 then isAddr e.Address else noAddr e.Address))
def entsOk (l : List GEntry) : Bool := fewAll 16 entOk l
def m_impl_AreEntries_1 : MC :=
(.seq (pr [.box 1 0 (.s 0), .mv 2 cF] [1])
(.seq (.seq (pr [.fld 3 (.s 1) 0, .load 4 false 1 (.s 3), .bin 5 false .eql (.s 4) (ci 1)] [1,5])
(.cond (.s 5) (.seq (.reg [Za (.fld 6 (.s 1) 1), Za (.load 7 true 3 (.s 6)), Za (.call 8 [] (.f n_impl_IsAddress) [.s 7]), Za (.un 9 .not (.s 8)), Za (.mv 10 (.s 9)), Zb 10 false (.fld 11 (.s 1) 4), Zb 10 false (.load 12 false 1 (.s 11)), Zb 10 false (.call 13 [] (.f n_impl_InRange) [.s 12, .c (.int .i64 0), .c (.int .i64 999)]), Zb 10 false (.un 14 .not (.s 13)), Za (.pick 15 (.s 10) cT (.s 14)), Za (.mv 2 (.s 15))] [2])
.ret) .skip))
(.seq (.reg [Za (.fld 16 (.s 1) 0), Za (.load 17 false 1 (.s 16)), Za (.call 18 [] (.f n_impl_Asks) [.s 17]), Za (.un 19 .not (.s 18)), Za (.mv 20 (.s 19)), Zb 20 false (.fld 21 (.s 1) 1), Zb 20 false (.load 22 true 3 (.s 21)), Zb 20 false (.build 23 [pz, pz, pz] []), Zb 20 false (.eqA 24 true [.i .i64, .i .i64, .i .i64] (.s 22) (.s 23)), Za (.pick 25 (.s 20) cT (.s 24)), Za (.mv 26 (.s 25)), Zb 26 false (.fld 27 (.s 1) 4), Zb 26 false (.load 28 false 1 (.s 27)), Zb 26 false (.call 29 [] (.f n_impl_InRange) [.s 28, .c (.int .i64 0), .c (.int .i64 999)]), Zb 26 false (.un 30 .not (.s 29)), Za (.pick 31 (.s 26) cT (.s 30)), Za (.mv 2 (.s 31))] [2])
.ret)))
theorem c_impl_AreEntries_1 (e : GEntry) : Ctr Tryz.prog n_impl_AreEntries_1 [aS e.enc] [rB (!entOk e)] := by
 refine cA m_impl_AreEntries_1 1 32 [(.tmp 2, [false])] Tryz.func271 rfl rfl ?_; unfold m_impl_AreEntries_1
 intro hb
 clear hb
 simp only [↓reduceIte, reduceEqDiff, reduceLT, reduceLeDiff, reduceAdd, reduceCtorEq, go_sem]
 repeat' first
  | (refine And.intro ?_ ?_ <;> intro h)
  | (apply callK_of (c_impl_IsAddress _); simp only [↓reduceIte, reduceEqDiff, reduceLT, reduceAdd, reduceCtorEq, go_sem])
  | (apply callK_of (c_impl_Asks _); simp only [↓reduceIte, reduceEqDiff, reduceLT, reduceLeDiff, reduceAdd, reduceCtorEq, go_sem])
  | (apply callK_of (c_impl_InRange _ _ _); simp only [↓reduceIte, reduceEqDiff, reduceLT, reduceCtorEq, go_sem])
 all_goals (simp_all [entOk, asks, noAddr]; try omega)
def m_impl_AreEntries : MC :=
(.seq (pr [.mv 2 cF] [0])
(.seq (.reg [Za (.mv 3 (.s 0)), Za (.len 4 false (.s 3)), Za (.bin 5 false .leq (.s 4) (ci 16)), Za (.mv 6 (.s 5)), Zb 6 true (.mv 7 (.s 0)), Zb 6 true (.call 8 [] (.f n_slices_ContainsFunc_impl_Entry_impl_Entry) [.s 7, .f n_impl_AreEntries_1]), Zb 6 true (.un 9 .not (.s 8)), Za (.pick 10 (.s 6) (.s 9) cF), Za (.mv 2 (.s 10))] [2])
.ret))
theorem c_impl_AreEntries (l : List GEntry) : Ctr Tryz.prog n_impl_AreEntries [aL 5 (l.map GEntry.enc)] [rB (entsOk l)] := by
 refine cA m_impl_AreEntries 0 11 [(.tmp 2, [false])] Tryz.func231 rfl rfl ?_; unfold m_impl_AreEntries
 intro hb
 clear hb
 simp only [↓reduceIte, reduceEqDiff, reduceLT, reduceCtorEq, go_sem]
 refine ⟨fun h => ?_, fun h => fewAll_no (by omega)⟩
 refine callK_of (c_slices_ContainsFunc_Entry l _ [] (fun o => !entOk o) fun o _ => c_impl_AreEntries_1 o) ?_
 simp only [↓reduceIte, reduceEqDiff, reduceLT, go_sem]
 exact fewAll_yes (by omega)
def m_spec_AreEntries : MC :=
(.seq (pr [.mv 2 cF] [0])
(.seq (.seq (pr [.mv 3 (ci 0)] [0,3])
(.block 0 (.loop ([0,3], [0]) (.seq (.seq (pr [.mv 5 (.s 3), .mv 6 (.s 0), .len 7 false (.s 6), .bin 8 false .lss (.s 5) (.s 7)] [0,3,8])
(.cond (.s 8) .skip (.exit 0)))
(.seq (.block 1 (.seq (pr [.mv 11 (.s 0), .mv 12 (.s 3), .idx 13 5 (.s 11) (.s 12), .load 14 true 5 (.s 13), .alloc 4 0 [pz, pz, pz, pz, pz], .store 5 (.s 4) (.s 14)] [0,3,4])
(.seq (.reg [Za (.fld 15 (.s 4) 0), Za (.load 16 false 1 (.s 15)), Za (.call 17 [] (.f n_spec_Asks) [.s 16]), Za (.un 18 .not (.s 17)), Za (.mv 19 (.s 18)), Zb 19 false (.fld 20 (.s 4) 4), Zb 19 false (.load 21 false 1 (.s 20)), Zb 19 false (.call 22 [] (.f n_spec_l1In) [.s 21, .c (.int .i64 0), .c (.int .i64 999)]), Zb 19 false (.un 23 .not (.s 22)), Za (.pick 24 (.s 19) cT (.s 23)), Za (.mv 25 (.s 24)), Zb 25 false (.fld 26 (.s 4) 0), Zb 25 false (.load 27 false 1 (.s 26)), Zb 25 false (.bin 28 false .eql (.s 27) (ci 1)), Zb 25 false (.mv 29 (.s 28)), Zb 29 true (.fld 30 (.s 4) 1), Zb 29 true (.load 31 true 3 (.s 30)), Zb 29 true (.call 32 [] (.f n_spec_IsAddress) [.s 31]), Zb 29 true (.un 33 .not (.s 32)), Zb 25 false (.pick 34 (.s 29) (.s 33) cF), Za (.pick 35 (.s 25) cT (.s 34)), Za (.mv 36 (.s 35)), Zb 36 false (.fld 37 (.s 4) 0), Zb 36 false (.load 38 false 1 (.s 37)), Zb 36 false (.bin 39 false .neq (.s 38) (ci 1)), Zb 36 false (.mv 40 (.s 39)), Zb 40 true (.fld 41 (.s 4) 1), Zb 40 true (.load 42 true 3 (.s 41)), Zb 40 true (.build 43 [pz, pz, pz] []), Zb 40 true (.eqA 44 true [.i .i64, .i .i64, .i .i64] (.s 42) (.s 43)), Zb 36 false (.pick 45 (.s 40) (.s 44) cF), Za (.pick 46 (.s 36) cT (.s 45))] [0,3,46])
(.cond (.s 46) (.seq (pr [.mv 2 cF] [2])
.ret) .skip))))
(pr [.mv 9 (.s 3), .bin 10 false .add (.s 9) (ci 1), .mv 3 (.s 10)] [0,3]))))))
(.seq (pr [.mv 47 (.s 0), .len 48 false (.s 47), .bin 49 false .leq (.s 48) (ci 16), .mv 2 (.s 49)] [2])
.ret)))
theorem c_spec_AreEntries (l : List GEntry) : Ctr Tryz.prog n_spec_AreEntries [aL 5 (l.map GEntry.enc)] [rB (entsOk l)] := by
 refine cA m_spec_AreEntries 1 50 [(.tmp 2, [false])] Tryz.func221 rfl rfl ?_; unfold m_spec_AreEntries
 intro hb
 simp only [bdA, bdL, bdT, bdR_map, roomB, and_true, List.length_map] at hb
 have hl := hb.1
 clear hb
 simp only [↓reduceIte, reduceLT, reduceCtorEq, go_sem]
 refine loopK_rng l (fun k => [(3, vI k)]) (fun k => []) (fun k => (l.take k).all entOk = true) hl ?_
 simp only [↓reduceIte, reduceCtorEq, go_sem]
 refine ⟨?_, by simp, ?_, ?_⟩
 ·simp only [↓reduceIte, reduceLT, reduceCtorEq, go_sem]
 ·intro k x hx hT h0 h1 hw
  have hy : entOk x = true → (l.take (k + 1)).all entOk = true := fun hn => all_step hx hT hn
  have hn : entOk x = false → false = entsOk l := fun hn => fewAll_at hx hn
  clear hT
  simp only [↓reduceIte, reduceEqDiff, reduceLT, reduceLeDiff, reduceAdd, reduceCtorEq, go_sem, bk_eq hx, h0, h1]
  repeat' first
   | (refine And.intro ?_ ?_ <;> intro h)
   | (apply callK_of (c_spec_IsAddress _); simp only [↓reduceIte, reduceEqDiff, reduceLT, reduceLeDiff, reduceAdd, reduceCtorEq, go_sem, hw])
   | (apply callK_of (c_spec_Asks _); simp only [↓reduceIte, reduceEqDiff, reduceLT, reduceAdd, reduceCtorEq, go_sem])
   | (apply callK_of (c_spec_l1In _ _ _); simp only [↓reduceIte, reduceEqDiff, reduceLT, reduceLeDiff, reduceAdd, reduceCtorEq, go_sem, hw])
  all_goals first | (apply hy; clear hy hn hx hw; simp_all [entOk, noAddr]; done) | (apply hn; clear hy hn hx hw; simp_all [entOk, noAddr]; done) | (apply hn; clear hy hn hx hw; unfold entOk; rw [decide_eq_false (by assumption)]; simp; done) | (trace_state; sorry)
 ·intro h
  simp only [↓reduceIte, reduceEqDiff, reduceLT, reduceCtorEq, go_sem]
  rw [List.take_length] at h
  exact le_cast.trans (fewAll_end h)
def capOk (c : GCapture) : Bool := isAddr c.Address && (decide (0 ≤ c.Tick ∧ c.Tick ≤ 2000) && isRes c.Resource)
def capsOk (l : List GCapture) : Bool := fewAll 20 capOk l
def m_impl_AreCaptures_1 : MC :=
(.seq (pr [.box 1 0 (.s 0), .mv 2 cF] [1])
(.seq (.reg [Za (.fld 3 (.s 1) 0), Za (.load 4 true 3 (.s 3)), Za (.call 5 [] (.f n_impl_IsAddress) [.s 4]), Za (.un 6 .not (.s 5)), Za (.mv 7 (.s 6)), Zb 7 false (.fld 8 (.s 1) 3), Zb 7 false (.load 9 false 1 (.s 8)), Zb 7 false (.call 10 [] (.f n_impl_InRange) [.s 9, .c (.int .i64 0), .c (.int .i64 2000)]), Zb 7 false (.un 11 .not (.s 10)), Za (.pick 12 (.s 7) cT (.s 11)), Za (.mv 13 (.s 12)), Zb 13 false (.fld 14 (.s 1) 4), Zb 13 false (.load 15 true 5 (.s 14)), Zb 13 false (.call 16 [] (.f n_impl_IsResource) [.s 15]), Zb 13 false (.un 17 .not (.s 16)), Za (.pick 18 (.s 13) cT (.s 17)), Za (.mv 2 (.s 18))] [2])
.ret))
theorem c_impl_AreCaptures_1 (c : GCapture) : Ctr Tryz.prog n_impl_AreCaptures_1 [aS c.enc] [rB (!capOk c)] := by
 refine cA m_impl_AreCaptures_1 1 19 [(.tmp 2, [false])] Tryz.func274 rfl rfl ?_; unfold m_impl_AreCaptures_1
 intro hb
 clear hb
 simp only [↓reduceIte, reduceEqDiff, reduceLT, reduceLeDiff, reduceAdd, go_sem]
 repeat' first
  | (refine And.intro ?_ ?_ <;> intro h)
  | (apply callK_of (c_impl_IsAddress _); simp only [↓reduceIte, reduceEqDiff, reduceLT, reduceLeDiff, reduceAdd, reduceCtorEq, go_sem])
  | (apply callK_of (c_impl_IsResource _); simp only [↓reduceIte, reduceEqDiff, reduceLT, reduceCtorEq, go_sem])
  | (apply callK_of (c_impl_InRange _ _ _); simp only [↓reduceIte, reduceEqDiff, reduceLT, reduceAdd, reduceCtorEq, go_sem])
 all_goals (simp_all [capOk]; try omega)
def m_impl_AreCaptures : MC :=
(.seq (pr [.mv 2 cF] [0])
(.seq (.reg [Za (.mv 3 (.s 0)), Za (.len 4 false (.s 3)), Za (.bin 5 false .leq (.s 4) (ci 20)), Za (.mv 6 (.s 5)), Zb 6 true (.mv 7 (.s 0)), Zb 6 true (.call 8 [] (.f n_slices_ContainsFunc_impl_Capture_impl_Capture) [.s 7, .f n_impl_AreCaptures_1]), Zb 6 true (.un 9 .not (.s 8)), Za (.pick 10 (.s 6) (.s 9) cF), Za (.mv 2 (.s 10))] [2])
.ret))
theorem c_impl_AreCaptures (l : List GCapture) : Ctr Tryz.prog n_impl_AreCaptures [aL 9 (l.map GCapture.enc)] [rB (capsOk l)] := by
 refine cA m_impl_AreCaptures 0 11 [(.tmp 2, [false])] Tryz.func232 rfl rfl ?_; unfold m_impl_AreCaptures
 intro hb
 clear hb
 simp only [↓reduceIte, reduceEqDiff, reduceLT, reduceCtorEq, go_sem]
 refine ⟨fun h => ?_, fun h => fewAll_no (by omega)⟩
 refine callK_of (c_slices_ContainsFunc_Capture l _ [] (fun o => !capOk o) fun o _ => c_impl_AreCaptures_1 o) ?_
 simp only [↓reduceIte, reduceEqDiff, reduceLT, go_sem]
 exact fewAll_yes (by omega)
def m_spec_AreCaptures : MC :=
(.seq (pr [.mv 2 cF] [0])
(.seq (.seq (pr [.mv 3 (ci 0)] [0,3])
(.block 0 (.loop ([0,3], []) (.seq (.seq (pr [.mv 4 (.s 3), .mv 5 (.s 0), .len 6 false (.s 5), .bin 7 false .lss (.s 4) (.s 6)] [0,3,7])
(.cond (.s 7) .skip (.exit 0)))
(.seq (.block 1 (.seq (.reg [Za (.mv 10 (.s 0)), Za (.mv 11 (.s 3)), Za (.idx 12 9 (.s 10) (.s 11)), Za (.fld 13 (.s 12) 0), Za (.load 14 true 3 (.s 13)), Za (.call 15 [] (.f n_spec_IsAddress) [.s 14]), Za (.un 16 .not (.s 15)), Za (.mv 17 (.s 16)), Zb 17 false (.mv 18 (.s 0)), Zb 17 false (.mv 19 (.s 3)), Zb 17 false (.idx 20 9 (.s 18) (.s 19)), Zb 17 false (.fld 21 (.s 20) 3), Zb 17 false (.load 22 false 1 (.s 21)), Zb 17 false (.call 23 [] (.f n_spec_l1In) [.s 22, .c (.int .i64 0), .c (.int .i64 2000)]), Zb 17 false (.un 24 .not (.s 23)), Za (.pick 25 (.s 17) cT (.s 24)), Za (.mv 26 (.s 25)), Zb 26 false (.mv 27 (.s 0)), Zb 26 false (.mv 28 (.s 3)), Zb 26 false (.idx 29 9 (.s 27) (.s 28)), Zb 26 false (.fld 30 (.s 29) 4), Zb 26 false (.load 31 true 5 (.s 30)), Zb 26 false (.call 32 [] (.f n_spec_IsResource) [.s 31]), Zb 26 false (.un 33 .not (.s 32)), Za (.pick 34 (.s 26) cT (.s 33))] [0,3,34])
(.cond (.s 34) (.seq (pr [.mv 2 cF] [2])
.ret) .skip)))
(pr [.mv 8 (.s 3), .bin 9 false .add (.s 8) (ci 1), .mv 3 (.s 9)] [0,3]))))))
(.seq (pr [.mv 35 (.s 0), .len 36 false (.s 35), .bin 37 false .leq (.s 36) (ci 20), .mv 2 (.s 37)] [2])
.ret)))
theorem c_spec_AreCaptures (l : List GCapture) : Ctr Tryz.prog n_spec_AreCaptures [aL 9 (l.map GCapture.enc)] [rB (capsOk l)] := by
 refine cA m_spec_AreCaptures 0 38 [(.tmp 2, [false])] Tryz.func222 rfl rfl ?_; unfold m_spec_AreCaptures
 intro hb
 simp only [bdA, bdL, bdT, bdR_map, roomB, and_true, List.length_map] at hb
 have hl := hb.1
 clear hb
 simp only [↓reduceIte, reduceLT, reduceCtorEq, go_sem]
 refine loopK_rng l (fun k => [(3, vI k)]) (fun k => []) (fun k => (l.take k).all capOk = true) hl ?_
 simp only [↓reduceIte, reduceCtorEq, go_sem]
 refine ⟨?_, by simp, ?_, ?_⟩
 ·simp only [↓reduceIte, reduceLT, reduceCtorEq, go_sem]
 ·intro k x hx hT h0 h1 hw
  have hy : capOk x = true → (l.take (k + 1)).all capOk = true := fun hn => all_step hx hT hn
  have hn : capOk x = false → false = capsOk l := fun hn => fewAll_at hx hn
  clear hT
  simp only [↓reduceIte, reduceEqDiff, reduceLT, reduceLeDiff, reduceAdd, reduceCtorEq, go_sem, bk_eq hx, h0, h1]
  repeat' first
   | (refine And.intro ?_ ?_ <;> intro h)
   | (apply callK_of (c_spec_IsAddress _); simp only [↓reduceIte, reduceEqDiff, reduceLT, reduceLeDiff, reduceAdd, reduceCtorEq, go_sem, bk_eq hx, h0, h1])
   | (apply callK_of (c_spec_IsResource _); simp only [↓reduceIte, reduceEqDiff, reduceLT, reduceCtorEq, go_sem, hw])
   | (apply callK_of (c_spec_l1In _ _ _); simp only [↓reduceIte, reduceEqDiff, reduceLT, reduceAdd, reduceCtorEq, go_sem, bk_eq hx, h0, h1])
  all_goals first | (apply hy; clear hy hn hx hw; simp_all [capOk]; done) | (apply hn; clear hy hn hx hw; simp_all [capOk]; done) | (apply hn; clear hy hn hx hw; unfold capOk; rw [decide_eq_false (by assumption)]; simp; done) | (trace_state; sorry)
 ·intro h
  simp only [↓reduceIte, reduceEqDiff, reduceLT, reduceCtorEq, go_sem]
  rw [List.take_length] at h
  exact le_cast.trans (fewAll_end h)
end Go.Proofs.YtpclnmleldeleaaGreatR
namespace Go.Proofs.YtpclnmleldeleaaGreatR
open Go Go.RowKit Go.Proofs
open Nat (reduceEqDiff reduceLT reduceLeDiff reduceAdd reduceMul)
open List (reduceReplicate)
set_option linter.unusedSimpArgs false
set_option linter.unusedVariables false
def m_impl_ScriptInts : MC :=
(.seq (pr [.nilo 2 0 1] [0])
(.seq (pr [.nilo 3 0 1] [0,3])
(.seq (.seq (pr [.mv 6 (.s 0), .len 7 false (.s 6), .mv 8 (ci 0)] [3,6,7,8])
(.block 0 (.loop ([3,6,7,8], [1,2]) (.seq (pr [.bin 9 false .lss (.s 8) (.s 7)] [3,6,7,8,9])
(.seq (.cond (.s 9) .skip (.exit 0))
(.seq (.block 1 (.seq (pr [.idx 10 4 (.s 6) (.s 8), .load 11 true 4 (.s 10), .alloc 5 1 [pz, pz, pz, pz], .store 4 (.s 5) (.s 11)] [3,5,6,7,8])
(pr [.mv 12 (.s 3), .fld 13 (.s 5) 0, .load 14 false 1 (.s 13), .fld 15 (.s 5) 1, .load 16 false 1 (.s 15), .fld 17 (.s 5) 2, .load 18 false 1 (.s 17), .fld 19 (.s 5) 3, .load 20 false 1 (.s 19), .lit 21 2 1 8 [.s 14, .s 16, .s 18, .s 20], .app 22 0 1 8 (.s 12) (.s 21), .mv 3 (.s 22)] [3,6,7,8])))
(pr [.bin 23 false .add (.s 8) (ci 1), .mv 8 (.s 23)] [3,6,7,8])))))))
(.seq (pr [.mv 24 (.s 3), .mv 2 (.s 24)] [2])
.ret))))
theorem c_impl_ScriptInts (xs : List GOp) (hN : xs.length ≤ 1099511627776) : Ctr Tryz.prog n_impl_ScriptInts [aL 4 (xs.map GOp.enc)] [rL 1 ((scriptInts xs).map encI)] := by
 refine cA m_impl_ScriptInts 3 25 [(.tmp 2, [true])] Tryz.func229 rfl rfl ?_; unfold m_impl_ScriptInts
 intro hb
 simp only [bdA, bdL, bdT, bdR_map, roomB, and_true, List.length_map] at hb
 obtain ⟨hl, -⟩ := hb
 simp only [↓reduceIte, reduceEqDiff, reduceLT, reduceAdd, reduceCtorEq, go_sem]
 refine loopK_rng xs (fun k => [(3, .val false [.ref 0 0 1 0 (scriptInts (xs.take k)).length]), (8, vI k)]) (fun k => [(0, ⟨0, .row true 1 ((scriptInts (xs.take k)).map encI)⟩)]) (fun _ => True) hl ?_
 simp only [↓reduceIte, reduceEqDiff, reduceAdd, reduceCtorEq, go_sem]
 refine ⟨?_, trivial, ?_, ?_⟩
 ·simp only [↓reduceIte, reduceEqDiff, reduceLT, go_sem, List.take_zero]
  exact ⟨rfl, rfl⟩
 ·intro k x hx _ h0 h1 hw
  have hlt := List.length_take_le k xs
  simp only [↓reduceIte, reduceEqDiff, reduceLT, reduceLeDiff, reduceAdd, reduceMul, reduceCtorEq, go_sem, bk_eq hx, h0, h1, hw, scriptInts_snoc hx, List.length_append, scriptInts_len]
  refine ⟨⟨by simp, by decide⟩, by simp only [roomB]; omega, by simp [encI]⟩
 ·intro _
  simp only [↓reduceIte, reduceEqDiff, reduceLT, reduceCtorEq, go_sem, List.take_length]
def m_impl_SealContainer : MC :=
(.seq (pr [.alloc 6 0 [.emp 4, .emp 5, .emp 9, pz]] [0,1,2,6])
(.seq (pr [.nilo 7 1 1, .nilo 8 2 1] [0,1,2,6,7,8])
(.seq (.seq (pr [.mv 13 (.s 1), .len 14 false (.s 13), .mv 15 (ci 0)] [0,1,2,6,7,8,13,14,15])
(.block 0 (.loop ([0,1,2,6,7,8,13,14,15], [3,4,5,6,7,11,12]) (.seq (pr [.bin 16 false .lss (.s 15) (.s 14)] [0,1,2,6,7,8,13,14,15,16])
(.seq (.cond (.s 16) .skip (.exit 0))
(.seq (.block 1 (.seq (pr [.idx 17 5 (.s 13) (.s 15), .load 18 true 5 (.s 17), .alloc 10 3 [pz, pz, pz, pz, pz], .store 5 (.s 10) (.s 18)] [0,1,2,6,7,8,10,13,14,15])
(pr [.mv 19 (.s 7), .fld 20 (.s 10) 0, .load 21 false 1 (.s 20), .fld 22 (.s 10) 1, .fld 23 (.s 22) 0, .load 24 false 1 (.s 23), .fld 25 (.s 10) 1, .fld 26 (.s 25) 1, .load 27 false 1 (.s 26), .fld 28 (.s 10) 1, .fld 29 (.s 28) 2, .load 30 false 1 (.s 29), .fld 31 (.s 10) 4, .load 32 false 1 (.s 31), .lit 33 4 1 8 [.s 21, .s 24, .s 27, .s 30, .s 32], .app 34 1 1 8 (.s 19) (.s 33), .mv 7 (.s 34)] [0,1,2,6,7,8,13,14,15])))
(pr [.bin 35 false .add (.s 15) (ci 1), .mv 15 (.s 35)] [0,1,2,6,7,8,13,14,15])))))))
(.seq (.seq (pr [.mv 36 (.s 2), .len 37 false (.s 36), .mv 38 (ci 0)] [0,1,2,6,7,8,36,37,38])
(.block 2 (.loop ([0,1,2,6,7,8,36,37,38], [3,4,5,6,7,11,12]) (.seq (pr [.bin 39 false .lss (.s 38) (.s 37)] [0,1,2,6,7,8,36,37,38,39])
(.seq (.cond (.s 39) .skip (.exit 2))
(.seq (.block 3 (.seq (pr [.idx 40 9 (.s 36) (.s 38), .load 41 true 9 (.s 40), .alloc 12 5 [pz, pz, pz, pz, pz, .emp 1, pz, pz, pz], .store 9 (.s 12) (.s 41)] [0,1,2,6,7,8,12,36,37,38])
(pr [.mv 42 (.s 8), .load 43 true 9 (.s 12), .call 44 [6] (.f n_impl_CaptureInts) [.s 43], .call 45 [] (.f n_impl_Hash) [.s 44], .lit 46 7 1 8 [.s 45], .app 47 2 1 8 (.s 42) (.s 46), .mv 8 (.s 47)] [0,1,2,6,7,8,36,37,38])))
(pr [.bin 48 false .add (.s 38) (ci 1), .mv 38 (.s 48)] [0,1,2,6,7,8,36,37,38])))))))
(.seq (pr [.mv 49 (.s 0), .call 50 [8] (.f n_slices_Clone_impl_Op_impl_Op) [.s 49], .mv 51 (.s 1), .call 52 [9] (.f n_slices_Clone_impl_Entry_impl_Entry) [.s 51], .mv 53 (.s 2), .call 54 [10] (.f n_impl_copyCaptures) [.s 53], .mv 55 (.s 0), .call 56 [11] (.f n_impl_ScriptInts) [.s 55], .call 57 [] (.f n_impl_Hash) [.s 56], .mv 58 (.s 7), .call 59 [] (.f n_impl_Hash) [.s 58], .mv 60 (.s 8), .call 61 [] (.f n_impl_RootOf) [.s 60], .lit 62 12 1 8 [.s 57, .s 59, .s 61], .call 63 [] (.f n_impl_RootOf) [.s 62], .build 64 [.emp 4, .emp 5, .emp 9, pz] [(0, 1, .s 50), (1, 1, .s 52), (2, 1, .s 54), (3, 1, .s 63)], .store 4 (.s 6) (.s 64)] [6])
.ret)))))
theorem c_impl_SealContainer (l : List GOp) (es : List GEntry) (cs : List GCapture) (h1 : l.length ≤ 1073741824) (h2 : es.length ≤ 1073741824) (hs : cs.length + (cs.map GCapture.size).sum ≤ 1073741824) :
  Ctr Tryz.prog n_impl_SealContainer [aL 4 (l.map GOp.enc), aL 5 (es.map GEntry.enc), aL 9 (cs.map GCapture.enc)] [rS (GContainer.enc ⟨l, es, cs, sealRoot l es cs⟩)] := by
 refine cA m_impl_SealContainer 13 65 [(.cell 6 true 4, [true, true, true, false])] Tryz.func166 rfl rfl ?_; unfold m_impl_SealContainer
 intro hb
 clear hb
 simp only [↓reduceIte, reduceEqDiff, reduceLT, reduceAdd, reduceCtorEq, go_sem]
 refine loopK_rng es (fun k => [(7, .val false [.ref 1 0 1 0 (entInts (es.take k)).length]), (15, vI k)]) (fun k => [(1, ⟨0, .row true 1 ((entInts (es.take k)).map encI)⟩)]) (fun _ => True) (by simp only [roomB]; omega) ?_
 simp only [↓reduceIte, reduceEqDiff, reduceAdd, reduceCtorEq, go_sem]
 refine ⟨?_, trivial, ?_, ?_⟩
 ·simp only [↓reduceIte, reduceEqDiff, reduceLT, reduceCtorEq, go_sem, List.take_zero]
  exact ⟨rfl, rfl⟩
 ·intro k x hx _ h0 h1 hw
  have hlt := List.length_take_le k es
  simp only [↓reduceIte, reduceEqDiff, reduceLT, reduceLeDiff, reduceAdd, reduceMul, reduceCtorEq, go_sem, bk_eq hx, h0, h1, hw, entInts_snoc hx, List.length_append, entInts_len]
  refine ⟨⟨by simp, by decide⟩, by simp only [roomB]; omega, by simp [encI]⟩
 ·intro _
  simp only [↓reduceIte, reduceEqDiff, reduceLT, reduceCtorEq, go_sem, List.take_length]
  refine loopK_rng cs (fun k => [(8, .val false [.ref 2 0 1 0 (capHashes (cs.take k)).length]), (38, vI k)]) (fun k => [(2, ⟨0, .row true 1 ((capHashes (cs.take k)).map encI)⟩)]) (fun _ => True) (by simp only [roomB]; omega) ?_
  simp only [↓reduceIte, reduceEqDiff, reduceAdd, reduceCtorEq, go_sem]
  refine ⟨?_, trivial, ?_, ?_⟩
  ·simp only [↓reduceIte, reduceEqDiff, reduceLT, reduceCtorEq, go_sem, List.take_zero]
   exact ⟨rfl, rfl⟩
  ·intro k x hx _ h0 h1 hw
   have hlt := List.length_take_le k cs
   simp only [↓reduceIte, reduceEqDiff, reduceLT, reduceAdd, reduceCtorEq, go_sem, bk_eq hx, h0, h1, capHashes_snoc hx, List.length_append]
   apply callK_of (c_impl_CaptureInts x (body_le hx hs))
   simp only [↓reduceIte, reduceLT, reduceAdd, reduceCtorEq, go_sem]
   try intro _
   apply callK_of (c_impl_Hash (capInts x))
   simp only [↓reduceIte, reduceEqDiff, reduceLT, reduceAdd, reduceMul, reduceCtorEq, go_sem, hw]
   simp only [roomB, capHashes_len]
   exact ⟨by omega, by omega, fun _ => by simp [encI]⟩
  ·intro _
   simp only [↓reduceIte, reduceEqDiff, reduceLT, reduceCtorEq, go_sem, List.take_length]
   apply callK_of (c_slices_Clone_Op l (by omega))
   simp only [↓reduceIte, reduceEqDiff, reduceLT, reduceAdd, reduceCtorEq, go_sem]
   intros
   apply callK_of (c_slices_Clone_Entry es (by omega))
   simp only [↓reduceIte, reduceEqDiff, reduceLT, reduceAdd, reduceCtorEq, go_sem]
   intros
   apply callK_of (c_impl_copyCaptures cs hs)
   simp only [↓reduceIte, reduceLT, reduceAdd, reduceCtorEq, go_sem]
   intros
   apply callK_of (c_impl_ScriptInts l (by omega))
   simp only [↓reduceIte, reduceLT, reduceAdd, reduceCtorEq, go_sem]
   try intros
   apply callK_of (c_impl_Hash (scriptInts l))
   simp only [↓reduceIte, reduceEqDiff, reduceLT, reduceCtorEq, go_sem]
   try intros
   apply callK_of (c_impl_Hash (entInts es))
   simp only [↓reduceIte, reduceEqDiff, reduceLT, reduceCtorEq, go_sem]
   try intros
   apply callK_of (c_impl_RootOf _ (capHashes cs) (Nat.le_refl _))
   simp only [↓reduceIte, reduceEqDiff, reduceLT, reduceAdd, reduceMul, go_sem]
   try intros
   refine ⟨by decide, ?_⟩
   apply callK_of (c_impl_RootOf _ [hashL (scriptInts l), hashL (entInts es), rootL (capHashes cs)] (Nat.le_refl _))
   simp only [↓reduceIte, reduceEqDiff, reduceLT, reduceLeDiff, reduceAdd, reduceCtorEq, go_sem]
   intros
   rfl
def contOk (x : GContainer) : Bool := scriptOk x.Script && (entsOk x.Entries && (capsOk x.Captures && (sealRoot x.Script x.Entries x.Captures == x.Root)))
def m_impl_IsContainer : MC :=
(.seq (pr [.box 1 0 (.s 0), .mv 2 cF] [1])
(.seq (.dreg [Za (.fld 3 (.s 1) 0), Ze [0] (.load 4 false 1 (.s 3)), Ze [0,1] (.call 5 [] (.f n_impl_IsScript) [.s 4]), Ze [0,1,2] (.mv 6 (.s 5)), { o := .fld 7 (.s 1) 1, g := some (6, true), bf := (.range 4) }, { o := .load 8 false 1 (.s 7), g := some (6, true), bf := (.range 5) }, { o := .call 9 [] (.f n_impl_AreEntries) [.s 8], g := some (6, true), bf := (.range 6) }, Ze (.range 7) (.pick 10 (.s 6) (.s 9) cF), Ze (.range 8) (.mv 11 (.s 10)), { o := .fld 12 (.s 1) 2, g := some (11, true), bf := (.range 9) }, { o := .load 13 false 1 (.s 12), g := some (11, true), bf := (.range 10) }, { o := .call 14 [] (.f n_impl_AreCaptures) [.s 13], g := some (11, true), bf := (.range 11) }, Ze (.range 12) (.pick 15 (.s 11) (.s 14) cF), Ze (.range 13) (.mv 16 (.s 15)), { o := .fld 17 (.s 1) 0, g := some (16, true), hs := [19,20,21,22,25,26], bf := (.range 14) }, { o := .load 18 false 1 (.s 17), g := some (16, true), hs := [19,20,21,22,25,26], bf := (.range 15) }, { o := .fld 19 (.s 1) 1, g := some (16, true), hs := [17,18,21,22,25,26], bf := (.range 14) }, { o := .load 20 false 1 (.s 19), g := some (16, true), hs := [17,18,21,22,25,26], bf := [0,1,2,3,4,5,6,7,8,9,10,11,12,13,16] }, { o := .fld 21 (.s 1) 2, g := some (16, true), hs := [17,18,19,20,25,26], bf := (.range 14) }, { o := .load 22 false 1 (.s 21), g := some (16, true), hs := [17,18,19,20,25,26], bf := [0,1,2,3,4,5,6,7,8,9,10,11,12,13,18] }, { o := .call 23 [1, 2, 3] (.f n_impl_SealContainer) [.s 18, .s 20, .s 22], g := some (16, true), hs := [25,26], ws := [1,2,3], bf := (.range 20) }, { o := .fldv 24 (.s 23) 3 1 false, g := some (16, true), hs := [25,26], bf := (.range 21) }, { o := .fld 25 (.s 1) 3, g := some (16, true), hs := [17,18,19,20,21,22,23,24], ho := [1,2,3], bf := (.range 14) }, { o := .load 26 false 1 (.s 25), g := some (16, true), hs := [17,18,19,20,21,22,23,24], ho := [1,2,3], bf := [0,1,2,3,4,5,6,7,8,9,10,11,12,13,22] }, { o := .bin 27 false .eql (.s 24) (.s 26), g := some (16, true), bf := (.range 24) }, Ze (.range 25) (.pick 28 (.s 16) (.s 27) cF), Ze (.range 26) (.mv 2 (.s 28))] [2])
.ret))
theorem c_impl_IsContainer (x : GContainer) (hs : x.size ≤ 1073741824) : Ctr Tryz.prog n_impl_IsContainer [aS x.enc] [rB (contOk x)] := by
 refine cA m_impl_IsContainer 4 29 [(.tmp 2, [false])] Tryz.func168 rfl rfl ?_; unfold m_impl_IsContainer
 intro hb
 clear hb
 simp only [GContainer.size] at hs
 simp only [↓reduceIte, reduceEqDiff, reduceLT, reduceLeDiff, reduceAdd, reduceCtorEq, go_sem]
 repeat' first
  | (refine And.intro ?_ ?_ <;> intro h)
  | (apply callK_of (c_impl_IsScript _); simp only [↓reduceIte, reduceEqDiff, reduceLT, reduceLeDiff, reduceAdd, reduceCtorEq, go_sem])
  | (apply callK_of (c_impl_AreEntries _); simp only [↓reduceIte, reduceEqDiff, reduceLT, reduceLeDiff, reduceAdd, reduceCtorEq, go_sem])
  | (apply callK_of (c_impl_AreCaptures _); simp only [↓reduceIte, reduceEqDiff, reduceLT, reduceLeDiff, reduceAdd, reduceCtorEq, go_sem])
  | (apply callK_of (c_impl_SealContainer x.Script x.Entries x.Captures (by omega) (by omega) (by omega)); simp only [↓reduceIte, reduceEqDiff, reduceLT, reduceAdd, reduceCtorEq, go_sem]; intros)
 all_goals (unfold contOk; simp_all)
def m_spec_IsContainer : MC :=
(.seq (pr [.box 1 0 (.s 0), .mv 2 cF] [1])
(.seq (.dreg [Za (.fld 3 (.s 1) 0), Ze [0] (.load 4 false 1 (.s 3)), Ze [0,1] (.call 5 [] (.f n_spec_IsScript) [.s 4]), Ze [0,1,2] (.mv 6 (.s 5)), { o := .fld 7 (.s 1) 1, g := some (6, true), bf := (.range 4) }, { o := .load 8 false 1 (.s 7), g := some (6, true), bf := (.range 5) }, { o := .call 9 [] (.f n_spec_AreEntries) [.s 8], g := some (6, true), bf := (.range 6) }, Ze (.range 7) (.pick 10 (.s 6) (.s 9) cF), Ze (.range 8) (.mv 11 (.s 10)), { o := .fld 12 (.s 1) 2, g := some (11, true), bf := (.range 9) }, { o := .load 13 false 1 (.s 12), g := some (11, true), bf := (.range 10) }, { o := .call 14 [] (.f n_spec_AreCaptures) [.s 13], g := some (11, true), bf := (.range 11) }, Ze (.range 12) (.pick 15 (.s 11) (.s 14) cF), Ze (.range 13) (.mv 16 (.s 15)), { o := .fld 17 (.s 1) 0, g := some (16, true), hs := [19,20,21,22,25,26], bf := (.range 14) }, { o := .load 18 false 1 (.s 17), g := some (16, true), hs := [19,20,21,22,25,26], bf := (.range 15) }, { o := .fld 19 (.s 1) 1, g := some (16, true), hs := [17,18,21,22,25,26], bf := (.range 14) }, { o := .load 20 false 1 (.s 19), g := some (16, true), hs := [17,18,21,22,25,26], bf := [0,1,2,3,4,5,6,7,8,9,10,11,12,13,16] }, { o := .fld 21 (.s 1) 2, g := some (16, true), hs := [17,18,19,20,25,26], bf := (.range 14) }, { o := .load 22 false 1 (.s 21), g := some (16, true), hs := [17,18,19,20,25,26], bf := [0,1,2,3,4,5,6,7,8,9,10,11,12,13,18] }, { o := .call 23 [1, 2, 3] (.f n_spec_SealContainer) [.s 18, .s 20, .s 22], g := some (16, true), hs := [25,26], ws := [1,2,3], bf := (.range 20) }, { o := .fldv 24 (.s 23) 3 1 false, g := some (16, true), hs := [25,26], bf := (.range 21) }, { o := .fld 25 (.s 1) 3, g := some (16, true), hs := [17,18,19,20,21,22,23,24], ho := [1,2,3], bf := (.range 14) }, { o := .load 26 false 1 (.s 25), g := some (16, true), hs := [17,18,19,20,21,22,23,24], ho := [1,2,3], bf := [0,1,2,3,4,5,6,7,8,9,10,11,12,13,22] }, { o := .bin 27 false .eql (.s 24) (.s 26), g := some (16, true), bf := (.range 24) }, Ze (.range 25) (.pick 28 (.s 16) (.s 27) cF), Ze (.range 26) (.mv 2 (.s 28))] [2])
.ret))
theorem c_spec_IsContainer (x : GContainer) (hs : x.size ≤ 1073741824) : Ctr Tryz.prog n_spec_IsContainer [aS x.enc] [rB (contOk x)] := by
 refine cA m_spec_IsContainer 4 29 [(.tmp 2, [false])] Tryz.func159 rfl rfl ?_; unfold m_spec_IsContainer
 intro hb
 clear hb
 simp only [GContainer.size] at hs
 simp only [↓reduceIte, reduceEqDiff, reduceLT, reduceLeDiff, reduceAdd, reduceCtorEq, go_sem]
 repeat' first
  | (refine And.intro ?_ ?_ <;> intro h)
  | (apply callK_of (c_spec_IsScript _); simp only [↓reduceIte, reduceEqDiff, reduceLT, reduceLeDiff, reduceAdd, reduceCtorEq, go_sem])
  | (apply callK_of (c_spec_AreEntries _); simp only [↓reduceIte, reduceEqDiff, reduceLT, reduceLeDiff, reduceAdd, reduceCtorEq, go_sem])
  | (apply callK_of (c_spec_AreCaptures _); simp only [↓reduceIte, reduceEqDiff, reduceLT, reduceLeDiff, reduceAdd, reduceCtorEq, go_sem])
  | (apply callK_of (c_spec_SealContainer x.Script x.Entries x.Captures (by omega) (by omega) (by omega)); simp only [↓reduceIte, reduceEqDiff, reduceLT, reduceAdd, reduceCtorEq, go_sem]; intros)
 all_goals (unfold contOk; simp_all)
def m_impl_badContainer : MC :=
(.seq (pr [.box 1 0 (.s 0), .mv 2 cF] [1])
(.seq (pr [.load 3 true 4 (.s 1), .call 4 [] (.f n_impl_IsContainer) [.s 3], .un 5 .not (.s 4), .mv 2 (.s 5)] [2])
.ret))
theorem c_impl_badContainer (x : GContainer) (hs : x.size ≤ 1073741824) : Ctr Tryz.prog n_impl_badContainer [aS x.enc] [rB (!contOk x)] := by
 refine cA m_impl_badContainer 1 6 [(.tmp 2, [false])] Tryz.func187 rfl rfl ?_; unfold m_impl_badContainer
 intro hb
 clear hb
 simp only [↓reduceIte, reduceEqDiff, reduceLT, reduceAdd, go_sem]
 apply callK_of (c_impl_IsContainer x hs)
 simp only [↓reduceIte, reduceEqDiff, reduceLT, go_sem]
def whole (d : GDisk) : Bool := decide (d.Index = index d.Containers)
def diskOk (d : GDisk) : Bool := fewAll 6 contOk d.Containers && (fewAll 1 contOk d.Wanted && (whole d || (decide (0 < d.Containers.length) && decide (d.Index = index d.Containers.dropLast))))
theorem diskOk_no1 {d : GDisk} {k : Nat} {x : GContainer} (hx : d.Containers[k]? = some x) (h : contOk x = false) : false = diskOk d := by
 unfold diskOk; rw [← fewAll_at (n := 6) hx h, Bool.false_and]
theorem diskOk_no2 {d : GDisk} {k : Nat} {x : GContainer} (hx : d.Wanted[k]? = some x) (h : contOk x = false) : false = diskOk d := by
 unfold diskOk; rw [← fewAll_at (n := 1) hx h, Bool.false_and, Bool.and_false]
def m_impl_Disk_follows : MC :=
(.seq (pr [.box 1 0 (.s 0), .mv 2 cF] [1])
(.seq (.dreg [Zf [5,6,7] [1] (.fld 3 (.s 1) 1), Zg [5,6,7] [1] [0] (.load 4 false 1 (.s 3)), Zc [3,4] (.fld 5 (.s 1) 0), Zd [3,4] [2] (.load 6 false 1 (.s 5)), { o := .call 7 [1] (.f n_impl_BuildIndex) [.s 6], hs := [3,4], ws := [1], bf := [2,3] }, Ze (.range 5) (.call 8 [] (.f n_slices_Equal_impl_Found_impl_Found) [.s 4, .s 7]), Ze (.range 6) (.mv 2 (.s 8))] [2])
.ret))
theorem c_impl_follows (d : GDisk) (hs : d.size ≤ 1073741824) : Ctr Tryz.prog n_impl_Disk_follows [aS d.enc] [rB (whole d)] := by
 refine cA m_impl_Disk_follows 2 9 [(.tmp 2, [false])] Tryz.func169 rfl rfl ?_; unfold m_impl_Disk_follows
 intro hb
 clear hb
 simp only [GDisk.size] at hs
 simp only [↓reduceIte, reduceEqDiff, reduceLT, reduceLeDiff, reduceAdd, reduceCtorEq, go_sem]
 apply callK_of (c_impl_BuildIndex d.Containers (by omega))
 simp only [↓reduceIte, reduceEqDiff, reduceLT, reduceAdd, reduceCtorEq, go_sem]
 intros
 apply callK_of (c_slices_Equal_Found _ _)
 simp only [↓reduceIte, reduceEqDiff, reduceLT, reduceAdd, reduceCtorEq, go_sem]
 intros
 rfl
def m_spec_l31Whole : MC :=
(.seq (pr [.box 1 0 (.s 0), .mv 2 cF] [1])
(.seq (.dreg [Zf [5,6,7] [1] (.fld 3 (.s 1) 1), Zg [5,6,7] [1] [0] (.load 4 false 1 (.s 3)), Zc [3,4] (.fld 5 (.s 1) 0), Zd [3,4] [2] (.load 6 false 1 (.s 5)), { o := .call 7 [1] (.f n_spec_BuildIndex) [.s 6], hs := [3,4], ws := [1], bf := [2,3] }, Ze (.range 5) (.call 8 [] (.f n_spec_l31Same) [.s 4, .s 7]), Ze (.range 6) (.mv 2 (.s 8))] [2])
.ret))
theorem c_spec_l31Whole (d : GDisk) (hs : d.size ≤ 1073741824) : Ctr Tryz.prog n_spec_l31Whole [aS d.enc] [rB (whole d)] := by
 refine cA m_spec_l31Whole 2 9 [(.tmp 2, [false])] Tryz.func160 rfl rfl ?_; unfold m_spec_l31Whole
 intro hb
 clear hb
 simp only [GDisk.size] at hs
 simp only [↓reduceIte, reduceEqDiff, reduceLT, reduceLeDiff, reduceAdd, reduceCtorEq, go_sem]
 apply callK_of (c_spec_BuildIndex d.Containers (by omega))
 simp only [↓reduceIte, reduceEqDiff, reduceLT, reduceAdd, reduceCtorEq, go_sem]
 intros
 apply callK_of (c_spec_l31Same _ _)
 simp only [↓reduceIte, reduceEqDiff, reduceLT, reduceAdd, reduceCtorEq, go_sem]
 intros
 rfl
theorem take_sz {l : List GContainer} {n N : Nat} (h : l.length + (l.map GContainer.size).sum ≤ N) : (l.take n).length + ((l.take n).map GContainer.size).sum ≤ N := by
 have h1 := List.length_take_le n l
 have h2 := sum_take_le (f := GContainer.size) l n
 have h3 : (l.take n).length ≤ l.length := by rw [List.length_take]; omega
 omega
def m_impl_IsDisk : MC :=
(.seq (pr [.box 1 0 (.s 0), .mv 2 cF] [1])
(.seq (pr [.fld 4 (.s 1) 0, .load 5 false 1 (.s 4), .len 6 false (.s 5), .mv 3 (.s 6)] [1,3])
(.seq (.dreg [Za (.mv 7 (.s 3)), Ze [0] (.bin 8 false .leq (.s 7) (ci 6)), Ze [0,1] (.mv 9 (.s 8)), { o := .fld 10 (.s 1) 0, g := some (9, true), bf := [0,1,2] }, { o := .load 11 false 1 (.s 10), g := some (9, true), bf := (.range 4) }, { o := .call 12 [] (.f n_slices_ContainsFunc_impl_Container_impl_Container) [.s 11, .f n_impl_badContainer], g := some (9, true), bf := (.range 5) }, { o := .un 13 .not (.s 12), g := some (9, true), bf := (.range 6) }, Ze (.range 7) (.pick 14 (.s 9) (.s 13) cF), Ze (.range 8) (.mv 15 (.s 14)), { o := .fld 16 (.s 1) 2, g := some (15, true), bf := (.range 9) }, { o := .load 17 false 1 (.s 16), g := some (15, true), bf := (.range 10) }, { o := .len 18 false (.s 17), g := some (15, true), bf := (.range 11) }, { o := .bin 19 false .leq (.s 18) (ci 1), g := some (15, true), bf := (.range 12) }, Ze (.range 13) (.pick 20 (.s 15) (.s 19) cF), Ze (.range 14) (.mv 21 (.s 20)), { o := .fld 22 (.s 1) 2, g := some (21, true), bf := (.range 15) }, { o := .load 23 false 1 (.s 22), g := some (21, true), bf := (.range 16) }, { o := .call 24 [] (.f n_slices_ContainsFunc_impl_Container_impl_Container) [.s 23, .f n_impl_badContainer], g := some (21, true), bf := (.range 17) }, { o := .un 25 .not (.s 24), g := some (21, true), bf := (.range 18) }, Ze (.range 19) (.pick 26 (.s 21) (.s 25) cF), Ze (.range 20) (.mv 27 (.s 26)), { o := .load 28 true 3 (.s 1), g := some (27, true), bf := (.range 21) }, { o := .call 29 [] (.f n_impl_Disk_follows) [.s 28], g := some (27, true), bf := (.range 22) }, { o := .mv 30 (.s 29), g := some (27, true), bf := (.range 23) }, { o := .mv 31 (.s 3), g := some (30, false), bf := (.range 24) }, { o := .bin 32 false .gtr (.s 31) (ci 0), g := some (30, false), bf := (.range 25) }, { o := .mv 33 (.s 32), g := some (30, false), bf := (.range 26) }, { o := .fld 34 (.s 1) 1, g := some (33, true), hs := [36,37,38,39,40,41], ho := [1], bf := (.range 27) }, { o := .load 35 false 1 (.s 34), g := some (33, true), hs := [36,37,38,39,40,41], ho := [1], bf := (.range 28) }, { o := .fld 36 (.s 1) 0, g := some (33, true), hs := [34,35,38,39], bf := (.range 27) }, { o := .load 37 false 1 (.s 36), g := some (33, true), hs := [34,35,38,39], bf := [0,1,2,3,4,5,6,7,8,9,10,11,12,13,14,15,16,17,18,19,20,21,22,23,24,25,26,29] }, { o := .mv 38 (.s 3), g := some (33, true), hs := [34,35,36,37], bf := (.range 27) }, { o := .bin 39 false .sub (.s 38) (ci 1), g := some (33, true), hs := [34,35,36,37], bf := [0,1,2,3,4,5,6,7,8,9,10,11,12,13,14,15,16,17,18,19,20,21,22,23,24,25,26,31] }, { o := .slc 40 4 (.s 37) none (some (.s 39)) none, g := some (33, true), hs := [34,35], bf := [0,1,2,3,4,5,6,7,8,9,10,11,12,13,14,15,16,17,18,19,20,21,22,23,24,25,26,29,30,31,32] }, { o := .call 41 [1] (.f n_impl_BuildIndex) [.s 40], g := some (33, true), hs := [34,35], ws := [1], bf := [0,1,2,3,4,5,6,7,8,9,10,11,12,13,14,15,16,17,18,19,20,21,22,23,24,25,26,29,30,31,32,33] }, { o := .call 42 [] (.f n_slices_Equal_impl_Found_impl_Found) [.s 35, .s 41], g := some (33, true), bf := (.range 35) }, { o := .pick 43 (.s 33) (.s 42) cF, g := some (30, false), bf := (.range 36) }, { o := .pick 44 (.s 30) cT (.s 43), g := some (27, true), bf := (.range 37) }, Ze (.range 38) (.pick 45 (.s 27) (.s 44) cF), Ze (.range 39) (.mv 2 (.s 45))] [2])
.ret)))
set_option maxHeartbeats 1000000 in
theorem c_impl_IsDisk (d : GDisk) (hs : d.size ≤ 1073741824) : Ctr Tryz.prog n_impl_IsDisk [aS d.enc] [rB (diskOk d)] := by
 refine cA m_impl_IsDisk 2 46 [(.tmp 2, [false])] Tryz.func106 rfl rfl ?_; unfold m_impl_IsDisk
 intro hb
 clear hb
 have hs' := hs
 simp only [GDisk.size] at hs
 have hx1 : ∀ x ∈ d.Containers, x.size ≤ 1073741824 := fun x hx => by have := mem_sum (f := GContainer.size) hx; omega
 have hx2 : ∀ x ∈ d.Wanted, x.size ≤ 1073741824 := fun x hx => by have := mem_sum (f := GContainer.size) hx; omega
 have hsz : d.Containers.length + (d.Containers.map GContainer.size).sum ≤ 1073741824 := by omega
 have hw1 : (d.Containers.length : Int) > 0 → IntKind.i64.wrap ((d.Containers.length : Int) - 1) = ((d.Containers.length - 1 : Nat) : Int) := fun h => by rw [wI (by omega) (by omega)]; omega
 obtain ⟨A, hA⟩ : ∃ A, A = d.Containers.all contOk := ⟨_, rfl⟩
 obtain ⟨B, hB⟩ : ∃ B, B = d.Wanted.all contOk := ⟨_, rfl⟩
 have hC : (d.Containers.any fun x => !contOk x) = !A := by rw [any_nots, hA]
 have hW : (d.Wanted.any fun x => !contOk x) = !B := by rw [any_nots, hB]
 simp only [↓reduceIte, reduceEqDiff, reduceLT, reduceLeDiff, reduceAdd, reduceCtorEq, go_sem]
 repeat' first
  | (refine And.intro ?_ ?_ <;> intro h)
  | (apply callK_of (c_slices_ContainsFunc_Container d.Containers _ [] (fun x => !contOk x) fun x hx => c_impl_badContainer x (hx1 x hx)); simp only [↓reduceIte, reduceEqDiff, reduceLT, reduceAdd, reduceCtorEq, go_sem, hC])
  | (apply callK_of (c_slices_ContainsFunc_Container d.Wanted _ [] (fun x => !contOk x) fun x hx => c_impl_badContainer x (hx2 x hx)); simp only [↓reduceIte, reduceEqDiff, reduceLT, reduceAdd, reduceCtorEq, go_sem, hW])
  | (apply callK_of (c_impl_follows d hs'); simp only [↓reduceIte, reduceEqDiff, reduceLT, reduceLeDiff, reduceAdd, reduceCtorEq, go_sem])
  | (rw [hw1 (by assumption), cutA (by omega)]; refine ⟨⟨by omega, by omega, by omega⟩, ?_⟩; apply callK_of (c_impl_BuildIndex _ (take_sz hsz)); simp only [↓reduceIte, reduceEqDiff, reduceLT, reduceAdd, reduceCtorEq, go_sem]; intros; apply callK_of (c_slices_Equal_Found _ _); simp only [↓reduceIte, reduceEqDiff, reduceLT, reduceAdd, reduceCtorEq, go_sem]; intros)
 all_goals (rw [diskOk, fewAll, fewAll, ← hA, ← hB, List.dropLast_eq_take]; clear hC hW hA hB hx1 hx2 hw1 hsz hs hs'; by_cases c1 : d.Containers.length ≤ 6 <;> by_cases c2 : d.Wanted.length ≤ 1 <;> by_cases c3 : 0 < d.Containers.length <;> simp_all <;> omega)
def m_spec_IsDisk : MC :=
(.seq (pr [.box 1 0 (.s 0), .mv 2 cF] [1])
(.seq (.seq (pr [.mv 3 (ci 0)] [1,3])
(.block 0 (.loop ([1,3], [1]) (.seq (.seq (pr [.mv 6 (.s 3), .fld 7 (.s 1) 0, .load 8 false 1 (.s 7), .len 9 false (.s 8), .bin 10 false .lss (.s 6) (.s 9)] [1,3,10])
(.cond (.s 10) .skip (.exit 0)))
(.seq (.block 1 (.seq (pr [.fld 13 (.s 1) 0, .load 14 false 1 (.s 13), .mv 15 (.s 3), .idx 16 4 (.s 14) (.s 15), .load 17 true 4 (.s 16), .call 18 [] (.f n_spec_IsContainer) [.s 17], .un 19 .not (.s 18)] [1,3,19])
(.cond (.s 19) (.seq (pr [.mv 2 cF] [2])
.ret) .skip)))
(pr [.mv 11 (.s 3), .bin 12 false .add (.s 11) (ci 1), .mv 3 (.s 12)] [1,3]))))))
(.seq (.seq (pr [.mv 4 (ci 0)] [1,4])
(.block 2 (.loop ([1,4], [1]) (.seq (.seq (pr [.mv 20 (.s 4), .fld 21 (.s 1) 2, .load 22 false 1 (.s 21), .len 23 false (.s 22), .bin 24 false .lss (.s 20) (.s 23)] [1,4,24])
(.cond (.s 24) .skip (.exit 2)))
(.seq (.block 3 (.seq (pr [.fld 27 (.s 1) 2, .load 28 false 1 (.s 27), .mv 29 (.s 4), .idx 30 4 (.s 28) (.s 29), .load 31 true 4 (.s 30), .call 32 [] (.f n_spec_IsContainer) [.s 31], .un 33 .not (.s 32)] [1,4,33])
(.cond (.s 33) (.seq (pr [.mv 2 cF] [2])
.ret) .skip)))
(pr [.mv 25 (.s 4), .bin 26 false .add (.s 25) (ci 1), .mv 4 (.s 26)] [1,4]))))))
(.seq (pr [.fld 34 (.s 1) 0, .load 35 false 1 (.s 34), .len 36 false (.s 35), .mv 5 (.s 36)] [1,5])
(.seq (.dreg [Za (.mv 37 (.s 5)), Ze [0] (.bin 38 false .leq (.s 37) (ci 6)), Ze [0,1] (.mv 39 (.s 38)), { o := .fld 40 (.s 1) 2, g := some (39, true), bf := [0,1,2] }, { o := .load 41 false 1 (.s 40), g := some (39, true), bf := (.range 4) }, { o := .len 42 false (.s 41), g := some (39, true), bf := (.range 5) }, { o := .bin 43 false .leq (.s 42) (ci 1), g := some (39, true), bf := (.range 6) }, Ze (.range 7) (.pick 44 (.s 39) (.s 43) cF), Ze (.range 8) (.mv 45 (.s 44)), { o := .load 46 true 3 (.s 1), g := some (45, true), bf := (.range 9) }, { o := .call 47 [] (.f n_spec_l31Whole) [.s 46], g := some (45, true), bf := (.range 10) }, { o := .mv 48 (.s 47), g := some (45, true), bf := (.range 11) }, { o := .mv 49 (.s 5), g := some (48, false), bf := (.range 12) }, { o := .bin 50 false .gtr (.s 49) (ci 0), g := some (48, false), bf := (.range 13) }, { o := .mv 51 (.s 50), g := some (48, false), bf := (.range 14) }, { o := .fld 52 (.s 1) 1, g := some (51, true), hs := [54,55,56,57,58,59], ho := [1], bf := (.range 15) }, { o := .load 53 false 1 (.s 52), g := some (51, true), hs := [54,55,56,57,58,59], ho := [1], bf := (.range 16) }, { o := .fld 54 (.s 1) 0, g := some (51, true), hs := [52,53,56,57], bf := (.range 15) }, { o := .load 55 false 1 (.s 54), g := some (51, true), hs := [52,53,56,57], bf := [0,1,2,3,4,5,6,7,8,9,10,11,12,13,14,17] }, { o := .mv 56 (.s 5), g := some (51, true), hs := [52,53,54,55], bf := (.range 15) }, { o := .bin 57 false .sub (.s 56) (ci 1), g := some (51, true), hs := [52,53,54,55], bf := [0,1,2,3,4,5,6,7,8,9,10,11,12,13,14,19] }, { o := .slc 58 4 (.s 55) none (some (.s 57)) none, g := some (51, true), hs := [52,53], bf := [0,1,2,3,4,5,6,7,8,9,10,11,12,13,14,17,18,19,20] }, { o := .call 59 [1] (.f n_spec_BuildIndex) [.s 58], g := some (51, true), hs := [52,53], ws := [1], bf := [0,1,2,3,4,5,6,7,8,9,10,11,12,13,14,17,18,19,20,21] }, { o := .call 60 [] (.f n_spec_l31Same) [.s 53, .s 59], g := some (51, true), bf := (.range 23) }, { o := .pick 61 (.s 51) (.s 60) cF, g := some (48, false), bf := (.range 24) }, { o := .pick 62 (.s 48) cT (.s 61), g := some (45, true), bf := (.range 25) }, Ze (.range 26) (.pick 63 (.s 45) (.s 62) cF), Ze (.range 27) (.mv 2 (.s 63))] [2])
.ret)))))
set_option maxHeartbeats 1000000 in
theorem c_spec_IsDisk (d : GDisk) (hs : d.size ≤ 1073741824) : Ctr Tryz.prog n_spec_IsDisk [aS d.enc] [rB (diskOk d)] := by
 refine cA m_spec_IsDisk 2 64 [(.tmp 2, [false])] Tryz.func102 rfl rfl ?_; unfold m_spec_IsDisk
 intro hb
 clear hb
 have hs' := hs
 simp only [GDisk.size] at hs
 have hx1 : ∀ x ∈ d.Containers, x.size ≤ 1073741824 := fun x hx => by have := mem_sum (f := GContainer.size) hx; omega
 have hx2 : ∀ x ∈ d.Wanted, x.size ≤ 1073741824 := fun x hx => by have := mem_sum (f := GContainer.size) hx; omega
 have hsz : d.Containers.length + (d.Containers.map GContainer.size).sum ≤ 1073741824 := by omega
 have hw1 : (d.Containers.length : Int) > 0 → IntKind.i64.wrap ((d.Containers.length : Int) - 1) = ((d.Containers.length - 1 : Nat) : Int) := fun h => by rw [wI (by omega) (by omega)]; omega
 obtain ⟨A, hA⟩ : ∃ A, A = d.Containers.all contOk := ⟨_, rfl⟩
 obtain ⟨B, hB⟩ : ∃ B, B = d.Wanted.all contOk := ⟨_, rfl⟩
 have hC : (d.Containers.any fun x => !contOk x) = !A := by rw [any_nots, hA]
 have hW : (d.Wanted.any fun x => !contOk x) = !B := by rw [any_nots, hB]
 simp only [↓reduceIte, reduceEqDiff, reduceLT, reduceAdd, go_sem]
 refine loopK_rng d.Containers (fun k => [(3, vI k)]) (fun k => []) (fun k => (d.Containers.take k).all contOk = true) (by simp only [roomB]; omega) ?_
 simp only [↓reduceIte, reduceEqDiff, reduceAdd, reduceCtorEq, go_sem]
 refine ⟨?_, by simp, ?_, ?_⟩
 ·simp only [↓reduceIte, reduceEqDiff, reduceLT, go_sem]
 ·intro k x hx h h0 h1 hw
  simp only [↓reduceIte, reduceEqDiff, reduceLT, reduceLeDiff, reduceAdd, reduceCtorEq, go_sem, bk_eq hx, h0, h1]
  apply callK_of (c_spec_IsContainer x (hx1 x (at_mem hx)))
  simp only [↓reduceIte, reduceEqDiff, reduceLT, reduceAdd, reduceCtorEq, go_sem, hw]
  exact ⟨fun hn => diskOk_no1 hx hn, fun hn => all_step hx h hn⟩
 ·intro hA'
  rw [List.take_length, ← hA] at hA'
  simp only [↓reduceIte, reduceEqDiff, reduceLT, reduceLeDiff, reduceAdd, reduceCtorEq, go_sem]
  refine loopK_rng d.Wanted (fun k => [(4, vI k)]) (fun k => []) (fun k => (d.Wanted.take k).all contOk = true) (by simp only [roomB]; omega) ?_
  simp only [↓reduceIte, reduceEqDiff, reduceAdd, reduceCtorEq, go_sem]
  refine ⟨?_, by simp, ?_, ?_⟩
  ·simp only [↓reduceIte, reduceEqDiff, reduceLT, go_sem]
  ·intro k x hx h h0 h1 hw
   simp only [↓reduceIte, reduceEqDiff, reduceLT, reduceAdd, reduceCtorEq, go_sem, bk_eq hx, h0, h1]
   apply callK_of (c_spec_IsContainer x (hx2 x (at_mem hx)))
   simp only [↓reduceIte, reduceEqDiff, reduceLT, reduceAdd, reduceCtorEq, go_sem, hw]
   exact ⟨fun hn => diskOk_no2 hx hn, fun hn => all_step hx h hn⟩
  ·intro hB'
   rw [List.take_length, ← hB] at hB'
   simp only [↓reduceIte, reduceEqDiff, reduceLT, reduceLeDiff, reduceAdd, reduceCtorEq, go_sem]
   repeat' first
    | (refine And.intro ?_ ?_ <;> intro h)
    | (apply callK_of (c_spec_l31Whole d hs'); simp only [↓reduceIte, reduceEqDiff, reduceLT, reduceLeDiff, reduceAdd, reduceCtorEq, go_sem])
    | (rw [hw1 (by assumption), cutA (by omega)]; refine ⟨⟨by omega, by omega, by omega⟩, ?_⟩; apply callK_of (c_spec_BuildIndex _ (take_sz hsz)); simp only [↓reduceIte, reduceEqDiff, reduceLT, reduceAdd, reduceCtorEq, go_sem]; intros; apply callK_of (c_spec_l31Same _ _); simp only [↓reduceIte, reduceEqDiff, reduceLT, reduceAdd, reduceCtorEq, go_sem]; intros)
   all_goals (rw [diskOk, fewAll, fewAll, ← hA, ← hB, List.dropLast_eq_take]; clear hC hW hA hB hx1 hx2 hw1 hsz hs hs'; by_cases c1 : d.Containers.length ≤ 6 <;> by_cases c2 : d.Wanted.length ≤ 1 <;> by_cases c3 : 0 < d.Containers.length <;> simp_all <;> omega)
end Go.Proofs.YtpclnmleldeleaaGreatR
namespace Go.Proofs.YtpclnmleldeleaaGreatR
open Go Go.RowKit Go.Proofs
open Nat (reduceEqDiff reduceLT reduceLeDiff reduceAdd reduceMul)
open List (reduceReplicate)
set_option linter.unusedSimpArgs false
set_option linter.unusedVariables false
def firstOk (d : GDisk) (x : GContainer) : Bool := diskOk d && (contOk x && (whole d && (decide (d.Wanted.length = 0) && decide (d.Containers.length < 6))))
def firstTo (d : GDisk) (x : GContainer) : GDisk := if firstOk d x then ⟨d.Containers, d.Index, [x]⟩ else d
theorem firstTo_size (d : GDisk) (x : GContainer) : (firstTo d x).size ≤ d.size + (x.size + 1) := by
 unfold firstTo
 split
 ·simp only [GDisk.size, List.length_cons, List.length_nil, List.map_cons, List.map_nil, List.sum_cons, List.sum_nil]; omega
 ·omega
def m_impl_WriteFirst : MC :=
(.seq (pr [.box 2 0 (.s 0), .box 3 1 (.s 1), .alloc 4 2 [.emp 4, .emp 6, .emp 4], .mv 5 cF] [2,3,4])
(.seq (pr [.load 7 true 3 (.s 2), .call 8 [3, 4, 5] (.f n_impl_copyDisk) [.s 7], .alloc 6 6 [.emp 4, .emp 6, .emp 4], .store 3 (.s 6) (.s 8)] [2,3,4,6])
(.seq (.seq (.reg [Za (.load 9 true 3 (.s 2)), Za (.call 10 [] (.f n_impl_IsDisk) [.s 9]), Za (.un 11 .not (.s 10)), Za (.mv 12 (.s 11)), Zb 12 false (.load 13 true 4 (.s 3)), Zb 12 false (.call 14 [] (.f n_impl_IsContainer) [.s 13]), Zb 12 false (.un 15 .not (.s 14)), Za (.pick 16 (.s 12) cT (.s 15)), Za (.mv 17 (.s 16)), Zb 17 false (.load 18 true 3 (.s 2)), Zb 17 false (.call 19 [] (.f n_impl_Disk_follows) [.s 18]), Zb 17 false (.un 20 .not (.s 19)), Za (.pick 21 (.s 17) cT (.s 20)), Za (.mv 22 (.s 21)), Zb 22 false (.fld 23 (.s 2) 2), Zb 22 false (.load 24 false 1 (.s 23)), Zb 22 false (.len 25 false (.s 24)), Zb 22 false (.bin 26 false .gtr (.s 25) (ci 0)), Za (.pick 27 (.s 22) cT (.s 26)), Za (.mv 28 (.s 27)), Zb 28 false (.fld 29 (.s 2) 0), Zb 28 false (.load 30 false 1 (.s 29)), Zb 28 false (.len 31 false (.s 30)), Zb 28 false (.bin 32 false .geq (.s 31) (ci 6)), Za (.pick 33 (.s 28) cT (.s 32))] [3,4,6,33])
(.cond (.s 33) (.seq (pr [.load 34 true 3 (.s 6), .store 3 (.s 4) (.s 34), .mv 5 cF] [4,5])
.ret) .skip))
(.seq (pr [.load 35 true 4 (.s 3), .lit 36 7 4 80 [.s 35], .call 37 [8] (.f n_impl_copyContainers) [.s 36], .fld 38 (.s 6) 2, .store 1 (.s 38) (.s 37)] [4,6])
(.seq (pr [.load 39 true 3 (.s 6), .store 3 (.s 4) (.s 39), .mv 5 cT] [4,5])
.ret)))))
theorem c_impl_WriteFirst (d : GDisk) (x : GContainer) (hs : d.size ≤ 1073741824) (hx : x.size ≤ 1073741823) : Ctr Tryz.prog n_impl_WriteFirst [aS d.enc, aS x.enc] [rS (firstTo d x).enc, rB (firstOk d x)] := by
  refine cA m_impl_WriteFirst 9 40 [(.cell 4 true 3, [true, true, true]), (.tmp 5, [false])] Tryz.func93 rfl rfl ?_; unfold m_impl_WriteFirst
  intro hb
  clear hb
  simp only [↓reduceIte, reduceEqDiff, reduceLT, reduceAdd, reduceCtorEq, go_sem]
  apply callK_of (c_impl_copyDisk d hs)
  simp only [↓reduceIte, reduceEqDiff, reduceLT, reduceAdd, reduceCtorEq, go_sem]
  intros
  repeat' first
    | (refine And.intro ?_ ?_ <;> intro h)
    | (apply callK_of (c_impl_IsDisk d hs); simp only [↓reduceIte, reduceEqDiff, reduceLT, reduceAdd, reduceCtorEq, go_sem])
    | (apply callK_of (c_impl_IsContainer x (by omega)); simp only [↓reduceIte, reduceEqDiff, reduceLT, reduceAdd, reduceCtorEq, go_sem])
    | (apply callK_of (c_impl_follows d hs); simp only [↓reduceIte, reduceEqDiff, reduceLT, reduceLeDiff, reduceAdd, reduceMul, reduceCtorEq, go_sem])
    | (refine ⟨by decide, ?_⟩; apply callK_of (c_impl_copyContainers [x] (by simp; omega)); simp only [↓reduceIte, reduceEqDiff, reduceLT, reduceAdd, reduceCtorEq, go_sem]; intros)
  all_goals
    first
      | (have hF : firstOk d x = false := by
          clear hs hx
          unfold firstOk
          by_cases c1 : d.Wanted.length = 0 <;> by_cases c2 : d.Containers.length < 6 <;> simp_all <;> omega
         simp [firstTo, hF]
         done)
      | (have hT : firstOk d x = true := by
          clear hs hx
          unfold firstOk
          by_cases c1 : d.Wanted.length = 0 <;> by_cases c2 : d.Containers.length < 6 <;> simp_all <;> omega
         simp [firstTo, hT, GContainer.enc])
def m_spec_WriteFirst : MC :=
(.seq (pr [.box 2 0 (.s 0), .box 3 1 (.s 1), .alloc 4 2 [.emp 4, .emp 6, .emp 4], .mv 5 cF] [2,3,4])
(.seq (pr [.load 7 true 3 (.s 2), .call 8 [3, 4, 5] (.f n_spec_l31Copy) [.s 7], .alloc 6 6 [.emp 4, .emp 6, .emp 4], .store 3 (.s 6) (.s 8)] [2,3,4,6])
(.seq (.seq (.reg [Za (.load 9 true 3 (.s 2)), Za (.call 10 [] (.f n_spec_IsDisk) [.s 9]), Za (.un 11 .not (.s 10)), Za (.mv 12 (.s 11)), Zb 12 false (.load 13 true 4 (.s 3)), Zb 12 false (.call 14 [] (.f n_spec_IsContainer) [.s 13]), Zb 12 false (.un 15 .not (.s 14)), Za (.pick 16 (.s 12) cT (.s 15)), Za (.mv 17 (.s 16)), Zb 17 false (.load 18 true 3 (.s 2)), Zb 17 false (.call 19 [] (.f n_spec_l31Whole) [.s 18]), Zb 17 false (.un 20 .not (.s 19)), Za (.pick 21 (.s 17) cT (.s 20)), Za (.mv 22 (.s 21)), Zb 22 false (.fld 23 (.s 2) 2), Zb 22 false (.load 24 false 1 (.s 23)), Zb 22 false (.len 25 false (.s 24)), Zb 22 false (.bin 26 false .gtr (.s 25) (ci 0)), Za (.pick 27 (.s 22) cT (.s 26)), Za (.mv 28 (.s 27)), Zb 28 false (.fld 29 (.s 2) 0), Zb 28 false (.load 30 false 1 (.s 29)), Zb 28 false (.len 31 false (.s 30)), Zb 28 false (.bin 32 false .geq (.s 31) (ci 6)), Za (.pick 33 (.s 28) cT (.s 32))] [3,4,6,33])
(.cond (.s 33) (.seq (pr [.load 34 true 3 (.s 6), .store 3 (.s 4) (.s 34), .mv 5 cF] [4,5])
.ret) .skip))
(.seq (pr [.load 35 true 4 (.s 3), .call 36 [7, 8, 9] (.f n_spec_l30Copy) [.s 35], .lit 37 10 4 80 [.s 36], .fld 38 (.s 6) 2, .store 1 (.s 38) (.s 37)] [4,6])
(.seq (pr [.load 39 true 3 (.s 6), .store 3 (.s 4) (.s 39), .mv 5 cT] [4,5])
.ret)))))
theorem c_spec_WriteFirst (d : GDisk) (x : GContainer) (hs : d.size ≤ 1073741824) (hx : x.size ≤ 1073741823) : Ctr Tryz.prog n_spec_WriteFirst [aS d.enc, aS x.enc] [rS (firstTo d x).enc, rB (firstOk d x)] := by
  refine cA m_spec_WriteFirst 11 40 [(.cell 4 true 3, [true, true, true]), (.tmp 5, [false])] Tryz.func89 rfl rfl ?_; unfold m_spec_WriteFirst
  intro hb
  clear hb
  simp only [↓reduceIte, reduceEqDiff, reduceLT, reduceAdd, reduceCtorEq, go_sem]
  apply callK_of (c_spec_l31Copy d hs)
  simp only [↓reduceIte, reduceEqDiff, reduceLT, reduceAdd, reduceCtorEq, go_sem]
  intros
  repeat' first
    | (refine And.intro ?_ ?_ <;> intro h)
    | (apply callK_of (c_spec_IsDisk d hs); simp only [↓reduceIte, reduceEqDiff, reduceLT, reduceAdd, reduceCtorEq, go_sem])
    | (apply callK_of (c_spec_IsContainer x (by omega)); simp only [↓reduceIte, reduceEqDiff, reduceLT, reduceAdd, reduceCtorEq, go_sem])
    | (apply callK_of (c_spec_l31Whole d hs); simp only [↓reduceIte, reduceEqDiff, reduceLT, reduceLeDiff, reduceAdd, reduceCtorEq, go_sem])
    | (apply callK_of (c_spec_l30Copy x (by omega)); simp only [↓reduceIte, reduceEqDiff, reduceLT, reduceAdd, reduceMul, reduceCtorEq, go_sem]; refine ⟨by decide, ?_⟩; intros)
  all_goals
    first
      | (have hF : firstOk d x = false := by
          clear hs hx
          unfold firstOk
          by_cases c1 : d.Wanted.length = 0 <;> by_cases c2 : d.Containers.length < 6 <;> simp_all <;> omega
         simp [firstTo, hF]
         done)
      | (have hT : firstOk d x = true := by
          clear hs hx
          unfold firstOk
          by_cases c1 : d.Wanted.length = 0 <;> by_cases c2 : d.Containers.length < 6 <;> simp_all <;> omega
         simp [firstTo, hT, GContainer.enc])
end Go.Proofs.YtpclnmleldeleaaGreatR
namespace Go.Proofs.YtpclnmleldeleaaGreatR
open Go Go.RowKit Go.Proofs
open Nat (reduceEqDiff reduceLT reduceLeDiff reduceAdd reduceMul)
open List (reduceReplicate)
set_option linter.unusedSimpArgs false
set_option linter.unusedVariables false
theorem addrB {x y : GAddress} : (x.Host == y.Host && (x.Path == y.Path && x.Query == y.Query)) = decide (x = y) := by
 rw [Bool.eq_iff_iff]; simp [GAddress.eqv]
def m_spec_Max : MC :=
(.seq (pr [.mv 4 (ci 0)] [0,1])
(.seq (.seq (pr [.mv 5 (.s 1), .mv 6 (.s 0), .bin 7 false .gtr (.s 5) (.s 6)] [0,1,7])
(.cond (.s 7) (.seq (pr [.mv 8 (.s 1), .mv 4 (.s 8)] [4])
.ret) .skip))
(.seq (pr [.mv 9 (.s 0), .mv 4 (.s 9)] [4])
.ret)))
theorem c_spec_Max (x y : Int) : Ctr Tryz.prog n_spec_Max [aI x, aI y] [rI (if y > x then y else x)] := by
 refine cA m_spec_Max 0 10 [(.tmp 4, [false])] Tryz.func177 rfl rfl ?_; unfold m_spec_Max
 intro hb
 clear hb
 simp only [↓reduceIte, reduceEqDiff, reduceLT, reduceCtorEq, go_sem]
 refine ⟨fun h => ?_, fun h => ?_⟩
 ·rw [if_pos (by omega)]
 ·rw [if_neg (by omega)]
def m_spec_Min : MC :=
(.seq (pr [.mv 4 (ci 0)] [0,1])
(.seq (.seq (pr [.mv 5 (.s 1), .mv 6 (.s 0), .bin 7 false .lss (.s 5) (.s 6)] [0,1,7])
(.cond (.s 7) (.seq (pr [.mv 8 (.s 1), .mv 4 (.s 8)] [4])
.ret) .skip))
(.seq (pr [.mv 9 (.s 0), .mv 4 (.s 9)] [4])
.ret)))
theorem c_spec_Min (x y : Int) : Ctr Tryz.prog n_spec_Min [aI x, aI y] [rI (if y < x then y else x)] := by
 refine cA m_spec_Min 0 10 [(.tmp 4, [false])] Tryz.func289 rfl rfl ?_; unfold m_spec_Min
 intro hb
 clear hb
 simp only [↓reduceIte, reduceEqDiff, reduceLT, reduceCtorEq, go_sem]
 refine ⟨fun h => ?_, fun h => ?_⟩
 ·rw [if_pos (by omega)]
 ·rw [if_neg (by omega)]
end Go.Proofs.YtpclnmleldeleaaGreatR
namespace Go.Proofs.YtpclnmleldeleaaGreatR
open Go Go.RowKit Go.Proofs
open Nat (reduceEqDiff reduceLT reduceLeDiff reduceAdd reduceMul)
open List (reduceReplicate)
set_option linter.unusedSimpArgs false
set_option linter.unusedVariables false
end Go.Proofs.YtpclnmleldeleaaGreatR
namespace Go.Proofs.YtpclnmleldeleaaGreatR
open Go Go.RowKit Go.Proofs
open Nat (reduceEqDiff reduceLT reduceLeDiff reduceAdd reduceMul)
open List (reduceReplicate)
set_option linter.unusedSimpArgs false
set_option linter.unusedVariables false
def ansP (a : GAddress) (tick : Int) (v : GVersion) : Bool := decide (v.Address = a) && decide (v.From ≤ tick)
def noRes : GResource := ⟨4, [], ⟨0, 0, 0⟩⟩
def answer (l : List GVersion) (a : GAddress) (tick : Int) : GResource := l.foldl (fun r v => if ansP a tick v then v.Resource else r) noRes
theorem answer_snoc {l : List GVersion} {a : GAddress} {tick : Int} {k : Nat} {x : GVersion} (h : l[k]? = some x) : answer (l.take (k + 1)) a tick = if ansP a tick x then x.Resource else answer (l.take k) a tick := by
 rw [take_snoc h, answer, List.foldl_append]; rfl
theorem answer_body {a : GAddress} {tick : Int} : ∀ {l : List GVersion}, (answer l a tick).Body.length ≤ (l.map GVersion.size).sum := by
 intro l
 suffices H : ∀ (l : List GVersion) (r : GResource), (l.foldl (fun r v => if ansP a tick v then v.Resource else r) r).Body.length ≤ r.Body.length + (l.map GVersion.size).sum by
  have := H l noRes
  have e : noRes.Body.length = 0 := rfl
  rw [e, Nat.zero_add] at this
  exact this
 intro l
 induction l with
 | nil => intro r; simp
 | cons x l ih =>
  intro r
  rw [List.foldl_cons, List.map_cons, List.sum_cons]
  have := ih (if ansP a tick x then x.Resource else r)
  have h2 : (if ansP a tick x then x.Resource else r).Body.length ≤ r.Body.length + x.size := by
   split <;> simp only [GVersion.size, GResource.size] <;> omega
  omega
theorem hneg : ((0 : Int) - 1 ≥ 0) = False := by simp
theorem ansP_cases (a : GAddress) (tick : Int) (x : GVersion) : (ansP a tick x = true ∧ (x.Address.Host == a.Host && (x.Address.Path == a.Path && x.Address.Query == a.Query)) = true ∧ x.From ≤ tick) ∨
  (ansP a tick x = false ∧ (x.Address.Host == a.Host && (x.Address.Path == a.Path && x.Address.Query == a.Query)) = true ∧ ¬ x.From ≤ tick) ∨
  (ansP a tick x = false ∧ (x.Address.Host == a.Host && (x.Address.Path == a.Path && x.Address.Query == a.Query)) = false) := by
 rw [addrB]
 by_cases h1 : x.Address = a <;> by_cases h2 : x.From ≤ tick <;> simp [ansP, h1, h2]
def m_impl_AnswerAt : MC :=
(.seq (pr [.box 4 0 (.s 1), .alloc 6 1 [pz, .emp 1, pz, pz, pz]] [0,2,4,6])
(.seq (.seq (pr [.mv 8 (.s 0), .len 9 false (.s 8), .bin 10 false .sub (.s 9) (ci 1), .mv 7 (.s 10)] [0,2,4,6,7])
(.block 0 (.loop ([0,2,4,6,7], []) (.seq (.seq (pr [.mv 11 (.s 7), .bin 12 false .geq (.s 11) (ci 0)] [0,2,4,6,7,12])
(.cond (.s 12) .skip (.exit 0)))
(.seq (.block 1 (.seq (.dreg [Zc [16,20] (.mv 15 (.s 0)), Zc [15,20] (.mv 16 (.s 7)), Zd [20] [0,1] (.idx 17 9 (.s 15) (.s 16)), Zd [20] [0,1,2] (.fld 18 (.s 17) 0), Zd [20] (.range 4) (.load 19 true 3 (.s 18)), Zc [15,16,17,18,19] (.load 20 true 3 (.s 4)), Ze (.range 6) (.eqA 21 false [.i .i64, .i .i64, .i .i64] (.s 19) (.s 20)), Ze (.range 7) (.mv 22 (.s 21)), { o := .mv 23 (.s 0), g := some (22, true), hs := [24,28], bf := (.range 8) }, { o := .mv 24 (.s 7), g := some (22, true), hs := [23,28], bf := (.range 8) }, { o := .idx 25 9 (.s 23) (.s 24), g := some (22, true), hs := [28], bf := (.range 10) }, { o := .fld 26 (.s 25) 3, g := some (22, true), hs := [28], bf := (.range 11) }, { o := .load 27 false 1 (.s 26), g := some (22, true), hs := [28], bf := (.range 12) }, { o := .mv 28 (.s 2), g := some (22, true), hs := [23,24,25,26,27], bf := (.range 8) }, { o := .bin 29 false .leq (.s 27) (.s 28), g := some (22, true), bf := (.range 14) }, Ze (.range 15) (.pick 30 (.s 22) (.s 29) cF)] [0,2,4,6,7,30])
(.cond (.s 30) (.seq (pr [.mv 31 (.s 0), .mv 32 (.s 7), .idx 33 9 (.s 31) (.s 32), .fld 34 (.s 33) 4, .load 35 true 5 (.s 34), .call 36 [2] (.f n_impl_copyResource) [.s 35], .store 5 (.s 6) (.s 36)] [6])
.ret) .skip)))
(pr [.mv 13 (.s 7), .bin 14 false .sub (.s 13) (ci 1), .mv 7 (.s 14)] [0,2,4,6,7]))))))
(.seq (pr [.build 37 [pz, .emp 1, pz, pz, pz] [(0, 1, .c (.int .i64 4))], .store 5 (.s 6) (.s 37)] [6])
.ret)))
theorem c_impl_AnswerAt (l : List GVersion) (a : GAddress) (tick : Int) (hs : l.length + (l.map GVersion.size).sum ≤ 1073741824) : Ctr Tryz.prog n_impl_AnswerAt [aL 9 (l.map GVersion.enc), aS a.enc, aI tick] [rS (answer l a tick).enc] := by
 refine cA m_impl_AnswerAt 3 38 [(.cell 6 true 5, [false, true, false, false, false])] Tryz.func268 rfl rfl ?_; unfold m_impl_AnswerAt
 intro hb
 clear hb
 simp only [↓reduceIte, reduceEqDiff, reduceLT, reduceAdd, reduceCtorEq, go_sem]
 refine loopK_up (fun k : Nat => [(7, vI ((k : Int) - 1))]) (fun _ => []) (fun k => k ≤ l.length ∧ answer l a tick = answer (l.take k) a tick) (fun k => k) l.length ?_
 simp only [↓reduceIte, reduceEqDiff, reduceAdd, reduceCtorEq, go_sem]
 refine ⟨?_, ⟨Nat.le_refl _, by rw [List.take_length]⟩, ?_⟩
 ·simp only [↓reduceIte, reduceEqDiff, reduceLT, reduceCtorEq, go_sem]
  exact wI (by omega) (by omega)
 ·rintro k ⟨hk, hd⟩
  cases k with
  | zero =>
   simp only [↓reduceIte, reduceEqDiff, reduceLT, reduceLeDiff, reduceAdd, reduceCtorEq, go_sem, hneg]
   rw [hd, List.take_zero]
   exact ⟨rfl, rfl, rfl, rfl, rfl⟩
  | succ k =>
   obtain ⟨x, hx⟩ := at_some (show k < l.length by omega)
   have e1 : ((k + 1 : Nat) : Int) - 1 = k := by omega
   have hx1 := mem_sum (f := GVersion.size) (at_mem hx)
   rw [answer_snoc hx] at hd
   simp only [e1]
   have hk0 : (k : Int) ≥ 0 := by omega
   have hk1 : (k : Int) < l.length := by omega
   have hk2 : (0 : Int) ≥ (k : Int) → k = 0 := by omega
   have hk3 : (0 : Int) ≤ (k : Int) := by omega
   rcases ansP_cases a tick x with ⟨hp, hA, hF⟩ | ⟨hp, hA, hF⟩ | ⟨hp, hA⟩
   ·simp only [↓reduceIte, reduceEqDiff, reduceLT, reduceLeDiff, reduceAdd, reduceCtorEq, go_sem, bk_eq hx, hk0, hk1, hA, hF]
    apply callK_of (c_impl_copyResource x.Resource (by simp only [GVersion.size, GResource.size] at hx1; omega))
    simp only [↓reduceIte, reduceEqDiff, reduceLT, reduceAdd, reduceCtorEq, go_sem]
    rw [hd, if_pos hp]
    try intros
    try exact ⟨rfl, rfl, rfl, rfl, rfl⟩
   ·simp only [↓reduceIte, reduceEqDiff, reduceLT, reduceLeDiff, reduceAdd, reduceCtorEq, go_sem, bk_eq hx, hk0, hk1, hA, hF]
    rw [if_neg (by simp [hp])] at hd
    exact ⟨k, wI (by omega) (by omega), ⟨by omega, hd⟩, by omega⟩
   ·simp only [↓reduceIte, reduceEqDiff, reduceLT, reduceLeDiff, reduceAdd, reduceCtorEq, go_sem, bk_eq hx, hk0, hk1, hA]
    rw [if_neg (by simp [hp])] at hd
    exact ⟨k, wI (by omega) (by omega), ⟨by omega, hd⟩, by omega⟩
def m_spec_AnswerAt : MC :=
(.seq (pr [.box 4 0 (.s 1), .alloc 6 1 [pz, .emp 1, pz, pz, pz]] [0,2,4,6])
(.seq (pr [.buildO 9 [pz, .emp 1, pz, pz, pz] [(0, 1, .c (.int .i64 4))] [none, some 2, none, none, none], .alloc 7 3 [pz, .emp 1, pz, pz, pz], .store 5 (.s 7) (.s 9)] [0,2,4,6,7])
(.seq (.seq (pr [.mv 8 (ci 0)] [0,2,4,6,7,8])
(.block 0 (.loop ([0,2,4,6,7,8], []) (.seq (.seq (pr [.mv 10 (.s 8), .mv 11 (.s 0), .len 12 false (.s 11), .bin 13 false .lss (.s 10) (.s 12)] [0,2,4,6,7,8,13])
(.cond (.s 13) .skip (.exit 0)))
(.seq (.block 1 (.seq (.dreg [Zc [17,21] (.mv 16 (.s 0)), Zc [16,21] (.mv 17 (.s 8)), Zd [21] [0,1] (.idx 18 9 (.s 16) (.s 17)), Zd [21] [0,1,2] (.fld 19 (.s 18) 0), Zd [21] (.range 4) (.load 20 true 3 (.s 19)), Zc [16,17,18,19,20] (.load 21 true 3 (.s 4)), Ze (.range 6) (.eqA 22 false [.i .i64, .i .i64, .i .i64] (.s 20) (.s 21)), Ze (.range 7) (.mv 23 (.s 22)), { o := .mv 24 (.s 0), g := some (23, true), hs := [25,29], bf := (.range 8) }, { o := .mv 25 (.s 8), g := some (23, true), hs := [24,29], bf := (.range 8) }, { o := .idx 26 9 (.s 24) (.s 25), g := some (23, true), hs := [29], bf := (.range 10) }, { o := .fld 27 (.s 26) 3, g := some (23, true), hs := [29], bf := (.range 11) }, { o := .load 28 false 1 (.s 27), g := some (23, true), hs := [29], bf := (.range 12) }, { o := .mv 29 (.s 2), g := some (23, true), hs := [24,25,26,27,28], bf := (.range 8) }, { o := .bin 30 false .leq (.s 28) (.s 29), g := some (23, true), bf := (.range 14) }, Ze (.range 15) (.pick 31 (.s 23) (.s 30) cF)] [0,2,4,6,7,8,31])
(.cond (.s 31) (pr [.mv 32 (.s 0), .mv 33 (.s 8), .idx 34 9 (.s 32) (.s 33), .fld 35 (.s 34) 4, .load 36 true 5 (.s 35), .call 37 [2] (.f n_spec_l5Copy) [.s 36], .store 5 (.s 7) (.s 37)] [0,2,4,6,7,8]) .skip)))
(pr [.mv 14 (.s 8), .bin 15 false .add (.s 14) (ci 1), .mv 8 (.s 15)] [0,2,4,6,7,8]))))))
(.seq (pr [.load 38 true 5 (.s 7), .store 5 (.s 6) (.s 38)] [6])
.ret))))
theorem c_spec_AnswerAt (l : List GVersion) (a : GAddress) (tick : Int) (hs : l.length + (l.map GVersion.size).sum ≤ 1073741824) : Ctr Tryz.prog n_spec_AnswerAt [aL 9 (l.map GVersion.enc), aS a.enc, aI tick] [rS (answer l a tick).enc] := by
 refine cA m_spec_AnswerAt 4 39 [(.cell 6 true 5, [false, true, false, false, false])] Tryz.func259 rfl rfl ?_; unfold m_spec_AnswerAt
 intro hb
 clear hb
 simp only [↓reduceIte, reduceEqDiff, reduceLT, reduceLeDiff, reduceAdd, reduceCtorEq, go_sem]
 refine loopK_rng l (fun k => [(8, vI k)]) (fun k => [(2, ⟨0, .row true 1 ((answer (l.take k) a tick).Body.map encI)⟩), (3, ⟨0, .box [.pl (tI (answer (l.take k) a tick).Kind), .ref 2 0 1 0 (answer (l.take k) a tick).Body.length, .pl (tI (answer (l.take k) a tick).To.Host), .pl (tI (answer (l.take k) a tick).To.Path), .pl (tI (answer (l.take k) a tick).To.Query)]⟩)]) (fun _ => True) (by simp only [roomB]; omega) ?_
 simp only [↓reduceIte, reduceEqDiff, reduceAdd, reduceCtorEq, go_sem]
 refine ⟨?_, trivial, ?_, ?_⟩
 ·simp only [↓reduceIte, reduceEqDiff, reduceLT, reduceCtorEq, go_sem, List.take_zero]
  exact ⟨rfl, rfl, rfl, rfl, rfl, rfl⟩
 ·intro k x hx _ h0 h1 hw
  have hx1 := mem_sum (f := GVersion.size) (at_mem hx)
  have hsn := answer_snoc (a := a) (tick := tick) hx
  rcases ansP_cases a tick x with ⟨hp, hA, hF⟩ | ⟨hp, hA, hF⟩ | ⟨hp, hA⟩
  ·rw [if_pos hp] at hsn
   simp only [↓reduceIte, reduceEqDiff, reduceLT, reduceLeDiff, reduceAdd, reduceCtorEq, go_sem, bk_eq hx, h0, h1, hw, hA, hF, hsn]
   apply callK_of (c_spec_l5Copy x.Resource (by simp only [GVersion.size, GResource.size] at hx1; omega))
   simp only [↓reduceIte, reduceEqDiff, reduceLT, reduceAdd, reduceCtorEq, go_sem, hw]
   try intros
   try trivial
  ·rw [if_neg (by simp [hp])] at hsn
   simp only [↓reduceIte, reduceEqDiff, reduceLT, reduceLeDiff, reduceAdd, reduceCtorEq, go_sem, bk_eq hx, h0, h1, hw, hF, hsn]
   try trivial
  ·rw [if_neg (by simp [hp])] at hsn
   simp only [↓reduceIte, reduceEqDiff, reduceLT, reduceLeDiff, reduceAdd, reduceCtorEq, go_sem, bk_eq hx, h0, h1, hw, hA, hsn]
   try trivial
 ·intro _
  simp only [↓reduceIte, reduceEqDiff, reduceLT, reduceAdd, reduceCtorEq, go_sem, List.take_length]
def followF (l : List GVersion) (tick : Int) : Nat → GResource → List GAddress → GResource × List GAddress
 | 0, r, q => (r, q)
 | n + 1, r, q => if r.Kind = 3 ∧ q.length ≤ 4 ∧ ¬ r.To ∈ q then followF l tick n (answer l r.To tick) (q ++ [r.To]) else (r, q)
def follow (l : List GVersion) (a : GAddress) (tick : Int) : GResource × List GAddress := followF l tick 5 (answer l a tick) [a]
theorem followF_go {l : List GVersion} {tick : Int} {r : GResource} {q : List GAddress} (h : r.Kind = 3 ∧ q.length ≤ 4 ∧ ¬ r.To ∈ q) : followF l tick (6 - q.length) r q = followF l tick (6 - (q ++ [r.To]).length) (answer l r.To tick) (q ++ [r.To]) := by
 have e : 6 - q.length = (6 - (q ++ [r.To]).length) + 1 := by rw [List.length_append]; simp only [List.length_cons, List.length_nil]; omega
 rw [e, followF, if_pos h]
theorem followF_stop {l : List GVersion} {tick : Int} {r : GResource} {q : List GAddress} (hq : q.length ≤ 5) (h : ¬ (r.Kind = 3 ∧ q.length ≤ 4 ∧ ¬ r.To ∈ q)) : followF l tick (6 - q.length) r q = (r, q) := by
 have e : 6 - q.length = (5 - q.length) + 1 := by omega
 rw [e, followF, if_neg h]
def m_spec_l9Has : MC :=
(.seq (pr [.box 3 0 (.s 1), .mv 4 cF] [0,3])
(.seq (.seq (pr [.mv 5 (ci 0)] [0,3,5])
(.block 0 (.loop ([0,3,5], []) (.seq (.seq (pr [.mv 6 (.s 5), .mv 7 (.s 0), .len 8 false (.s 7), .bin 9 false .lss (.s 6) (.s 8)] [0,3,5,9])
(.cond (.s 9) .skip (.exit 0)))
(.seq (.block 1 (.seq (.dreg [Zc [13,16] (.mv 12 (.s 0)), Zc [12,16] (.mv 13 (.s 5)), Zd [16] [0,1] (.idx 14 3 (.s 12) (.s 13)), Zd [16] [0,1,2] (.load 15 true 3 (.s 14)), Zc [12,13,14,15] (.load 16 true 3 (.s 3)), Ze (.range 5) (.eqA 17 false [.i .i64, .i .i64, .i .i64] (.s 15) (.s 16))] [0,3,5,17])
(.cond (.s 17) (.seq (pr [.mv 4 cT] [4])
.ret) .skip)))
(pr [.mv 10 (.s 5), .bin 11 false .add (.s 10) (ci 1), .mv 5 (.s 11)] [0,3,5]))))))
(.seq (pr [.mv 4 cF] [4])
.ret)))
theorem c_spec_l9Has (xs : List GAddress) (a : GAddress) : Ctr Tryz.prog n_spec_l9Has [aL 3 (xs.map GAddress.enc), aS a.enc] [rB (decide (a ∈ xs))] := by
 refine cA m_spec_l9Has 1 18 [(.tmp 4, [false])] Tryz.func260 rfl rfl ?_; unfold m_spec_l9Has
 intro hb
 simp only [bdA, bdL, bdT, bdR_map, roomB, and_true, List.length_map] at hb
 have hl := hb.1
 clear hb
 simp only [↓reduceIte, reduceEqDiff, reduceLT, reduceCtorEq, go_sem]
 refine loopK_rng xs (fun k => [(5, vI k)]) (fun k => []) (fun k => ¬ a ∈ xs.take k) hl.1 ?_
 simp only [↓reduceIte, reduceEqDiff, reduceCtorEq, go_sem]
 refine ⟨?_, by simp, ?_, ?_⟩
 ·simp only [↓reduceIte, reduceEqDiff, reduceLT, reduceCtorEq, go_sem]
 ·intro k x hx h h0 h1 hw
  simp only [↓reduceIte, reduceEqDiff, reduceLT, reduceAdd, reduceCtorEq, go_sem, bk_eq hx, h0, h1, hw, addrB]
  refine ⟨fun hy => ?_, fun hn => ?_⟩
  ·have e : x = a := by simpa using hy
   exact (decide_eq_true (e ▸ at_mem hx)).symm
  ·have e : ¬ x = a := by simpa using hn
   rw [take_snoc hx, List.mem_append, List.mem_singleton]
   rintro (hm | hm)
   ·exact h hm
   ·exact e hm.symm
 ·intro h
  rw [List.take_length] at h
  simp only [↓reduceIte, reduceEqDiff, reduceLT, reduceCtorEq, go_sem]
  exact (decide_eq_false h).symm
def m_impl_FollowAt : MC :=
(.seq (pr [.box 4 0 (.s 1), .alloc 6 1 [pz, .emp 1, pz, pz, pz], .nilo 7 2 3] [0,2,4,6])
(.seq (pr [.mv 10 (.s 0), .load 11 true 3 (.s 4), .mv 12 (.s 2), .call 13 [3] (.f n_impl_AnswerAt) [.s 10, .s 11, .s 12], .alloc 8 4 [pz, .emp 1, pz, pz, pz], .store 5 (.s 8) (.s 13)] [0,2,4,6,8])
(.seq (pr [.load 14 true 3 (.s 4), .lit 15 2 3 24 [.s 14], .mv 9 (.s 15)] [0,2,6,8,9])
(.seq (.block 0 (.loop ([0,2,6,8,9], [0,5]) (.seq (.seq (.reg [Za (.fld 16 (.s 8) 0), Za (.load 17 false 1 (.s 16)), Za (.bin 18 false .eql (.s 17) (ci 3)), Za (.mv 19 (.s 18)), Zb 19 true (.mv 20 (.s 9)), Zb 19 true (.len 21 false (.s 20)), Zb 19 true (.bin 22 false .leq (.s 21) (ci 4)), Za (.pick 23 (.s 19) (.s 22) cF), Za (.mv 24 (.s 23)), Zb 24 true (.mv 25 (.s 9)), Zb 24 true (.fld 26 (.s 8) 2), Zb 24 true (.load 27 true 3 (.s 26)), Zb 24 true (.call 28 [] (.f n_slices_Contains_impl_Address_impl_Address) [.s 25, .s 27]), Zb 24 true (.un 29 .not (.s 28)), Za (.pick 30 (.s 24) (.s 29) cF)] [0,2,6,8,9,30])
(.cond (.s 30) .skip (.exit 0)))
(.block 1 (.seq (pr [.mv 31 (.s 9), .fld 32 (.s 8) 2, .load 33 true 3 (.s 32), .lit 34 5 3 24 [.s 33], .app 35 2 3 24 (.s 31) (.s 34), .mv 9 (.s 35)] [0,2,6,8,9])
(pr [.mv 36 (.s 0), .fld 37 (.s 8) 2, .load 38 true 3 (.s 37), .mv 39 (.s 2), .call 40 [3] (.f n_impl_AnswerAt) [.s 36, .s 38, .s 39], .store 5 (.s 8) (.s 40)] [0,2,6,8,9]))))))
(.seq (pr [.load 41 true 5 (.s 8), .mv 42 (.s 9), .store 5 (.s 6) (.s 41), .mv 7 (.s 42)] [6,7])
.ret)))))
theorem c_impl_FollowAt (l : List GVersion) (a : GAddress) (tick : Int) (hs : l.length + (l.map GVersion.size).sum ≤ 1073741824) : Ctr Tryz.prog n_impl_FollowAt [aL 9 (l.map GVersion.enc), aS a.enc, aI tick] [rS (follow l a tick).1.enc, rL 3 ((follow l a tick).2.map GAddress.enc)] := by
 refine cA m_impl_FollowAt 6 43 [(.cell 6 true 5, [false, true, false, false, false]), (.tmp 7, [true])] Tryz.func230 rfl rfl ?_; unfold m_impl_FollowAt
 intro hb
 clear hb
 simp only [↓reduceIte, reduceEqDiff, reduceLT, reduceAdd, reduceCtorEq, go_sem]
 apply callK_of (c_impl_AnswerAt l a tick hs)
 simp only [↓reduceIte, reduceEqDiff, reduceLT, reduceAdd, reduceMul, reduceCtorEq, go_sem]
 intros
 refine ⟨by decide, ?_⟩
 refine loopK_up (ι := GResource × List GAddress) (fun s => [(9, .val false [.ref 2 0 3 0 s.2.length])]) (fun s => [(2, ⟨0, .row true 3 (s.2.map GAddress.enc)⟩), (3, ⟨0, .row true 1 (s.1.Body.map encI)⟩), (4, ⟨0, .box [.pl (tI s.1.Kind), .ref 3 0 1 0 s.1.Body.length, .pl (tI s.1.To.Host), .pl (tI s.1.To.Path), .pl (tI s.1.To.Query)]⟩)]) (fun s => s.2.length ≤ 5 ∧ followF l tick (6 - s.2.length) s.1 s.2 = follow l a tick) (fun s => 6 - s.2.length) (answer l a tick, [a]) ?_
 simp only [↓reduceIte, reduceEqDiff, reduceAdd, reduceCtorEq, go_sem]
 refine ⟨?_, ⟨by simp, rfl⟩, ?_⟩
 ·simp only [↓reduceIte, reduceEqDiff, reduceLT, reduceCtorEq, go_sem]
  try trivial
 ·rintro ⟨r, q⟩ ⟨hq, hf⟩
  simp only at hq hf
  by_cases c1 : r.Kind = 3
  ·by_cases c2 : q.length ≤ 4
   ·have c2' : (q.length : Int) ≤ 4 := by omega
    simp only [↓reduceIte, reduceEqDiff, reduceLT, reduceLeDiff, reduceAdd, reduceCtorEq, go_sem, c1, c2']
    apply callK_of (c_slices_Contains_Address q r.To)
    simp only [↓reduceIte, reduceEqDiff, reduceLT, reduceAdd, reduceMul, reduceCtorEq, go_sem]
    refine ⟨fun c3 => ?_, fun c3 => ?_⟩
    ·rw [followF_go ⟨c1, c2, c3⟩] at hf
     refine ⟨by decide, by simp only [roomB]; omega, ?_⟩
     apply callK_of (c_impl_AnswerAt l r.To tick hs)
     simp only [↓reduceIte, reduceEqDiff, reduceLT, reduceAdd, reduceCtorEq, go_sem]
     intros
     refine ⟨(answer l r.To tick, q ++ [r.To]), ?_⟩
     exact ⟨⟨by simp, by simp [GAddress.enc], rfl, rfl, rfl, rfl, rfl, rfl⟩, ⟨by simp; omega, hf⟩, by simp; omega⟩
    ·rw [followF_stop hq (fun hh => hh.2.2 c3)] at hf
     rw [← hf]
     exact ⟨⟨c1.symm, rfl, rfl, rfl, rfl⟩, rfl⟩
   ·have c2' : ¬ (q.length : Int) ≤ 4 := by omega
    simp only [↓reduceIte, reduceEqDiff, reduceLT, reduceLeDiff, reduceAdd, reduceCtorEq, go_sem, c1, c2']
    rw [followF_stop hq (fun hh => c2 hh.2.1)] at hf
    rw [← hf]
    exact ⟨⟨c1.symm, rfl, rfl, rfl, rfl⟩, rfl⟩
  ·simp only [↓reduceIte, reduceEqDiff, reduceLT, reduceLeDiff, reduceAdd, reduceCtorEq, go_sem, c1]
   rw [followF_stop hq (fun hh => c1 hh.1)] at hf
   rw [← hf]
   exact ⟨⟨rfl, rfl, rfl, rfl, rfl⟩, rfl⟩
def m_spec_FollowAt : MC :=
(.seq (pr [.box 4 0 (.s 1), .alloc 6 1 [pz, .emp 1, pz, pz, pz], .nilo 7 2 3] [0,2,4,6])
(.seq (pr [.load 10 true 3 (.s 4), .lit 11 2 3 24 [.s 10], .mv 8 (.s 11)] [0,2,4,6,8])
(.seq (pr [.mv 12 (.s 0), .load 13 true 3 (.s 4), .mv 14 (.s 2), .call 15 [3] (.f n_spec_AnswerAt) [.s 12, .s 13, .s 14], .alloc 9 4 [pz, .emp 1, pz, pz, pz], .store 5 (.s 9) (.s 15)] [0,2,6,8,9])
(.seq (.block 0 (.loop ([0,2,6,8,9], [0,5]) (.seq (.seq (.reg [Za (.fld 16 (.s 9) 0), Za (.load 17 false 1 (.s 16)), Za (.bin 18 false .eql (.s 17) (ci 3)), Za (.mv 19 (.s 18)), Zb 19 true (.mv 20 (.s 8)), Zb 19 true (.len 21 false (.s 20)), Zb 19 true (.bin 22 false .leq (.s 21) (ci 4)), Za (.pick 23 (.s 19) (.s 22) cF), Za (.mv 24 (.s 23)), Zb 24 true (.mv 25 (.s 8)), Zb 24 true (.fld 26 (.s 9) 2), Zb 24 true (.load 27 true 3 (.s 26)), Zb 24 true (.call 28 [] (.f n_spec_l9Has) [.s 25, .s 27]), Zb 24 true (.un 29 .not (.s 28)), Za (.pick 30 (.s 24) (.s 29) cF)] [0,2,6,8,9,30])
(.cond (.s 30) .skip (.exit 0)))
(.block 1 (.seq (pr [.mv 31 (.s 8), .fld 32 (.s 9) 2, .load 33 true 3 (.s 32), .lit 34 5 3 24 [.s 33], .app 35 2 3 24 (.s 31) (.s 34), .mv 8 (.s 35)] [0,2,6,8,9])
(pr [.mv 36 (.s 0), .fld 37 (.s 9) 2, .load 38 true 3 (.s 37), .mv 39 (.s 2), .call 40 [3] (.f n_spec_AnswerAt) [.s 36, .s 38, .s 39], .store 5 (.s 9) (.s 40)] [0,2,6,8,9]))))))
(.seq (pr [.load 41 true 5 (.s 9), .mv 42 (.s 8), .store 5 (.s 6) (.s 41), .mv 7 (.s 42)] [6,7])
.ret)))))
theorem c_spec_FollowAt (l : List GVersion) (a : GAddress) (tick : Int) (hs : l.length + (l.map GVersion.size).sum ≤ 1073741824) : Ctr Tryz.prog n_spec_FollowAt [aL 9 (l.map GVersion.enc), aS a.enc, aI tick] [rS (follow l a tick).1.enc, rL 3 ((follow l a tick).2.map GAddress.enc)] := by
 refine cA m_spec_FollowAt 6 43 [(.cell 6 true 5, [false, true, false, false, false]), (.tmp 7, [true])] Tryz.func220 rfl rfl ?_; unfold m_spec_FollowAt
 intro hb
 clear hb
 simp only [↓reduceIte, reduceEqDiff, reduceLT, reduceAdd, reduceMul, reduceCtorEq, go_sem]
 refine ⟨by decide, ?_⟩
 apply callK_of (c_spec_AnswerAt l a tick hs)
 simp only [↓reduceIte, reduceEqDiff, reduceLT, reduceAdd, reduceCtorEq, go_sem]
 intros
 refine loopK_up (ι := GResource × List GAddress) (fun s => [(8, .val false [.ref 2 0 3 0 s.2.length])]) (fun s => [(2, ⟨0, .row true 3 (s.2.map GAddress.enc)⟩), (3, ⟨0, .row true 1 (s.1.Body.map encI)⟩), (4, ⟨0, .box [.pl (tI s.1.Kind), .ref 3 0 1 0 s.1.Body.length, .pl (tI s.1.To.Host), .pl (tI s.1.To.Path), .pl (tI s.1.To.Query)]⟩)]) (fun s => s.2.length ≤ 5 ∧ followF l tick (6 - s.2.length) s.1 s.2 = follow l a tick) (fun s => 6 - s.2.length) (answer l a tick, [a]) ?_
 simp only [↓reduceIte, reduceEqDiff, reduceAdd, reduceCtorEq, go_sem]
 refine ⟨?_, ⟨by simp, rfl⟩, ?_⟩
 ·simp only [↓reduceIte, reduceEqDiff, reduceLT, reduceCtorEq, go_sem]
  try trivial
 ·rintro ⟨r, q⟩ ⟨hq, hf⟩
  simp only at hq hf
  by_cases c1 : r.Kind = 3
  ·by_cases c2 : q.length ≤ 4
   ·have c2' : (q.length : Int) ≤ 4 := by omega
    simp only [↓reduceIte, reduceEqDiff, reduceLT, reduceLeDiff, reduceAdd, reduceCtorEq, go_sem, c1, c2']
    apply callK_of (c_spec_l9Has q r.To)
    simp only [↓reduceIte, reduceEqDiff, reduceLT, reduceAdd, reduceMul, reduceCtorEq, go_sem]
    refine ⟨fun c3 => ?_, fun c3 => ?_⟩
    ·rw [followF_go ⟨c1, c2, c3⟩] at hf
     refine ⟨by decide, by simp only [roomB]; omega, ?_⟩
     apply callK_of (c_spec_AnswerAt l r.To tick hs)
     simp only [↓reduceIte, reduceEqDiff, reduceLT, reduceAdd, reduceCtorEq, go_sem]
     intros
     refine ⟨(answer l r.To tick, q ++ [r.To]), ?_⟩
     exact ⟨⟨by simp, by simp [GAddress.enc], rfl, rfl, rfl, rfl, rfl, rfl⟩, ⟨by simp; omega, hf⟩, by simp; omega⟩
    ·rw [followF_stop hq (fun hh => hh.2.2 c3)] at hf
     rw [← hf]
     exact ⟨⟨c1.symm, rfl, rfl, rfl, rfl⟩, rfl⟩
   ·have c2' : ¬ (q.length : Int) ≤ 4 := by omega
    simp only [↓reduceIte, reduceEqDiff, reduceLT, reduceLeDiff, reduceAdd, reduceCtorEq, go_sem, c1, c2']
    rw [followF_stop hq (fun hh => c2 hh.2.1)] at hf
    rw [← hf]
    exact ⟨⟨c1.symm, rfl, rfl, rfl, rfl⟩, rfl⟩
  ·simp only [↓reduceIte, reduceEqDiff, reduceLT, reduceLeDiff, reduceAdd, reduceCtorEq, go_sem, c1]
   rw [followF_stop hq (fun hh => c1 hh.1)] at hf
   rw [← hf]
   exact ⟨⟨rfl, rfl, rfl, rfl, rfl⟩, rfl⟩
end Go.Proofs.YtpclnmleldeleaaGreatR
namespace Go.Proofs.YtpclnmleldeleaaGreatR
open Go Go.RowKit Go.Proofs
open Nat (reduceEqDiff reduceLT reduceLeDiff reduceAdd reduceMul)
open List (reduceReplicate)
set_option linter.unusedSimpArgs false
set_option linter.unusedVariables false
def zeros (n : Nat) : List Int := List.replicate n 0
theorem zeros_snoc {k : Nat} : zeros (k + 1) = zeros k ++ [0] := by
 unfold zeros; rw [List.replicate_succ']
def st0 : GState := ⟨0, zeros 4, zeros 3, zeros 4⟩
def m_spec_l11Zeros : MC :=
(.seq (pr [.nilo 2 0 1] [0])
(.seq (pr [.lit 5 0 1 8 [], .mv 3 (.s 5)] [0,3])
(.seq (.seq (pr [.mv 4 (ci 0)] [0,3,4])
(.block 0 (.loop ([0,3,4], [1]) (.seq (.seq (pr [.mv 6 (.s 4), .mv 7 (.s 0), .bin 8 false .lss (.s 6) (.s 7)] [0,3,4,8])
(.cond (.s 8) .skip (.exit 0)))
(.seq (.block 1 (pr [.mv 11 (.s 3), .lit 12 1 1 8 [.c (.int .i64 0)], .app 13 0 1 8 (.s 11) (.s 12), .mv 3 (.s 13)] [0,3,4]))
(pr [.mv 9 (.s 4), .bin 10 false .add (.s 9) (ci 1), .mv 4 (.s 10)] [0,3,4]))))))
(.seq (pr [.mv 14 (.s 3), .mv 2 (.s 14)] [2])
.ret))))
theorem c_spec_l11Zeros (n : Nat) (hn : n ≤ 4) : Ctr Tryz.prog n_spec_l11Zeros [aI n] [rL 1 ((zeros n).map encI)] := by
 refine cA m_spec_l11Zeros 2 15 [(.tmp 2, [true])] Tryz.func286 rfl rfl ?_; unfold m_spec_l11Zeros
 intro hb
 clear hb
 simp only [↓reduceIte, reduceEqDiff, reduceLT, reduceAdd, reduceMul, reduceCtorEq, go_sem]
 refine loopK_up (fun k : Nat => [(3, .val false [.ref 0 0 1 0 (zeros k).length]), (4, vI k)]) (fun k => [(0, ⟨0, .row true 1 ((zeros k).map encI)⟩)]) (fun k => k ≤ n) (fun k => n - k) 0 ?_
 simp only [↓reduceIte, reduceEqDiff, reduceAdd, reduceCtorEq, go_sem]
 refine ⟨?_, Nat.zero_le _, ?_⟩
 ·simp only [↓reduceIte, reduceEqDiff, reduceLT, reduceCtorEq, go_sem]
  exact ⟨rfl, rfl⟩
 ·intro k hk
  have hzl : (zeros k).length = k := by simp [zeros]
  have hw1 : IntKind.i64.wrap ((k : Int) + 1) = ((k + 1 : Nat) : Int) := by rw [wI (by omega) (by omega)]; omega
  simp only [↓reduceIte, reduceEqDiff, reduceLT, reduceAdd, reduceMul, reduceCtorEq, go_sem, hw1]
  refine ⟨fun hlt => ⟨by decide, ?_⟩, fun hge => ?_⟩
  ·exact ⟨by simp only [roomB]; omega, k + 1, ⟨⟨by simp [zeros], rfl⟩, by rw [zeros_snoc]; simp [encI]⟩, by omega, by omega⟩
  ·rw [show k = n by omega]
def m_spec_StartState : MC :=
(.seq (pr [.alloc 0 0 [pz, .emp 1, .emp 1, .emp 1]] [0])
(.seq (pr [.call 1 [1] (.f n_spec_l11Zeros) [.c (.int .i64 4)], .call 2 [2] (.f n_spec_l11Zeros) [.c (.int .i64 3)], .call 3 [3] (.f n_spec_l11Zeros) [.c (.int .i64 4)], .build 4 [pz, .emp 1, .emp 1, .emp 1] [(1, 1, .s 1), (2, 1, .s 2), (3, 1, .s 3)], .store 4 (.s 0) (.s 4)] [0])
.ret))
theorem c_spec_StartState : Ctr Tryz.prog n_spec_StartState [] [rS st0.enc] := by
 refine cA m_spec_StartState 4 5 [(.cell 0 true 4, [false, true, true, true])] Tryz.func253 rfl rfl ?_; unfold m_spec_StartState
 intro hb
 clear hb
 simp only [↓reduceIte, reduceLT, reduceAdd, go_sem]
 apply callK_of (c_spec_l11Zeros 4 (by omega))
 simp only [↓reduceIte, reduceLT, reduceAdd, reduceCtorEq, go_sem]
 try intros
 apply callK_of (c_spec_l11Zeros 3 (by omega))
 simp only [↓reduceIte, reduceLT, reduceAdd, reduceCtorEq, go_sem]
 try intros
 apply callK_of (c_spec_l11Zeros 4 (by omega))
 simp only [↓reduceIte, reduceEqDiff, reduceLT, reduceLeDiff, reduceAdd, reduceCtorEq, go_sem]
 try intros
 exact ⟨rfl, rfl, rfl, rfl⟩
def m_impl_StartState : MC :=
(.seq (pr [.alloc 0 0 [pz, .emp 1, .emp 1, .emp 1]] [0])
(.seq (.dreg [{ o := .mk 1 1 1 8 [.sc (.int .i64 0)] (ci 4), hs := [2,3], ho := [2,3], ws := [1] }, { o := .mk 2 2 1 8 [.sc (.int .i64 0)] (ci 3), hs := [1,3], ho := [1,3], ws := [2] }, { o := .mk 3 3 1 8 [.sc (.int .i64 0)] (ci 4), hs := [1,2], ho := [1,2], ws := [3] }, Ze [0,1,2] (.build 4 [pz, .emp 1, .emp 1, .emp 1] [(1, 1, .s 1), (2, 1, .s 2), (3, 1, .s 3)]), { o := .store 4 (.s 0) (.s 4), ws := [0,1,2,3], bf := (.range 4) }] [0])
.ret))
theorem c_impl_StartState : Ctr Tryz.prog n_impl_StartState [] [rS st0.enc] := by
 refine cA m_impl_StartState 4 5 [(.cell 0 true 4, [false, true, true, true])] Tryz.func262 rfl rfl ?_; unfold m_impl_StartState
 intro hb
 clear hb
 simp only [↓reduceIte, reduceEqDiff, reduceLT, reduceLeDiff, reduceAdd, reduceCtorEq, go_sem]
 exact ⟨by simp only [roomB]; omega, by simp only [roomB]; omega, by simp only [roomB]; omega, rfl, rfl, rfl, rfl, rfl, rfl, rfl⟩
def m_impl_copyState : MC :=
(.seq (pr [.box 1 0 (.s 0), .alloc 2 1 [pz, .emp 1, .emp 1, .emp 1]] [1,2])
(.seq (.dreg [Zf [5,6,7,8,9,10,11,12,13] [2,3,4] (.fld 3 (.s 1) 0), Zg [5,6,7,8,9,10,11,12,13] [2,3,4] [0] (.load 4 false 1 (.s 3)), Zc [3,4,8,9,11,12] (.fld 5 (.s 1) 1), Zd [3,4,8,9,11,12] [2] (.load 6 false 1 (.s 5)), { o := .call 7 [2] (.f n_slices_Clone_int_int) [.s 6], hs := [3,4,8,9,11,12], ws := [2], bf := [2,3] }, Zf [3,4,5,6,7,11,12] [2] (.fld 8 (.s 1) 2), Zg [3,4,5,6,7,11,12] [2] [5] (.load 9 false 1 (.s 8)), { o := .call 10 [3] (.f n_slices_Clone_int_int) [.s 9], hs := [3,4,11,12], ws := [3], bf := [2,3,4,5,6] }, Zf [3,4,5,6,7,8,9,10] [2,3] (.fld 11 (.s 1) 3), Zg [3,4,5,6,7,8,9,10] [2,3] [8] (.load 12 false 1 (.s 11)), { o := .call 13 [4] (.f n_slices_Clone_int_int) [.s 12], hs := [3,4], ws := [4], bf := [2,3,4,5,6,7,8,9] }, Ze (.range 11) (.build 14 [pz, .emp 1, .emp 1, .emp 1] [(0, 1, .s 4), (1, 1, .s 7), (2, 1, .s 10), (3, 1, .s 13)]), { o := .store 4 (.s 2) (.s 14), ws := [1,2,3,4], bf := (.range 12) }] [2])
.ret))
theorem c_impl_copyState (s : GState) (hs : s.size ≤ 1073741824) : Ctr Tryz.prog n_impl_copyState [aS s.enc] [rS s.enc] := by
 refine cA m_impl_copyState 5 15 [(.cell 2 true 4, [false, true, true, true])] Tryz.func267 rfl rfl ?_; unfold m_impl_copyState
 intro hb
 clear hb
 simp only [GState.size] at hs
 simp only [↓reduceIte, reduceEqDiff, reduceLT, reduceLeDiff, reduceAdd, reduceCtorEq, go_sem]
 apply callK_of (c_slices_Clone_int s.Regs (by omega))
 simp only [↓reduceIte, reduceEqDiff, reduceLT, reduceLeDiff, reduceAdd, reduceCtorEq, go_sem]
 try intros
 apply callK_of (c_slices_Clone_int s.Slots (by omega))
 simp only [↓reduceIte, reduceEqDiff, reduceLT, reduceAdd, reduceCtorEq, go_sem]
 try intros
 apply callK_of (c_slices_Clone_int s.Nodes (by omega))
 simp only [↓reduceIte, reduceEqDiff, reduceLT, reduceLeDiff, reduceAdd, reduceCtorEq, go_sem]
 try intros
 try trivial
def m_spec_l11Copy : MC :=
(.seq (pr [.box 1 0 (.s 0), .alloc 2 1 [pz, .emp 1, .emp 1, .emp 1]] [1,2])
(.seq (.dreg [Zf [5,6,7,8,9,10,11,12,13,14,15,16] [2,3,4] (.fld 3 (.s 1) 0), Zg [5,6,7,8,9,10,11,12,13,14,15,16] [2,3,4] [0] (.load 4 false 1 (.s 3)), { o := .lit 5 2 1 8 [], hs := [3,4,6,7,9,10,11,13,14,15], ho := [3,4], ws := [2] }, Zf [3,4,5,9,10,11,13,14,15] [2,3,4] (.fld 6 (.s 1) 1), Zg [3,4,5,9,10,11,13,14,15] [2,3,4] [3] (.load 7 false 1 (.s 6)), { o := .app 8 2 1 8 (.s 5) (.s 7), hs := [3,4,9,10,11,13,14,15], ho := [3,4], ws := [2], bf := [2,3,4] }, { o := .lit 9 3 1 8 [], hs := [3,4,5,6,7,8,10,11,13,14,15], ho := [2,4], ws := [3] }, Zf [3,4,5,6,7,8,9,13,14,15] [2,3,4] (.fld 10 (.s 1) 2), Zg [3,4,5,6,7,8,9,13,14,15] [2,3,4] [7] (.load 11 false 1 (.s 10)), { o := .app 12 3 1 8 (.s 9) (.s 11), hs := [3,4,13,14,15], ho := [4], ws := [3], bf := [2,3,4,5,6,7,8] }, { o := .lit 13 4 1 8 [], hs := [3,4,5,6,7,8,9,10,11,12,14,15], ho := [2,3], ws := [4] }, Zf [3,4,5,6,7,8,9,10,11,12,13] [2,3,4] (.fld 14 (.s 1) 3), Zg [3,4,5,6,7,8,9,10,11,12,13] [2,3,4] [11] (.load 15 false 1 (.s 14)), { o := .app 16 4 1 8 (.s 13) (.s 15), hs := [3,4], ws := [4], bf := [2,3,4,5,6,7,8,9,10,11,12] }, Ze (.range 14) (.build 17 [pz, .emp 1, .emp 1, .emp 1] [(0, 1, .s 4), (1, 1, .s 8), (2, 1, .s 12), (3, 1, .s 16)]), { o := .store 4 (.s 2) (.s 17), ws := [1,2,3,4], bf := (.range 15) }] [2])
.ret))
theorem c_spec_l11Copy (s : GState) (hs : s.size ≤ 1073741824) : Ctr Tryz.prog n_spec_l11Copy [aS s.enc] [rS s.enc] := by
 refine cA m_spec_l11Copy 5 18 [(.cell 2 true 4, [false, true, true, true])] Tryz.func215 rfl rfl ?_; unfold m_spec_l11Copy
 intro hb
 clear hb
 simp only [GState.size] at hs
 simp only [↓reduceIte, reduceEqDiff, reduceLT, reduceLeDiff, reduceAdd, reduceMul, reduceCtorEq, go_sem, ↓flat_of (f := encI) (fun _ => rfl) s.Regs, ↓flat_of (f := encI) (fun _ => rfl) s.Slots, ↓flat_of (f := encI) (fun _ => rfl) s.Nodes]
 simp only [roomB]
 omega
def stOk (s : GState) : Bool := decide (0 ≤ s.Pc ∧ s.Pc ≤ 19) && (decide (s.Regs.length = 4 ∧ s.Slots.length = 3 ∧ s.Nodes.length = 4) && (allIn s.Regs 0 999 && (allIn s.Slots 0 999 && allIn s.Nodes 0 999)))
def m_spec_l11All : MC :=
(.seq (pr [.mv 4 cF] [0,1])
(.seq (.seq (pr [.mv 5 (ci 0)] [0,1,5])
(.block 0 (.loop ([0,1,5], []) (.seq (.seq (pr [.mv 6 (.s 5), .mv 7 (.s 0), .len 8 false (.s 7), .bin 9 false .lss (.s 6) (.s 8)] [0,1,5,9])
(.cond (.s 9) .skip (.exit 0)))
(.seq (.block 1 (.seq (pr [.mv 12 (.s 0), .mv 13 (.s 5), .idx 14 1 (.s 12) (.s 13), .load 15 false 1 (.s 14), .call 16 [] (.f n_spec_l1In) [.s 15, .c (.int .i64 0), .c (.int .i64 999)], .un 17 .not (.s 16)] [0,1,5,17])
(.cond (.s 17) (.seq (pr [.mv 4 cF] [4])
.ret) .skip)))
(pr [.mv 10 (.s 5), .bin 11 false .add (.s 10) (ci 1), .mv 5 (.s 11)] [0,1,5]))))))
(.seq (pr [.mv 18 (.s 0), .len 19 false (.s 18), .mv 20 (.s 1), .bin 21 false .eql (.s 19) (.s 20), .mv 4 (.s 21)] [4])
.ret)))
theorem c_spec_l11All (l : List Int) (n : Nat) : Ctr Tryz.prog n_spec_l11All [aL 1 (l.map encI), aI n] [rB (decide (l.length = n) && allIn l 0 999)] := by
 refine cA m_spec_l11All 0 22 [(.tmp 4, [false])] Tryz.func213 rfl rfl ?_; unfold m_spec_l11All
 intro hb
 simp only [bdA, bdL, bdT, bdR_map, wfB_i64, roomB, and_true, List.length_map] at hb
 obtain ⟨⟨hl, -⟩, -⟩ := hb
 simp only [↓reduceIte, reduceEqDiff, reduceLT, reduceCtorEq, go_sem]
 refine loopK_rng l (fun k => [(5, vI k)]) (fun k => []) (fun k => ((l.take k).all fun x => decide (0 ≤ x ∧ x ≤ 999)) = true) hl ?_
 simp only [↓reduceIte, reduceEqDiff, reduceCtorEq, go_sem]
 refine ⟨?_, by simp, ?_, ?_⟩
 ·simp only [↓reduceIte, reduceEqDiff, reduceLT, reduceCtorEq, go_sem]
 ·intro k x hx h h0 h1 hw
  simp only [↓reduceIte, reduceEqDiff, reduceLT, reduceCtorEq, go_sem, bk_eq hx, h0, h1]
  refine callK_of (c_spec_l1In _ _ _) ?_
  simp only [↓reduceIte, reduceEqDiff, reduceLT, reduceCtorEq, go_sem, hw]
  refine ⟨fun hn => ?_, fun hn => all_step hx h (by simpa using hn)⟩
  rw [show allIn l 0 999 = false from (all_not hx (by simpa using hn)).symm, Bool.and_false]
 ·intro h
  simp only [↓reduceIte, reduceEqDiff, reduceLT, reduceCtorEq, go_sem]
  rw [List.take_length] at h
  rw [show allIn l 0 999 = true from h, Bool.and_true, Bool.eq_iff_iff]
  simp only [decide_eq_true_eq, beq_iff_eq]
  omega
def m_impl_IsState : MC :=
(.seq (pr [.box 1 0 (.s 0), .mv 2 cF] [1])
(.seq (.reg [Za (.fld 3 (.s 1) 0), Za (.load 4 false 1 (.s 3)), Za (.call 5 [] (.f n_impl_InRange) [.s 4, .c (.int .i64 0), .c (.int .i64 19)]), Za (.mv 6 (.s 5)), Zb 6 true (.fld 7 (.s 1) 1), Zb 6 true (.load 8 false 1 (.s 7)), Zb 6 true (.len 9 false (.s 8)), Zb 6 true (.bin 10 false .eql (.s 9) (ci 4)), Za (.pick 11 (.s 6) (.s 10) cF), Za (.mv 12 (.s 11)), Zb 12 true (.fld 13 (.s 1) 2), Zb 12 true (.load 14 false 1 (.s 13)), Zb 12 true (.len 15 false (.s 14)), Zb 12 true (.bin 16 false .eql (.s 15) (ci 3)), Za (.pick 17 (.s 12) (.s 16) cF), Za (.mv 18 (.s 17)), Zb 18 true (.fld 19 (.s 1) 3), Zb 18 true (.load 20 false 1 (.s 19)), Zb 18 true (.len 21 false (.s 20)), Zb 18 true (.bin 22 false .eql (.s 21) (ci 4)), Za (.pick 23 (.s 18) (.s 22) cF), Za (.mv 24 (.s 23)), Zb 24 true (.fld 25 (.s 1) 1), Zb 24 true (.load 26 false 1 (.s 25)), Zb 24 true (.call 27 [] (.f n_impl_allIn) [.s 26, .c (.int .i64 0), .c (.int .i64 999)]), Za (.pick 28 (.s 24) (.s 27) cF), Za (.mv 29 (.s 28)), Zb 29 true (.fld 30 (.s 1) 2), Zb 29 true (.load 31 false 1 (.s 30)), Zb 29 true (.call 32 [] (.f n_impl_allIn) [.s 31, .c (.int .i64 0), .c (.int .i64 999)]), Za (.pick 33 (.s 29) (.s 32) cF), Za (.mv 34 (.s 33)), Zb 34 true (.fld 35 (.s 1) 3), Zb 34 true (.load 36 false 1 (.s 35)), Zb 34 true (.call 37 [] (.f n_impl_allIn) [.s 36, .c (.int .i64 0), .c (.int .i64 999)]), Za (.pick 38 (.s 34) (.s 37) cF), Za (.mv 2 (.s 38))] [2])
.ret))
theorem c_impl_IsState (s : GState) : Ctr Tryz.prog n_impl_IsState [aS s.enc] [rB (stOk s)] := by
 refine cA m_impl_IsState 1 39 [(.tmp 2, [false])] Tryz.func308 rfl rfl ?_; unfold m_impl_IsState
 intro hb
 clear hb
 simp only [↓reduceIte, reduceEqDiff, reduceLT, reduceLeDiff, reduceAdd, reduceCtorEq, go_sem]
 repeat' first
  | (refine And.intro ?_ ?_ <;> intro h)
  | (apply callK_of (c_impl_InRange _ _ _); simp only [↓reduceIte, reduceEqDiff, reduceLT, reduceLeDiff, reduceAdd, reduceCtorEq, go_sem])
  | (apply callK_of (c_impl_allIn _ _ _); simp only [↓reduceIte, reduceEqDiff, reduceLT, reduceLeDiff, reduceAdd, reduceCtorEq, go_sem])
 all_goals (unfold stOk; by_cases c1 : s.Regs.length = 4 <;> by_cases c2 : s.Slots.length = 3 <;> by_cases c3 : s.Nodes.length = 4 <;> simp_all <;> omega)
def m_spec_IsState : MC :=
(.seq (pr [.box 1 0 (.s 0), .mv 2 cF] [1])
(.seq (.reg [Za (.fld 3 (.s 1) 0), Za (.load 4 false 1 (.s 3)), Za (.call 5 [] (.f n_spec_l1In) [.s 4, .c (.int .i64 0), .c (.int .i64 19)]), Za (.mv 6 (.s 5)), Zb 6 true (.fld 7 (.s 1) 1), Zb 6 true (.load 8 false 1 (.s 7)), Zb 6 true (.call 9 [] (.f n_spec_l11All) [.s 8, .c (.int .i64 4)]), Za (.pick 10 (.s 6) (.s 9) cF), Za (.mv 11 (.s 10)), Zb 11 true (.fld 12 (.s 1) 2), Zb 11 true (.load 13 false 1 (.s 12)), Zb 11 true (.call 14 [] (.f n_spec_l11All) [.s 13, .c (.int .i64 3)]), Za (.pick 15 (.s 11) (.s 14) cF), Za (.mv 16 (.s 15)), Zb 16 true (.fld 17 (.s 1) 3), Zb 16 true (.load 18 false 1 (.s 17)), Zb 16 true (.call 19 [] (.f n_spec_l11All) [.s 18, .c (.int .i64 4)]), Za (.pick 20 (.s 16) (.s 19) cF), Za (.mv 2 (.s 20))] [2])
.ret))
theorem c_spec_IsState (s : GState) : Ctr Tryz.prog n_spec_IsState [aS s.enc] [rB (stOk s)] := by
 refine cA m_spec_IsState 1 21 [(.tmp 2, [false])] Tryz.func307 rfl rfl ?_; unfold m_spec_IsState
 intro hb
 clear hb
 simp only [↓reduceIte, reduceEqDiff, reduceLT, reduceLeDiff, reduceAdd, reduceCtorEq, go_sem]
 repeat' first
  | (refine And.intro ?_ ?_ <;> intro h)
  | (apply callK_of (c_spec_l1In _ _ _); simp only [↓reduceIte, reduceEqDiff, reduceLT, reduceLeDiff, reduceAdd, reduceCtorEq, go_sem])
  | (apply callK_of (c_spec_l11All s.Regs 4); simp only [↓reduceIte, reduceEqDiff, reduceLT, reduceLeDiff, reduceAdd, reduceCtorEq, go_sem])
  | (apply callK_of (c_spec_l11All s.Slots 3); simp only [↓reduceIte, reduceEqDiff, reduceLT, reduceAdd, reduceCtorEq, go_sem])
  | (apply callK_of (c_spec_l11All s.Nodes 4); simp only [↓reduceIte, reduceEqDiff, reduceLT, go_sem])
 all_goals (unfold stOk; by_cases c1 : s.Regs.length = 4 <;> by_cases c2 : s.Slots.length = 3 <;> by_cases c3 : s.Nodes.length = 4 <;> simp_all <;> omega)
end Go.Proofs.YtpclnmleldeleaaGreatR
namespace Go.Proofs.YtpclnmleldeleaaGreatR
open Go Go.RowKit Go.Proofs
open Nat (reduceEqDiff reduceLT reduceLeDiff reduceAdd reduceMul)
open List (reduceReplicate)
set_option linter.unusedSimpArgs false
set_option linter.unusedVariables false
def canDo (l : List GOp) (s : GState) : Bool := scriptOk l && (stOk s && decide (s.Pc < l.length))
def zAt (l : List Int) (i : Int) : Int := (l[i.toNat]?).getD 0
def opAt (l : List GOp) (i : Int) : GOp := (l[i.toNat]?).getD ⟨0, 0, 0, 0⟩
theorem zAt_of {l : List Int} {i : Nat} {x : Int} (h : l[i]? = some x) : zAt l i = x := by simp [zAt, h]
structure Doing (l : List GOp) (s : GState) (k : Nat) (o : GOp) : Prop where
 pc : s.Pc = k
 op : l[k]? = some o
 at_ : opAt l s.Pc = o
 ok : opOk o = true
 lt : k < l.length
 few : l.length ≤ 16
 regs : s.Regs.length = 4
 slots : s.Slots.length = 3
 nodes : s.Nodes.length = 4
 rin : ∀ (i : Nat) (x : Int), s.Regs[i]? = some x → 0 ≤ x ∧ x ≤ 999
 sin : ∀ (i : Nat) (x : Int), s.Slots[i]? = some x → 0 ≤ x ∧ x ≤ 999
 nin : ∀ (i : Nat) (x : Int), s.Nodes[i]? = some x → 0 ≤ x ∧ x ≤ 999
theorem allIn_at {l : List Int} {a b : Int} (h : allIn l a b = true) (i : Nat) (x : Int) (hx : l[i]? = some x) : a ≤ x ∧ x ≤ b := by
 have := List.all_eq_true.1 h x (at_mem hx)
 simpa using this
theorem canDo_out {l : List GOp} {s : GState} (h : canDo l s = true) : ∃ k o, Doing l s k o := by
 simp only [canDo, scriptOk, fewAll, stOk, Bool.and_eq_true, decide_eq_true_eq] at h
 obtain ⟨⟨h1, h2⟩, ⟨⟨h3, h4⟩, ⟨h5, h6, h7⟩, h8, h9, h10⟩, h11⟩ := h
 obtain ⟨k, hk⟩ := Int.eq_ofNat_of_zero_le h3
 obtain ⟨o, ho⟩ := at_some (show k < l.length by omega)
 exact ⟨k, o, hk, ho, by simp [opAt, hk, ho], List.all_eq_true.1 h2 o (at_mem ho), by omega, h1, h5, h6, h7, allIn_at h8, allIn_at h9, allIn_at h10⟩
theorem opOk_cases {o : GOp} (h : opOk o = true) : ∃ i : Nat, i < 4 ∧ o.A = i ∧ (
  (o.Kind = 5 ∧ ∃ j m : Nat, j < 4 ∧ m < 4 ∧ o.B = j ∧ o.C = m) ∨ (o.Kind = 6 ∧ ∃ j : Nat, j < 4 ∧ o.B = j) ∨ (o.Kind = 7 ∧ 1 ≤ o.B ∧ o.B ≤ 3) ∨
  (o.Kind = 8 ∧ ∃ j : Nat, j < 3 ∧ o.B = j) ∨ (o.Kind = 9 ∧ ∃ j : Nat, j < 3 ∧ o.B = j) ∨ (1 ≤ o.Kind ∧ o.Kind ≤ 4)) := by
 simp only [opOk, decide_eq_true_eq] at h
 obtain ⟨⟨h1, h2⟩, h⟩ := h
 refine ⟨o.A.toNat, by omega, by omega, ?_⟩
 rcases h with h | h | ⟨h, h3, h4⟩ | ⟨h, h3, h4⟩ | h | ⟨h, h3, h4⟩
 ·omega
 ·omega
 ·exact .inl ⟨h, o.B.toNat, o.C.toNat, by omega, by omega, by omega, by omega⟩
 ·exact .inr (.inl ⟨h, o.B.toNat, by omega, by omega⟩)
 ·omega
 ·rcases h with h | h
  ·exact .inr (.inr (.inr (.inl ⟨h, o.B.toNat, by omega, by omega⟩)))
  ·exact .inr (.inr (.inr (.inr (.inl ⟨h, o.B.toNat, by omega, by omega⟩))))
def m_impl_canStep : MC :=
(.seq (pr [.box 3 0 (.s 1), .mv 4 cF] [0,3])
(.seq (.reg [Za (.mv 5 (.s 0)), Za (.call 6 [] (.f n_impl_IsScript) [.s 5]), Za (.mv 7 (.s 6)), Zb 7 true (.load 8 true 4 (.s 3)), Zb 7 true (.call 9 [] (.f n_impl_IsState) [.s 8]), Za (.pick 10 (.s 7) (.s 9) cF), Za (.mv 11 (.s 10)), Zb 11 true (.fld 12 (.s 3) 0), Zb 11 true (.load 13 false 1 (.s 12)), Zb 11 true (.mv 14 (.s 0)), Zb 11 true (.len 15 false (.s 14)), Zb 11 true (.bin 16 false .lss (.s 13) (.s 15)), Za (.pick 17 (.s 11) (.s 16) cF), Za (.mv 4 (.s 17))] [4])
.ret))
theorem c_impl_canStep (l : List GOp) (s : GState) : Ctr Tryz.prog n_impl_canStep [aL 4 (l.map GOp.enc), aS s.enc] [rB (canDo l s)] := by
 refine cA m_impl_canStep 1 18 [(.tmp 4, [false])] Tryz.func290 rfl rfl ?_; unfold m_impl_canStep
 intro hb
 clear hb
 simp only [↓reduceIte, reduceEqDiff, reduceLT, reduceCtorEq, go_sem]
 repeat' first
  | (refine And.intro ?_ ?_ <;> intro h)
  | (apply callK_of (c_impl_IsScript _); simp only [↓reduceIte, reduceEqDiff, reduceLT, reduceAdd, reduceCtorEq, go_sem])
  | (apply callK_of (c_impl_IsState s); simp only [↓reduceIte, reduceEqDiff, reduceLT, reduceLeDiff, reduceAdd, reduceCtorEq, go_sem])
 all_goals (unfold canDo; simp_all)
def m_spec_l11Can : MC :=
(.seq (pr [.box 3 0 (.s 1), .mv 4 cF] [0,3])
(.seq (.reg [Za (.mv 5 (.s 0)), Za (.call 6 [] (.f n_spec_IsScript) [.s 5]), Za (.mv 7 (.s 6)), Zb 7 true (.load 8 true 4 (.s 3)), Zb 7 true (.call 9 [] (.f n_spec_IsState) [.s 8]), Za (.pick 10 (.s 7) (.s 9) cF), Za (.mv 11 (.s 10)), Zb 11 true (.fld 12 (.s 3) 0), Zb 11 true (.load 13 false 1 (.s 12)), Zb 11 true (.mv 14 (.s 0)), Zb 11 true (.len 15 false (.s 14)), Zb 11 true (.bin 16 false .lss (.s 13) (.s 15)), Za (.pick 17 (.s 11) (.s 16) cF), Za (.mv 4 (.s 17))] [4])
.ret))
theorem c_spec_l11Can (l : List GOp) (s : GState) : Ctr Tryz.prog n_spec_l11Can [aL 4 (l.map GOp.enc), aS s.enc] [rB (canDo l s)] := by
 refine cA m_spec_l11Can 1 18 [(.tmp 4, [false])] Tryz.func287 rfl rfl ?_; unfold m_spec_l11Can
 intro hb
 clear hb
 simp only [↓reduceIte, reduceEqDiff, reduceLT, reduceCtorEq, go_sem]
 repeat' first
  | (refine And.intro ?_ ?_ <;> intro h)
  | (apply callK_of (c_spec_IsScript _); simp only [↓reduceIte, reduceEqDiff, reduceLT, reduceAdd, reduceCtorEq, go_sem])
  | (apply callK_of (c_spec_IsState s); simp only [↓reduceIte, reduceEqDiff, reduceLT, reduceLeDiff, reduceAdd, reduceCtorEq, go_sem])
 all_goals (unfold canDo; simp_all)
def wantOf (l : List GOp) (s : GState) : GWant := if canDo l s = true ∧ asks (opAt l s.Pc).Kind = true then ⟨(opAt l s.Pc).Kind, if (opAt l s.Pc).Kind = 1 then ⟨(opAt l s.Pc).B, (opAt l s.Pc).C, (zAt s.Regs (opAt l s.Pc).A).tmod 100⟩ else ⟨0, 0, 0⟩⟩ else ⟨0, ⟨0, 0, 0⟩⟩
theorem c100 : ¬ (100 : Int) = 0 := by decide
theorem c1000 : ¬ (1000 : Int) = 0 := by decide
def m_impl_WantOf : MC :=
(.seq (pr [.box 3 0 (.s 1), .alloc 4 1 [pz, pz, pz, pz]] [0,3,4])
(.seq (.seq (.reg [Za (.mv 7 (.s 0)), Za (.load 8 true 4 (.s 3)), Za (.call 9 [] (.f n_impl_canStep) [.s 7, .s 8]), Za (.un 10 .not (.s 9)), Za (.mv 11 (.s 10)), Zb 11 false (.mv 12 (.s 0)), Zb 11 false (.fld 13 (.s 3) 0), Zb 11 false (.load 14 false 1 (.s 13)), Zb 11 false (.idx 15 4 (.s 12) (.s 14)), Zb 11 false (.fld 16 (.s 15) 0), Zb 11 false (.load 17 false 1 (.s 16)), Zb 11 false (.call 18 [] (.f n_impl_Asks) [.s 17]), Zb 11 false (.un 19 .not (.s 18)), Za (.pick 20 (.s 11) cT (.s 19))] [0,3,4,20])
(.cond (.s 20) (.seq (pr [.build 21 [pz, pz, pz, pz] [], .store 4 (.s 4) (.s 21)] [4])
.ret) .skip))
(.seq (pr [.mv 22 (.s 0), .fld 23 (.s 3) 0, .load 24 false 1 (.s 23), .idx 25 4 (.s 22) (.s 24), .load 26 true 4 (.s 25), .alloc 5 2 [pz, pz, pz, pz], .store 4 (.s 5) (.s 26)] [3,4,5])
(.seq (pr [.fld 27 (.s 5) 0, .load 28 false 1 (.s 27), .build 29 [pz, pz, pz, pz] [(0, 1, .s 28)], .alloc 6 3 [pz, pz, pz, pz], .store 4 (.s 6) (.s 29)] [3,4,5,6])
(.seq (.seq (pr [.fld 30 (.s 5) 0, .load 31 false 1 (.s 30), .bin 32 false .eql (.s 31) (ci 1)] [3,4,5,6,32])
(.cond (.s 32) (.dreg [Zc [35,36,37,38,39,40,41,42,43] (.fld 33 (.s 5) 2), Zd [35,36,37,38,39,40,41,42,43] [0] (.load 34 false 1 (.s 33)), Zc [33,34,37,38,39,40,41,42,43] (.fld 35 (.s 5) 3), Zd [33,34,37,38,39,40,41,42,43] [2] (.load 36 false 1 (.s 35)), Zc [33,34,35,36,39,40] (.fld 37 (.s 3) 1), Zd [33,34,35,36,39,40] [4] (.load 38 false 1 (.s 37)), Zc [33,34,35,36,37,38] (.fld 39 (.s 5) 1), Zd [33,34,35,36,37,38] [6] (.load 40 false 1 (.s 39)), Zd [33,34,35,36] [4,5,6,7] (.idx 41 1 (.s 38) (.s 40)), Zd [33,34,35,36] [4,5,6,7,8] (.load 42 false 1 (.s 41)), Zd [33,34,35,36] [4,5,6,7,8,9] (.bin 43 false .rem (.s 42) (ci 100)), Ze (.range 11) (.build 44 [pz, pz, pz] [(0, 1, .s 34), (1, 1, .s 36), (2, 1, .s 43)]), Ze (.range 12) (.fld 45 (.s 6) 1), { o := .store 3 (.s 45) (.s 44), ws := [3], bf := (.range 13) }] [4,6]) .skip))
(.seq (pr [.load 46 true 4 (.s 6), .store 4 (.s 4) (.s 46)] [4])
.ret))))))
theorem c_impl_WantOf (l : List GOp) (s : GState) : Ctr Tryz.prog n_impl_WantOf [aL 4 (l.map GOp.enc), aS s.enc] [rS (wantOf l s).enc] := by
 refine cA m_impl_WantOf 4 47 [(.cell 4 true 4, [false, false, false, false])] Tryz.func264 rfl rfl ?_; unfold m_impl_WantOf
 intro hb
 clear hb
 simp only [↓reduceIte, reduceEqDiff, reduceLT, reduceAdd, reduceCtorEq, go_sem]
 apply callK_of (c_impl_canStep l s)
 simp only [↓reduceIte, reduceEqDiff, reduceLT, reduceLeDiff, reduceAdd, reduceCtorEq, go_sem]
 refine And.intro ?_ ?_ <;> intro h
 ·rw [wantOf, if_neg (by simp [h])]
  try exact ⟨rfl, rfl, rfl, rfl⟩
 ·obtain ⟨k, o, D⟩ := canDo_out h
  obtain ⟨i, hi, hA, -⟩ := opOk_cases D.ok
  have hrl := D.regs
  obtain ⟨r, hr⟩ := at_some (show i < s.Regs.length by omega)
  have hp0 : (0 : Int) ≤ (k : Int) := by omega
  have hp1 : (k : Int) < l.length := by have := D.lt; omega
  have hi0 : (0 : Int) ≤ (i : Int) := by omega
  have hi1 : (i : Int) < s.Regs.length := by omega
  have hz : zAt s.Regs o.A = r := by rw [hA]; exact zAt_of hr
  have hW : wantOf l s = if asks o.Kind = true then ⟨o.Kind, if o.Kind = 1 then ⟨o.B, o.C, r.tmod 100⟩ else ⟨0, 0, 0⟩⟩ else ⟨0, ⟨0, 0, 0⟩⟩ := by
   simp only [wantOf, h, D.at_, hz, true_and]
  rw [hW]
  simp only [go_sem, D.pc, bk_eq D.op, hp0, hp1]
  apply callK_of (c_impl_Asks o.Kind)
  simp only [↓reduceIte, reduceEqDiff, reduceLT, reduceLeDiff, reduceAdd, reduceCtorEq, go_sem, bk_eq D.op, hp0, hp1]
  refine And.intro ?_ ?_ <;> intro h2
  ·rw [if_neg (by simp [h2])]
   try exact ⟨rfl, rfl, rfl, rfl⟩
  ·rw [if_pos h2]
   refine And.intro ?_ ?_ <;> intro h3
   ·simp only [↓reduceIte, go_sem, hA, bk_eq hr, hi0, hi1, h3, c100]
   ·rw [if_neg h3]
    try exact ⟨rfl, rfl, rfl, rfl⟩
def m_spec_WantOf : MC :=
(.seq (pr [.box 3 0 (.s 1), .alloc 4 1 [pz, pz, pz, pz]] [0,3,4])
(.seq (.seq (.reg [Za (.mv 7 (.s 0)), Za (.load 8 true 4 (.s 3)), Za (.call 9 [] (.f n_spec_l11Can) [.s 7, .s 8]), Za (.un 10 .not (.s 9)), Za (.mv 11 (.s 10)), Zb 11 false (.mv 12 (.s 0)), Zb 11 false (.fld 13 (.s 3) 0), Zb 11 false (.load 14 false 1 (.s 13)), Zb 11 false (.idx 15 4 (.s 12) (.s 14)), Zb 11 false (.fld 16 (.s 15) 0), Zb 11 false (.load 17 false 1 (.s 16)), Zb 11 false (.call 18 [] (.f n_spec_Asks) [.s 17]), Zb 11 false (.un 19 .not (.s 18)), Za (.pick 20 (.s 11) cT (.s 19))] [0,3,4,20])
(.cond (.s 20) (.seq (pr [.build 21 [pz, pz, pz, pz] [], .store 4 (.s 4) (.s 21)] [4])
.ret) .skip))
(.seq (pr [.mv 22 (.s 0), .fld 23 (.s 3) 0, .load 24 false 1 (.s 23), .idx 25 4 (.s 22) (.s 24), .load 26 true 4 (.s 25), .alloc 5 2 [pz, pz, pz, pz], .store 4 (.s 5) (.s 26)] [3,4,5])
(.seq (pr [.fld 27 (.s 5) 0, .load 28 false 1 (.s 27), .build 29 [pz, pz, pz, pz] [(0, 1, .s 28)], .alloc 6 3 [pz, pz, pz, pz], .store 4 (.s 6) (.s 29)] [3,4,5,6])
(.seq (.seq (pr [.fld 30 (.s 5) 0, .load 31 false 1 (.s 30), .bin 32 false .eql (.s 31) (ci 1)] [3,4,5,6,32])
(.cond (.s 32) (.dreg [Zc [35,36,37,38,39,40,41,42,43] (.fld 33 (.s 5) 2), Zd [35,36,37,38,39,40,41,42,43] [0] (.load 34 false 1 (.s 33)), Zc [33,34,37,38,39,40,41,42,43] (.fld 35 (.s 5) 3), Zd [33,34,37,38,39,40,41,42,43] [2] (.load 36 false 1 (.s 35)), Zc [33,34,35,36,39,40] (.fld 37 (.s 3) 1), Zd [33,34,35,36,39,40] [4] (.load 38 false 1 (.s 37)), Zc [33,34,35,36,37,38] (.fld 39 (.s 5) 1), Zd [33,34,35,36,37,38] [6] (.load 40 false 1 (.s 39)), Zd [33,34,35,36] [4,5,6,7] (.idx 41 1 (.s 38) (.s 40)), Zd [33,34,35,36] [4,5,6,7,8] (.load 42 false 1 (.s 41)), Zd [33,34,35,36] [4,5,6,7,8,9] (.bin 43 false .rem (.s 42) (ci 100)), Ze (.range 11) (.build 44 [pz, pz, pz] [(0, 1, .s 34), (1, 1, .s 36), (2, 1, .s 43)]), Ze (.range 12) (.fld 45 (.s 6) 1), { o := .store 3 (.s 45) (.s 44), ws := [3], bf := (.range 13) }] [4,6]) .skip))
(.seq (pr [.load 46 true 4 (.s 6), .store 4 (.s 4) (.s 46)] [4])
.ret))))))
theorem c_spec_WantOf (l : List GOp) (s : GState) : Ctr Tryz.prog n_spec_WantOf [aL 4 (l.map GOp.enc), aS s.enc] [rS (wantOf l s).enc] := by
 refine cA m_spec_WantOf 4 47 [(.cell 4 true 4, [false, false, false, false])] Tryz.func255 rfl rfl ?_; unfold m_spec_WantOf
 intro hb
 clear hb
 simp only [↓reduceIte, reduceEqDiff, reduceLT, reduceAdd, reduceCtorEq, go_sem]
 apply callK_of (c_spec_l11Can l s)
 simp only [↓reduceIte, reduceEqDiff, reduceLT, reduceLeDiff, reduceAdd, reduceCtorEq, go_sem]
 refine And.intro ?_ ?_ <;> intro h
 ·rw [wantOf, if_neg (by simp [h])]
  try exact ⟨rfl, rfl, rfl, rfl⟩
 ·obtain ⟨k, o, D⟩ := canDo_out h
  obtain ⟨i, hi, hA, -⟩ := opOk_cases D.ok
  have hrl := D.regs
  obtain ⟨r, hr⟩ := at_some (show i < s.Regs.length by omega)
  have hp0 : (0 : Int) ≤ (k : Int) := by omega
  have hp1 : (k : Int) < l.length := by have := D.lt; omega
  have hi0 : (0 : Int) ≤ (i : Int) := by omega
  have hi1 : (i : Int) < s.Regs.length := by omega
  have hz : zAt s.Regs o.A = r := by rw [hA]; exact zAt_of hr
  have hW : wantOf l s = if asks o.Kind = true then ⟨o.Kind, if o.Kind = 1 then ⟨o.B, o.C, r.tmod 100⟩ else ⟨0, 0, 0⟩⟩ else ⟨0, ⟨0, 0, 0⟩⟩ := by
   simp only [wantOf, h, D.at_, hz, true_and]
  rw [hW]
  simp only [go_sem, D.pc, bk_eq D.op, hp0, hp1]
  apply callK_of (c_spec_Asks o.Kind)
  simp only [↓reduceIte, reduceEqDiff, reduceLT, reduceLeDiff, reduceAdd, reduceCtorEq, go_sem, bk_eq D.op, hp0, hp1]
  refine And.intro ?_ ?_ <;> intro h2
  ·rw [if_neg (by simp [h2])]
   try exact ⟨rfl, rfl, rfl, rfl⟩
  ·rw [if_pos h2]
   refine And.intro ?_ ?_ <;> intro h3
   ·simp only [↓reduceIte, go_sem, hA, bk_eq hr, hi0, hi1, h3, c100]
   ·rw [if_neg h3]
    try exact ⟨rfl, rfl, rfl, rfl⟩
end Go.Proofs.YtpclnmleldeleaaGreatR
namespace Go.Proofs.YtpclnmleldeleaaGreatR
open Go Go.RowKit Go.Proofs
open Nat (reduceEqDiff reduceLT reduceLeDiff reduceAdd reduceMul)
open List (reduceReplicate)
set_option linter.unusedSimpArgs false
set_option linter.unusedVariables false
def clamp (v : Int) : Int := if 999 < (if 0 > v then 0 else v) then 999 else (if 0 > v then 0 else v)
theorem clamp_eq {v : Int} : (if (if v < 999 then v else 999) > 0 then (if v < 999 then v else 999) else 0) = clamp v := by
 unfold clamp; repeat' split
 all_goals omega
def pcTo (n : Int) : Int := IntKind.i64.wrap (n + 1)
def doOp (o : GOp) (s : GState) (v : Int) : GState :=
 if o.Kind = 5 then { s with Pc := pcTo s.Pc, Regs := s.Regs.set o.A.toNat ((IntKind.i64.wrap (zAt s.Regs o.B + zAt s.Regs o.C)).tmod 1000) }
 else if o.Kind = 6 then { s with Pc := pcTo s.Pc, Nodes := s.Nodes.set o.B.toNat (zAt s.Regs o.A) }
 else if o.Kind = 7 then { s with Pc := if (zAt s.Regs o.A).tmod 2 = 0 then IntKind.i64.wrap (pcTo s.Pc + o.B) else pcTo s.Pc }
 else if o.Kind = 8 then { s with Pc := pcTo s.Pc, Regs := s.Regs.set o.A.toNat (zAt s.Slots o.B) }
 else if o.Kind = 9 then { s with Pc := pcTo s.Pc, Slots := s.Slots.set o.B.toNat (zAt s.Regs o.A) }
 else { s with Pc := pcTo s.Pc, Regs := s.Regs.set o.A.toNat (clamp v) }
def stepTo (l : List GOp) (s : GState) (v : Int) : GState := if canDo l s then doOp (opAt l s.Pc) s v else s
theorem step_no {l : List GOp} {s : GState} {v : Int} (h : canDo l s = false) : stepTo l s v = s := by unfold stepTo; rw [h]; rfl
theorem step_yes {l : List GOp} {s : GState} {v : Int} {k : Nat} {o : GOp} (h : canDo l s = true) (D : Doing l s k o) : stepTo l s v = doOp o s v := by unfold stepTo; rw [h, D.at_]; rfl
theorem c2 : ¬ (2 : Int) = 0 := by decide
def m_impl_StepState : MC :=
(.seq (pr [.box 4 0 (.s 1), .alloc 6 1 [pz, .emp 1, .emp 1, .emp 1]] [0,2,4,6])
(.seq (pr [.load 9 true 4 (.s 4), .call 10 [2, 3, 4] (.f n_impl_copyState) [.s 9], .alloc 7 5 [pz, .emp 1, .emp 1, .emp 1], .store 4 (.s 7) (.s 10)] [0,2,4,6,7])
(.seq (.seq (pr [.mv 11 (.s 0), .load 12 true 4 (.s 4), .call 13 [] (.f n_impl_canStep) [.s 11, .s 12], .un 14 .not (.s 13)] [0,2,4,6,7,14])
(.cond (.s 14) (.seq (pr [.load 15 true 4 (.s 7), .store 4 (.s 6) (.s 15)] [6])
.ret) .skip))
(.seq (pr [.mv 16 (.s 0), .fld 17 (.s 4) 0, .load 18 false 1 (.s 17), .idx 19 4 (.s 16) (.s 18), .load 20 true 4 (.s 19), .alloc 8 6 [pz, pz, pz, pz], .store 4 (.s 8) (.s 20)] [2,4,6,7,8])
(.seq (pr [.fld 21 (.s 7) 0, .load 22 false 1 (.s 21), .bin 23 false .add (.s 22) (ci 1), .fld 24 (.s 7) 0, .store 1 (.s 24) (.s 23)] [2,4,6,7,8])
(.seq (.seq (pr [.fld 25 (.s 8) 0, .load 26 false 1 (.s 25)] [2,4,6,7,8,26])
(.block 0 (.seq (pr [.bin 36 false .eql (.s 26) (ci 5), .mv 35 (.s 36)] [2,4,6,7,8,26,35])
(.cond (.s 35) (.dreg [Zc [39,40,41,42,43,44,45,46,47,48,49,50,51,52,53,54] (.fld 37 (.s 7) 1), Zd [39,40,41,42,43,44,45,46,47,48,49,50,51,52,53,54] [0] (.load 38 false 1 (.s 37)), Zc [37,38,41,42,43,44,45,46,47,48,49,50,51,52,53,54] (.fld 39 (.s 8) 1), Zd [37,38,41,42,43,44,45,46,47,48,49,50,51,52,53,54] [2] (.load 40 false 1 (.s 39)), Zc [37,38,39,40,43,44,47,48,49,50,51,52] (.fld 41 (.s 4) 1), Zd [37,38,39,40,43,44,47,48,49,50,51,52] [4] (.load 42 false 1 (.s 41)), Zc [37,38,39,40,41,42,47,48,49,50,51,52] (.fld 43 (.s 8) 2), Zd [37,38,39,40,41,42,47,48,49,50,51,52] [6] (.load 44 false 1 (.s 43)), Zd [37,38,39,40,47,48,49,50,51,52] [4,5,6,7] (.idx 45 1 (.s 42) (.s 44)), Zd [37,38,39,40,47,48,49,50,51,52] [4,5,6,7,8] (.load 46 false 1 (.s 45)), Zc [37,38,39,40,41,42,43,44,45,46,49,50] (.fld 47 (.s 4) 1), Zd [37,38,39,40,41,42,43,44,45,46,49,50] [10] (.load 48 false 1 (.s 47)), Zc [37,38,39,40,41,42,43,44,45,46,47,48] (.fld 49 (.s 8) 3), Zd [37,38,39,40,41,42,43,44,45,46,47,48] [12] (.load 50 false 1 (.s 49)), Zd [37,38,39,40,41,42,43,44,45,46] [10,11,12,13] (.idx 51 1 (.s 48) (.s 50)), Zd [37,38,39,40,41,42,43,44,45,46] [10,11,12,13,14] (.load 52 false 1 (.s 51)), Zd [37,38,39,40] [4,5,6,7,8,9,10,11,12,13,14,15] (.bin 53 false .add (.s 46) (.s 52)), Zd [37,38,39,40] [4,5,6,7,8,9,10,11,12,13,14,15,16] (.bin 54 false .rem (.s 53) (ci 1000)), Ze (.range 18) (.idx 55 1 (.s 38) (.s 40)), { o := .store 1 (.s 55) (.s 54), ws := [2], bf := (.range 19) }] [6,7]) (.seq (pr [.bin 57 false .eql (.s 26) (ci 6), .mv 56 (.s 57)] [2,4,6,7,8,26,56])
(.cond (.s 56) (.dreg [Zc [60,61,62,63,64,65,66,67] (.fld 58 (.s 7) 3), Zd [60,61,62,63,64,65,66,67] [0] (.load 59 false 1 (.s 58)), Zc [58,59,62,63,64,65,66,67] (.fld 60 (.s 8) 2), Zd [58,59,62,63,64,65,66,67] [2] (.load 61 false 1 (.s 60)), Zc [58,59,60,61,64,65] (.fld 62 (.s 4) 1), Zd [58,59,60,61,64,65] [4] (.load 63 false 1 (.s 62)), Zc [58,59,60,61,62,63] (.fld 64 (.s 8) 1), Zd [58,59,60,61,62,63] [6] (.load 65 false 1 (.s 64)), Zd [58,59,60,61] [4,5,6,7] (.idx 66 1 (.s 63) (.s 65)), Zd [58,59,60,61] [4,5,6,7,8] (.load 67 false 1 (.s 66)), Ze (.range 10) (.idx 68 1 (.s 59) (.s 61)), { o := .store 1 (.s 68) (.s 67), ws := [4], bf := (.range 11) }] [6,7]) (.seq (pr [.bin 70 false .eql (.s 26) (ci 7), .mv 69 (.s 70)] [2,4,6,7,8,26,69])
(.cond (.s 69) (.seq (pr [.fld 71 (.s 4) 1, .load 72 false 1 (.s 71), .fld 73 (.s 8) 1, .load 74 false 1 (.s 73), .idx 75 1 (.s 72) (.s 74), .load 76 false 1 (.s 75), .bin 77 false .rem (.s 76) (ci 2), .bin 78 false .eql (.s 77) (ci 0)] [6,7,8,78])
(.cond (.s 78) (pr [.fld 79 (.s 7) 0, .load 80 false 1 (.s 79), .fld 81 (.s 8) 2, .load 82 false 1 (.s 81), .bin 83 false .add (.s 80) (.s 82), .fld 84 (.s 7) 0, .store 1 (.s 84) (.s 83)] [6,7]) .skip)) (.seq (pr [.bin 86 false .eql (.s 26) (ci 8), .mv 85 (.s 86)] [2,4,6,7,8,26,85])
(.cond (.s 85) (.dreg [Zc [89,90,91,92,93,94,95,96] (.fld 87 (.s 7) 1), Zd [89,90,91,92,93,94,95,96] [0] (.load 88 false 1 (.s 87)), Zc [87,88,91,92,93,94,95,96] (.fld 89 (.s 8) 1), Zd [87,88,91,92,93,94,95,96] [2] (.load 90 false 1 (.s 89)), Zc [87,88,89,90,93,94] (.fld 91 (.s 4) 2), Zd [87,88,89,90,93,94] [4] (.load 92 false 1 (.s 91)), Zc [87,88,89,90,91,92] (.fld 93 (.s 8) 2), Zd [87,88,89,90,91,92] [6] (.load 94 false 1 (.s 93)), Zd [87,88,89,90] [4,5,6,7] (.idx 95 1 (.s 92) (.s 94)), Zd [87,88,89,90] [4,5,6,7,8] (.load 96 false 1 (.s 95)), Ze (.range 10) (.idx 97 1 (.s 88) (.s 90)), { o := .store 1 (.s 97) (.s 96), ws := [2], bf := (.range 11) }] [6,7]) (.seq (pr [.bin 99 false .eql (.s 26) (ci 9), .mv 98 (.s 99)] [2,4,6,7,8,98])
(.cond (.s 98) (.dreg [Zc [102,103,104,105,106,107,108,109] (.fld 100 (.s 7) 2), Zd [102,103,104,105,106,107,108,109] [0] (.load 101 false 1 (.s 100)), Zc [100,101,104,105,106,107,108,109] (.fld 102 (.s 8) 2), Zd [100,101,104,105,106,107,108,109] [2] (.load 103 false 1 (.s 102)), Zc [100,101,102,103,106,107] (.fld 104 (.s 4) 1), Zd [100,101,102,103,106,107] [4] (.load 105 false 1 (.s 104)), Zc [100,101,102,103,104,105] (.fld 106 (.s 8) 1), Zd [100,101,102,103,104,105] [6] (.load 107 false 1 (.s 106)), Zd [100,101,102,103] [4,5,6,7] (.idx 108 1 (.s 105) (.s 107)), Zd [100,101,102,103] [4,5,6,7,8] (.load 109 false 1 (.s 108)), Ze (.range 10) (.idx 110 1 (.s 101) (.s 103)), { o := .store 1 (.s 110) (.s 109), ws := [3], bf := (.range 11) }] [6,7]) (pr [.fld 27 (.s 7) 1, .load 28 false 1 (.s 27), .fld 29 (.s 8) 1, .load 30 false 1 (.s 29), .mv 31 (.s 2), .mm 32 true (.s 31) (ci 0), .mm 33 false (.s 32) (ci 999), .idx 34 1 (.s 28) (.s 30), .store 1 (.s 34) (.s 33)] [6,7])))))))))))))
(.seq (pr [.load 111 true 4 (.s 7), .store 4 (.s 6) (.s 111)] [6])
.ret)))))))
set_option maxHeartbeats 1000000 in
theorem c_impl_StepState (l : List GOp) (s : GState) (v : Int) (hs : s.size ≤ 1073741824) : Ctr Tryz.prog n_impl_StepState [aL 4 (l.map GOp.enc), aS s.enc, aI v] [rS (stepTo l s v).enc] := by
 refine cA m_impl_StepState 7 112 [(.cell 6 true 4, [false, true, true, true])] Tryz.func266 rfl rfl ?_; unfold m_impl_StepState
 intro hb
 clear hb
 simp only [↓reduceIte, reduceEqDiff, reduceLT, reduceAdd, reduceCtorEq, go_sem]
 apply callK_of (c_impl_copyState s hs)
 simp only [↓reduceIte, reduceEqDiff, reduceLT, reduceAdd, reduceCtorEq, go_sem]
 intros
 apply callK_of (c_impl_canStep l s)
 simp only [↓reduceIte, reduceEqDiff, reduceLT, reduceLeDiff, reduceAdd, reduceCtorEq, go_sem]
 refine And.intro ?_ ?_ <;> intro h
 ·rw [step_no h]
  try exact ⟨rfl, rfl, rfl, rfl⟩
 ·obtain ⟨k, o, D⟩ := canDo_out h
  rw [step_yes h D]
  obtain ⟨i, hi, hA, hk⟩ := opOk_cases D.ok
  have hrl := D.regs
  have hsl := D.slots
  have hnl := D.nodes
  obtain ⟨r, hr⟩ := at_some (show i < s.Regs.length by omega)
  have hp0 : (0 : Int) ≤ (k : Int) := by omega
  have hp1 : (k : Int) < l.length := by have := D.lt; omega
  have hi0 : (0 : Int) ≤ (i : Int) := by omega
  have hi1 : (i : Int) < s.Regs.length := by omega
  have hz : zAt s.Regs (i : Int) = r := zAt_of hr
  simp only [go_sem, D.pc, bk_eq D.op, hp0, hp1]
  rcases hk with ⟨hK, j, m, hj, hm, hB, hC⟩ | ⟨hK, j, hj, hB⟩ | ⟨hK, hB⟩ | ⟨hK, j, hj, hB⟩ | ⟨hK, j, hj, hB⟩ | hK
  ·obtain ⟨rj, hrj⟩ := at_some (show j < s.Regs.length by omega)
   obtain ⟨rm, hrm⟩ := at_some (show m < s.Regs.length by omega)
   have hj0 : (0 : Int) ≤ (j : Int) := by omega
   have hj1 : (j : Int) < s.Regs.length := by omega
   have hm0 : (0 : Int) ≤ (m : Int) := by omega
   have hm1 : (m : Int) < s.Regs.length := by omega
   simp only [↓reduceIte, reduceEqDiff, reduceLT, reduceLeDiff, reduceAdd, reduceCtorEq, go_sem, hK, hA, hB, hC, hi0, hi1, hj0, hj1, hm0, hm1, bk_eq hrj, bk_eq hrm, bk_eq hr, Int.reduceEq, c1000]
   simp [doOp, hK, hA, hB, hC, pcTo, D.pc, zAt_of hrj, zAt_of hrm, encI, List.map_set]
  ·obtain ⟨nj, hnj⟩ := at_some (show j < s.Nodes.length by omega)
   have hj0 : (0 : Int) ≤ (j : Int) := by omega
   have hj1 : (j : Int) < s.Nodes.length := by omega
   simp only [↓reduceIte, reduceEqDiff, reduceLT, reduceLeDiff, reduceAdd, reduceCtorEq, go_sem, hK, hA, hB, hi0, hi1, hj0, hj1, bk_eq hnj, bk_eq hr, Int.reduceEq]
   simp [doOp, hK, hA, hB, pcTo, D.pc, hz, encI, List.map_set]
  ·simp only [↓reduceIte, reduceEqDiff, reduceLT, reduceLeDiff, reduceAdd, reduceCtorEq, go_sem, hK, hA, hi0, hi1, bk_eq hr, Int.reduceEq, c2]
   exact ⟨fun h7 => by simp [doOp, hK, hA, pcTo, D.pc, hz, h7], fun h7 => by simp [doOp, hK, hA, pcTo, D.pc, hz, h7]⟩
  ·obtain ⟨sj, hsj⟩ := at_some (show j < s.Slots.length by omega)
   have hj0 : (0 : Int) ≤ (j : Int) := by omega
   have hj1 : (j : Int) < s.Slots.length := by omega
   simp only [↓reduceIte, reduceEqDiff, reduceLT, reduceLeDiff, reduceAdd, reduceCtorEq, go_sem, hK, hA, hB, hi0, hi1, hj0, hj1, bk_eq hsj, bk_eq hr, Int.reduceEq]
   simp [doOp, hK, hA, hB, pcTo, D.pc, zAt_of hsj, encI, List.map_set]
  ·obtain ⟨sj, hsj⟩ := at_some (show j < s.Slots.length by omega)
   have hj0 : (0 : Int) ≤ (j : Int) := by omega
   have hj1 : (j : Int) < s.Slots.length := by omega
   simp only [↓reduceIte, reduceEqDiff, reduceLT, reduceLeDiff, reduceAdd, reduceCtorEq, go_sem, hK, hA, hB, hi0, hi1, hj0, hj1, bk_eq hsj, bk_eq hr, Int.reduceEq]
   simp [doOp, hK, hA, hB, pcTo, D.pc, hz, encI, List.map_set]
  ·have k5 : ¬ o.Kind = 5 := by omega
   have k6 : ¬ o.Kind = 6 := by omega
   have k7 : ¬ o.Kind = 7 := by omega
   have k8 : ¬ o.Kind = 8 := by omega
   have k9 : ¬ o.Kind = 9 := by omega
   simp only [go_sem, k5, k6, k7, k8, k9, hA, hi0, hi1, bk_eq hr]
   simp [doOp, k5, k6, k7, k8, k9, hA, pcTo, D.pc, clamp, encI, List.map_set]
def m_spec_StepState : MC :=
(.seq (pr [.box 4 0 (.s 1), .alloc 6 1 [pz, .emp 1, .emp 1, .emp 1]] [0,2,4,6])
(.seq (pr [.load 9 true 4 (.s 4), .call 10 [2, 3, 4] (.f n_spec_l11Copy) [.s 9], .alloc 7 5 [pz, .emp 1, .emp 1, .emp 1], .store 4 (.s 7) (.s 10)] [0,2,4,6,7])
(.seq (.seq (pr [.mv 11 (.s 0), .load 12 true 4 (.s 4), .call 13 [] (.f n_spec_l11Can) [.s 11, .s 12], .un 14 .not (.s 13)] [0,2,4,6,7,14])
(.cond (.s 14) (.seq (pr [.load 15 true 4 (.s 7), .store 4 (.s 6) (.s 15)] [6])
.ret) .skip))
(.seq (pr [.mv 16 (.s 0), .fld 17 (.s 4) 0, .load 18 false 1 (.s 17), .idx 19 4 (.s 16) (.s 18), .load 20 true 4 (.s 19), .alloc 8 6 [pz, pz, pz, pz], .store 4 (.s 8) (.s 20)] [2,4,6,7,8])
(.seq (pr [.fld 21 (.s 4) 0, .load 22 false 1 (.s 21), .bin 23 false .add (.s 22) (ci 1), .fld 24 (.s 7) 0, .store 1 (.s 24) (.s 23)] [2,4,6,7,8])
(.seq (.seq (pr [.fld 25 (.s 8) 0, .load 26 false 1 (.s 25)] [2,4,6,7,8,26])
(.block 0 (.seq (pr [.bin 36 false .eql (.s 26) (ci 5), .mv 35 (.s 36)] [2,4,6,7,8,26,35])
(.cond (.s 35) (.dreg [Zc [39,40,41,42,43,44,45,46,47,48,49,50,51,52,53,54] (.fld 37 (.s 7) 1), Zd [39,40,41,42,43,44,45,46,47,48,49,50,51,52,53,54] [0] (.load 38 false 1 (.s 37)), Zc [37,38,41,42,43,44,45,46,47,48,49,50,51,52,53,54] (.fld 39 (.s 8) 1), Zd [37,38,41,42,43,44,45,46,47,48,49,50,51,52,53,54] [2] (.load 40 false 1 (.s 39)), Zc [37,38,39,40,43,44,47,48,49,50,51,52] (.fld 41 (.s 4) 1), Zd [37,38,39,40,43,44,47,48,49,50,51,52] [4] (.load 42 false 1 (.s 41)), Zc [37,38,39,40,41,42,47,48,49,50,51,52] (.fld 43 (.s 8) 2), Zd [37,38,39,40,41,42,47,48,49,50,51,52] [6] (.load 44 false 1 (.s 43)), Zd [37,38,39,40,47,48,49,50,51,52] [4,5,6,7] (.idx 45 1 (.s 42) (.s 44)), Zd [37,38,39,40,47,48,49,50,51,52] [4,5,6,7,8] (.load 46 false 1 (.s 45)), Zc [37,38,39,40,41,42,43,44,45,46,49,50] (.fld 47 (.s 4) 1), Zd [37,38,39,40,41,42,43,44,45,46,49,50] [10] (.load 48 false 1 (.s 47)), Zc [37,38,39,40,41,42,43,44,45,46,47,48] (.fld 49 (.s 8) 3), Zd [37,38,39,40,41,42,43,44,45,46,47,48] [12] (.load 50 false 1 (.s 49)), Zd [37,38,39,40,41,42,43,44,45,46] [10,11,12,13] (.idx 51 1 (.s 48) (.s 50)), Zd [37,38,39,40,41,42,43,44,45,46] [10,11,12,13,14] (.load 52 false 1 (.s 51)), Zd [37,38,39,40] [4,5,6,7,8,9,10,11,12,13,14,15] (.bin 53 false .add (.s 46) (.s 52)), Zd [37,38,39,40] [4,5,6,7,8,9,10,11,12,13,14,15,16] (.bin 54 false .rem (.s 53) (ci 1000)), Ze (.range 18) (.idx 55 1 (.s 38) (.s 40)), { o := .store 1 (.s 55) (.s 54), ws := [2], bf := (.range 19) }] [6,7]) (.seq (pr [.bin 57 false .eql (.s 26) (ci 6), .mv 56 (.s 57)] [2,4,6,7,8,26,56])
(.cond (.s 56) (.dreg [Zc [60,61,62,63,64,65,66,67] (.fld 58 (.s 7) 3), Zd [60,61,62,63,64,65,66,67] [0] (.load 59 false 1 (.s 58)), Zc [58,59,62,63,64,65,66,67] (.fld 60 (.s 8) 2), Zd [58,59,62,63,64,65,66,67] [2] (.load 61 false 1 (.s 60)), Zc [58,59,60,61,64,65] (.fld 62 (.s 4) 1), Zd [58,59,60,61,64,65] [4] (.load 63 false 1 (.s 62)), Zc [58,59,60,61,62,63] (.fld 64 (.s 8) 1), Zd [58,59,60,61,62,63] [6] (.load 65 false 1 (.s 64)), Zd [58,59,60,61] [4,5,6,7] (.idx 66 1 (.s 63) (.s 65)), Zd [58,59,60,61] [4,5,6,7,8] (.load 67 false 1 (.s 66)), Ze (.range 10) (.idx 68 1 (.s 59) (.s 61)), { o := .store 1 (.s 68) (.s 67), ws := [4], bf := (.range 11) }] [6,7]) (.seq (pr [.bin 70 false .eql (.s 26) (ci 7), .mv 69 (.s 70)] [2,4,6,7,8,26,69])
(.cond (.s 69) (.seq (pr [.fld 71 (.s 4) 1, .load 72 false 1 (.s 71), .fld 73 (.s 8) 1, .load 74 false 1 (.s 73), .idx 75 1 (.s 72) (.s 74), .load 76 false 1 (.s 75), .bin 77 false .rem (.s 76) (ci 2), .bin 78 false .eql (.s 77) (ci 0)] [4,6,7,8,78])
(.cond (.s 78) (pr [.fld 79 (.s 4) 0, .load 80 false 1 (.s 79), .bin 81 false .add (.s 80) (ci 1), .fld 82 (.s 8) 2, .load 83 false 1 (.s 82), .bin 84 false .add (.s 81) (.s 83), .fld 85 (.s 7) 0, .store 1 (.s 85) (.s 84)] [6,7]) .skip)) (.seq (pr [.bin 87 false .eql (.s 26) (ci 8), .mv 86 (.s 87)] [2,4,6,7,8,26,86])
(.cond (.s 86) (.dreg [Zc [90,91,92,93,94,95,96,97] (.fld 88 (.s 7) 1), Zd [90,91,92,93,94,95,96,97] [0] (.load 89 false 1 (.s 88)), Zc [88,89,92,93,94,95,96,97] (.fld 90 (.s 8) 1), Zd [88,89,92,93,94,95,96,97] [2] (.load 91 false 1 (.s 90)), Zc [88,89,90,91,94,95] (.fld 92 (.s 4) 2), Zd [88,89,90,91,94,95] [4] (.load 93 false 1 (.s 92)), Zc [88,89,90,91,92,93] (.fld 94 (.s 8) 2), Zd [88,89,90,91,92,93] [6] (.load 95 false 1 (.s 94)), Zd [88,89,90,91] [4,5,6,7] (.idx 96 1 (.s 93) (.s 95)), Zd [88,89,90,91] [4,5,6,7,8] (.load 97 false 1 (.s 96)), Ze (.range 10) (.idx 98 1 (.s 89) (.s 91)), { o := .store 1 (.s 98) (.s 97), ws := [2], bf := (.range 11) }] [6,7]) (.seq (pr [.bin 100 false .eql (.s 26) (ci 9), .mv 99 (.s 100)] [2,4,6,7,8,99])
(.cond (.s 99) (.dreg [Zc [103,104,105,106,107,108,109,110] (.fld 101 (.s 7) 2), Zd [103,104,105,106,107,108,109,110] [0] (.load 102 false 1 (.s 101)), Zc [101,102,105,106,107,108,109,110] (.fld 103 (.s 8) 2), Zd [101,102,105,106,107,108,109,110] [2] (.load 104 false 1 (.s 103)), Zc [101,102,103,104,107,108] (.fld 105 (.s 4) 1), Zd [101,102,103,104,107,108] [4] (.load 106 false 1 (.s 105)), Zc [101,102,103,104,105,106] (.fld 107 (.s 8) 1), Zd [101,102,103,104,105,106] [6] (.load 108 false 1 (.s 107)), Zd [101,102,103,104] [4,5,6,7] (.idx 109 1 (.s 106) (.s 108)), Zd [101,102,103,104] [4,5,6,7,8] (.load 110 false 1 (.s 109)), Ze (.range 10) (.idx 111 1 (.s 102) (.s 104)), { o := .store 1 (.s 111) (.s 110), ws := [3], bf := (.range 11) }] [6,7]) (.dreg [Zc [29,30,31,32,33] (.fld 27 (.s 7) 1), Zd [29,30,31,32,33] [0] (.load 28 false 1 (.s 27)), Zc [27,28,31,32,33] (.fld 29 (.s 8) 1), Zd [27,28,31,32,33] [2] (.load 30 false 1 (.s 29)), Zc [27,28,29,30] (.mv 31 (.s 2)), Zd [27,28,29,30] [4] (.call 32 [] (.f n_spec_Min) [.c (.int .i64 999), .s 31]), Zd [27,28,29,30] [4,5] (.call 33 [] (.f n_spec_Max) [.c (.int .i64 0), .s 32]), Ze (.range 7) (.idx 34 1 (.s 28) (.s 30)), { o := .store 1 (.s 34) (.s 33), ws := [2], bf := (.range 8) }] [6,7])))))))))))))
(.seq (pr [.load 112 true 4 (.s 7), .store 4 (.s 6) (.s 112)] [6])
.ret)))))))
set_option maxHeartbeats 1000000 in
theorem c_spec_StepState (l : List GOp) (s : GState) (v : Int) (hs : s.size ≤ 1073741824) : Ctr Tryz.prog n_spec_StepState [aL 4 (l.map GOp.enc), aS s.enc, aI v] [rS (stepTo l s v).enc] := by
 refine cA m_spec_StepState 7 113 [(.cell 6 true 4, [false, true, true, true])] Tryz.func257 rfl rfl ?_; unfold m_spec_StepState
 intro hb
 clear hb
 simp only [↓reduceIte, reduceEqDiff, reduceLT, reduceAdd, reduceCtorEq, go_sem]
 apply callK_of (c_spec_l11Copy s hs)
 simp only [↓reduceIte, reduceEqDiff, reduceLT, reduceAdd, reduceCtorEq, go_sem]
 intros
 apply callK_of (c_spec_l11Can l s)
 simp only [↓reduceIte, reduceEqDiff, reduceLT, reduceLeDiff, reduceAdd, reduceCtorEq, go_sem]
 refine And.intro ?_ ?_ <;> intro h
 ·rw [step_no h]
  try exact ⟨rfl, rfl, rfl, rfl⟩
 ·obtain ⟨k, o, D⟩ := canDo_out h
  rw [step_yes h D]
  obtain ⟨i, hi, hA, hk⟩ := opOk_cases D.ok
  have hrl := D.regs
  have hsl := D.slots
  have hnl := D.nodes
  obtain ⟨r, hr⟩ := at_some (show i < s.Regs.length by omega)
  have hp0 : (0 : Int) ≤ (k : Int) := by omega
  have hp1 : (k : Int) < l.length := by have := D.lt; omega
  have hi0 : (0 : Int) ≤ (i : Int) := by omega
  have hi1 : (i : Int) < s.Regs.length := by omega
  have hz : zAt s.Regs (i : Int) = r := zAt_of hr
  simp only [go_sem, D.pc, bk_eq D.op, hp0, hp1]
  rcases hk with ⟨hK, j, m, hj, hm, hB, hC⟩ | ⟨hK, j, hj, hB⟩ | ⟨hK, hB⟩ | ⟨hK, j, hj, hB⟩ | ⟨hK, j, hj, hB⟩ | hK
  ·obtain ⟨rj, hrj⟩ := at_some (show j < s.Regs.length by omega)
   obtain ⟨rm, hrm⟩ := at_some (show m < s.Regs.length by omega)
   have hj0 : (0 : Int) ≤ (j : Int) := by omega
   have hj1 : (j : Int) < s.Regs.length := by omega
   have hm0 : (0 : Int) ≤ (m : Int) := by omega
   have hm1 : (m : Int) < s.Regs.length := by omega
   simp only [↓reduceIte, reduceEqDiff, reduceLT, reduceLeDiff, reduceAdd, reduceCtorEq, go_sem, hK, hA, hB, hC, hi0, hi1, hj0, hj1, hm0, hm1, bk_eq hrj, bk_eq hrm, bk_eq hr, Int.reduceEq, c1000]
   simp [doOp, hK, hA, hB, hC, pcTo, D.pc, zAt_of hrj, zAt_of hrm, encI, List.map_set]
  ·obtain ⟨nj, hnj⟩ := at_some (show j < s.Nodes.length by omega)
   have hj0 : (0 : Int) ≤ (j : Int) := by omega
   have hj1 : (j : Int) < s.Nodes.length := by omega
   simp only [↓reduceIte, reduceEqDiff, reduceLT, reduceLeDiff, reduceAdd, reduceCtorEq, go_sem, hK, hA, hB, hi0, hi1, hj0, hj1, bk_eq hnj, bk_eq hr, Int.reduceEq]
   simp [doOp, hK, hA, hB, pcTo, D.pc, hz, encI, List.map_set]
  ·simp only [↓reduceIte, reduceEqDiff, reduceLT, reduceLeDiff, reduceAdd, reduceCtorEq, go_sem, hK, hA, hi0, hi1, bk_eq hr, Int.reduceEq, c2]
   exact ⟨fun h7 => by simp [doOp, hK, hA, pcTo, D.pc, hz, h7], fun h7 => by simp [doOp, hK, hA, pcTo, D.pc, hz, h7]⟩
  ·obtain ⟨sj, hsj⟩ := at_some (show j < s.Slots.length by omega)
   have hj0 : (0 : Int) ≤ (j : Int) := by omega
   have hj1 : (j : Int) < s.Slots.length := by omega
   simp only [↓reduceIte, reduceEqDiff, reduceLT, reduceLeDiff, reduceAdd, reduceCtorEq, go_sem, hK, hA, hB, hi0, hi1, hj0, hj1, bk_eq hsj, bk_eq hr, Int.reduceEq]
   simp [doOp, hK, hA, hB, pcTo, D.pc, zAt_of hsj, encI, List.map_set]
  ·obtain ⟨sj, hsj⟩ := at_some (show j < s.Slots.length by omega)
   have hj0 : (0 : Int) ≤ (j : Int) := by omega
   have hj1 : (j : Int) < s.Slots.length := by omega
   simp only [↓reduceIte, reduceEqDiff, reduceLT, reduceLeDiff, reduceAdd, reduceCtorEq, go_sem, hK, hA, hB, hi0, hi1, hj0, hj1, bk_eq hsj, bk_eq hr, Int.reduceEq]
   simp [doOp, hK, hA, hB, pcTo, D.pc, hz, encI, List.map_set]
  ·have k5 : ¬ o.Kind = 5 := by omega
   have k6 : ¬ o.Kind = 6 := by omega
   have k7 : ¬ o.Kind = 7 := by omega
   have k8 : ¬ o.Kind = 8 := by omega
   have k9 : ¬ o.Kind = 9 := by omega
   simp only [go_sem, k5, k6, k7, k8, k9, hA, hi0, hi1, bk_eq hr]
   apply callK_of (c_spec_Min 999 v)
   simp only [↓reduceIte, reduceEqDiff, reduceLT, reduceAdd, reduceCtorEq, go_sem]
   try intros
   apply callK_of (c_spec_Max 0 _)
   simp only [↓reduceIte, reduceEqDiff, reduceLT, reduceAdd, reduceCtorEq, go_sem, hi0, hi1, bk_eq hr]
   try intros
   rw [clamp_eq]
   simp [doOp, k5, k6, k7, k8, k9, hA, pcTo, D.pc, encI, List.map_set]
end Go.Proofs.YtpclnmleldeleaaGreatR
namespace Go.Proofs.YtpclnmleldeleaaGreatR
open Go Go.RowKit Go.Proofs
open Nat (reduceEqDiff reduceLT reduceLeDiff reduceAdd reduceMul)
open List (reduceReplicate)
set_option linter.unusedSimpArgs false
set_option linter.unusedVariables false
theorem allIn_set {l : List Int} {a b : Int} {i : Nat} {x : Int} (h : allIn l a b = true) (hx : a ≤ x ∧ x ≤ b) : allIn (l.set i x) a b = true := by
 refine List.all_eq_true.2 fun y hy => ?_
 rcases List.mem_or_eq_of_mem_set hy with hy | rfl
 ·exact List.all_eq_true.1 h y hy
 ·simpa using hx
theorem clamp_in (v : Int) : 0 ≤ clamp v ∧ clamp v ≤ 999 := by
 unfold clamp; repeat' split
 all_goals omega
theorem stOk_of {s : GState} (h0 : 0 ≤ s.Pc ∧ s.Pc ≤ 19) (h1 : s.Regs.length = 4) (h2 : s.Slots.length = 3) (h3 : s.Nodes.length = 4) (h4 : allIn s.Regs 0 999 = true) (h5 : allIn s.Slots 0 999 = true) (h6 : allIn s.Nodes 0 999 = true) : stOk s = true := by
 unfold stOk; simp [h0, h1, h2, h3, h4, h5, h6]
theorem stOk_out {s : GState} (h : stOk s = true) : (0 ≤ s.Pc ∧ s.Pc ≤ 19) ∧ s.Regs.length = 4 ∧ s.Slots.length = 3 ∧ s.Nodes.length = 4 ∧ allIn s.Regs 0 999 = true ∧ allIn s.Slots 0 999 = true ∧ allIn s.Nodes 0 999 = true := by
 simp only [stOk, Bool.and_eq_true, decide_eq_true_eq] at h
 exact ⟨h.1, h.2.1.1, h.2.1.2.1, h.2.1.2.2, h.2.2.1, h.2.2.2.1, h.2.2.2.2⟩
theorem doOp_ok {l : List GOp} {s : GState} {k : Nat} {o : GOp} {v : Int} (hs : stOk s = true) (D : Doing l s k o) : stOk (doOp o s v) = true ∧ s.Pc < (doOp o s v).Pc := by
 obtain ⟨h0, h1, h2, h3, h4, h5, h6⟩ := stOk_out hs
 obtain ⟨i, hi, hA, hk⟩ := opOk_cases D.ok
 have hpc := D.pc
 have hlt := D.lt
 have hfw := D.few
 have hp : pcTo s.Pc = s.Pc + 1 := wI (by omega) (by omega)
 obtain ⟨r, hr⟩ := at_some (show i < s.Regs.length by omega)
 have hz : zAt s.Regs o.A = r := by rw [hA]; exact zAt_of hr
 have hri := D.rin i r hr
 rcases hk with ⟨hK, j, m, hj, hm, hB, hC⟩ | ⟨hK, j, hj, hB⟩ | ⟨hK, hB⟩ | ⟨hK, j, hj, hB⟩ | ⟨hK, j, hj, hB⟩ | hK
 ·obtain ⟨rj, hrj⟩ := at_some (show j < s.Regs.length by omega)
  obtain ⟨rm, hrm⟩ := at_some (show m < s.Regs.length by omega)
  have e1 : zAt s.Regs o.B = rj := by rw [hB]; exact zAt_of hrj
  have e2 : zAt s.Regs o.C = rm := by rw [hC]; exact zAt_of hrm
  have b1 := D.rin j rj hrj
  have b2 := D.rin m rm hrm
  have e3 : IntKind.i64.wrap (rj + rm) = rj + rm := wI (by omega) (by omega)
  simp only [doOp, hK, if_true, hp, e1, e2, e3]
  refine ⟨stOk_of (by simp only; omega) (by simp [h1]) h2 h3 (allIn_set h4 ?_) h5 h6, by omega⟩
  rw [Int.tmod_eq_emod_of_nonneg (by omega)]
  omega
 ·simp only [doOp, hK, Int.reduceEq, if_false, if_true, hp, hz]
  exact ⟨stOk_of (by simp only; omega) h1 h2 (by simp [h3]) h4 h5 (allIn_set h6 hri), by omega⟩
 ·have e4 : IntKind.i64.wrap (s.Pc + 1 + o.B) = s.Pc + 1 + o.B := wI (by omega) (by omega)
  simp only [doOp, hK, Int.reduceEq, if_false, if_true, hp, hz, e4]
  refine ⟨stOk_of (by simp only; split <;> omega) h1 h2 h3 h4 h5 h6, by split <;> omega⟩
 ·obtain ⟨sj, hsj⟩ := at_some (show j < s.Slots.length by omega)
  have e1 : zAt s.Slots o.B = sj := by rw [hB]; exact zAt_of hsj
  simp only [doOp, hK, Int.reduceEq, if_false, if_true, hp, e1]
  exact ⟨stOk_of (by simp only; omega) (by simp [h1]) h2 h3 (allIn_set h4 (D.sin j sj hsj)) h5 h6, by omega⟩
 ·simp only [doOp, hK, Int.reduceEq, if_false, if_true, hp, hz]
  exact ⟨stOk_of (by simp only; omega) h1 (by simp [h2]) h3 h4 (allIn_set h5 hri) h6, by omega⟩
 ·have k5 : ¬ o.Kind = 5 := by omega
  have k6 : ¬ o.Kind = 6 := by omega
  have k7 : ¬ o.Kind = 7 := by omega
  have k8 : ¬ o.Kind = 8 := by omega
  have k9 : ¬ o.Kind = 9 := by omega
  simp only [doOp, k5, k6, k7, k8, k9, if_false, hp]
  exact ⟨stOk_of (by simp only; omega) (by simp [h1]) h2 h3 (allIn_set h4 (clamp_in v)) h5 h6, by omega⟩
theorem stepTo_ok {l : List GOp} {s : GState} {v : Int} (hs : stOk s = true) : stOk (stepTo l s v) = true := by
 cases h : canDo l s
 ·rw [step_no h]; exact hs
 ·obtain ⟨k, o, D⟩ := canDo_out h
  rw [step_yes h D]; exact (doOp_ok hs D).1
theorem stepTo_lt {l : List GOp} {s : GState} {v : Int} (hl : scriptOk l = true) (hs : stOk s = true) (hp : s.Pc < l.length) : s.Pc < (stepTo l s v).Pc := by
 have h : canDo l s = true := by unfold canDo; rw [hl, hs, decide_eq_true hp]; rfl
 obtain ⟨k, o, D⟩ := canDo_out h
 rw [step_yes h D]; exact (doOp_ok hs D).2
theorem stOk_size {s : GState} (h : stOk s = true) : s.size = 11 := by
 obtain ⟨h0, h1, h2, h3, -⟩ := stOk_out h
 simp only [GState.size]; omega
theorem st0_ok : stOk st0 = true := by decide
theorem wantOf_kind (l : List GOp) (s : GState) : 0 ≤ (wantOf l s).Kind := by
 unfold wantOf
 split
 ·rename_i h
  have := h.2
  simp only [asks, decide_eq_true_eq] at this
  simp only
  omega
 ·simp
def rP (p : GPlayed) : RV := ⟨true, [(false, tI p.Code), (false, tI p.At), (false, tI p.State.Pc), (false, .sl 1 (p.State.Regs.map encI)), (false, .sl 1 (p.State.Slots.map encI)), (false, .sl 1 (p.State.Nodes.map encI))]⟩
def rT (tr : List GState) : RV := ⟨false, [(false, .sl 4 (tr.map GState.enc))]⟩
attribute [go_sem] rP rT
def m_impl_IsDone : MC :=
(.seq (pr [.box 3 0 (.s 1), .mv 4 cF] [0,3])
(.seq (pr [.fld 5 (.s 3) 0, .load 6 false 1 (.s 5), .mv 7 (.s 0), .len 8 false (.s 7), .bin 9 false .geq (.s 6) (.s 8), .mv 4 (.s 9)] [4])
.ret))
theorem c_impl_IsDone (l : List GOp) (s : GState) : Ctr Tryz.prog n_impl_IsDone [aL 4 (l.map GOp.enc), aS s.enc] [rB (decide (s.Pc ≥ l.length))] := by
 refine cA m_impl_IsDone 1 10 [(.tmp 4, [false])] Tryz.func263 rfl rfl ?_; unfold m_impl_IsDone
 intro hb
 clear hb
 simp only [↓reduceIte, reduceEqDiff, reduceLT, reduceLeDiff, reduceAdd, reduceCtorEq, go_sem]
def m_spec_IsDone : MC :=
(.seq (pr [.box 3 0 (.s 1), .mv 4 cF] [0,3])
(.seq (pr [.fld 5 (.s 3) 0, .load 6 false 1 (.s 5), .mv 7 (.s 0), .len 8 false (.s 7), .bin 9 false .geq (.s 6) (.s 8), .mv 4 (.s 9)] [4])
.ret))
theorem c_spec_IsDone (l : List GOp) (s : GState) : Ctr Tryz.prog n_spec_IsDone [aL 4 (l.map GOp.enc), aS s.enc] [rB (decide (s.Pc ≥ l.length))] := by
 refine cA m_spec_IsDone 1 10 [(.tmp 4, [false])] Tryz.func254 rfl rfl ?_; unfold m_spec_IsDone
 intro hb
 clear hb
 simp only [↓reduceIte, reduceEqDiff, reduceLT, reduceLeDiff, reduceAdd, reduceCtorEq, go_sem]
end Go.Proofs.YtpclnmleldeleaaGreatR
namespace Go.Proofs.YtpclnmleldeleaaGreatR
open Go Go.RowKit Go.Proofs
open Nat (reduceEqDiff reduceLT reduceLeDiff reduceAdd reduceMul)
open List (reduceReplicate)
set_option linter.unusedSimpArgs false
set_option linter.unusedVariables false
def verOk (v : GVersion) : Bool := isAddr v.Address && (decide (0 ≤ v.From ∧ v.From ≤ 1000) && isRes v.Resource)
def siteOk (l : List GVersion) : Bool := fewAll 12 verOk l
def m_impl_IsSite_1 : MC :=
(.seq (pr [.box 1 0 (.s 0), .mv 2 cF] [1])
(.seq (.reg [Za (.fld 3 (.s 1) 0), Za (.load 4 true 3 (.s 3)), Za (.call 5 [] (.f n_impl_IsAddress) [.s 4]), Za (.un 6 .not (.s 5)), Za (.mv 7 (.s 6)), Zb 7 false (.fld 8 (.s 1) 3), Zb 7 false (.load 9 false 1 (.s 8)), Zb 7 false (.call 10 [] (.f n_impl_InRange) [.s 9, .c (.int .i64 0), .c (.int .i64 1000)]), Zb 7 false (.un 11 .not (.s 10)), Za (.pick 12 (.s 7) cT (.s 11)), Za (.mv 13 (.s 12)), Zb 13 false (.fld 14 (.s 1) 4), Zb 13 false (.load 15 true 5 (.s 14)), Zb 13 false (.call 16 [] (.f n_impl_IsResource) [.s 15]), Zb 13 false (.un 17 .not (.s 16)), Za (.pick 18 (.s 13) cT (.s 17)), Za (.mv 2 (.s 18))] [2])
.ret))
theorem c_impl_IsSite_1 (c : GVersion) : Ctr Tryz.prog n_impl_IsSite_1 [aS c.enc] [rB (!verOk c)] := by
 refine cA m_impl_IsSite_1 1 19 [(.tmp 2, [false])] Tryz.func142 rfl rfl ?_; unfold m_impl_IsSite_1
 intro hb
 clear hb
 simp only [↓reduceIte, reduceEqDiff, reduceLT, reduceLeDiff, reduceAdd, go_sem]
 repeat' first
  | (refine And.intro ?_ ?_ <;> intro h)
  | (apply callK_of (c_impl_IsAddress _); simp only [↓reduceIte, reduceEqDiff, reduceLT, reduceLeDiff, reduceAdd, reduceCtorEq, go_sem])
  | (apply callK_of (c_impl_IsResource _); simp only [↓reduceIte, reduceEqDiff, reduceLT, reduceCtorEq, go_sem])
  | (apply callK_of (c_impl_InRange _ _ _); simp only [↓reduceIte, reduceEqDiff, reduceLT, reduceAdd, reduceCtorEq, go_sem])
 all_goals (simp_all [verOk]; try omega)
def m_impl_IsSite : MC :=
(.seq (pr [.mv 2 cF] [0])
(.seq (.reg [Za (.mv 3 (.s 0)), Za (.len 4 false (.s 3)), Za (.bin 5 false .leq (.s 4) (ci 12)), Za (.mv 6 (.s 5)), Zb 6 true (.mv 7 (.s 0)), Zb 6 true (.call 8 [] (.f n_slices_ContainsFunc_impl_Version_impl_Version) [.s 7, .f n_impl_IsSite_1]), Zb 6 true (.un 9 .not (.s 8)), Za (.pick 10 (.s 6) (.s 9) cF), Za (.mv 2 (.s 10))] [2])
.ret))
theorem c_impl_IsSite (l : List GVersion) : Ctr Tryz.prog n_impl_IsSite [aL 9 (l.map GVersion.enc)] [rB (siteOk l)] := by
 refine cA m_impl_IsSite 0 11 [(.tmp 2, [false])] Tryz.func69 rfl rfl ?_; unfold m_impl_IsSite
 intro hb
 clear hb
 simp only [↓reduceIte, reduceEqDiff, reduceLT, reduceCtorEq, go_sem]
 refine ⟨fun h => ?_, fun h => fewAll_no (by omega)⟩
 refine callK_of (c_slices_ContainsFunc_Version l _ [] (fun o => !verOk o) fun o _ => c_impl_IsSite_1 o) ?_
 simp only [↓reduceIte, reduceEqDiff, reduceLT, go_sem]
 exact fewAll_yes (by omega)
def m_spec_IsSite : MC :=
(.seq (pr [.mv 2 cF] [0])
(.seq (.seq (pr [.mv 3 (ci 0)] [0,3])
(.block 0 (.loop ([0,3], []) (.seq (.seq (pr [.mv 4 (.s 3), .mv 5 (.s 0), .len 6 false (.s 5), .bin 7 false .lss (.s 4) (.s 6)] [0,3,7])
(.cond (.s 7) .skip (.exit 0)))
(.seq (.block 1 (.seq (.reg [Za (.mv 10 (.s 0)), Za (.mv 11 (.s 3)), Za (.idx 12 9 (.s 10) (.s 11)), Za (.fld 13 (.s 12) 0), Za (.load 14 true 3 (.s 13)), Za (.call 15 [] (.f n_spec_IsAddress) [.s 14]), Za (.un 16 .not (.s 15)), Za (.mv 17 (.s 16)), Zb 17 false (.mv 18 (.s 0)), Zb 17 false (.mv 19 (.s 3)), Zb 17 false (.idx 20 9 (.s 18) (.s 19)), Zb 17 false (.fld 21 (.s 20) 3), Zb 17 false (.load 22 false 1 (.s 21)), Zb 17 false (.call 23 [] (.f n_spec_l1In) [.s 22, .c (.int .i64 0), .c (.int .i64 1000)]), Zb 17 false (.un 24 .not (.s 23)), Za (.pick 25 (.s 17) cT (.s 24)), Za (.mv 26 (.s 25)), Zb 26 false (.mv 27 (.s 0)), Zb 26 false (.mv 28 (.s 3)), Zb 26 false (.idx 29 9 (.s 27) (.s 28)), Zb 26 false (.fld 30 (.s 29) 4), Zb 26 false (.load 31 true 5 (.s 30)), Zb 26 false (.call 32 [] (.f n_spec_IsResource) [.s 31]), Zb 26 false (.un 33 .not (.s 32)), Za (.pick 34 (.s 26) cT (.s 33))] [0,3,34])
(.cond (.s 34) (.seq (pr [.mv 2 cF] [2])
.ret) .skip)))
(pr [.mv 8 (.s 3), .bin 9 false .add (.s 8) (ci 1), .mv 3 (.s 9)] [0,3]))))))
(.seq (pr [.mv 35 (.s 0), .len 36 false (.s 35), .bin 37 false .leq (.s 36) (ci 12), .mv 2 (.s 37)] [2])
.ret)))
theorem c_spec_IsSite (l : List GVersion) : Ctr Tryz.prog n_spec_IsSite [aL 9 (l.map GVersion.enc)] [rB (siteOk l)] := by
 refine cA m_spec_IsSite 0 38 [(.tmp 2, [false])] Tryz.func62 rfl rfl ?_; unfold m_spec_IsSite
 intro hb
 simp only [bdA, bdL, bdT, bdR_map, roomB, and_true, List.length_map] at hb
 have hl := hb.1
 clear hb
 simp only [↓reduceIte, reduceLT, reduceCtorEq, go_sem]
 refine loopK_rng l (fun k => [(3, vI k)]) (fun k => []) (fun k => (l.take k).all verOk = true) hl ?_
 simp only [↓reduceIte, reduceCtorEq, go_sem]
 refine ⟨?_, by simp, ?_, ?_⟩
 ·simp only [↓reduceIte, reduceLT, reduceCtorEq, go_sem]
 ·intro k x hx hT h0 h1 hw
  have hy : verOk x = true → (l.take (k + 1)).all verOk = true := fun hn => all_step hx hT hn
  have hn : verOk x = false → false = siteOk l := fun hn => fewAll_at hx hn
  clear hT
  simp only [↓reduceIte, reduceEqDiff, reduceLT, reduceLeDiff, reduceAdd, reduceCtorEq, go_sem, bk_eq hx, h0, h1]
  repeat' first
   | (refine And.intro ?_ ?_ <;> intro h)
   | (apply callK_of (c_spec_IsAddress _); simp only [↓reduceIte, reduceEqDiff, reduceLT, reduceLeDiff, reduceAdd, reduceCtorEq, go_sem, bk_eq hx, h0, h1])
   | (apply callK_of (c_spec_IsResource _); simp only [↓reduceIte, reduceEqDiff, reduceLT, reduceCtorEq, go_sem, hw])
   | (apply callK_of (c_spec_l1In _ _ _); simp only [↓reduceIte, reduceEqDiff, reduceLT, reduceAdd, reduceCtorEq, go_sem, bk_eq hx, h0, h1])
  all_goals first | (apply hy; clear hy hn hx hw; simp_all [verOk]; done) | (apply hn; clear hy hn hx hw; simp_all [verOk]; done) | (apply hn; clear hy hn hx hw; unfold verOk; rw [decide_eq_false (by assumption)]; simp; done) | (trace_state; sorry)
 ·intro h
  simp only [↓reduceIte, reduceEqDiff, reduceLT, reduceCtorEq, go_sem]
  rw [List.take_length] at h
  exact le_cast.trans (fewAll_end h)
end Go.Proofs.YtpclnmleldeleaaGreatR
