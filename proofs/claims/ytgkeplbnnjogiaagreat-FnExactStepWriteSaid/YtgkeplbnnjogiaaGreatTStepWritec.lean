/- What the functions compute that the laws of StepWrite reach: contracts. Conditions stand in each theorem. -/
import Derived.Shelf.Spec.SlicesInsertGrow
import Derived.Test.YtgkeplbnnjogiaaGreatTStepWriteb
set_option linter.unusedVariables false
set_option linter.unusedSimpArgs false
namespace Go.Proofs.YtgkeplbnnjogiaaGreatR
open Go Go.RowKit Go.Proofs
open Nat (reduceEqDiff reduceLT reduceLeDiff reduceAdd reduceMul)
open List (reduceReplicate)
abbrev fC (f : FuncId) (cs : List T) : RV := ⟨false, [(false, .fn f cs)]⟩
attribute [go_sem] fC
def M1t : MC :=
(Zs [.mv 10 (ci 0)] [0,1,2,3,10] (.block 0 (.loop ([0,1,2,3,10], []) (.seq (Zs [mS 11 10, mS 12 3, bS 13 .lss 11 12] [0,1,2,3,10,13] (cX 13 0))
(.seq (.block 1 (.dreg [Zc [17,18,19,20,21,22,23,24,25,26,27,28,29,30,31,32,33,34,35] (mS 16 0), Zc [16,18,20,21,22,23,24,25,26,27,28,29,30,31,32,33,34,35] (mS 17 1), Zc [16,17,20,21,22,23,24,25,26,27,28,29,30,31,32,33,34,35] (mS 18 10), Zd [16,20,21,22,23,24,25,26,27,28,29,30,31,32,33,34,35] [1,2] (bS 19 .add 17 18), Zf [16,17,18,19,21,22,23,24,25,26,27,28,29,30,31,32,33,34,35,36] [0] (mS 20 0), Zf [16,17,18,19,20,22,24,25,26,27,28,29,30,31,32,33,34,35,36] [0] (mS 21 2), Zf [16,17,18,19,20,21,24,25,26,27,28,29,30,31,32,33,34,35,36] [0] (mS 22 10), Zg [16,17,18,19,20,24,25,26,27,28,29,30,31,32,33,34,35,36] [0] [5,6] (bS 23 .add 21 22), Zc [16,17,18,19,20,21,22,23,25,26,27,30,31,32,33,34,35] (mS 24 0), Zc [16,17,18,19,20,21,22,23,24,26,30,31,32,33,34,35] (mS 25 2), Zc [16,17,18,19,20,21,22,23,24,25,30,31,32,33,34,35] (mS 26 10), Zd [16,17,18,19,20,21,22,23,24,30,31,32,33,34,35] [9,10] (bS 27 .add 25 26), Zd [16,17,18,19,20,21,22,23,30,31,32,33,34,35] [8,9,10,11] (xS 28 1 24 27), Zd [16,17,18,19,20,21,22,23,30,31,32,33,34,35] [8,9,10,11,12] (lF 29 1 28), Zc [16,17,18,19,20,21,22,23,24,25,26,27,28,29,31,32,33] (mS 30 0), Zc [16,17,18,19,20,21,22,23,24,25,26,27,28,29,30,32] (mS 31 1), Zc [16,17,18,19,20,21,22,23,24,25,26,27,28,29,30,31] (mS 32 10), Zd [16,17,18,19,20,21,22,23,24,25,26,27,28,29,30] [15,16] (bS 33 .add 31 32), Zd [16,17,18,19,20,21,22,23,24,25,26,27,28,29] [14,15,16,17] (xS 34 1 30 33), Zd [16,17,18,19,20,21,22,23,24,25,26,27,28,29] [14,15,16,17,18] (lF 35 1 34), Zd [20,21,22,23] [0,1,2,3,8,9,10,11,12,13,14,15,16,17,18,19] (xS 36 1 16 19), { o := sS 1 36 29, hs := [20,21,22,23], ws := [0], bf := [0,1,2,3,8,9,10,11,12,13,14,15,16,17,18,19,20] }, Ze (.range 22) (xS 37 1 20 23), { o := sS 1 37 35, ws := [0], bf := (.range 23) }] [0,1,2,3,10]))
(pr [mS 14 10, bC 15 .add 14 1, mS 10 15] [0,1,2,3,10]))))))
theorem C2i (P X M Y Q : List Int) (f : FuncId) {cs : List T} {a b n : Nat} (ha : P.length = a) (hb : (P ++ X ++ M).length = b) (hX : X.length = n) (hY : Y.length = n) : CtrI Tryz.prog N1r [oL 1 ((P ++ X ++ M ++ Y ++ Q).map encI), iI a, iI b, iI n, fC f cs] [some (1, (P ++ Y ++ M ++ X ++ Q).map encI)] [] := by
 have hL0 : (P ++ X ++ M ++ Y ++ Q).length = b + n + Q.length := by rw [List.length_append, List.length_append, hb, hY]
 have hL1 : (P ++ Y ++ M ++ X ++ Q).length = (P ++ X ++ M ++ Y ++ Q).length := by simp; omega
 have hb' : b = a + n + M.length := by rw [← hb]; simp; omega
 have hsw0 : swp P X M Y Q 0 = P ++ X ++ M ++ Y ++ Q := by simp [swp]
 have hswn : swp P X M Y Q n = P ++ Y ++ M ++ X ++ Q := by simp [swp, ← hX, List.take_of_length_le (show Y.length ≤ X.length by omega), List.drop_of_length_le (show Y.length ≤ X.length by omega)]
 refine K10 (M := M1t) (m := 0) (n := 38) (res := []) hmix Tryz.func435 rfl (by kernel_rfl) rfl (by kernel_rfl) (by kernel_rfl) (Nat.le_of_ble_eq_true rfl) rfl rfl ?_; unfold M1t
 intro hbd
 have hl := Kt hbd
 clear hbd
 simp only [roomB] at hl
 rw [← hsw0, ← hswn]
 rw [← hsw0, ← hswn] at hL1
 rw [← hsw0] at hl hL0
 subst hX
 generalize hN : (swp P X M Y Q 0).length = N at *
 simp only [go_sem, hN]
 refine K5 X (fun i => [(10, vI i)]) (fun i => [(0, ⟨1, .row true 1 ((swp P X M Y Q i).map encI)⟩)]) (fun _ => True) (by simp only [roomB]; omega) ?_
 simp only [go_sem]
 refine ⟨?_, trivial, ?_, ?_⟩
 ·simp only [go_sem]
 ·intro i x hx _ h0 h1 hw
  have hi := Kr hx
  obtain ⟨y, hy⟩ := Kf (show i < Y.length by omega)
  obtain ⟨e1, e2⟩ := swp_two (P := P) (M := M) (Q := Q) (f := encI) hx hy
  have hlen := swp_len (P := P) (X := X) (M := M) (Y := Y) (Q := Q) (i := i) hY.symm
  rw [e1, e2]
  generalize hAe : (P ++ Y.take i).map encI = A at e1 e2
  generalize hBe : (X.drop (i + 1) ++ M ++ X.take i).map encI = B at e1 e2
  generalize hCe : (Y.drop (i + 1) ++ Q).map encI = C at e1 e2
  have hA : A.length = a + i := by subst hAe; simp; omega
  have hB : (a + i) + 1 + B.length = b + i := by subst hBe; simp; omega
  have hC : C.length = Y.length - (i + 1) + Q.length := by subst hCe; simp
  obtain ⟨g1, g2, s1, s2, hL, d1, d2⟩ := K40 (C := C) hA hB
  have hL' : ∀ e e', (two A e B e' C).length = N := fun e e' => by rw [hL]; omega
  have k1 : (0 : Int) ≤ ((a + i : Nat) : Int) := by omega
  have k2 : ((a + i : Nat) : Int) < (N : Int) := by omega
  have k3 : (0 : Int) ≤ ((b + i : Nat) : Int) := by omega
  have k4 : ((b + i : Nat) : Int) < (N : Int) := by omega
  have k5 : ¬ b + i = a + i := by omega
  simp only [go_sem, g1, g2, s1, s2, hL', hw, h1, wN (a := a) (b := i) (by omega), wN (a := b) (b := i) (by omega), k1, k2, k3, k4]
 ·intro _
  simp only [go_sem]
def RotZ (P X Y Q : List Int) (m : Nat) (d : List Int) (i j : Nat) : Prop :=
 ∃ C X' Y' D, d = P ++ C ++ X' ++ Y' ++ D ++ Q ∧ X'.length = i ∧ Y'.length = j ∧ P.length + C.length + i = m ∧ C ++ Y' ++ X' ++ D = Y ++ X ∧ 0 < i ∧ 0 < j
theorem RotZ.gt {P X Y Q : List Int} {m : Nat} {d : List Int} {i j : Nat} (h : RotZ P X Y Q m d i j) (hij : j < i) :
  ∃ P' X1 M Y' Q', d = P' ++ X1 ++ M ++ Y' ++ Q' ∧ P'.length = m - i ∧ (P' ++ X1 ++ M).length = m ∧ X1.length = j ∧ Y'.length = j ∧ RotZ P X Y Q m (P' ++ Y' ++ M ++ X1 ++ Q') (i - j) j := by
 obtain ⟨C, X', Y', D, rfl, rfl, rfl, h3, h4, h5, h6⟩ := h
 obtain ⟨X1, X2, rfl, hX1⟩ : ∃ X1 X2, X' = X1 ++ X2 ∧ X1.length = Y'.length := ⟨X'.take Y'.length, X'.drop Y'.length, (List.take_append_drop _ _).symm, by simp; omega⟩
 simp only [List.length_append] at *
 exact ⟨P ++ C, X1, X2, Y', D ++ Q, by simp, by simp; omega, by simp; omega, hX1, rfl, C ++ Y', X2, X1, D, by simp, by omega, by omega, by simp; omega, by rw [← h4]; simp, by omega, by omega⟩
theorem RotZ.le {P X Y Q : List Int} {m : Nat} {d : List Int} {i j : Nat} (h : RotZ P X Y Q m d i j) (hij : i < j) :
  ∃ P' X' M Y2 Q', d = P' ++ X' ++ M ++ Y2 ++ Q' ∧ P'.length = m - i ∧ (P' ++ X' ++ M).length = m + j - i ∧ X'.length = i ∧ Y2.length = i ∧ RotZ P X Y Q m (P' ++ Y2 ++ M ++ X' ++ Q') i (j - i) := by
 obtain ⟨C, X', Y', D, rfl, rfl, rfl, h3, h4, h5, h6⟩ := h
 obtain ⟨Y1, Y2, rfl, hY2⟩ : ∃ Y1 Y2, Y' = Y1 ++ Y2 ∧ Y2.length = X'.length := ⟨Y'.take (Y'.length - X'.length), Y'.drop (Y'.length - X'.length), (List.take_append_drop _ _).symm, by simp; omega⟩
 simp only [List.length_append] at *
 exact ⟨P ++ C, X', Y1, Y2, D ++ Q, by simp, by simp; omega, by simp; omega, rfl, hY2, C, Y2, Y1, X' ++ D, by simp, by omega, by omega, by omega, by rw [← h4]; simp, by omega, by omega⟩
theorem RotZ.eq {P X Y Q : List Int} {m : Nat} {d : List Int} {i : Nat} (h : RotZ P X Y Q m d i i) :
  ∃ P' X' Y' Q', d = P' ++ X' ++ [] ++ Y' ++ Q' ∧ P'.length = m - i ∧ (P' ++ X' ++ []).length = m ∧ X'.length = i ∧ Y'.length = i ∧ P' ++ Y' ++ [] ++ X' ++ Q' = P ++ Y ++ X ++ Q := by
 obtain ⟨C, X', Y', D, rfl, rfl, h2, h3, h4, h5, h6⟩ := h
 refine ⟨P ++ C, X', Y', D ++ Q, by simp, by simp; omega, by simp; omega, rfl, h2, ?_⟩
 have := congrArg (fun l => P ++ (l ++ Q)) h4
 simpa using this
theorem RotZ.len {P X Y Q : List Int} {m : Nat} {d : List Int} {i j : Nat} (h : RotZ P X Y Q m d i j) : d.length = (P ++ X ++ Y ++ Q).length ∧ i ≤ m ∧ m + j ≤ d.length ∧ 0 < i ∧ 0 < j := by
 obtain ⟨C, X', Y', D, rfl, rfl, rfl, h3, h4, h5, h6⟩ := h
 have := congrArg List.length h4
 simp at this ⊢
 omega
theorem RotZ.start {P X Y Q : List Int} {m i j : Nat} (hm : P.length + X.length = m) (hi : X.length = i) (hj : Y.length = j) (hX : 0 < X.length) (hY : 0 < Y.length) : RotZ P X Y Q m (P ++ X ++ Y ++ Q) i j :=
 ⟨[], X, Y, [], by simp, hi, hj, by simp; omega, by simp, by omega, by omega⟩
def M28 : MC := Y28 N1r
theorem Cf (P X Y Q : List Int) (f : FuncId) {cs : List T} {a m b : Nat} (ha : P.length = a) (hm : (P ++ X).length = m) (hb : (P ++ X ++ Y).length = b) (hX : 0 < X.length) (hY : 0 < Y.length) : CtrI Tryz.prog N27 [oL 1 ((P ++ X ++ Y ++ Q).map encI), iI a, iI m, iI b, fC f cs] [some (1, (P ++ Y ++ X ++ Q).map encI)] [] := by
 refine K10 (M := M28) (m := 0) (n := 58) (res := []) hmix Tryz.func433 rfl (by kernel_rfl) rfl (by kernel_rfl) (by kernel_rfl) (Nat.le_of_ble_eq_true rfl) rfl rfl ?_; unfold M28
 intro hbd
 have hl := Kt hbd
 clear hbd
 have hN2 : (P ++ Y ++ X ++ Q).length = (P ++ X ++ Y ++ Q).length := by simp; omega
 have hm' : m = a + X.length := by rw [← hm, ← ha]; simp
 have hb' : b = m + Y.length := by rw [← hb, ← hm]; simp; omega
 have hbN : b ≤ (P ++ X ++ Y ++ Q).length := by rw [List.length_append, hb]; omega
 generalize hN : (P ++ X ++ Y ++ Q).length = N at *
 simp only [roomB] at hl
 simp only [go_sem, hN, wS (a := m) (b := a) (by omega) (by omega), wS (a := b) (b := m) (by omega) (by omega)]
 refine Ko (ι := List Int × Nat × Nat) (fun s => [(10, vI s.2.1), (11, vI s.2.2)]) (fun s => [(0, ⟨1, .row true 1 (s.1.map encI)⟩)]) (fun s => RotZ P X Y Q m s.1 s.2.1 s.2.2) (fun s => s.2.1 + s.2.2) (P ++ X ++ Y ++ Q, m - a, b - m) ?_
 simp only [go_sem]
 refine ⟨?_, RotZ.start (by omega) (show X.length = m - a by omega) (show Y.length = b - m by omega) hX hY, ?_⟩
 ·simp only [go_sem]
 ·rintro ⟨d, i, j⟩ hI
  simp only at hI
  obtain ⟨hd, h1, h2, h3, h4⟩ := hI.len
  rw [hN] at hd
  simp only [go_sem, hd]
  refine ⟨fun hne => ⟨fun hgt => ?_, fun hle => ?_⟩, fun heq => ?_⟩
  ·obtain ⟨P', X1, M, Y', Q', rfl, k1, k2, k3, k4, hR⟩ := hI.gt (by omega)
   have hd2 := hR.len.1
   rw [hN] at hd2
   rw [wS h1 (by omega)]
   apply K7 (C2i P' X1 M Y' Q' f k1 k2 k3 k4)
   simp only [go_sem, wS (a := i) (b := j) (by omega) (by omega)]
   exact ⟨(_, i - j, j), ⟨⟨rfl, rfl⟩, rfl⟩, hR, by show i - j + j < i + j; omega⟩
  ·obtain ⟨P', X1, M, Y', Q', rfl, k1, k2, k3, k4, hR⟩ := hI.le (by omega)
   have hd2 := hR.len.1
   rw [hN] at hd2
   rw [wS h1 (by omega), wN (by omega), wS (a := m + j) (b := i) (by omega) (by omega)]
   apply K7 (C2i P' X1 M Y' Q' f k1 k2 k3 k4)
   simp only [go_sem, wS (a := j) (b := i) (by omega) (by omega)]
   exact ⟨(_, i, j - i), ⟨⟨rfl, rfl⟩, rfl⟩, hR, by show i + (j - i) < i + j; omega⟩
  ·obtain rfl : i = j := by omega
   obtain ⟨P', X1, Y', Q', rfl, k1, k2, k3, k4, hR⟩ := hI.eq
   rw [wS h1 (by omega)]
   apply K7 (C2i P' X1 [] Y' Q' f k1 k2 k3 k4)
   rw [hR]
   simp only [go_sem]
def ltz (c : Int → Int → Int) (x y : Int) : Bool := decide (c x y < 0)
def InsZ (lt : Int → Int → Bool) (P S R : List Int) (x : Int) (d : List Int) (j : Nat) : Prop :=
 ∃ s1 s2, d = P ++ s1 ++ x :: s2 ++ R ∧ P.length + s1.length = j ∧ s1 ++ s2 = S ∧ ∀ y ∈ s2, lt x y = true
theorem InsZ.len {lt : Int → Int → Bool} {P S R : List Int} {x : Int} {d : List Int} {j : Nat} (h : InsZ lt P S R x d j) : d.length = P.length + S.length + 1 + R.length ∧ P.length ≤ j ∧ j ≤ P.length + S.length := by
 obtain ⟨s1, s2, rfl, rfl, rfl, h⟩ := h
 simp; omega
theorem InsZ.done {lt : Int → Int → Bool} (hw : Srt.Swo lt) {P S R : List Int} {x : Int} {d : List Int} {j : Nat} (h : InsZ lt P S R x d j) (hs : Srt.srt lt S) (hj : j = P.length ∨ ∀ z ∈ d[j - 1]?, lt x z = false) : d = P ++ Srt.ins lt x S ++ R := by
 obtain ⟨s1, s2, rfl, rfl, rfl, h⟩ := h
 rw [Srt.ins_mid]
 ·simp
 ·intro y hy
  rcases List.eq_nil_or_concat s1 with rfl | ⟨s, z, rfl⟩
  ·simp at hy
  ·rcases hj with hj | hj
   ·simp at hj
   ·rw [List.concat_eq_append] at *
    have hz : lt x z = false := hj z (by simp [])
    rcases List.mem_append.1 hy with k | k
    ·have := (Srt.srt_append.1 (Srt.srt_append.1 hs).1).2.2 y k z (by simp)
     exact hw.ntr hz this
    ·obtain rfl := List.mem_singleton.1 k
     exact hz
 ·intro y hy
  exact h y (List.mem_of_mem_head? hy)
theorem InsZ.step {lt : Int → Int → Bool} {P S R : List Int} {x : Int} {d : List Int} {j : Nat} (h : InsZ lt P S R x d j) (hj : P.length < j) :
  ∃ A z C, d = A ++ z :: ([] ++ x :: C) ∧ A.length = j - 1 ∧ d[j - 1]? = some z ∧ (lt x z = true → InsZ lt P S R x (A ++ x :: ([] ++ z :: C)) (j - 1)) := by
 obtain ⟨s1, s2, rfl, rfl, rfl, h⟩ := h
 rcases List.eq_nil_or_concat s1 with rfl | ⟨s, z, rfl⟩
 ·simp at hj
 ·rw [List.concat_eq_append] at *
  refine ⟨P ++ s, z, s2 ++ R, by simp, by simp, by simp [], fun hl => ⟨s, z :: s2, by simp, by simp, by simp, ?_⟩⟩
  intro y hy
  rcases List.mem_cons.1 hy with rfl | k
  ·exact hl
  ·exact h y k
def M1g : MC :=
(Zs [mS 10 1, bC 11 .add 10 1, mS 8 11] [0,1,2,3,8] (.block 0 (.loop ([0,1,2,3,8], []) (.seq (Zs [mS 12 8, mS 13 2, bS 14 .lss 12 13] [0,1,2,3,8,14] (cX 14 0))
(.seq (.block 1 (Zs [mS 17 8, mS 9 17] [0,1,2,3,8,9] (.block 2 (.loop ([0,1,2,3,8,9], []) (.seq (.seq (.dreg [Zc [19] (mS 18 9), Zc [18] (mS 19 1), Ze [0,1] (bS 20 .gtr 18 19), Ze [0,1,2] (mS 21 20), { o := mS 22 3, g := some (21, true), hs := [23,24,25,26,27,28,29,30,31], bf := (.range 4) }, { o := mS 23 0, g := some (21, true), hs := [22,24,27,28,29,30,31], bf := (.range 4) }, { o := mS 24 9, g := some (21, true), hs := [22,23,27,28,29,30,31], bf := (.range 4) }, { o := xS 25 1 23 24, g := some (21, true), hs := [22,27,28,29,30,31], bf := [0,1,2,3,5,6] }, { o := lF 26 1 25, g := some (21, true), hs := [22,27,28,29,30,31], bf := [0,1,2,3,5,6,7] }, { o := mS 27 0, g := some (21, true), hs := [22,23,24,25,26,28,29], bf := (.range 4) }, { o := mS 28 9, g := some (21, true), hs := [22,23,24,25,26,27], bf := (.range 4) }, { o := bC 29 .sub 28 1, g := some (21, true), hs := [22,23,24,25,26,27], bf := [0,1,2,3,10] }, { o := xS 30 1 27 29, g := some (21, true), hs := [22,23,24,25,26], bf := [0,1,2,3,9,10,11] }, { o := lF 31 1 30, g := some (21, true), hs := [22,23,24,25,26], bf := [0,1,2,3,9,10,11,12] }, { o := .call 32 [] (.s 22) [.s 26, .s 31], g := some (21, true), bf := (.range 14) }, { o := bC 33 .lss 32 0, g := some (21, true), bf := (.range 15) }, Ze (.range 16) (.pick 34 (.s 21) (.s 33) cF)] [0,1,2,3,8,9,34])
(cX 34 2))
(.seq (.block 3 (.dreg [Zc [38,39,40,41,42,43,44,45,46,47,48,49,50] (mS 37 0), Zc [37,39,40,41,42,43,44,45,46,47,48,49,50] (mS 38 9), Zf [37,38,40,41,42,43,44,45,46,47,48,49,50,51] [0] (mS 39 0), Zf [37,38,39,42,43,44,45,46,47,48,49,50,51] [0] (mS 40 9), Zg [37,38,39,42,43,44,45,46,47,48,49,50,51] [0] [3] (bC 41 .sub 40 1), Zc [37,38,39,40,41,43,44,47,48,49,50] (mS 42 0), Zc [37,38,39,40,41,42,47,48,49,50] (mS 43 9), Zd [37,38,39,40,41,42,47,48,49,50] [6] (bC 44 .sub 43 1), Zd [37,38,39,40,41,47,48,49,50] [5,6,7] (xS 45 1 42 44), Zd [37,38,39,40,41,47,48,49,50] [5,6,7,8] (lF 46 1 45), Zc [37,38,39,40,41,42,43,44,45,46,48] (mS 47 0), Zc [37,38,39,40,41,42,43,44,45,46,47] (mS 48 9), Zd [37,38,39,40,41,42,43,44,45,46] [10,11] (xS 49 1 47 48), Zd [37,38,39,40,41,42,43,44,45,46] [10,11,12] (lF 50 1 49), Zd [39,40,41] [0,1,5,6,7,8,9,10,11,12,13] (xS 51 1 37 38), { o := sS 1 51 46, hs := [39,40,41], ws := [0], bf := [0,1,5,6,7,8,9,10,11,12,13,14] }, Ze (.range 16) (xS 52 1 39 41), { o := sS 1 52 50, ws := [0], bf := (.range 17) }] [0,1,2,3,8,9]))
(pr [mS 35 9, bC 36 .sub 35 1, mS 9 36] [0,1,2,3,8,9])))))))
(pr [mS 15 8, bC 16 .add 15 1, mS 8 16] [0,1,2,3,8]))))))
theorem C2v (P X Q : List Int) (f : FuncId) {cs : List T} (c : Int → Int → Int) (hc : ∀ x y, Ctr Tryz.prog f (aI x :: aI y :: cs.map (fun t => (false, [t]))) [rI (c x y)]) (hw : Srt.Swo (ltz c)) {a b : Nat} (ha : P.length = a) (hb : (P ++ X).length = b) : CtrI Tryz.prog N1c [oL 1 ((P ++ X ++ Q).map encI), iI a, iI b, fC f cs] [some (1, (P ++ Srt.isort (ltz c) X ++ Q).map encI)] [] := by
 have hlk : ∀ k, (P ++ Srt.isort (ltz c) (X.take k) ++ (X.drop k ++ Q)).length = (P ++ X ++ Q).length := fun k => by simp [Srt.len_isort]; omega
 refine K10 (M := M1g) (m := 0) (n := 53) (res := []) hmix Tryz.func424 rfl (by kernel_rfl) rfl (by kernel_rfl) (by kernel_rfl) (Nat.le_of_ble_eq_true rfl) rfl rfl ?_; unfold M1g
 intro hbd
 have hl := Kt hbd
 clear hbd
 have hb' : b = a + X.length := by rw [← hb, ← ha]; simp
 have hbN : b ≤ (P ++ X ++ Q).length := by rw [List.length_append, hb]; omega
 generalize hN : (P ++ X ++ Q).length = N at *
 simp only [roomB] at hl
 simp only [go_sem, hN, wN1 (a := a) (by omega)]
 refine Ko (fun k : Nat => [(8, vI ((a + k : Nat) : Int))]) (fun k => [(0, ⟨1, .row true 1 ((P ++ Srt.isort (ltz c) (X.take k) ++ (X.drop k ++ Q)).map encI)⟩)]) (fun k => 1 ≤ k ∧ (k ≤ X.length ∨ k = 1)) (fun k => X.length - k) 1 ?_
 simp only [go_sem]
 refine ⟨?_, ⟨by omega, by omega⟩, ?_⟩
 ·simp only [go_sem]
  cases X with
  | nil => simp [Srt.isort, Srt.mrg]
  | cons x X => simp [Srt.isort, Srt.mrg, Srt.ins]
 ·rintro k ⟨h1, h2⟩
  simp only [go_sem]
  refine ⟨fun hlt => ?_, fun hge => ?_⟩
  ·obtain ⟨x, hx⟩ := Kf (show k < X.length by omega)
   refine Ko (ι := List Int × Nat) (fun s => [(9, vI s.2)]) (fun s => [(0, ⟨1, .row true 1 (s.1.map encI)⟩)]) (fun s => InsZ (ltz c) P (Srt.isort (ltz c) (X.take k)) (X.drop (k + 1) ++ Q) x s.1 s.2) (fun s => s.2) (P ++ Srt.isort (ltz c) (X.take k) ++ (X.drop k ++ Q), a + k) ?_
   simp only [go_sem]
   refine ⟨?_, ⟨Srt.isort (ltz c) (X.take k), [], by simp [Kn hx], by simp [Srt.len_isort]; omega, by simp, by simp⟩, ?_⟩
   ·simp only [go_sem]
   ·rintro ⟨d, j⟩ hI
    simp only at hI
    obtain ⟨hd, h3, h4⟩ := hI.len
    have hdN : d.length = N := by
     have := hlk k
     simp [Kn hx] at this hd
     omega
    have hdone : (j = P.length ∨ ∀ z ∈ d[j - 1]?, ltz c x z = false) → d.map encI = (P ++ Srt.isort (ltz c) (X.take (k + 1)) ++ (X.drop (k + 1) ++ Q)).map encI := fun h => by
     rw [hI.done hw (Srt.srt_isort hw _) h, Kc hx, Srt.isort_snoc]
    by_cases hj : P.length < j
    ·obtain ⟨A, z, C, e, k1, k2, k3⟩ := hI.step hj
     have e' : d.map encI = two (A.map encI) (encI z) [] (encI x) (C.map encI) := by subst e; simp [two]
     have e2 : (A ++ x :: ([] ++ z :: C)).map encI = two (A.map encI) (encI x) [] (encI z) (C.map encI) := by simp [two]
     obtain ⟨g1, g2, s1, s2, hL, d1, d2⟩ := K40 (A := A.map encI) (B := []) (C := C.map encI) (p := j - 1) (q := j) (by simpa using k1) (by simp; omega)
     have hL' : ∀ u v, (two (A.map encI) u [] v (C.map encI)).length = N := fun u v => by
      rw [← hdN, hL, e]; simp; omega
     rw [e']
     have j0 : (j : Int) > (a : Int) := by omega
     have j1 : (0 : Int) ≤ (j : Int) := by omega
     have j2 : (j : Int) < (N : Int) := by omega
     have j3 : (0 : Int) ≤ ((j - 1 : Nat) : Int) := by omega
     have j4 : ((j - 1 : Nat) : Int) < (N : Int) := by omega
     simp only [go_sem, hL', g1, g2, j0, j1, j2, j3, j4, wS1 (a := j) (by omega) (by omega)]
     apply K0 (hc x z)
     simp only [go_sem, hL', g1, g2, s1, s2, j1, j2, j3, j4, wS1 (a := j) (by omega) (by omega), wN1 (a := a + k) (by omega)]
     intro _
     refine ⟨fun hn => ⟨(A ++ x :: ([] ++ z :: C), j - 1), ⟨rfl, e2.symm⟩, k3 (by simpa [ltz] using hn), by show j - 1 < j; omega⟩, fun hn => ?_⟩
     have hz : ltz c x z = false := by simpa [ltz] using hn
     have := hdone (.inr (by rw [k2]; intro y hy; obtain rfl := Option.some.inj hy; exact hz))
     rw [e'] at this
     exact ⟨k + 1, ⟨rfl, this⟩, ⟨by omega, by omega⟩, by omega⟩
    ·have j0 : ¬ (j : Int) > (a : Int) := by omega
     simp only [go_sem, j0, wN1 (a := a + k) (by omega)]
     have := hdone (.inl (by omega))
     exact ⟨k + 1, ⟨rfl, this⟩, ⟨by omega, by omega⟩, by omega⟩
  ·have hk : X.length ≤ k := by omega
   rw [List.take_of_length_le hk, List.drop_of_length_le hk, List.nil_append]
def SymZ (lt : Int → Int → Bool) (X Y : List Int) (M u0 v0 u v : Nat) : Prop :=
 u0 ≤ u ∧ u ≤ v ∧ v ≤ v0 ∧ (u = 0 ∨ Y.length ≤ M - u ∨ ∃ y x, Y[M - u]? = some y ∧ X[u - 1]? = some x ∧ lt y x = false) ∧
  (v = M ∨ v = X.length ∨ ∃ y x, Y[M - 1 - v]? = some y ∧ X[v]? = some x ∧ lt y x = true)
theorem SymZ.fin {lt : Int → Int → Bool} (hw : Srt.Swo lt) {X Y : List Int} {M u0 v0 u : Nat} (h : SymZ lt X Y M u0 v0 u u) (hX : Srt.srt lt X) (hY : Srt.srt lt Y) (q2 : v0 ≤ M) (q3 : v0 ≤ X.length) (q4 : M ≤ u0 + Y.length) :
  ∃ A1 A2 B1 B2, X = A1 ++ A2 ∧ Y = B1 ++ B2 ∧ A1.length = u ∧ B1.length = M - u ∧ u ≤ M ∧ Srt.mrg lt X Y = Srt.mrg lt A1 B1 ++ Srt.mrg lt A2 B2 ∧ Srt.srt lt A1 ∧ Srt.srt lt A2 ∧ Srt.srt lt B1 ∧ Srt.srt lt B2 := by
 obtain ⟨h1, h2, h3, h4, h5⟩ := h
 have e := Srt.mrg_sym hw hX hY (by omega) (by omega) h4 h5
 have sX := Srt.srt_append.1 ((List.take_append_drop u X).symm ▸ hX)
 have sY := Srt.srt_append.1 ((List.take_append_drop (M - u) Y).symm ▸ hY)
 exact ⟨X.take u, X.drop u, Y.take (M - u), Y.drop (M - u), (List.take_append_drop _ _).symm, (List.take_append_drop _ _).symm, by simp; omega, by simp; omega, by omega, e, sX.1, sX.2.1, sY.1, sY.2.1⟩
theorem symZL (lt : Int → Int → Bool) {P A1 A2 B1 B2 Q : List Int} {a m b M u N n : Nat} (ha : P.length = a) (hA1 : A1.length = u) (hB1 : B1.length = M - u) (huM : u ≤ M) (hm : m = a + (A1 ++ A2).length) (hb : b = m + (B1 ++ B2).length)
  (hN : (P ++ (A1 ++ A2) ++ (B1 ++ B2) ++ Q).length = N) (hM : M = ((A1 ++ A2).length + (B1 ++ B2).length) / 2) (hn : (A1 ++ A2).length + (B1 ++ B2).length ≤ n + 1) (h1 : ¬ ((m - a : Nat) : Int) = 1) (h2 : ¬ ((b - m : Nat) : Int) = 1) (hX : 0 < (A1 ++ A2).length) (hY : 0 < (B1 ++ B2).length) :
  ((P ++ A1 ++ B1 ++ A2 ++ (B2 ++ Q)).length = N ∧ (P ++ A1 ++ A2 ++ B1 ++ (B2 ++ Q)).length = N ∧ (P ++ A1 ++ B1 ++ (A2 ++ (B2 ++ Q))).length = N ∧ (P ++ Srt.mrg lt A1 B1 ++ A2 ++ B2 ++ Q).length = N ∧ (P ++ Srt.mrg lt A1 B1 ++ (A2 ++ (B2 ++ Q))).length = N ∧ (P ++ Srt.mrg lt A1 B1 ++ Srt.mrg lt A2 B2 ++ Q).length = N) ∧
  ((P ++ A1).length = a + u ∧ (P ++ A1 ++ A2).length = m ∧ (P ++ A1 ++ A2 ++ B1).length = m + (M - u) ∧ (P ++ A1 ++ B1).length = a + M ∧ (P ++ Srt.mrg lt A1 B1).length = a + M ∧ (P ++ Srt.mrg lt A1 B1 ++ A2).length = m + (M - u) ∧ (P ++ Srt.mrg lt A1 B1 ++ A2 ++ B2).length = b) ∧
  A1.length + B1.length ≤ n ∧ A2.length + B2.length ≤ n ∧
  (m = a + u + A2.length ∧ m + (M - u) = m + B1.length ∧ a + u = a + A1.length ∧ a + M = a + u + B1.length ∧ m + (M - u) = a + M + A2.length ∧ b = m + (M - u) + B2.length) ∧
  ((0 < A1.length ∧ 0 < A2.length ∧ 0 < B1.length ∧ 0 < B2.length) ∨ (A1.length = 0 ∧ 0 < A2.length ∧ 0 < B1.length ∧ 0 < B2.length) ∨ (0 < A1.length ∧ A2.length = 0 ∧ 0 < B1.length ∧ 0 < B2.length) ∨ (0 < A1.length ∧ 0 < A2.length ∧ B1.length = 0 ∧ 0 < B2.length) ∨ (0 < A1.length ∧ 0 < A2.length ∧ 0 < B1.length ∧ B2.length = 0) ∨ (A1.length = 0 ∧ 0 < A2.length ∧ 0 < B1.length ∧ B2.length = 0) ∨ (0 < A1.length ∧ A2.length = 0 ∧ B1.length = 0 ∧ 0 < B2.length)) := by
 simp only [List.length_append, Srt.len_mrg] at *
 have h7 := sym7 (u := A1.length) (l2 := A2.length) (k := B1.length) (l4 := B2.length) (M := M) (by omega) (by omega) (by omega) (by omega) (by omega)
 refine ⟨⟨?_, ?_, ?_, ?_, ?_, ?_⟩, ⟨?_, ?_, ?_, ?_, ?_, ?_, ?_⟩, ?_, ?_, ⟨?_, ?_, ?_, ?_, ?_, ?_⟩, h7⟩ <;> clear h7 <;> omega
def M1z : MC :=
(.seq (Zs [mS 25 2, mS 26 1, bS 27 .sub 25 26, bC 28 .eql 27 1] [0,1,2,3,4,28] (.cond (.s 28) (Zs [mS 29 2, mS 10 29] [0,1,3,4,10] (Zs [mS 30 3, mS 11 30] [0,1,4,10,11] (.seq (.block 0 (.loop ([0,1,4,10,11], []) (.seq (Zs [mS 31 10, mS 32 11, bS 33 .lss 31 32] [0,1,4,10,11,33] (cX 33 0))
(.block 1 (Zs [mS 34 10, mS 35 11, bS 36 .add 34 35, .convI 37 .u64 (.s 36), .bin 38 false .shr (.s 37) (.c (.int .u64 1)), .convI 39 .i64 (.s 38), mS 12 39] [0,1,4,10,11,12] (.seq (.dreg [Zc [41,42,43,44,45,46,47,48] (mS 40 4), Zc [40,42,45,46,47,48] (mS 41 0), Zc [40,41,45,46,47,48] (mS 42 12), Zd [40,45,46,47,48] [1,2] (xS 43 1 41 42), Zd [40,45,46,47,48] [1,2,3] (lF 44 1 43), Zc [40,41,42,43,44,46] (mS 45 0), Zc [40,41,42,43,44,45] (mS 46 1), Zd [40,41,42,43,44] [5,6] (xS 47 1 45 46), Zd [40,41,42,43,44] [5,6,7] (lF 48 1 47), Ze (.range 9) (.call 49 [] (.s 40) [.s 44, .s 48]), Ze (.range 10) (bC 50 .lss 49 0)] [0,1,4,10,11,12,50])
(.cond (.s 50) (pr [mS 51 12, bC 52 .add 51 1, mS 10 52] [0,1,4,10,11]) (pr [mS 53 12, mS 11 53] [0,1,4,10,11]))))))))
(.seq (Zs [mS 54 1, mS 13 54] [0,10,13] (.block 2 (.loop ([0,10,13], []) (.seq (Zs [mS 55 13, mS 56 10, bC 57 .sub 56 1, bS 58 .lss 55 57] [0,10,13,58] (cX 58 2))
(.seq (.block 3 (.dreg [Zc [62,63,64,65,66,67,68,69,70,71,72,73,74] (mS 61 0), Zc [61,63,64,65,66,67,68,69,70,71,72,73,74] (mS 62 13), Zf [61,62,64,65,66,67,68,69,70,71,72,73,74,75] [0] (mS 63 0), Zf [61,62,63,66,67,68,69,70,71,72,73,74,75] [0] (mS 64 13), Zg [61,62,63,66,67,68,69,70,71,72,73,74,75] [0] [3] (bC 65 .add 64 1), Zc [61,62,63,64,65,67,68,71,72,73,74] (mS 66 0), Zc [61,62,63,64,65,66,71,72,73,74] (mS 67 13), Zd [61,62,63,64,65,66,71,72,73,74] [6] (bC 68 .add 67 1), Zd [61,62,63,64,65,71,72,73,74] [5,6,7] (xS 69 1 66 68), Zd [61,62,63,64,65,71,72,73,74] [5,6,7,8] (lF 70 1 69), Zc [61,62,63,64,65,66,67,68,69,70,72] (mS 71 0), Zc [61,62,63,64,65,66,67,68,69,70,71] (mS 72 13), Zd [61,62,63,64,65,66,67,68,69,70] [10,11] (xS 73 1 71 72), Zd [61,62,63,64,65,66,67,68,69,70] [10,11,12] (lF 74 1 73), Zd [63,64,65] [0,1,5,6,7,8,9,10,11,12,13] (xS 75 1 61 62), { o := sS 1 75 70, hs := [63,64,65], ws := [0], bf := [0,1,5,6,7,8,9,10,11,12,13,14] }, Ze (.range 16) (xS 76 1 63 65), { o := sS 1 76 74, ws := [0], bf := (.range 17) }] [0,10,13]))
(pr [mS 59 13, bC 60 .add 59 1, mS 13 60] [0,10,13]))))))
.ret)))) .skip))
(.seq (Zs [mS 77 3, mS 78 2, bS 79 .sub 77 78, bC 80 .eql 79 1] [0,1,2,3,4,80] (.cond (.s 80) (Zs [mS 81 1, mS 14 81] [0,2,4,14] (Zs [mS 82 2, mS 15 82] [0,2,4,14,15] (.seq (.block 4 (.loop ([0,2,4,14,15], []) (.seq (Zs [mS 83 14, mS 84 15, bS 85 .lss 83 84] [0,2,4,14,15,85] (cX 85 4))
(.block 5 (Zs [mS 86 14, mS 87 15, bS 88 .add 86 87, .convI 89 .u64 (.s 88), .bin 90 false .shr (.s 89) (.c (.int .u64 1)), .convI 91 .i64 (.s 90), mS 16 91] [0,2,4,14,15,16] (.seq (.dreg [Zc [93,94,95,96,97,98,99,100] (mS 92 4), Zc [92,94,97,98,99,100] (mS 93 0), Zc [92,93,97,98,99,100] (mS 94 2), Zd [92,97,98,99,100] [1,2] (xS 95 1 93 94), Zd [92,97,98,99,100] [1,2,3] (lF 96 1 95), Zc [92,93,94,95,96,98] (mS 97 0), Zc [92,93,94,95,96,97] (mS 98 16), Zd [92,93,94,95,96] [5,6] (xS 99 1 97 98), Zd [92,93,94,95,96] [5,6,7] (lF 100 1 99), Ze (.range 9) (.call 101 [] (.s 92) [.s 96, .s 100]), Ze (.range 10) (bC 102 .lss 101 0), Ze (.range 11) (.un 103 .not (.s 102))] [0,2,4,14,15,16,103])
(.cond (.s 103) (pr [mS 104 16, bC 105 .add 104 1, mS 14 105] [0,2,4,14,15]) (pr [mS 106 16, mS 15 106] [0,2,4,14,15]))))))))
(.seq (Zs [mS 107 2, mS 17 107] [0,14,17] (.block 6 (.loop ([0,14,17], []) (.seq (Zs [mS 108 17, mS 109 14, bS 110 .gtr 108 109] [0,14,17,110] (cX 110 6))
(.seq (.block 7 (.dreg [Zc [114,115,116,117,118,119,120,121,122,123,124,125,126] (mS 113 0), Zc [113,115,116,117,118,119,120,121,122,123,124,125,126] (mS 114 17), Zf [113,114,116,117,118,119,120,121,122,123,124,125,126,127] [0] (mS 115 0), Zf [113,114,115,118,119,120,121,122,123,124,125,126,127] [0] (mS 116 17), Zg [113,114,115,118,119,120,121,122,123,124,125,126,127] [0] [3] (bC 117 .sub 116 1), Zc [113,114,115,116,117,119,120,123,124,125,126] (mS 118 0), Zc [113,114,115,116,117,118,123,124,125,126] (mS 119 17), Zd [113,114,115,116,117,118,123,124,125,126] [6] (bC 120 .sub 119 1), Zd [113,114,115,116,117,123,124,125,126] [5,6,7] (xS 121 1 118 120), Zd [113,114,115,116,117,123,124,125,126] [5,6,7,8] (lF 122 1 121), Zc [113,114,115,116,117,118,119,120,121,122,124] (mS 123 0), Zc [113,114,115,116,117,118,119,120,121,122,123] (mS 124 17), Zd [113,114,115,116,117,118,119,120,121,122] [10,11] (xS 125 1 123 124), Zd [113,114,115,116,117,118,119,120,121,122] [10,11,12] (lF 126 1 125), Zd [115,116,117] [0,1,5,6,7,8,9,10,11,12,13] (xS 127 1 113 114), { o := sS 1 127 122, hs := [115,116,117], ws := [0], bf := [0,1,5,6,7,8,9,10,11,12,13,14] }, Ze (.range 16) (xS 128 1 115 117), { o := sS 1 128 126, ws := [0], bf := (.range 17) }] [0,14,17]))
(pr [mS 111 17, bC 112 .sub 111 1, mS 17 112] [0,14,17]))))))
.ret)))) .skip))
(Zs [mS 129 1, mS 130 3, bS 131 .add 129 130, .convI 132 .u64 (.s 131), .bin 133 false .shr (.s 132) (.c (.int .u64 1)), .convI 134 .i64 (.s 133), mS 18 134] [0,1,2,3,4,18] (Zs [mS 135 18, mS 136 2, bS 137 .add 135 136, mS 19 137] [0,1,2,3,4,18,19] (Zs [.mv 20 (ci 0), .mv 21 (ci 0)] [0,1,2,3,4,18,19] (.seq (Zs [mS 138 2, mS 139 18, bS 140 .gtr 138 139] [0,1,2,3,4,18,19,140] (.cond (.s 140) (Zs [mS 141 19, mS 142 3, bS 143 .sub 141 142, mS 20 143] [0,1,2,3,4,18,19,20] (pr [mS 144 18, mS 21 144] [0,1,2,3,4,18,19,20,21])) (Zs [mS 145 1, mS 20 145] [0,1,2,3,4,18,19,20] (pr [mS 146 2, mS 21 146] [0,1,2,3,4,18,19,20,21]))))
(Zs [mS 147 19, bC 148 .sub 147 1, mS 22 148] [0,1,2,3,4,18,19,20,21,22] (.seq (.block 8 (.loop ([0,1,2,3,4,18,19,20,21,22], []) (.seq (Zs [mS 149 20, mS 150 21, bS 151 .lss 149 150] [0,1,2,3,4,18,19,20,21,22,151] (cX 151 8))
(.block 9 (Zs [mS 152 20, mS 153 21, bS 154 .add 152 153, .convI 155 .u64 (.s 154), .bin 156 false .shr (.s 155) (.c (.int .u64 1)), .convI 157 .i64 (.s 156), mS 23 157] [0,1,2,3,4,18,19,20,21,22,23] (.seq (.dreg [Zc [159,160,161,162,163,164,165,166,167,168] (mS 158 4), Zc [158,160,161,162,165,166,167,168] (mS 159 0), Zc [158,159,161,165,166,167,168] (mS 160 22), Zc [158,159,160,165,166,167,168] (mS 161 23), Zd [158,159,165,166,167,168] [2,3] (bS 162 .sub 160 161), Zd [158,165,166,167,168] [1,2,3,4] (xS 163 1 159 162), Zd [158,165,166,167,168] [1,2,3,4,5] (lF 164 1 163), Zc [158,159,160,161,162,163,164,166] (mS 165 0), Zc [158,159,160,161,162,163,164,165] (mS 166 23), Zd [158,159,160,161,162,163,164] [7,8] (xS 167 1 165 166), Zd [158,159,160,161,162,163,164] [7,8,9] (lF 168 1 167), Ze (.range 11) (.call 169 [] (.s 158) [.s 164, .s 168]), Ze (.range 12) (bC 170 .lss 169 0), Ze (.range 13) (.un 171 .not (.s 170))] [0,1,2,3,4,18,19,20,21,22,23,171])
(.cond (.s 171) (pr [mS 172 23, bC 173 .add 172 1, mS 20 173] [0,1,2,3,4,18,19,20,21,22]) (pr [mS 174 23, mS 21 174] [0,1,2,3,4,18,19,20,21,22]))))))))
(Zs [mS 175 19, mS 176 20, bS 177 .sub 175 176, mS 24 177] [0,1,2,3,4,18,20,24] (.seq (.seq (.reg [Za (mS 178 20), Za (mS 179 2), Za (bS 180 .lss 178 179), Za (mS 181 180), Zb 181 true (mS 182 2), Zb 181 true (mS 183 24), Zb 181 true (bS 184 .lss 182 183), Za (.pick 185 (.s 181) (.s 184) cF)] [0,1,2,3,4,18,20,24,185])
(.cond (.s 185) (pr [mS 186 0, mS 187 20, mS 188 2, mS 189 24, mS 190 4, .callI 191 [] (.f N27) [.s 186, .s 187, .s 188, .s 189, .s 190] [0] []] [0,1,3,4,18,20,24]) .skip))
(.seq (.seq (.reg [Za (mS 192 1), Za (mS 193 20), Za (bS 194 .lss 192 193), Za (mS 195 194), Zb 195 true (mS 196 20), Zb 195 true (mS 197 18), Zb 195 true (bS 198 .lss 196 197), Za (.pick 199 (.s 195) (.s 198) cF)] [0,1,3,4,18,20,24,199])
(.cond (.s 199) (pr [mS 200 0, mS 201 1, mS 202 20, mS 203 18, mS 204 4, .callI 205 [] (.f Ni) [.s 200, .s 201, .s 202, .s 203, .s 204] [0] []] [0,3,4,18,24]) .skip))
(.seq (.reg [Za (mS 206 18), Za (mS 207 24), Za (bS 208 .lss 206 207), Za (mS 209 208), Zb 209 true (mS 210 24), Zb 209 true (mS 211 3), Zb 209 true (bS 212 .lss 210 211), Za (.pick 213 (.s 209) (.s 212) cF)] [0,3,4,18,24,213])
(.cond (.s 213) (pr [mS 214 0, mS 215 18, mS 216 24, mS 217 3, mS 218 4, .callI 219 [] (.f Ni) [.s 214, .s 215, .s 216, .s 217, .s 218] [0] []] []) .skip)))))))))))))
set_option maxHeartbeats 4000000 in
theorem C6t (f : FuncId) {cs : List T} (c : Int → Int → Int) (hc : ∀ x y, Ctr Tryz.prog f (aI x :: aI y :: cs.map (fun t => (false, [t]))) [rI (c x y)]) (hw : Srt.Swo (ltz c)) (n : Nat) : ∀ (P X Y Q : List Int) {a m b : Nat}, X.length + Y.length ≤ n → P.length = a → (P ++ X).length = m → (P ++ X ++ Y).length = b → 0 < X.length → 0 < Y.length → Srt.srt (ltz c) X → Srt.srt (ltz c) Y →
  CtrI Tryz.prog Ni [oL 1 ((P ++ X ++ Y ++ Q).map encI), iI a, iI m, iI b, fC f cs] [some (1, (P ++ Srt.mrg (ltz c) X Y ++ Q).map encI)] [] := by
 induction n with
 | zero => intro P X Y Q a m b hn _ _ _ hX; omega
 | succ n ih =>
  intro P X Y Q a m b hn ha hm hb hX hY sX sY
  have hN2 : (P ++ Srt.mrg (ltz c) X Y ++ Q).length = (P ++ X ++ Y ++ Q).length := by simp [Srt.len_mrg]; omega
  refine K10 (M := M1z) (m := 0) (n := 220) (res := []) hmix Tryz.func425 rfl (by kernel_rfl) rfl (by kernel_rfl) (by kernel_rfl) (Nat.le_of_ble_eq_true rfl) rfl rfl ?_; unfold M1z
  intro hbd
  have hl := Kt hbd
  clear hbd
  have hm' : m = a + X.length := by rw [← hm, ← ha]; simp
  have hb' : b = m + Y.length := by rw [← hb, ← hm]; simp; omega
  have hbN : b ≤ (P ++ X ++ Y ++ Q).length := by rw [List.length_append, hb]; omega
  generalize hN : (P ++ X ++ Y ++ Q).length = N at *
  simp only [roomB] at hl
  simp only [go_sem, hN, wS (a := m) (b := a) (by omega) (by omega)]
  refine ⟨fun h1 => ?_, fun h1 => ?_⟩
  ·obtain ⟨x, rfl⟩ : ∃ x, X = [x] := List.length_eq_one_iff.1 (by omega)
   simp only [List.length_cons, List.length_nil] at hm' hn
   have hxa : (P ++ [x] ++ Y ++ Q)[a]? = some x := by rw [← ha]; simp
   have hya : ∀ w, w < Y.length → (P ++ [x] ++ Y ++ Q)[m + w]? = Y[w]? := fun w hw => by
    rw [List.append_assoc, List.getElem?_append_right (by simp; omega), List.getElem?_append_left (by simp; omega)]
    congr 1; simp; omega
   refine Ko (ι := Nat × Nat) (fun s => [(10, vI ((m + s.1 : Nat) : Int)), (11, vI ((m + s.2 : Nat) : Int))]) (fun s => []) (fun s => s.1 ≤ s.2 ∧ s.2 ≤ Y.length ∧ (∀ y ∈ Y.take s.1, ltz c y x = true) ∧ (∀ y ∈ Y.drop s.2, ltz c y x = false)) (fun s => s.2 - s.1) (0, Y.length) ?_
   simp only [go_sem]
   refine ⟨?_, ⟨by omega, by omega, by simp, by simp⟩, ?_⟩
   ·simp only [go_sem]
    exact ⟨by omega, by omega⟩
   ·rintro ⟨u, v⟩ ⟨i1, i2, i3, i4⟩
    simp only at i1 i2 i3 i4
    simp only [go_sem, hN, shr1, K2t (i := m + u) (j := m + v) (by omega)]
    refine ⟨fun hlt => ?_, fun hge => ?_⟩
    ·have hwx : (m + u + (m + v)) / 2 = m + (u + v) / 2 := by omega
     have w1 : u ≤ (u + v) / 2 := by omega
     have w2 : (u + v) / 2 < v := by omega
     rw [hwx]
     generalize (u + v) / 2 = w at w1 w2
     obtain ⟨y, hy⟩ := Kf (show w < Y.length by omega)
     have hyw := (hya w (by omega)).trans hy
     have k1 : (0 : Int) ≤ ((m + w : Nat) : Int) := by omega
     have k2 : ((m + w : Nat) : Int) < (N : Int) := by omega
     have k3 : (0 : Int) ≤ (a : Int) := by omega
     have k4 : (a : Int) < (N : Int) := by omega
     simp only [go_sem, wK (k := m + w) (by omega), k1, k2, k3, k4, K6 hyw, K6 hxa]
     apply K0 (hc y x)
     simp only [go_sem, wN1 (a := m + w) (by omega)]
     intro _
     refine ⟨fun hn => ⟨(w + 1, v), ⟨rfl, rfl⟩, ⟨by omega, i2, Srt.lo_of hw sY hy (by simpa [ltz] using hn), i4⟩, by omega⟩, fun hn => ⟨(u, w), ⟨rfl, rfl⟩, ⟨w1, by omega, i3, Srt.hi_of hw sY hy (by simpa [ltz] using hn)⟩, by omega⟩⟩
    ·obtain rfl : u = v := by omega
     have hres := Srt.mrg_one hw sY i3 i4
     have hlt : ∀ t, (P ++ (Y.take t ++ x :: Y.drop t) ++ Q).length = N := fun t => by rw [← hN]; simp; omega
     refine Ko (fun t : Nat => [(13, vI ((a + t : Nat) : Int))]) (fun t => [(0, ⟨1, .row true 1 ((P ++ (Y.take t ++ x :: Y.drop t) ++ Q).map encI)⟩)]) (fun t => t ≤ u) (fun t => u - t) 0 ?_
     simp only [go_sem]
     refine ⟨?_, by omega, ?_⟩
     ·simp only [go_sem]
      simp
     ·intro t ht
      have hs1 : IntKind.i64.wrap (((m + u : Nat) : Int) - 1) = ((a + u : Nat) : Int) := by
       rw [wI (by omega) (by omega)]; omega
      by_cases htu : t < u
      ·obtain ⟨y, hy⟩ := Kf (show t < Y.length by omega)
       have e1 : (P ++ (Y.take t ++ x :: Y.drop t) ++ Q).map encI = two ((P ++ Y.take t).map encI) (encI x) [] (encI y) ((Y.drop (t + 1) ++ Q).map encI) := by simp [two, Kn hy]
       have e2 : (P ++ (Y.take (t + 1) ++ x :: Y.drop (t + 1)) ++ Q).map encI = two ((P ++ Y.take t).map encI) (encI y) [] (encI x) ((Y.drop (t + 1) ++ Q).map encI) := by simp [two, Kc hy]
       have hA : ((P ++ Y.take t).map encI).length = a + t := by simp; omega
       have hL0 : ∀ p q, (two ((P ++ Y.take t).map encI) p [] q ((Y.drop (t + 1) ++ Q).map encI)).length = N := fun p q => by
        rw [← hlt t]; simp [two, Kn hy]
       generalize (P ++ Y.take t).map encI = A at *
       generalize (Y.drop (t + 1) ++ Q).map encI = C at *
       obtain ⟨g1, g2, s1, s2, hL, d1, d2⟩ := K40 (A := A) (B := []) (C := C) (p := a + t) (q := a + t + 1) hA (by simp)
       have k1 : (0 : Int) ≤ ((a + t : Nat) : Int) := by omega
       have k2 : ((a + t : Nat) : Int) < (N : Int) := by omega
       have k3 : (0 : Int) ≤ ((a + t + 1 : Nat) : Int) := by omega
       have k4 : ((a + t + 1 : Nat) : Int) < (N : Int) := by omega
       have k5 : ((a + t : Nat) : Int) < ((a + u : Nat) : Int) := by omega
       rw [e1]
       simp only [go_sem, hs1, hL0, g1, g2, s1, s2, k1, k2, k3, k4, k5, wN1 (a := a + t) (by omega)]
       exact ⟨t + 1, ⟨rfl, e2.symm⟩, by omega, by omega⟩
      ·obtain rfl : t = u := by omega
       simp only [go_sem, hs1]
       rw [hres]
  ·simp only [go_sem, wS (a := b) (b := m) (by omega) (by omega)]
   refine ⟨fun h2 => ?_, fun h2 => ?_⟩
   ·obtain ⟨y, rfl⟩ : ∃ y, Y = [y] := List.length_eq_one_iff.1 (by omega)
    simp only [List.length_cons, List.length_nil] at hb' hn
    have hym : (P ++ X ++ [y] ++ Q)[m]? = some y := by rw [← hm]; simp
    have hxa : ∀ w, w < X.length → (P ++ X ++ [y] ++ Q)[a + w]? = X[w]? := fun w hw => by
     rw [List.append_assoc, List.append_assoc, List.getElem?_append_right (by omega), List.getElem?_append_left (by omega)]
     congr 1; omega
    refine Ko (ι := Nat × Nat) (fun s => [(14, vI ((a + s.1 : Nat) : Int)), (15, vI ((a + s.2 : Nat) : Int))]) (fun s => []) (fun s => s.1 ≤ s.2 ∧ s.2 ≤ X.length ∧ (∀ z ∈ X.take s.1, ltz c y z = false) ∧ (∀ z ∈ X.drop s.2, ltz c y z = true)) (fun s => s.2 - s.1) (0, X.length) ?_
    simp only [go_sem]
    refine ⟨?_, ⟨by omega, by omega, by simp, by simp⟩, ?_⟩
    ·simp only [go_sem]
     exact ⟨by omega, by omega⟩
    ·rintro ⟨u, v⟩ ⟨i1, i2, i3, i4⟩
     simp only at i1 i2 i3 i4
     simp only [go_sem, hN, shr1, K2t (i := a + u) (j := a + v) (by omega)]
     refine ⟨fun hlt => ?_, fun hge => ?_⟩
     ·have hwx : (a + u + (a + v)) / 2 = a + (u + v) / 2 := by omega
      have w1 : u ≤ (u + v) / 2 := by omega
      have w2 : (u + v) / 2 < v := by omega
      rw [hwx]
      generalize (u + v) / 2 = w at w1 w2
      obtain ⟨x, hx⟩ := Kf (show w < X.length by omega)
      have hxw := (hxa w (by omega)).trans hx
      have k1 : (0 : Int) ≤ ((a + w : Nat) : Int) := by omega
      have k2 : ((a + w : Nat) : Int) < (N : Int) := by omega
      have k3 : (0 : Int) ≤ (m : Int) := by omega
      have k4 : (m : Int) < (N : Int) := by omega
      simp only [go_sem, wK (k := a + w) (by omega), k1, k2, k3, k4, K6 hxw, K6 hym]
      apply K0 (hc y x)
      simp only [go_sem, wN1 (a := a + w) (by omega)]
      intro _
      refine ⟨fun hn => ⟨(w + 1, v), ⟨rfl, rfl⟩, ⟨by omega, i2, Srt.lo_of' hw sX hx (by simpa [ltz] using hn), i4⟩, by omega⟩, fun hn => ⟨(u, w), ⟨rfl, rfl⟩, ⟨w1, by omega, i3, Srt.hi_of' hw sX hx (by simpa [ltz] using hn)⟩, by omega⟩⟩
     ·obtain rfl : u = v := by omega
      have hres := Srt.mrg_last i3 i4
      have hlt : ∀ t, (P ++ (X.take t ++ y :: X.drop t) ++ Q).length = N := fun t => by rw [← hN]; simp; omega
      refine Ko (fun t : Nat => [(17, vI ((a + t : Nat) : Int))]) (fun t => [(0, ⟨1, .row true 1 ((P ++ (X.take t ++ y :: X.drop t) ++ Q).map encI)⟩)]) (fun t => u ≤ t ∧ t ≤ X.length) (fun t => t - u) X.length ?_
      simp only [go_sem]
      refine ⟨?_, ⟨i2, by omega⟩, ?_⟩
      ·simp only [go_sem, hm']
       simp
      ·rintro t ⟨ht, ht2⟩
       by_cases htu : u < t
       ·obtain ⟨t, rfl⟩ : ∃ s, t = s + 1 := ⟨t - 1, by omega⟩
        obtain ⟨x, hx⟩ := Kf (show t < X.length by omega)
        have e1 : (P ++ (X.take (t + 1) ++ y :: X.drop (t + 1)) ++ Q).map encI = two ((P ++ X.take t).map encI) (encI x) [] (encI y) ((X.drop (t + 1) ++ Q).map encI) := by simp [two, Kc hx]
        have e2 : (P ++ (X.take t ++ y :: X.drop t) ++ Q).map encI = two ((P ++ X.take t).map encI) (encI y) [] (encI x) ((X.drop (t + 1) ++ Q).map encI) := by simp [two, Kn hx]
        have hA : ((P ++ X.take t).map encI).length = a + t := by simp; omega
        have hL0 : ∀ p q, (two ((P ++ X.take t).map encI) p [] q ((X.drop (t + 1) ++ Q).map encI)).length = N := fun p q => by
         rw [← hlt t]; simp [two, Kn hx]
        generalize (P ++ X.take t).map encI = A at *
        generalize (X.drop (t + 1) ++ Q).map encI = C at *
        obtain ⟨g1, g2, s1, s2, hL, d1, d2⟩ := K40 (A := A) (B := []) (C := C) (p := a + t) (q := a + t + 1) hA (by simp)
        have k1 : (0 : Int) ≤ ((a + t : Nat) : Int) := by omega
        have k2 : ((a + t : Nat) : Int) < (N : Int) := by omega
        have k3 : (0 : Int) ≤ ((a + t + 1 : Nat) : Int) := by omega
        have k4 : ((a + t + 1 : Nat) : Int) < (N : Int) := by omega
        have k5 : ((a + t + 1 : Nat) : Int) > ((a + u : Nat) : Int) := by omega
        have k6 : IntKind.i64.wrap (((a + t + 1 : Nat) : Int) - 1) = ((a + t : Nat) : Int) := by
         rw [wI (by omega) (by omega)]; omega
        rw [e1, show a + (t + 1) = a + t + 1 from rfl]
        simp only [go_sem, hL0, g1, g2, s1, s2, k1, k2, k3, k4, k5, k6]
        exact ⟨t, ⟨rfl, e2.symm⟩, ⟨by omega, by omega⟩, by omega⟩
       ·obtain rfl : t = u := by omega
        simp only [go_sem]
        rw [hres]
   ·obtain ⟨M, hM⟩ : ∃ M, M = (X.length + Y.length) / 2 := ⟨_, rfl⟩
    have hmid : (a + b) / 2 = a + M := by omega
    have hxa : ∀ w, w < X.length → (P ++ X ++ Y ++ Q)[a + w]? = X[w]? := fun w hw => by
     rw [List.append_assoc, List.append_assoc, List.getElem?_append_right (by omega), List.getElem?_append_left (by omega)]
     congr 1; omega
    have hya : ∀ w, w < Y.length → (P ++ X ++ Y ++ Q)[m + w]? = Y[w]? := fun w hw => by
     rw [List.append_assoc, List.getElem?_append_right (by omega), List.getElem?_append_left (by omega)]
     congr 1; omega
    simp only [go_sem, shr1, K2t (i := a) (j := b) (by omega), hmid, wK (k := a + M) (by omega), wN (a := a + M) (b := m) (by omega)]
    refine ⟨fun h3 => ?_, fun h3 => ?_⟩
    ·have hs : IntKind.i64.wrap (((a + M + m : Nat) : Int) - (b : Int)) = ((a + (M - Y.length) : Nat) : Int) := by
      rw [wI (by omega) (by omega)]; omega
     simp only [go_sem, hs, wS1 (a := a + M + m) (by omega) (by omega)]
     obtain ⟨u0, hu0⟩ : ∃ u, u = M - Y.length := ⟨_, rfl⟩
     obtain ⟨v0, hv0⟩ : ∃ v, v = M := ⟨_, rfl⟩
     rw [← hu0]
     have q1 : u0 ≤ v0 := by omega
     have q2 : v0 ≤ M := by omega
     have q3 : v0 ≤ X.length := by omega
     have q4 : M ≤ u0 + Y.length := by omega
     have q5 : u0 = 0 ∨ Y.length ≤ M - u0 := by omega
     have q6 : v0 = M ∨ v0 = X.length := by omega
     have q7 : a + M = a + v0 := by omega
     refine Ko (ι := Nat × Nat) (fun s => [(20, vI ((a + s.1 : Nat) : Int)), (21, vI ((a + s.2 : Nat) : Int))]) (fun s => []) (fun s => SymZ (ltz c) X Y M u0 v0 s.1 s.2) (fun s => s.2 - s.1) (u0, v0) ?_
     simp only [go_sem]
     refine ⟨?_, ⟨by omega, q1, by omega, q5.imp_right .inl, q6.imp_right .inl⟩, ?_⟩
     ·simp only [go_sem]
      first | exact ⟨by omega, by omega⟩ | omega
     ·rintro ⟨u, v⟩ hI
      obtain ⟨i1, i2, i3, i4, i5⟩ := hI
      simp only at i1 i2 i3 i4 i5
      simp only [go_sem, hN, shr1, K2t (i := a + u) (j := a + v) (by omega)]
      refine ⟨fun hlt => ?_, fun hge => ?_⟩
      ·have hwx : (a + u + (a + v)) / 2 = a + (u + v) / 2 := by omega
       have w1 : u ≤ (u + v) / 2 := by omega
       have w2 : (u + v) / 2 < v := by omega
       rw [hwx]
       generalize (u + v) / 2 = w at w1 w2
       have hpc : IntKind.i64.wrap (((a + M + m - 1 : Nat) : Int) - ((a + w : Nat) : Int)) = ((m + (M - 1 - w) : Nat) : Int) := by
        rw [wI (by omega) (by omega)]; omega
       obtain ⟨x, hx⟩ := Kf (show w < X.length by omega)
       obtain ⟨y, hy⟩ := Kf (show M - 1 - w < Y.length by omega)
       have hxw := (hxa w (by omega)).trans hx
       have hyw := (hya (M - 1 - w) (by omega)).trans hy
       have k1 : (0 : Int) ≤ ((a + w : Nat) : Int) := by omega
       have k2 : ((a + w : Nat) : Int) < (N : Int) := by omega
       have k3 : (0 : Int) ≤ ((m + (M - 1 - w) : Nat) : Int) := by omega
       have k4 : ((m + (M - 1 - w) : Nat) : Int) < (N : Int) := by omega
       simp only [go_sem, wK (k := a + w) (by omega), hpc, k1, k2, k3, k4, K6 hxw, K6 hyw]
       apply K0 (hc y x)
       simp only [go_sem, wN1 (a := a + w) (by omega)]
       intro _
       refine ⟨fun hn => ⟨(w + 1, v), ⟨rfl, rfl⟩, ⟨by omega, by omega, i3, .inr (.inr ⟨y, x, by rw [show M - (w + 1) = M - 1 - w by omega]; exact hy, hx, by simpa [ltz] using hn⟩), i5⟩, by show v - (w + 1) < v - u; omega⟩, fun hn => ⟨(u, w), ⟨rfl, rfl⟩, ⟨i1, w1, by omega, i4, .inr (.inr ⟨y, x, hy, hx, by simpa [ltz] using hn⟩)⟩, by show w - u < v - u; omega⟩⟩
      ·obtain rfl : u = v := by omega
       obtain ⟨A1, A2, B1, B2, rfl, rfl, hA1, hB1, huM, hres, t1, t2, t3, t4⟩ := SymZ.fin hw ⟨i1, i2, i3, i4, i5⟩ sX sY q2 q3 q4
       have hend : IntKind.i64.wrap (((a + M + m : Nat) : Int) - ((a + u : Nat) : Int)) = ((m + (M - u) : Nat) : Int) := by
        rw [wI (by omega) (by omega)]; omega
       have r0 : P ++ (A1 ++ A2) ++ (B1 ++ B2) ++ Q = (P ++ A1) ++ A2 ++ B1 ++ (B2 ++ Q) := by simp
       have r1 : (P ++ A1) ++ B1 ++ A2 ++ (B2 ++ Q) = P ++ A1 ++ B1 ++ (A2 ++ (B2 ++ Q)) := by simp
       have r2 : A2.length = 0 ∨ B1.length = 0 → P ++ (A1 ++ A2) ++ (B1 ++ B2) ++ Q = P ++ A1 ++ B1 ++ (A2 ++ (B2 ++ Q)) := fun h => by
        rcases h with h | h
        ·rw [List.length_eq_zero_iff.1 h]; simp
        ·rw [List.length_eq_zero_iff.1 h]; simp
       have r3 : A1.length = 0 ∨ B1.length = 0 → P ++ A1 ++ B1 ++ (A2 ++ (B2 ++ Q)) = (P ++ Srt.mrg (ltz c) A1 B1) ++ A2 ++ B2 ++ Q := fun h => by
        rcases h with h | h
        ·rw [List.length_eq_zero_iff.1 h, Srt.mrg_nil_srt hw t3]; simp
        ·rw [List.length_eq_zero_iff.1 h, Srt.mrg_nil]; simp
       have r4 : P ++ Srt.mrg (ltz c) A1 B1 ++ (A2 ++ (B2 ++ Q)) = (P ++ Srt.mrg (ltz c) A1 B1) ++ A2 ++ B2 ++ Q := by simp
       have r5 : A2.length = 0 ∨ B2.length = 0 → (P ++ Srt.mrg (ltz c) A1 B1) ++ A2 ++ B2 ++ Q = (P ++ Srt.mrg (ltz c) A1 B1) ++ Srt.mrg (ltz c) A2 B2 ++ Q := fun h => by
        rcases h with h | h
        ·rw [List.length_eq_zero_iff.1 h, Srt.mrg_nil_srt hw t4]; simp
        ·rw [List.length_eq_zero_iff.1 h, Srt.mrg_nil]; simp
       have r6 : P ++ Srt.mrg (ltz c) (A1 ++ A2) (B1 ++ B2) ++ Q = (P ++ Srt.mrg (ltz c) A1 B1) ++ Srt.mrg (ltz c) A2 B2 ++ Q := by rw [hres]; simp
       obtain ⟨⟨l0, l1, l2, l3, l4, l5⟩, ⟨L1, L2, L3, L4, L5, L6, L7⟩, hn1, hn2, ⟨eA, eB, eC, eD, eE, eF⟩, h7⟩ := symZL (ltz c) ha hA1 hB1 huM hm' hb' hN hM hn h1 h2 hX hY
       clear hxa hya hres i4 i5
       rcases h7 with ⟨z1, z2, z3, z4⟩ | ⟨z1, z2, z3, z4⟩ | ⟨z1, z2, z3, z4⟩ | ⟨z1, z2, z3, z4⟩ | ⟨z1, z2, z3, z4⟩ | ⟨z1, z2, z3, z4⟩ | ⟨z1, z2, z3, z4⟩
       ·have fA := K8 A2.length eA z2
        have fB := K8 B1.length eB z3
        have fC := K8 A1.length eC z1
        have fD := K8 B1.length eD z3
        have fE := K8 A2.length eE z2
        have fF := K8 B2.length eF z4
        simp only [go_sem, hend, fA, fB, fC, fD, fE, fF]
        rw [r0]
        apply K7 (Cf (P ++ A1) A2 B1 (B2 ++ Q) f L1 L2 L3 z2 z3)
        simp only [go_sem, fC, fD, l0]
        rw [r1]
        apply K7 (ih P A1 B1 (A2 ++ (B2 ++ Q)) hn1 ha L1 L4 z1 z3 t1 t3)
        simp only [go_sem, fE, fF, l4]
        rw [r4]
        apply K7 (ih (P ++ Srt.mrg (ltz c) A1 B1) A2 B2 Q hn2 L5 L6 L7 z2 z4 t2 t4)
        simp only [go_sem]
        rw [r6]
       ·have fA := K8 A2.length eA z2
        have fB := K8 B1.length eB z3
        have fC := Kl A1.length eC z1
        have fD := K8 B1.length eD z3
        have fE := K8 A2.length eE z2
        have fF := K8 B2.length eF z4
        simp only [go_sem, hend, fA, fB, fC, fD, fE, fF]
        rw [r0]
        apply K7 (Cf (P ++ A1) A2 B1 (B2 ++ Q) f L1 L2 L3 z2 z3)
        simp only [go_sem, fC, fE, fF, l0]
        rw [r1]
        rw [r3 (.inl z1)]
        apply K7 (ih (P ++ Srt.mrg (ltz c) A1 B1) A2 B2 Q hn2 L5 L6 L7 z2 z4 t2 t4)
        simp only [go_sem]
        rw [r6]
       ·have fA := Kl A2.length eA z2
        have fB := K8 B1.length eB z3
        have fC := K8 A1.length eC z1
        have fD := K8 B1.length eD z3
        have fE := Kl A2.length eE z2
        have fF := K8 B2.length eF z4
        simp only [go_sem, hend, fA, fB, fC, fD, fE, fF]
        rw [r2 (.inl z2)]
        apply K7 (ih P A1 B1 (A2 ++ (B2 ++ Q)) hn1 ha L1 L4 z1 z3 t1 t3)
        simp only [go_sem, fE]
        rw [r4]
        rw [r5 (.inl z2)]
        rw [r6]
       ·have fA := K8 A2.length eA z2
        have fB := Kl B1.length eB z3
        have fC := K8 A1.length eC z1
        have fD := Kl B1.length eD z3
        have fE := K8 A2.length eE z2
        have fF := K8 B2.length eF z4
        simp only [go_sem, hend, fA, fB, fC, fD, fE, fF]
        rw [r2 (.inr z3)]
        rw [r3 (.inr z3)]
        apply K7 (ih (P ++ Srt.mrg (ltz c) A1 B1) A2 B2 Q hn2 L5 L6 L7 z2 z4 t2 t4)
        simp only [go_sem]
        rw [r6]
       ·have fA := K8 A2.length eA z2
        have fB := K8 B1.length eB z3
        have fC := K8 A1.length eC z1
        have fD := K8 B1.length eD z3
        have fE := K8 A2.length eE z2
        have fF := Kl B2.length eF z4
        simp only [go_sem, hend, fA, fB, fC, fD, fE, fF]
        rw [r0]
        apply K7 (Cf (P ++ A1) A2 B1 (B2 ++ Q) f L1 L2 L3 z2 z3)
        simp only [go_sem, fC, fD, l0]
        rw [r1]
        apply K7 (ih P A1 B1 (A2 ++ (B2 ++ Q)) hn1 ha L1 L4 z1 z3 t1 t3)
        simp only [go_sem, fE, fF]
        rw [r4]
        rw [r5 (.inr z4)]
        rw [r6]
       ·have fA := K8 A2.length eA z2
        have fB := K8 B1.length eB z3
        have fC := Kl A1.length eC z1
        have fD := K8 B1.length eD z3
        have fE := K8 A2.length eE z2
        have fF := Kl B2.length eF z4
        simp only [go_sem, hend, fA, fB, fC, fD, fE, fF]
        rw [r0]
        apply K7 (Cf (P ++ A1) A2 B1 (B2 ++ Q) f L1 L2 L3 z2 z3)
        simp only [go_sem, fC, fE, fF]
        rw [r1]
        rw [r3 (.inl z1)]
        rw [r5 (.inr z4)]
        rw [r6]
       ·have fA := Kl A2.length eA z2
        have fB := Kl B1.length eB z3
        have fC := K8 A1.length eC z1
        have fD := Kl B1.length eD z3
        have fE := Kl A2.length eE z2
        have fF := K8 B2.length eF z4
        simp only [go_sem, hend, fA, fB, fC, fD, fE, fF]
        rw [r2 (.inl z2)]
        rw [r3 (.inr z3)]
        rw [r5 (.inl z2)]
        rw [r6]
    ·simp only [go_sem, wS1 (a := a + M + m) (by omega) (by omega)]
     obtain ⟨u0, hu0⟩ : ∃ u, u = 0 := ⟨_, rfl⟩
     obtain ⟨v0, hv0⟩ : ∃ v, v = X.length := ⟨_, rfl⟩
     have q1 : u0 ≤ v0 := by omega
     have q2 : v0 ≤ M := by omega
     have q3 : v0 ≤ X.length := by omega
     have q4 : M ≤ u0 + Y.length := by omega
     have q5 : u0 = 0 ∨ Y.length ≤ M - u0 := by omega
     have q6 : v0 = M ∨ v0 = X.length := by omega
     refine Ko (ι := Nat × Nat) (fun s => [(20, vI ((a + s.1 : Nat) : Int)), (21, vI ((a + s.2 : Nat) : Int))]) (fun s => []) (fun s => SymZ (ltz c) X Y M u0 v0 s.1 s.2) (fun s => s.2 - s.1) (u0, v0) ?_
     simp only [go_sem]
     refine ⟨?_, ⟨by omega, q1, by omega, q5.imp_right .inl, q6.imp_right .inl⟩, ?_⟩
     ·simp only [go_sem]
      first | exact ⟨by omega, by omega⟩ | omega
     ·rintro ⟨u, v⟩ hI
      obtain ⟨i1, i2, i3, i4, i5⟩ := hI
      simp only at i1 i2 i3 i4 i5
      simp only [go_sem, hN, shr1, K2t (i := a + u) (j := a + v) (by omega)]
      refine ⟨fun hlt => ?_, fun hge => ?_⟩
      ·have hwx : (a + u + (a + v)) / 2 = a + (u + v) / 2 := by omega
       have w1 : u ≤ (u + v) / 2 := by omega
       have w2 : (u + v) / 2 < v := by omega
       rw [hwx]
       generalize (u + v) / 2 = w at w1 w2
       have hpc : IntKind.i64.wrap (((a + M + m - 1 : Nat) : Int) - ((a + w : Nat) : Int)) = ((m + (M - 1 - w) : Nat) : Int) := by
        rw [wI (by omega) (by omega)]; omega
       obtain ⟨x, hx⟩ := Kf (show w < X.length by omega)
       obtain ⟨y, hy⟩ := Kf (show M - 1 - w < Y.length by omega)
       have hxw := (hxa w (by omega)).trans hx
       have hyw := (hya (M - 1 - w) (by omega)).trans hy
       have k1 : (0 : Int) ≤ ((a + w : Nat) : Int) := by omega
       have k2 : ((a + w : Nat) : Int) < (N : Int) := by omega
       have k3 : (0 : Int) ≤ ((m + (M - 1 - w) : Nat) : Int) := by omega
       have k4 : ((m + (M - 1 - w) : Nat) : Int) < (N : Int) := by omega
       simp only [go_sem, wK (k := a + w) (by omega), hpc, k1, k2, k3, k4, K6 hxw, K6 hyw]
       apply K0 (hc y x)
       simp only [go_sem, wN1 (a := a + w) (by omega)]
       intro _
       refine ⟨fun hn => ⟨(w + 1, v), ⟨rfl, rfl⟩, ⟨by omega, by omega, i3, .inr (.inr ⟨y, x, by rw [show M - (w + 1) = M - 1 - w by omega]; exact hy, hx, by simpa [ltz] using hn⟩), i5⟩, by show v - (w + 1) < v - u; omega⟩, fun hn => ⟨(u, w), ⟨rfl, rfl⟩, ⟨i1, w1, by omega, i4, .inr (.inr ⟨y, x, hy, hx, by simpa [ltz] using hn⟩)⟩, by show w - u < v - u; omega⟩⟩
      ·obtain rfl : u = v := by omega
       obtain ⟨A1, A2, B1, B2, rfl, rfl, hA1, hB1, huM, hres, t1, t2, t3, t4⟩ := SymZ.fin hw ⟨i1, i2, i3, i4, i5⟩ sX sY q2 q3 q4
       have hend : IntKind.i64.wrap (((a + M + m : Nat) : Int) - ((a + u : Nat) : Int)) = ((m + (M - u) : Nat) : Int) := by
        rw [wI (by omega) (by omega)]; omega
       have r0 : P ++ (A1 ++ A2) ++ (B1 ++ B2) ++ Q = (P ++ A1) ++ A2 ++ B1 ++ (B2 ++ Q) := by simp
       have r1 : (P ++ A1) ++ B1 ++ A2 ++ (B2 ++ Q) = P ++ A1 ++ B1 ++ (A2 ++ (B2 ++ Q)) := by simp
       have r2 : A2.length = 0 ∨ B1.length = 0 → P ++ (A1 ++ A2) ++ (B1 ++ B2) ++ Q = P ++ A1 ++ B1 ++ (A2 ++ (B2 ++ Q)) := fun h => by
        rcases h with h | h
        ·rw [List.length_eq_zero_iff.1 h]; simp
        ·rw [List.length_eq_zero_iff.1 h]; simp
       have r3 : A1.length = 0 ∨ B1.length = 0 → P ++ A1 ++ B1 ++ (A2 ++ (B2 ++ Q)) = (P ++ Srt.mrg (ltz c) A1 B1) ++ A2 ++ B2 ++ Q := fun h => by
        rcases h with h | h
        ·rw [List.length_eq_zero_iff.1 h, Srt.mrg_nil_srt hw t3]; simp
        ·rw [List.length_eq_zero_iff.1 h, Srt.mrg_nil]; simp
       have r4 : P ++ Srt.mrg (ltz c) A1 B1 ++ (A2 ++ (B2 ++ Q)) = (P ++ Srt.mrg (ltz c) A1 B1) ++ A2 ++ B2 ++ Q := by simp
       have r5 : A2.length = 0 ∨ B2.length = 0 → (P ++ Srt.mrg (ltz c) A1 B1) ++ A2 ++ B2 ++ Q = (P ++ Srt.mrg (ltz c) A1 B1) ++ Srt.mrg (ltz c) A2 B2 ++ Q := fun h => by
        rcases h with h | h
        ·rw [List.length_eq_zero_iff.1 h, Srt.mrg_nil_srt hw t4]; simp
        ·rw [List.length_eq_zero_iff.1 h, Srt.mrg_nil]; simp
       have r6 : P ++ Srt.mrg (ltz c) (A1 ++ A2) (B1 ++ B2) ++ Q = (P ++ Srt.mrg (ltz c) A1 B1) ++ Srt.mrg (ltz c) A2 B2 ++ Q := by rw [hres]; simp
       obtain ⟨⟨l0, l1, l2, l3, l4, l5⟩, ⟨L1, L2, L3, L4, L5, L6, L7⟩, hn1, hn2, ⟨eA, eB, eC, eD, eE, eF⟩, h7⟩ := symZL (ltz c) ha hA1 hB1 huM hm' hb' hN hM hn h1 h2 hX hY
       clear hxa hya hres i4 i5
       rcases h7 with ⟨z1, z2, z3, z4⟩ | ⟨z1, z2, z3, z4⟩ | ⟨z1, z2, z3, z4⟩ | ⟨z1, z2, z3, z4⟩ | ⟨z1, z2, z3, z4⟩ | ⟨z1, z2, z3, z4⟩ | ⟨z1, z2, z3, z4⟩
       ·have fA := K8 A2.length eA z2
        have fB := K8 B1.length eB z3
        have fC := K8 A1.length eC z1
        have fD := K8 B1.length eD z3
        have fE := K8 A2.length eE z2
        have fF := K8 B2.length eF z4
        simp only [go_sem, hend, fA, fB, fC, fD, fE, fF]
        rw [r0]
        apply K7 (Cf (P ++ A1) A2 B1 (B2 ++ Q) f L1 L2 L3 z2 z3)
        simp only [go_sem, fC, fD, l0]
        rw [r1]
        apply K7 (ih P A1 B1 (A2 ++ (B2 ++ Q)) hn1 ha L1 L4 z1 z3 t1 t3)
        simp only [go_sem, fE, fF, l4]
        rw [r4]
        apply K7 (ih (P ++ Srt.mrg (ltz c) A1 B1) A2 B2 Q hn2 L5 L6 L7 z2 z4 t2 t4)
        simp only [go_sem]
        rw [r6]
       ·have fA := K8 A2.length eA z2
        have fB := K8 B1.length eB z3
        have fC := Kl A1.length eC z1
        have fD := K8 B1.length eD z3
        have fE := K8 A2.length eE z2
        have fF := K8 B2.length eF z4
        simp only [go_sem, hend, fA, fB, fC, fD, fE, fF]
        rw [r0]
        apply K7 (Cf (P ++ A1) A2 B1 (B2 ++ Q) f L1 L2 L3 z2 z3)
        simp only [go_sem, fC, fE, fF, l0]
        rw [r1]
        rw [r3 (.inl z1)]
        apply K7 (ih (P ++ Srt.mrg (ltz c) A1 B1) A2 B2 Q hn2 L5 L6 L7 z2 z4 t2 t4)
        simp only [go_sem]
        rw [r6]
       ·have fA := Kl A2.length eA z2
        have fB := K8 B1.length eB z3
        have fC := K8 A1.length eC z1
        have fD := K8 B1.length eD z3
        have fE := Kl A2.length eE z2
        have fF := K8 B2.length eF z4
        simp only [go_sem, hend, fA, fB, fC, fD, fE, fF]
        rw [r2 (.inl z2)]
        apply K7 (ih P A1 B1 (A2 ++ (B2 ++ Q)) hn1 ha L1 L4 z1 z3 t1 t3)
        simp only [go_sem, fE]
        rw [r4]
        rw [r5 (.inl z2)]
        rw [r6]
       ·have fA := K8 A2.length eA z2
        have fB := Kl B1.length eB z3
        have fC := K8 A1.length eC z1
        have fD := Kl B1.length eD z3
        have fE := K8 A2.length eE z2
        have fF := K8 B2.length eF z4
        simp only [go_sem, hend, fA, fB, fC, fD, fE, fF]
        rw [r2 (.inr z3)]
        rw [r3 (.inr z3)]
        apply K7 (ih (P ++ Srt.mrg (ltz c) A1 B1) A2 B2 Q hn2 L5 L6 L7 z2 z4 t2 t4)
        simp only [go_sem]
        rw [r6]
       ·have fA := K8 A2.length eA z2
        have fB := K8 B1.length eB z3
        have fC := K8 A1.length eC z1
        have fD := K8 B1.length eD z3
        have fE := K8 A2.length eE z2
        have fF := Kl B2.length eF z4
        simp only [go_sem, hend, fA, fB, fC, fD, fE, fF]
        rw [r0]
        apply K7 (Cf (P ++ A1) A2 B1 (B2 ++ Q) f L1 L2 L3 z2 z3)
        simp only [go_sem, fC, fD, l0]
        rw [r1]
        apply K7 (ih P A1 B1 (A2 ++ (B2 ++ Q)) hn1 ha L1 L4 z1 z3 t1 t3)
        simp only [go_sem, fE, fF]
        rw [r4]
        rw [r5 (.inr z4)]
        rw [r6]
       ·have fA := K8 A2.length eA z2
        have fB := K8 B1.length eB z3
        have fC := Kl A1.length eC z1
        have fD := K8 B1.length eD z3
        have fE := K8 A2.length eE z2
        have fF := Kl B2.length eF z4
        simp only [go_sem, hend, fA, fB, fC, fD, fE, fF]
        rw [r0]
        apply K7 (Cf (P ++ A1) A2 B1 (B2 ++ Q) f L1 L2 L3 z2 z3)
        simp only [go_sem, fC, fE, fF]
        rw [r1]
        rw [r3 (.inl z1)]
        rw [r5 (.inr z4)]
        rw [r6]
       ·have fA := Kl A2.length eA z2
        have fB := Kl B1.length eB z3
        have fC := K8 A1.length eC z1
        have fD := Kl B1.length eD z3
        have fE := Kl A2.length eE z2
        have fF := K8 B2.length eF z4
        simp only [go_sem, hend, fA, fB, fC, fD, fE, fF]
        rw [r2 (.inl z2)]
        rw [r3 (.inr z3)]
        rw [r5 (.inl z2)]
        rw [r6]
def M29 : MC := Y29 N1c Ni
set_option maxHeartbeats 4000000 in
theorem Cft (X : List Int) (f : FuncId) {cs : List T} (c : Int → Int → Int) (hc : ∀ x y, Ctr Tryz.prog f (aI x :: aI y :: cs.map (fun t => (false, [t]))) [rI (c x y)]) (hw : Srt.Swo (ltz c)) : CtrI Tryz.prog N26 [oL 1 (X.map encI), iI X.length, fC f cs] [some (1, (Srt.isort (ltz c) X).map encI)] [] := by
 refine K10 (M := M29) (m := 0) (n := 63) (res := []) hmix Tryz.func386 rfl (by kernel_rfl) rfl (by kernel_rfl) (by kernel_rfl) (Nat.le_of_ble_eq_true rfl) rfl rfl ?_; unfold M29
 intro hbd
 have hl := Kt hbd
 clear hbd
 simp only [roomB] at hl
 simp only [go_sem]
 refine Ko (fun k : Nat => [(7, vI ((k * 20 : Nat) : Int)), (8, vI (((k + 1) * 20 : Nat) : Int))]) (fun k => [(0, ⟨1, .row true 1 ((Srt.blks (ltz c) 20 k X).map encI)⟩)]) (fun k => k * 20 ≤ X.length) (fun k => X.length - k * 20) 0 ?_
 simp only [go_sem]
 refine ⟨?_, by omega, ?_⟩
 ·simp only [go_sem]
  exact ⟨rfl, rfl⟩
 ·intro k hk
  simp only [go_sem, Srt.len_blks]
  refine ⟨fun hlt => ?_, fun hge => ?_⟩
  ·obtain ⟨A, hA, e1, e2⟩ := Srt.blks_snoc (lt := ltz c) (s := 20) (k := k) (l := X) (by omega)
   have g1 := congrArg List.length e1
   have g2 := congrArg List.length e2
   rw [Srt.len_blks] at g1 g2
   rw [← List.append_assoc] at e1 e2 g1 g2
   rw [e1]
   apply K7 (C2v A _ _ f c hc hw hA (by simp [hA]; omega))
   have w1 : IntKind.i64.wrap ((((k + 1) * 20 : Nat) : Int) + 20) = (((k + 1 + 1) * 20 : Nat) : Int) := by
    rw [wI (by omega) (by omega)]; omega
   simp only [go_sem, w1]
   exact ⟨k + 1, ⟨⟨rfl, rfl⟩, by rw [e2]⟩, by omega, by omega⟩
  ·obtain ⟨A, hA, e1, e2⟩ := Srt.blks_last (lt := ltz c) (s := 20) (k := k) (l := X) (by omega) (by omega)
   have g1 := congrArg List.length e1
   have g2 := congrArg List.length e2
   rw [Srt.len_blks] at g1 g2
   have e1' : A ++ X.drop (k * 20) = A ++ X.drop (k * 20) ++ [] := by simp
   rw [e1, e1']
   apply K7 (C2v A _ [] f c hc hw hA (by simp [hA]; omega))
   rw [List.append_nil, ← e2]
   rw [Srt.blks_blk (by omega) (by omega)]
   simp only [go_sem]
   refine Ko (fun s : Nat => [(6, vI (s : Int))]) (fun s => [(0, ⟨1, .row true 1 ((Srt.blk (ltz c) s X).map encI)⟩)]) (fun s => 0 < s ∧ s ≤ 2 * X.length + 20) (fun s => X.length - s) 20 ?_
   simp only [go_sem]
   refine ⟨?_, ⟨by omega, by omega⟩, ?_⟩
   ·simp only [go_sem]
    first | rfl | exact ⟨rfl, rfl⟩
   ·rintro s ⟨hs0, hs1⟩
    clear e1' e1 e2 g1 g2 hA A hge hk
    have w2 : IntKind.i64.wrap (2 * (s : Int)) = ((2 * s : Nat) : Int) := by rw [wI (by omega) (by omega)]; omega
    have w3 : IntKind.i64.wrap ((s : Int) * 2) = ((2 * s : Nat) : Int) := by rw [wI (by omega) (by omega)]; omega
    simp only [go_sem, w2]
    refine ⟨fun hlt => ?_, fun hge => ?_⟩
    ·refine Ko (fun k : Nat => [(7, vI ((k * (2 * s) : Nat) : Int)), (8, vI ((k * (2 * s) + 2 * s : Nat) : Int))]) (fun k => [(0, ⟨1, .row true 1 ((Srt.mix (ltz c) s k X).map encI)⟩)]) (fun k => k * (2 * s) ≤ X.length) (fun k => X.length - k * (2 * s)) 0 ?_
     simp only [go_sem]
     refine ⟨?_, by omega, ?_⟩
     ·simp only [go_sem]
      refine ⟨⟨?_, ?_⟩, rfl⟩
      ·rw [Nat.zero_mul]; rfl
      ·rw [Nat.zero_mul, Nat.zero_add]
     ·intro k hk
      simp only [go_sem, Srt.len_mix, w3]
      refine ⟨fun hle => ?_, fun hgt => ?_⟩
      ·obtain ⟨P, A, B, Q, m1, m2, m3, m4, m5, m6, m7⟩ := Srt.mix_step hw (s := s) (k := k) (l := X) (by omega)
       have g1 : (P ++ A ++ B ++ Q).length = X.length := by rw [← m6, Srt.len_mix]
       have g2 : (P ++ Srt.mrg (ltz c) A B ++ Q).length = X.length := by rw [← m7, Srt.len_mix]
       have wa : IntKind.i64.wrap (((k * (2 * s) : Nat) : Int) + (s : Int)) = ((k * (2 * s) + s : Nat) : Int) := wN (by omega)
       have wb : IntKind.i64.wrap (((k * (2 * s) + 2 * s : Nat) : Int) + ((2 * s : Nat) : Int)) = (((k + 1) * (2 * s) + 2 * s : Nat) : Int) := by
        rw [wN (by omega), Nat.succ_mul k (2 * s)]
       rw [m6]
       simp only [go_sem, wa]
       apply K7 (C6t f c hc hw _ P A B Q (Nat.le_refl _) m1 (m := k * (2 * s) + s) (b := k * (2 * s) + 2 * s) (by rw [List.length_append]; omega) (by rw [List.length_append, List.length_append]; omega) (by omega) (by omega) m4 m5)
       simp only [go_sem]
       have hj : (k + 1) * (2 * s) = k * (2 * s) + 2 * s := Nat.succ_mul k (2 * s)
       exact ⟨k + 1, ⟨⟨by rw [hj], by rw [w2, wb]⟩, by rw [m7]⟩, by omega, by omega⟩
      ·obtain ⟨i1, i2⟩ := Srt.mix_end hw (s := s) (k := k) (l := X) hk (by omega)
       have wa : IntKind.i64.wrap (((k * (2 * s) : Nat) : Int) + (s : Int)) = ((k * (2 * s) + s : Nat) : Int) := wN (by omega)
       simp only [go_sem, wa]
       refine ⟨fun hlt2 => ?_, fun hge2 => ?_⟩
       ·obtain ⟨P, A, B, m1, m2, m3, m4, m5, m6, m7⟩ := i1 (by omega)
        have g1 : (P ++ A ++ B ++ []).length = X.length := by rw [List.append_nil, ← m6, Srt.len_mix]
        have g2 : (P ++ Srt.mrg (ltz c) A B ++ []).length = X.length := by rw [List.append_nil, ← m7, Srt.len_blk (Nat.le_refl _)]
        rw [m6, ← List.append_nil (P ++ A ++ B)]
        apply K7 (C6t f c hc hw _ P A B [] (Nat.le_refl _) m1 (m := k * (2 * s) + s) (b := X.length) (by rw [List.length_append]; omega) (by rw [List.length_append, List.length_append]; omega) (by omega) (by omega) m4 m5)
        simp only [go_sem, w3]
        exact ⟨2 * s, ⟨rfl, by rw [m7]⟩, ⟨by omega, by omega⟩, by omega⟩
       ·exact ⟨2 * s, ⟨rfl, by rw [i2 (by omega)]⟩, ⟨by omega, by omega⟩, by omega⟩
    ·rw [Srt.blk_le (by omega)]
def M1p : MC :=
(pr [mS 4 0, mS 5 0, nS 6 5, mS 7 1, .callI 8 [] (.f N26) [.s 4, .s 6, .s 7] [0] []] [])
theorem Cca (X : List Int) (f : FuncId) {cs : List T} (c : Int → Int → Int) (hc : ∀ x y, Ctr Tryz.prog f (aI x :: aI y :: cs.map (fun t => (false, [t]))) [rI (c x y)]) (hw : Srt.Swo (ltz c)) : CtrI Tryz.prog N1n [oL 1 (X.map encI), fC f cs] [some (1, (Srt.isort (ltz c) X).map encI)] [] := by
 refine K10 (M := M1p) (m := 0) (n := 9) (res := []) hmix Tryz.func302 rfl (by kernel_rfl) rfl (by kernel_rfl) (by kernel_rfl) (Nat.le_of_ble_eq_true rfl) rfl rfl ?_; unfold M1p
 intro hbd
 have hl := Kt hbd
 clear hbd
 simp only [roomB] at hl
 simp only [go_sem]
 apply K7 (Cft X f c hc hw)
 simp only [go_sem]
 try intros
 try trivial
def modM (v : Int) : Int := (IntKind.i64.wrap (v.tmod 1000000 + 1000000)).tmod 1000000
theorem K80 : ¬ (1000000 : Int) = 0 := by decide
def K2a (d l : Int) : Int := modM (hashL [d, l])
def cmpR (d a b : Int) : Int := cmpI (K2a d b) (K2a d a)
def ltR (d a b : Int) : Bool := decide (K2a d b < K2a d a)
theorem ltR_eq (d : Int) : ltz (cmpR d) = ltR d := by
 funext a b
 by_cases h1 : K2a d b < K2a d a
 ·simp [ltz, cmpR, cmpI, ltR, h1]
 ·by_cases h2 : K2a d a < K2a d b <;> simp [ltz, cmpR, cmpI, ltR, h1, h2]
theorem swoR (d : Int) : Srt.Swo (ltz (cmpR d)) := by
 rw [ltR_eq]
 refine ⟨fun x y h => ?_, fun x y z h => ?_⟩
 ·simp only [ltR, decide_eq_true_eq, decide_eq_false_iff_not] at *; omega
 ·simp only [ltR, decide_eq_true_eq] at *; omega
def ordB (d a b : Int) : Bool := decide (K2a d b < K2a d a ∨ K2a d a = K2a d b ∧ a < b)
theorem swoB (d : Int) : Srt.Swo (ordB d) := by
 refine ⟨fun x y h => ?_, fun x y z h => ?_⟩
 ·simp only [ordB, decide_eq_true_eq, decide_eq_false_iff_not] at *; omega
 ·simp only [ordB, decide_eq_true_eq] at *; omega
theorem ordB_tot {d a b : Int} (h : a ≠ b) (hf : ordB d a b = false) : ordB d b a = true := by
 simp only [ordB, decide_eq_true_eq, decide_eq_false_iff_not] at *; omega
def K1c (l : List Int) (d : Int) : List Int := Srt.isort (ltz (cmpR d)) (sortU l)
theorem K9d {α : Type} {p q : α → α → Bool} {x : α} : ∀ {A : List α}, (∀ z ∈ A, p x z = q x z) → Srt.ins p x A = Srt.ins q x A
 | [], _ => rfl
 | z :: A, h => by
  simp only [Srt.ins]
  rw [h z (by simp), K9d fun y hy => h y (by simp [hy])]
theorem K9j (d : Int) : ∀ (n : Nat) (l : List Int), l.length = n → l.Pairwise (· < ·) → Srt.isort (ltR d) l = Srt.isort (ordB d) l
 | 0, l, hn, _ => by
  obtain rfl := List.length_eq_zero_iff.1 hn
  rfl
 | n + 1, l, hn, h => by
  rcases List.eq_nil_or_concat l with rfl | ⟨s, x, rfl⟩
  ·rfl
  ·rw [List.concat_eq_append] at *
   rw [List.pairwise_append] at h
   rw [Srt.isort_snoc, Srt.isort_snoc, K9j d n s (by simpa using hn) h.1]
   refine K9d fun z hz => ?_
   have hz' : z ∈ s := by
    rcases Srt.mem_mrg.1 hz with k | k
    ·simp at k
    ·exact k
   have := h.2.2 z hz' x (by simp)
   simp only [ltR, ordB]
   rw [Bool.eq_iff_iff]
   simp only [decide_eq_true_eq]
   omega
def strictB (d : Int) (l : List Int) : Prop := l.Pairwise fun x y => ordB d x y = true
theorem K60 {d x : Int} : ∀ {l : List Int}, strictB d l → x ∉ l → strictB d (Srt.ins (ordB d) x l)
 | [], _, _ => by simp [Srt.ins, strictB]
 | z :: zs, h, hx => by
  unfold strictB at h ⊢
  rw [List.pairwise_cons] at h
  have hne : x ≠ z := fun e => hx (by simp [e])
  simp only [Srt.ins]
  split
  ·rename_i k
   rw [List.pairwise_cons, List.pairwise_cons]
   refine ⟨fun y hy => ?_, h⟩
   rcases List.mem_cons.1 hy with rfl | hy
   ·exact k
   ·exact (swoB d).tr k (h.1 y hy)
  ·rename_i k
   rw [List.pairwise_cons]
   refine ⟨fun y hy => ?_, K60 h.2 fun e => hx (by simp [e])⟩
   rcases Srt.mem_ins.1 hy with rfl | hy
   ·exact ordB_tot hne (by simpa using k)
   ·exact h.1 y hy
theorem K86 {d : Int} : ∀ {B A : List Int}, strictB d A → B.Nodup → (∀ b ∈ B, b ∉ A) → strictB d (Srt.mrg (ordB d) A B)
 | [], A, h, _, _ => h
 | x :: B, A, h, hn, hd => by
  rw [List.nodup_cons] at hn
  rw [Srt.mrg_cons]
  refine K86 (K60 h (hd x (by simp))) hn.2 fun b hb hm => ?_
  rcases Srt.mem_ins.1 hm with rfl | hm
  ·exact hn.1 hb
  ·exact hd b (by simp [hb]) hm
theorem K9i {d : Int} : ∀ {l m : List Int}, strictB d l → strictB d m → (∀ x, x ∈ l ↔ x ∈ m) → l = m
 | [], [], _, _, _ => rfl
 | [], b :: m, _, _, h => by have := (h b).2 (by simp); simp at this
 | a :: l, [], _, _, h => by have := (h a).1 (by simp); simp at this
 | a :: l, b :: m, h1, h2, h => by
  unfold strictB at h1 h2
  rw [List.pairwise_cons] at h1 h2
  have hir : ∀ x, ordB d x x = true → False := fun x hx => by have := (swoB d).asy x x hx; simp_all
  have hab : a = b := by
   rcases List.mem_cons.1 ((h a).1 (by simp)) with e | e
   ·exact e
   ·rcases List.mem_cons.1 ((h b).2 (by simp)) with e2 | e2
    ·exact e2.symm
    ·exact (hir a ((swoB d).tr (h1.1 b e2) (h2.1 a e))).elim
  subst hab
  congr 1
  refine K9i h1.2 h2.2 fun x => ⟨fun hx => ?_, fun hx => ?_⟩
  ·rcases List.mem_cons.1 ((h x).1 (by simp [hx])) with e | e
   ·subst e; exact (hir x (h1.1 x hx)).elim
   ·exact e
  ·rcases List.mem_cons.1 ((h x).2 (by simp [hx])) with e | e
   ·subst e; exact (hir x (h2.1 x hx)).elim
   ·exact e
def addO (d : Int) (out : List Int) (x : Int) : List Int := if out.contains x then out else Srt.ins (ordB d) x out
theorem K56 {d : Int} : ∀ (l out : List Int), strictB d out → strictB d (l.foldl (addO d) out) ∧ ∀ x, x ∈ l.foldl (addO d) out ↔ x ∈ out ∨ x ∈ l
 | [], out, h => ⟨h, by simp⟩
 | z :: l, out, h => by
  have hz : strictB d (addO d out z) ∧ ∀ x, x ∈ addO d out z ↔ x ∈ out ∨ x = z := by
   unfold addO
   split
   ·rename_i k
    have k' : z ∈ out := by simpa using k
    refine ⟨h, fun x => ⟨.inl, ?_⟩⟩
    rintro (k | rfl)
    ·exact k
    ·exact k'
   ·rename_i k
    have k' : z ∉ out := by simpa using k
    refine ⟨K60 h k', fun x => ?_⟩
    rw [Srt.mem_ins]
    constructor <;> rintro (k | k) <;> simp [k]
  obtain ⟨h1, h2⟩ := K56 l (addO d out z) hz.1
  refine ⟨h1, fun x => ?_⟩
  rw [List.foldl_cons, h2, hz.2, List.mem_cons]
  constructor
  ·rintro ((k | k) | k) <;> simp [k]
  ·rintro (k | k | k) <;> simp [k]
def ordS (l : List Int) (d : Int) : List Int := l.foldl (addO d) []
theorem ordS_eq (l : List Int) (d : Int) : ordS l d = K1c l d := by
 obtain ⟨h1, h2⟩ := Kal l
 obtain ⟨h3, h4⟩ := K56 (d := d) l [] List.Pairwise.nil
 rw [K1c, ltR_eq, K9j d _ _ rfl h1]
 refine K9i h3 (K86 List.Pairwise.nil (h1.imp (fun h => by omega)) (by simp)) fun x => ?_
 rw [Srt.isort, Srt.mem_mrg, h2]
 exact h4 x
theorem ordS_snoc {l : List Int} {d : Int} {k : Nat} {x : Int} (h : l[k]? = some x) : ordS (l.take (k + 1)) d = addO d (ordS (l.take k) d) x := by
 rw [Kc h, ordS, List.foldl_append]; rfl
theorem K65 (l : List Int) (d : Int) : (K1c l d).length ≤ l.length := by
 rw [K1c, Srt.len_isort, sortU_puts]; exact puts_len l
def placedL (l : List Int) (d k : Int) : List Int := (K1c l d).take k.toNat
theorem Ch2 (v : Int) : Ctr Tryz.prog N8q [aI v, aI 1000000] [rI (modM v)] := by
 refine cA M8t 0 15 [(.tmp 4, [false])] Tryz.func387 rfl rfl ?_; unfold M8t
 intro hb
 clear hb
 simp only [go_sem]
 apply K0 (C6 _ _ _)
 simp only [go_sem, K80]
 refine And.intro ?_ ?_ <;> intro h
 ·exact absurd (by decide) h
 ·rfl
theorem Ch3 (v : Int) : Ctr Tryz.prog N8r [aI v, aI 1000000] [rI (modM v)] := by
 refine cA M8s 0 15 [(.tmp 4, [false])] Tryz.func390 rfl rfl ?_; unfold M8s
 intro hb
 clear hb
 simp only [go_sem]
 apply K0 (Cr _ _ _)
 simp only [go_sem, K80]
 refine And.intro ?_ ?_ <;> intro h
 ·exact absurd (by decide) h
 ·rfl
def Mcy : MC :=
(Zs [.mv 4 (ci 0)] [0,1] (Zs [mS 5 0, mS 6 1, .lit 7 0 1 8 [.s 5, .s 6], .call 8 [] (.f N2b) [.s 7], .call 9 [] (.f N8q) [.s 8, .c (.int .i64 1000000)], mS 4 9] [4] .ret))
theorem Ccz (d l : Int) : Ctr Tryz.prog N6y [aI d, aI l] [rI (K2a d l)] := by
 refine cA Mcy 1 10 [(.tmp 4, [false])] Tryz.func304 rfl rfl ?_; unfold Mcy
 intro hb
 clear hb
 simp only [go_sem]
 refine ⟨⟨by simp, by decide⟩, ?_⟩
 apply K0 (C35 [d, l])
 simp only [go_sem]
 apply K0 (Ch2 _)
 simp only [go_sem]
 intros
 rfl
def Md0 : MC :=
(Zs [.mv 4 (ci 0)] [0,1] (Zs [mS 5 0, mS 6 1, .lit 7 0 1 8 [.s 5, .s 6], .call 8 [] (.f N2a) [.s 7], .call 9 [] (.f N8r) [.s 8, .c (.int .i64 1000000)], mS 4 9] [4] .ret))
theorem Cd1 (d l : Int) : Ctr Tryz.prog N6z [aI d, aI l] [rI (K2a d l)] := by
 refine cA Md0 1 10 [(.tmp 4, [false])] Tryz.func382 rfl rfl ?_; unfold Md0
 intro hb
 clear hb
 simp only [go_sem]
 refine ⟨⟨by simp, by decide⟩, ?_⟩
 apply K0 (C34 [d, l])
 simp only [go_sem]
 apply K0 (Ch3 _)
 simp only [go_sem]
 intros
 rfl
def M8o : MC :=
(Zs [.mv 5 (ci 0)] [0,1,2] (.seq (.dreg [Zc [7,9,10] (lF 6 1 2), Zc [6,9,10] (mS 7 1), Zd [9,10] [0,1] (.call 8 [] (.f N6y) [.s 6, .s 7]), Zc [6,7,8,10] (lF 9 1 2), Zc [6,7,8,9] (mS 10 0), Ze (.range 5) (.call 11 [] (.f N6y) [.s 9, .s 10]), Ze (.range 6) (.call 12 [] (.f N2x) [.s 8, .s 11]), Ze (.range 7) (mS 5 12)] [5])
.ret))
theorem Cf1 (a b d : Int) : Ctr Tryz.prog N7h [aI a, aI b, (false, [.pb [tI d]])] [rI (cmpR d a b)] := by
 refine cA M8o 0 13 [(.tmp 5, [false])] Tryz.func303 rfl rfl ?_; unfold M8o
 intro hb
 clear hb
 simp only [go_sem]
 apply K0 (Ccz _ _)
 simp only [go_sem]
 intros
 apply K0 (Ccz _ _)
 simp only [go_sem]
 intros
 apply K0 (Ccu _ _)
 simp only [go_sem]
 intros
 rfl
def Mb0 : MC :=
(Zs [.box 3 0 (.s 1), .nilo 4 1 1] [0,3] (Zs [mS 6 0, .call 7 [1] (.f Nch) [.s 6], mS 5 7] [3,5] (Zs [mS 8 5, .closF 9 N7h 3, .callI 10 [] (.f N1n) [.s 8, .s 9] [0,1] []] [5] (Zs [mS 11 5, mS 4 11] [4] .ret))))
theorem Cgb (l : List Int) (d : Int) (hl : l.length ≤ 1073741824) : Ctr Tryz.prog Nac [aL 1 (l.map encI), aI d] [rL 1 ((K1c l d).map encI)] := by
 refine cA Mb0 2 12 [(.tmp 4, [true])] Tryz.func190 rfl rfl ?_; unfold Mb0
 intro hb
 clear hb
 simp only [go_sem]
 apply K0 (Cgs l hl)
 simp only [go_sem]
 intros
 apply K7 (Cca (cs := [.pb [tI d]]) (sortU l) _ (cmpR d) (fun x y => Cf1 x y d) (swoR d))
 simp only [go_sem]
 exact ⟨Srt.len_isort.symm, rfl⟩
def M9z : MC :=
(Zs [.mv 6 cF] [0,1,2] (Zs [mS 9 0, mS 10 1, .call 11 [] (.f N6z) [.s 9, .s 10], mS 7 11] [0,1,2,7] (Zs [mS 12 0, mS 13 2, .call 14 [] (.f N6z) [.s 12, .s 13], mS 8 14] [1,2,7,8] (.seq (.reg [Za (mS 15 7), Za (mS 16 8), Za (bS 17 .gtr 15 16), Za (mS 18 17), Zb 18 false (mS 19 7), Zb 18 false (mS 20 8), Zb 18 false (bS 21 .eql 19 20), Zb 18 false (mS 22 21), Zb 22 true (mS 23 1), Zb 22 true (mS 24 2), Zb 22 true (bS 25 .lss 23 24), Zb 18 false (.pick 26 (.s 22) (.s 25) cF), Za (.pick 27 (.s 18) cT (.s 26)), Za (mS 6 27)] [6])
.ret))))
theorem Cfu (d a b : Int) : Ctr Tryz.prog N98 [aI d, aI a, aI b] [rB (ordB d a b)] := by
 refine cA M9z 0 28 [(.tmp 6, [false])] Tryz.func294 rfl rfl ?_; unfold M9z
 intro hb
 clear hb
 simp only [go_sem]
 apply K0 (Cd1 _ _)
 simp only [go_sem]
 intros
 apply K0 (Cd1 _ _)
 simp only [go_sem]
 intros
 repeat' first
  | (refine And.intro ?_ ?_ <;> intro h)
 all_goals (unfold ordB; first | (symm; rw [decide_eq_false_iff_not]; omega) | (rw [Bool.eq_iff_iff]; simp only [decide_eq_true_eq]; omega) | (simp; omega))
def Mb1 : MC :=
(Zs [.nilo 4 0 1] [0,1] (Zs [.lit 9 0 1 8 [], mS 5 9] [0,1,5] (.seq (Zs [.mv 6 (ci 0)] [0,1,5,6] (.block 0 (.loop ([0,1,5,6], [1,2]) (.seq (Zs [mS 10 6, mS 11 0, nS 12 11, bS 13 .lss 10 12] [0,1,5,6,13] (cX 13 0))
(.seq (.block 1 (Zs [mS 16 0, mS 17 6, xS 18 1 16 17, lF 19 1 18, mS 7 19] [0,1,5,6,7] (.seq (Zs [mS 20 5, mS 21 7, .call 22 [] (.f N6x) [.s 20, .s 21]] [0,1,5,6,7,22] (.cond (.s 22) (.exit 1) .skip))
(Zs [mS 23 5, nS 24 23, mS 8 24] [0,1,5,6,7,8] (.seq (.block 2 (.loop ([0,1,5,6,7,8], [1,2]) (.seq (.seq (.reg [Za (mS 25 8), Za (bC 26 .gtr 25 0), Za (mS 27 26), Zb 27 true (mS 28 1), Zb 27 true (mS 29 7), Zb 27 true (mS 30 5), Zb 27 true (mS 31 8), Zb 27 true (bC 32 .sub 31 1), Zb 27 true (xS 33 1 30 32), Zb 27 true (lF 34 1 33), Zb 27 true (.call 35 [] (.f N98) [.s 28, .s 29, .s 34]), Za (.pick 36 (.s 27) (.s 35) cF)] [0,1,5,6,7,8,36])
(cX 36 2))
(.block 3 (pr [mS 37 8, bC 38 .sub 37 1, mS 8 38] [0,1,5,6,7,8])))))
(.dreg [{ o := .lit 39 1 1 8 [], hs := [40,41,42,44,45,47,48,49], ho := [2], ws := [1] }, Zf [39,41,44,45,47,48,49] [1,2] (mS 40 5), Zf [39,40,44,45,47,48,49] [1,2] (mS 41 8), Zg [39,44,45,47,48,49] [1,2] [1,2] (.slc 42 1 (.s 40) none (some (.s 41)) none), { o := .app 43 1 1 8 (.s 39) (.s 42), hs := [44,45,47,48,49], ho := [2], ws := [1], bf := (.range 4) }, Zf [39,40,41,42,43,47,48,49] [1] (mS 44 7), { o := .lit 45 2 1 8 [.s 44], hs := [39,40,41,42,43,47,48,49], ho := [1], ws := [2], bf := [5] }, { o := .app 46 1 1 8 (.s 43) (.s 45), hs := [47,48,49], ws := [1], bf := (.range 7) }, Zf [39,40,41,42,43,44,45,46,48] [1,2] (mS 47 5), Zf [39,40,41,42,43,44,45,46,47] [1,2] (mS 48 8), Zg [39,40,41,42,43,44,45,46] [1,2] [8,9] (.slc 49 1 (.s 47) (some (.s 48)) none none), { o := .app 50 0 1 8 (.s 46) (.s 49), ws := [0,1], bf := (.range 11) }, Ze (.range 12) (mS 5 50)] [0,1,5,6]))))))
(pr [mS 14 6, bC 15 .add 14 1, mS 6 15] [0,1,5,6]))))))
(Zs [mS 51 5, mS 4 51] [4] .ret))))
set_option maxHeartbeats 1000000 in
theorem Cgc (l : List Int) (d : Int) (hl : l.length ≤ 1073741824) : Ctr Tryz.prog Naa [aL 1 (l.map encI), aI d] [rL 1 ((K1c l d).map encI)] := by
 refine cA Mb1 3 52 [(.tmp 4, [true])] Tryz.func179 rfl rfl ?_; unfold Mb1
 intro hb
 clear hb
 rw [← ordS_eq]
 simp only [go_sem]
 refine K5 l (fun k => [(5, .val false [.ref 0 0 1 0 (ordS (l.take k) d).length]), (6, vI k)]) (fun k => [(0, ⟨0, .row true 1 ((ordS (l.take k) d).map encI)⟩)]) (fun _ => True) (by simp only [roomB]; omega) ?_
 simp only [go_sem]
 refine ⟨?_, trivial, ?_, ?_⟩
 ·simp only [go_sem, List.take_zero]
  exact ⟨rfl, rfl⟩
 ·intro i y hx _ h0 h1 hw
  have hi := Kr hx
  have hol : (ordS (l.take i) d).length ≤ l.length := by
   rw [ordS_eq]
   exact Nat.le_trans (K65 _ _) (by rw [List.length_take]; omega)
  have hsr : Srt.srt (ordB d) (ordS (l.take i) d) := by
   have := (K56 (d := d) (l.take i) [] List.Pairwise.nil).1
   exact this.imp fun {a b} h => (swoB d).asy a b h
  have hst := ordS_snoc (d := d) hx
  rw [hst]
  generalize ordS (l.take i) d = out at *
  clear hst
  simp only [go_sem, K6 hx, h0, h1]
  apply K0 (Ccr out y)
  simp only [go_sem, hw]
  refine ⟨fun hc => ?_, fun hc => ?_⟩
  ·have e : addO d out y = out := by unfold addO; rw [if_pos hc]
   rw [e]
   exact ⟨rfl, rfl⟩
  ·have e : addO d out y = Srt.ins (ordB d) y out := by unfold addO; rw [if_neg (by rw [hc]; simp)]
   rw [e]
   refine Ko (fun n : Nat => [(8, vI n)]) (fun n => []) (fun n => n ≤ out.length ∧ ∀ z ∈ out.drop n, ordB d y z = true) (fun n => n) out.length ?_
   simp only [go_sem]
   refine ⟨?_, ⟨Nat.le_refl _, by simp⟩, ?_⟩
   ·simp only [go_sem]
   ·rintro n ⟨hn1, hn2⟩
    simp only [go_sem]
    refine ⟨fun hpos => ?_, fun hzero => ?_⟩
    ·obtain ⟨m, hm⟩ : ∃ m, m = n - 1 := ⟨_, rfl⟩
     obtain ⟨z, hz⟩ := Kf (show m < out.length by omega)
     have e1 : IntKind.i64.wrap ((n : Int) - 1) = (m : Int) := by rw [wI (by omega) (by omega)]; omega
     rw [e1]
     simp only [go_sem, K6 hz]
     refine ⟨⟨by omega, by omega⟩, ?_⟩
     apply K0 (Cfu d y z)
     simp only [go_sem]
     rw [e1]
     refine ⟨fun ht => ⟨m, rfl, ⟨by omega, ?_⟩, by omega⟩, fun hf => ?_⟩
     ·rw [hm]
      exact Srt.drop_step (by omega) (hm ▸ hz) hn2 ht
     ·have hstop : n = 0 ∨ ∃ y', out[n - 1]? = some y' ∧ ordB d y y' = false := .inr ⟨z, hm ▸ hz, hf⟩
      rw [cutA hn1]
      refine ⟨by omega, by omega, ?_⟩
      have hA : (out.take n).length = n := by rw [List.length_take]; omega
      have hB : out.length = n + (out.drop n).length := by rw [List.length_drop]; omega
      have eC := cutB (f := encI) hn1
      have e5 : List.map encI (out.take n) ++ [[T.sc (Value.int IntKind.i64 y)]] = (out.take n ++ [y]).map encI := by simp [encI]
      have e6 : ((out.take n ++ [y]).map encI).length = (out.take n).length + 1 := by simp
      simp only [go_sem, ↓Km (f := encI) (fun _ => rfl) (out.take n), ↓eC, ↓e5, ↓e6, ↓Km (f := encI) (fun _ => rfl) (out.drop n)]
      rw [Srt.ins_at (swoB d) hsr hn2 hstop]
      simp only [roomB]
      exact ⟨by omega, by omega, by omega, ⟨by omega, by omega, by omega⟩, by omega, by omega, ⟨by simp only [List.length_append, List.length_cons, List.length_nil], hw⟩, by rw [← List.map_append]⟩
    ·have hstop : n = 0 ∨ ∃ y', out[n - 1]? = some y' ∧ ordB d y y' = false := .inl (by omega)
     rw [cutA hn1]
     refine ⟨by omega, by omega, ?_⟩
     have hA : (out.take n).length = n := by rw [List.length_take]; omega
     have hB : out.length = n + (out.drop n).length := by rw [List.length_drop]; omega
     have eC := cutB (f := encI) hn1
     have e5 : List.map encI (out.take n) ++ [[T.sc (Value.int IntKind.i64 y)]] = (out.take n ++ [y]).map encI := by simp [encI]
     have e6 : ((out.take n ++ [y]).map encI).length = (out.take n).length + 1 := by simp
     simp only [go_sem, ↓Km (f := encI) (fun _ => rfl) (out.take n), ↓eC, ↓e5, ↓e6, ↓Km (f := encI) (fun _ => rfl) (out.drop n)]
     rw [Srt.ins_at (swoB d) hsr hn2 hstop]
     simp only [roomB]
     exact ⟨by omega, by omega, by omega, ⟨by omega, by omega, by omega⟩, by omega, by omega, ⟨by simp only [List.length_append, List.length_cons, List.length_nil], hw⟩, by rw [← List.map_append]⟩
 ·intro _
  simp only [go_sem, List.take_length]
theorem Ka6 {l : List Int} {d : Int} {k : Int} {n : Nat} (h : (n : Int) = min (max k 0) (K1c l d).length) : placedL l d k = (K1c l d).take n := by
 unfold placedL
 by_cases hk : k.toNat ≤ (K1c l d).length
 ·congr 1; omega
 ·rw [List.take_of_length_le (by omega), List.take_of_length_le (by omega)]
def M6u : MC :=
(Zs [.nilo 6 0 1] [0,1,2] (Zs [mS 8 0, mS 9 1, .call 10 [0] (.f Nac) [.s 8, .s 9], mS 7 10] [2,7] (Zs [mS 11 7, mS 12 2, .mm 13 true (.s 12) (ci 0), mS 14 7, nS 15 14, .mm 16 false (.s 13) (.s 15), .slc 17 1 (.s 11) none (some (.s 16)) none, mS 6 17] [6] (.trim 6 .ret))))
theorem Cec (l : List Int) (d k : Int) (hl : l.length ≤ 1073741824) : Ctr Tryz.prog N5u [aL 1 (l.map encI), aI d, aI k] [rL 1 ((placedL l d k).map encI)] := by
 refine cA M6u 1 18 [(.tmp 6, [true])] Tryz.func100 rfl rfl ?_; unfold M6u
 intro hb
 clear hb
 have hol := K65 l d
 simp only [go_sem]
 apply K0 (Cgb l d hl)
 simp only [go_sem]
 intros
 generalize hX : (if ((K1c l d).length : Int) < (if (0 : Int) > k then 0 else k) then ((K1c l d).length : Int) else (if (0 : Int) > k then 0 else k)) = X
 have hX2 : 0 ≤ X ∧ X ≤ (K1c l d).length ∧ (X.toNat : Int) = min (max k 0) (K1c l d).length := by
  rw [← hX]
  repeat' split
  all_goals omega
 rw [Ka6 hX2.2.2]
 have e : (X - 0).toNat = X.toNat := by omega
 exact ⟨⟨by omega, by omega, by omega⟩, by omega, by rw [List.length_take, List.length_map]; omega, by rw [e, List.map_take]⟩
def M6v : MC :=
(Zs [.nilo 6 0 1] [0,1,2] (Zs [mS 8 0, mS 9 1, .call 10 [1] (.f Naa) [.s 8, .s 9], mS 7 10] [2,7] (Zs [.lit 11 0 1 8 [], mS 12 7, mS 13 2, mS 14 7, nS 15 14, .call 16 [] (.f Nfx) [.s 13, .s 15], .call 17 [] (.f Nfw) [.c (.int .i64 0), .s 16], .slc 18 1 (.s 12) none (some (.s 17)) none, .app 19 0 1 8 (.s 11) (.s 18), mS 6 19] [6] .ret)))
theorem Ced (l : List Int) (d k : Int) (hl : l.length ≤ 1073741824) : Ctr Tryz.prog N5s [aL 1 (l.map encI), aI d, aI k] [rL 1 ((placedL l d k).map encI)] := by
 refine cA M6v 2 20 [(.tmp 6, [true])] Tryz.func94 rfl rfl ?_; unfold M6v
 intro hb
 clear hb
 have hol := K65 l d
 simp only [go_sem]
 apply K0 (Cgc l d hl)
 simp only [go_sem]
 intros
 apply K0 (Ch7 k _)
 simp only [go_sem]
 intros
 apply K0 (Ch6 0 _)
 simp only [go_sem]
 intros
 generalize hX : (if (if ((K1c l d).length : Int) < k then ((K1c l d).length : Int) else k) > 0 then (if ((K1c l d).length : Int) < k then ((K1c l d).length : Int) else k) else 0) = X
 have hX2 : 0 ≤ X ∧ X ≤ (K1c l d).length ∧ (X.toNat : Int) = min (max k 0) (K1c l d).length := by
  rw [← hX]
  repeat' split
  all_goals omega
 rw [Ka6 hX2.2.2]
 obtain ⟨m, rfl⟩ := Int.eq_ofNat_of_zero_le hX2.1
 have hm : m ≤ (K1c l d).length := by omega
 rw [K6n (f := encI) hm, Int.toNat_natCast]
 have hmt : ((K1c l d).take m).length = m := by rw [List.length_take]; omega
 simp only [go_sem, ↓Km (f := encI) (fun _ => rfl) ((K1c l d).take m), List.length_map, hmt]
 exact ⟨⟨by omega, by omega, by omega⟩, by omega, by simp only [roomB]; omega⟩
end Go.Proofs.YtgkeplbnnjogiaaGreatR
namespace Go.Proofs
open Go.Shelf
def Tryz.laysNm221_ren : Go.Shelf.Ren := ⟨fun | 21 => 192 | 27 => 305 | 28 => 306 | 35 => 388 | 39 => 426 | n => n, fun | 22 => 30 | 3 => 3 | 4 => 4 | 0 => 0 | n => n, fun | n => n⟩
theorem Tryz.laysNm221 : Go.Proofs.Lays2.n21 Tryz.prog Tryz.laysNm221_ren := {
 mixed := by kernel_rfl
 f21 := Tryz.func192.trans (congrArg some (by kernel_rfl))
 f27 := Tryz.func305.trans (congrArg some (by kernel_rfl))
 f28 := Tryz.func306.trans (congrArg some (by kernel_rfl))
 f35 := Tryz.func388.trans (congrArg some (by kernel_rfl))
 f39 := Tryz.func426.trans (congrArg some (by kernel_rfl))
 t0 := Tryz.underlying0
 a0 := Tryz.isAgg0
 z0 := Tryz.sizeOf0
 v0 := Tryz.zeroValue0
 t3 := Tryz.underlying3
 a3 := Tryz.isAgg3
 z3 := Tryz.sizeOf3
 v3 := Tryz.zeroValue3
 t4 := Tryz.underlying4
 a4 := Tryz.isAgg4
 z4 := Tryz.sizeOf4
 v4 := Tryz.zeroValue4
 t22 := Tryz.underlying30
 a22 := Tryz.isAgg30
 z22 := Tryz.sizeOf30
 v22 := Tryz.zeroValue30
 i3 := by kernel_rfl }
end Go.Proofs
namespace Go.Proofs.YtgkeplbnnjogiaaGreatR
open Go Go.RowKit Go.Proofs
open Nat (reduceEqDiff reduceLT reduceLeDiff reduceAdd reduceMul)
open List (reduceReplicate)
theorem argsI_ins {w : World} {X : Nat → Prop} {es es' : List (List T)} {k : Int} {vs : List Value} {G : List Nat} (h : ResVs w X [oL 1 es, iI k, oL 1 es'] vs G) : ∃ v u G1 G2, vs = [v, .int .i64 k, u] ∧ Ow w (.sl 1 es) v G1 ∧ Ow w (.sl 1 es') u G2 ∧ G = G1 ++ G2 := by
 match vs, h with
 | [v, i, u], ⟨Ga, Gb, h1, ⟨Gc, Gd, h2, ⟨Ge, Gf, h3, h4, e3⟩, e2⟩, e1⟩ =>
  obtain ⟨_, G1, G2, k1, k2, e4⟩ := h1
  obtain ⟨_, k3, k4⟩ := h2
  obtain ⟨_, G3, G4, k5, k6, e5⟩ := h3
  simp only [ResVs] at h4
  simp only [ResC] at k2 k4 k6
  simp only [Rd] at k3
  obtain ⟨rfl, _⟩ := k3
  subst h4 k2 k4 k6 e4 e5 e3 e2 e1
  exact ⟨v, u, G1, G3, rfl, k1, k5, by simp⟩
 | [], h => exact h.elim
 | [_], ⟨_, _, _, h, _⟩ => exact h.elim
 | [_, _], ⟨_, _, _, ⟨_, _, _, h, _⟩, _⟩ => exact h.elim
 | _ :: _ :: _ :: _ :: _, ⟨_, _, _, ⟨_, _, _, ⟨_, _, _, h, _⟩, _⟩, _⟩ => exact h.elim
theorem K1l {b : Nat} {ty : TypeId} {fz : Nat × Nat} : ∀ (vs : List Value) (o : Nat) (w : World) (row : Array Value), w.heap[b]? = some (.cells row ty fz) → ∃ row', (w.setCells b o vs).heap[b]? = some (.cells row' ty fz) ∧ row'.size = row.size
 | [], _, _, row, h => ⟨row, h, rfl⟩
 | v :: r, o, w, row, h => by
  have hw : (w.setCell ⟨b, o, none⟩ v).heap[b]? = some (.cells (row.setIfInBounds o v) ty fz) := by simp [World.setCell, Array.getElem?_modify, h]
  obtain ⟨row', h1, h2⟩ := K1l r (o + 1) (w.setCell ⟨b, o, none⟩ v) (row.setIfInBounds o v) hw
  exact ⟨row', h1, h2.trans (by simp)⟩
theorem K4v {B : Nat → Prop} {b : Nat} (hb : ¬ B b) : ∀ (vs : List Value) (o : Nat) (w : World), Bel B w (w.setCells b o vs)
 | [], _, w => Bel.refl _ _
 | v :: r, o, w => by
  refine Bel.trans (b := w.setCell ⟨b, o, none⟩ v) ⟨rfl, rfl, rfl, by simp [World.setCell], fun k hk => ?_⟩ (K4v hb r (o + 1) _)
  have hne : k ≠ b := fun e => hb (e ▸ hk)
  simp [World.setCell, Array.getElem?_modify, Ne.symm hne]
theorem ow_ints {w : World} {b off cap : Nat} {zs : List Int} {row : Array Value} {ty : TypeId} (hh : w.heap[b]? = some (.cells row ty (0, 0))) (hc : off + cap ≤ row.size) (hln : Ln zs.length cap)
  (hz : ∀ (j : Nat) (x : Int), zs[j]? = some x → w.cell? ⟨b, off + j, none⟩ = some (.int .i64 x) ∧ oneW (.int .i64 x) = true) : Ow w (.sl 1 (zs.map encI)) (.slice (some ⟨b, off, none⟩) zs.length cap) [b] := by
 unfold Ow
 exact ⟨some ⟨b, off, none⟩, cap, by rw [List.length_map], by rw [List.length_map]; exact hln, .inr ⟨b, off, row, ty, [], rfl, hh, by simpa using hc, owRow_int' hz, rfl⟩⟩
theorem at_mid {α : Type} {A B : List α} {x : α} {k j : Nat} {y : α} (hA : A.length = k) (h : (A ++ [x] ++ B)[j]? = some y) : (j < k ∧ A[j]? = some y) ∨ (j = k ∧ y = x) ∨ (k < j ∧ B[j - (k + 1)]? = some y) := by
 subst hA
 rw [List.append_assoc] at h
 by_cases h1 : j < A.length
 ·rw [List.getElem?_append_left h1] at h; exact .inl ⟨h1, h⟩
 ·rw [List.getElem?_append_right (by omega)] at h
  by_cases h2 : j = A.length
  ·subst h2
   simp at h
   exact .inr (.inl ⟨rfl, h.symm⟩)
  ·rw [List.getElem?_append_right (by simp; omega)] at h
   refine .inr (.inr ⟨by omega, ?_⟩)
   rw [← h]; simp only [List.length_cons, List.length_nil]; congr 1
theorem ins_len {α : Type} {zs : List α} {x : α} {k : Nat} (hk : k ≤ zs.length) : (zs.take k ++ [x] ++ zs.drop k).length = zs.length + 1 := by
 rw [List.length_append, List.length_append, List.length_take, List.length_drop, List.length_cons, List.length_nil]
 omega
theorem C5l (zs : List Int) (k : Nat) (x : Int) (hk : k ≤ zs.length) (hl : zs.length ≤ 1073741824) : CtrI Tryz.prog N2u [oL 1 (zs.map encI), iI k, oL 1 ([x].map encI)] [none, none] [rL 1 ((zs.take k ++ [x] ++ zs.drop k).map encI)] := by
 refine ⟨⟨Tryz.f192, Tryz.func192, by kernel_rfl, by kernel_rfl⟩, fun w X vs G ht h hG hGb => ?_⟩
 obtain ⟨v, u, G1, G2, rfl, hv, hu, rfl⟩ := argsI_ins h
 unfold Ow at hv hu
 obtain ⟨A, cap, rfl, hln, hv⟩ := hv
 obtain ⟨A2, vc, rfl, hln2, hu⟩ := hu
 rw [List.length_map] at hln ⊢
 simp only [List.length_map, List.length_cons, List.length_nil, Nat.zero_add] at hln2 ⊢
 rcases hu with ⟨_, h0, _⟩ | ⟨vb, voff, rowv, tyv, Gv, rfl, hhv, hcv, hrv, rfl⟩
 ·simp at h0
 obtain ⟨rfl, hzv⟩ := K42 hrv
 have hx1 := hzv 0 x rfl
 rw [Nat.add_zero] at hx1
 have hvbs : vb < w.heap.size := (hGb vb (by simp)).1
 have hvs : ∀ (j : Nat) (v : Value), [Value.int .i64 x][j]? = some v → w.cell? ⟨vb, voff + j, none⟩ = some v := fun j v hj => by
  cases j with
  | zero => simp only [List.getElem?_cons_zero, Option.some.injEq] at hj; rw [← hj]; exact hx1.1
  | succ j => simp at hj
 have h1v : ∀ v ∈ [Value.int .i64 x], v.oneCell' = true := fun v hv => by rw [List.mem_singleton.1 hv]; rfl
 have hlen := ins_len (x := x) hk
 have hcapB : cap ≤ 9223372036854775807 := hln.2.2
 have fin : ∀ (w' : World) (b2 off2 c2 : Nat) (row : Array Value) (ty : TypeId), Bel (fun b' => b' < w.heap.size ∧ b' ∉ G1 ++ [vb]) w w' → (b2 ∈ G1 ∨ w.heap.size ≤ b2) → w'.heap[b2]? = some (.cells row ty (0, 0)) → off2 + c2 ≤ row.size → zs.length + 1 ≤ c2 → c2 ≤ 9223372036854775807 →
   (∀ (j : Nat) (y : Int), j < k → zs[j]? = some y → w'.cell? ⟨b2, off2 + j, none⟩ = some (.int .i64 y)) → w'.cell? ⟨b2, off2 + k, none⟩ = some (.int .i64 x) →
   (∀ (j : Nat) (y : Int), (zs.drop k)[j]? = some y → w'.cell? ⟨b2, off2 + (k + 1) + j, none⟩ = some (.int .i64 y)) → (∀ y ∈ zs, oneW (.int .i64 y) = true) →
   Bel (fun b' => b' < w.heap.size ∧ b' ∉ G1 ++ [vb]) w w' ∧ ∃ us Ga Gb, (Value.slice (some ⟨b2, off2, none⟩) (zs.length + 1) c2) = tupV us ∧ OwOut w' [none, none] (K27 [oL 1 (zs.map encI), iI k, oL 1 ([x].map encI)] [.slice A zs.length cap, .int .i64 k, .slice (some ⟨vb, voff, none⟩) 1 vc]) Ga ∧
    ResVs w' (fun b => (b < w.heap.size → X b ∨ b ∈ G1 ++ [vb]) ∧ b ∉ Ga ++ Gb) [rL 1 ((zs.take k ++ [x] ++ zs.drop k).map encI)] us Gb ∧ (Ga ++ Gb).Nodup ∧ ∀ b ∈ Ga ++ Gb, (b ∈ G1 ++ [vb] ∨ w.heap.size ≤ b) ∧ b < w'.heap.size := by
  intro w' b2 off2 c2 row ty hB hb2 hh hc hcl hcb q1 q2 q3 q4
  have hO := ow_ints hh hc (zs := zs.take k ++ [x] ++ zs.drop k) ⟨by omega, by simp only [roomB]; omega, hcb⟩ (fun j y hj => by
   rcases at_mid (A := zs.take k) (k := k) (by simp; omega) hj with ⟨h1, h2⟩ | ⟨rfl, rfl⟩ | ⟨h1, h2⟩
   ·rw [List.getElem?_take, if_pos h1] at h2
    exact ⟨q1 j y h1 h2, q4 y (Kx h2)⟩
   ·exact ⟨q2, hx1.2⟩
   ·have := q3 _ y h2
    rw [show off2 + (k + 1) + (j - (k + 1)) = off2 + j by omega] at this
    rw [List.getElem?_drop] at h2
    exact ⟨this, q4 y (Kx h2)⟩)
  rw [hlen] at hO
  refine ⟨hB, [_], [], [b2], rfl, rfl, ⟨[b2], [], ⟨⟨_, rfl⟩, [b2], [], hO, rfl, rfl⟩, rfl, rfl⟩, by simp, fun b' hb' => ?_⟩
  obtain rfl : b' = b2 := by simpa using hb'
  exact ⟨hb2.imp (fun h => by simp [h]) id, K23 hh⟩
 rcases hv with ⟨rfl, hz0, rfl⟩ | ⟨b, off, row, ty, Gz, rfl, hh, hc, hrow, rfl⟩
 ·obtain rfl : zs = [] := by simpa using hz0
  obtain rfl : k = 0 := by simpa using hk
  refine (Any2.slices_Insert_int_end_grow Tryz.laysNm221 A 0 0 vb voff 1 vc [] [.int .i64 x] w (by omega) (by omega) (by omega) (by omega) rfl rfl (fun _ => rfl) (fun a _ j v hj => by simp at hj) hvs h1v).mono ?_
  rintro e w' ⟨rfl, rfl⟩
  refine fin _ _ _ _ _ _ ⟨rfl, rfl, rfl, by simp, fun b' hb' => ?_⟩ (.inr (Nat.le_refl _)) (heap_alloc_new w.drew _) ?_ (grownCap_ge w _ _ _) ?_ (fun j y hj _ => by omega) ?_ (fun j y hj => by simp at hj) (by simp)
  ·exact Below.heap_alloc w.drew _ b' hb'.1
  ·have := grownCap_ge w (0 + 1) 0 (Tryz.laysNm221_ren.t 3)
   simp [Builtin.zeroCells, Value.cells]
   omega
  ·have := grownCap_le_maxLen w (0 + 1) 0 (Tryz.laysNm221_ren.t 3) (by unfold maxLen; omega)
   unfold maxLen at this
   omega
  ·rw [World.cell?_alloc_at (w := w.drew) _ _ w.heap.size (0 + 0) rfl, Array.getElem?_append_left (by simp)]
   simp
 ·obtain ⟨rfl, hz⟩ := K42 hrow
  have hbs : b < w.heap.size := (hGb b (by simp)).1
  have hvb : vb ≠ b := by
   have := hG
   simp at this
   exact fun e => this e.symm
  have hcz : off + cap ≤ row.size := by simpa using hc
  have hzw : ∀ y ∈ zs, oneW (.int .i64 y) = true := fun y hy => by
   obtain ⟨j, hj⟩ := List.getElem?_of_mem hy
   exact (hz j y hj).2
  have hcl : (zs.map (Value.int .i64)).length = zs.length := by simp
  have hcs : ∀ (j : Nat) (v : Value), (zs.map (Value.int .i64))[j]? = some v → w.cell? ⟨b, off + j, none⟩ = some v := fun j v hj => by
   rw [List.getElem?_map] at hj
   obtain ⟨y, hy, rfl⟩ := Option.map_eq_some_iff.1 hj
   exact (hz j y hy).1
  have h1c : ∀ v ∈ zs.map (Value.int .i64), v.oneCell' = true := fun v hv => by
   obtain ⟨y, _, rfl⟩ := List.mem_map.1 hv
   rfl
  have hsome : ∀ j, j < cap → (w.cell? ⟨b, off + j, none⟩).isSome = true := fun j hj => by
   have : off + j < row.size := by omega
   simp [World.cell?, hh, this]
  have hfz : ∀ j, w.frozen? ⟨b, j, none⟩ = false := fun j => by simp [World.frozen?, hh]
  have hB0 : ∀ (o : Nat) (us : List Value) (w1 : World), Bel (fun b' => b' < w.heap.size ∧ b' ∉ [b] ++ [vb]) w1 (w1.setCells b o us) := fun o us w1 => K4v (by simp) us o w1
  by_cases hkn : k = zs.length
  ·subst hkn
   by_cases hroom : zs.length + 1 ≤ cap
   ·refine (Any2.slices_Insert_int_end_room Tryz.laysNm221 b off zs.length cap vb voff 1 vc [.int .i64 x] w (by omega) hroom hcapB rfl (fun j hj => by rw [Nat.add_assoc]; exact hsome _ (by omega)) (fun j hj => hfz _) hvs h1v).mono ?_
    rintro e w' ⟨rfl, rfl⟩
    obtain ⟨row', hr1, hr2⟩ := K1l [Value.int .i64 x] (off + zs.length) w row hh
    refine fin _ _ _ _ _ _ (hB0 _ _ _) (.inl (by simp)) hr1 (by omega) hroom hcapB (fun j y hj hy => ?_) ?_ (fun j y hj => by simp at hj) hzw
    ·rw [World.cell?_setCells_out b _ _ w _ (fun _ _ => by left; show off + j < off + zs.length; omega)]
     exact (hz j y hy).1
    ·have := World.cell?_setCells_in b [Value.int .i64 x] (off + zs.length) w (fun j hj => by rw [Nat.add_assoc]; exact hsome _ (by simp at hj; omega)) 0 (by simp)
     simpa using this
   ·have hce : cap = zs.length := by have := hln.1; omega
    refine (Any2.slices_Insert_int_end_grow Tryz.laysNm221 (some ⟨b, off, none⟩) zs.length cap vb voff 1 vc (zs.map (Value.int .i64)) [.int .i64 x] w (by omega) hln.1 (by omega) (by omega) hcl rfl (fun h => by cases h) (fun a ha j v hj => by
     obtain rfl := Option.some.inj ha
     rw [Addr.add_lit]; exact hcs j v hj) hvs h1v).mono ?_
    rintro e w' ⟨rfl, rfl⟩
    have hsz2 : ∀ j, j < zs.length + 1 → ((w.drew.alloc (.cells ((zs.map (Value.int .i64) ++ [Value.int .i64 x]).toArray ++ Builtin.zeroCells (Value.int .i64 0).cells (grownCap w (zs.length + 1) cap (Tryz.laysNm221_ren.t 3) - (zs.length + 1))) (Tryz.laysNm221_ren.t 3))).cell? ⟨w.heap.size, 0 + j, none⟩) = (zs.map (Value.int .i64) ++ [Value.int .i64 x])[j]? := fun j hj => by
     rw [World.cell?_alloc_at (w := w.drew) _ _ w.heap.size (0 + j) rfl, Array.getElem?_append_left (by simp; omega)]
     simp
    refine fin _ _ _ _ _ _ ⟨rfl, rfl, rfl, by simp, fun b' hb' => ?_⟩ (.inr (Nat.le_refl _)) (heap_alloc_new w.drew _) ?_ (grownCap_ge w _ _ _) ?_ (fun j y hj hy => ?_) ?_ (fun j y hj => by simp at hj) hzw
    ·exact Below.heap_alloc w.drew _ b' hb'.1
    ·have := grownCap_ge w (zs.length + 1) cap (Tryz.laysNm221_ren.t 3)
     simp [Builtin.zeroCells, Value.cells]
     omega
    ·have := grownCap_le_maxLen w (zs.length + 1) cap (Tryz.laysNm221_ren.t 3) (by unfold maxLen; omega)
     unfold maxLen at this
     omega
    ·rw [hsz2 j (by omega), List.getElem?_append_left (by simp; omega), List.getElem?_map, hy]; rfl
    ·rw [hsz2 _ (by omega), List.getElem?_append_right (by simp)]
     simp
  ·have hkl : k < zs.length := by omega
   have hdl : ((zs.map (Value.int .i64)).drop k).length = zs.length - k := by simp
   by_cases hroom : zs.length + 1 ≤ cap
   ·refine (Any2.slices_Insert_int_shift Tryz.laysNm221 b off zs.length cap k vb voff 1 vc (zs.map (Value.int .i64)) [.int .i64 x] w hkl (by omega) hroom hcapB hvb hcl rfl hcs (fun j hj => hsome j (by omega)) (fun j hj => hfz _) hvs h1c h1v tyv ty rowv.size row.size (by simp [World.shape?, hhv]) (by simp [World.shape?, hh]) (by omega) (by simp [World.frozen?, hhv]) (by simp [World.frozen?, hhv])).mono ?_
    rintro e w' ⟨rfl, rfl⟩
    obtain ⟨row', hr1, hr2⟩ := K1l ((zs.map (Value.int .i64)).drop k) (off + (k + 1)) w.drew row hh
    obtain ⟨row2, hr3, hr4⟩ := K1l [Value.int .i64 x] (off + k) _ row' hr1
    have hs2 : ∀ j, j < cap → ((w.drew.setCells b (off + (k + 1)) ((zs.map (Value.int .i64)).drop k)).cell? ⟨b, off + j, none⟩).isSome = true := fun j hj => by
     have : off + j < row'.size := by omega
     simp [World.cell?, hr1, this]
    refine fin _ _ _ _ _ _ ((Bel.drew (Bel.refl _ w)).trans ((hB0 _ _ _).trans (hB0 _ _ _))) (.inl (by simp)) hr3 (by omega) hroom hcapB (fun j y hj hy => ?_) ?_ (fun j y hj => ?_) hzw
    ·rw [World.cell?_setCells_out b _ _ _ _ (fun _ _ => by left; show off + j < off + k; omega), World.cell?_setCells_out b _ _ _ _ (fun _ _ => by left; show off + j < off + (k + 1); omega)]
     exact (hz j y hy).1
    ·have := World.cell?_setCells_in b [Value.int .i64 x] (off + k) (w.drew.setCells b (off + (k + 1)) ((zs.map (Value.int .i64)).drop k)) (fun j hj => by rw [Nat.add_assoc]; exact hs2 _ (by simp at hj; omega)) 0 (by simp)
     simpa using this
    ·have hjl := Kr hj
     rw [List.length_drop] at hjl
     rw [World.cell?_setCells_out b _ _ _ _ (fun _ _ => by right; show off + k + 1 ≤ off + (k + 1) + j; omega)]
     have := World.cell?_setCells_in b ((zs.map (Value.int .i64)).drop k) (off + (k + 1)) w.drew (fun j hj => by
      rw [hdl] at hj
      have := hsome (k + 1 + j) (by omega)
      rw [Nat.add_assoc]; exact this) j (by rw [hdl]; omega)
     rw [this]
     rw [List.getElem?_drop] at hj
     obtain ⟨hj1, hj2⟩ := List.getElem?_eq_some_iff.1 hj
     simp [← hj2]
   ·refine (Any2.slices_Insert_int_grow Tryz.laysNm221 b off zs.length cap k vb voff 1 vc (zs.map (Value.int .i64)) [.int .i64 x] w hkl (by omega) hln.1 (by omega) (by omega) hcl rfl hcs hvs h1c h1v).mono ?_
    rintro e w' ⟨rfl, rfl⟩
    obtain ⟨g, hg⟩ : ∃ g, g = grownCap w (zs.length + 1) cap (Tryz.laysNm221_ren.t 3) := ⟨_, rfl⟩
    have hg1 : zs.length + 1 ≤ g := hg ▸ grownCap_ge w _ _ _
    have hg2 : g ≤ 9223372036854775807 := by
     have := grownCap_le_maxLen w (zs.length + 1) cap (Tryz.laysNm221_ren.t 3) (by unfold maxLen; omega)
     unfold maxLen at this
     omega
    rw [← hg]
    obtain ⟨ROW, hROW⟩ : ∃ ROW : Array Value, ROW = ((zs.map (Value.int .i64)).take k).toArray ++ Builtin.zeroCells (Value.int .i64 0).cells (zs.length + 1 - k) ++ Builtin.zeroCells (Value.int .i64 0).cells (g - (zs.length + 1)) := ⟨_, rfl⟩
    rw [← hROW]
    have hRs : ROW.size = g := by
     rw [hROW]
     simp [Builtin.zeroCells, Value.cells]
     omega
    obtain ⟨w1, hw1⟩ : ∃ w1, w1 = (w.alloc (.cells ROW (Tryz.laysNm221_ren.t 3))).drew := ⟨_, rfl⟩
    have hh1 : w1.heap[w.heap.size]? = some (.cells ROW (Tryz.laysNm221_ren.t 3) (0, 0)) := by rw [hw1]; exact heap_alloc_new w _
    have hc1 : ∀ j, w1.cell? ⟨w.heap.size, j, none⟩ = ROW[j]? := fun j => by simp [World.cell?, hh1]
    rw [← hw1]
    obtain ⟨row', hr1, hr2⟩ := K1l [Value.int .i64 x] k w1 ROW hh1
    obtain ⟨w2, hw2⟩ : ∃ w2, w2 = (w1.setCells w.heap.size k [Value.int .i64 x]).drew := ⟨_, rfl⟩
    rw [← hw2]
    have hh2 : w2.heap[w.heap.size]? = some (.cells row' (Tryz.laysNm221_ren.t 3) (0, 0)) := by rw [hw2]; exact hr1
    obtain ⟨row2, hr3, hr4⟩ := K1l ((zs.map (Value.int .i64)).drop k) (k + 1) w2 row' hh2
    have hBs : ∀ (o : Nat) (us : List Value) (w3 : World), Bel (fun b' => b' < w.heap.size ∧ b' ∉ [b] ++ [vb]) w3 (w3.setCells w.heap.size o us) := fun o us w3 => K4v (fun h => by have := h.1; omega) us o w3
    have hB1 : Bel (fun b' => b' < w.heap.size ∧ b' ∉ [b] ++ [vb]) w w1 := by
     rw [hw1]
     exact ((Bel.refl _ w).alloc (fun _ h => h.1) _).drew
    have hB2 : Bel (fun b' => b' < w.heap.size ∧ b' ∉ [b] ++ [vb]) w w2 := by
     rw [hw2]
     exact (hB1.trans (hBs _ _ _)).drew
    refine fin _ _ _ _ _ _ (hB2.trans (hBs _ _ _)) (.inr (Nat.le_refl _)) hr3 (by omega) hg1 hg2 (fun j y hj hy => ?_) ?_ (fun j y hj => ?_) hzw
    ·rw [World.cell?_setCells_out _ _ _ _ _ (fun _ _ => by left; show 0 + j < k + 1; omega)]
     have e : w2.cell? ⟨w.heap.size, 0 + j, none⟩ = (w1.setCells w.heap.size k [Value.int .i64 x]).cell? ⟨w.heap.size, 0 + j, none⟩ := by rw [hw2]; rfl
     rw [e, World.cell?_setCells_out _ _ _ _ _ (fun _ _ => by left; show 0 + j < k; omega), hc1, hROW, Nat.zero_add]
     have hjt : j < (List.take k (zs.map (Value.int .i64))).length := by simp; omega
     rw [Array.append_assoc, Array.getElem?_append_left (by simpa using hjt)]
     simp [hj, hy]
    ·rw [World.cell?_setCells_out _ _ _ _ _ (fun _ _ => by left; show 0 + k < k + 1; omega)]
     have e : w2.cell? ⟨w.heap.size, 0 + k, none⟩ = (w1.setCells w.heap.size k [Value.int .i64 x]).cell? ⟨w.heap.size, 0 + k, none⟩ := by rw [hw2]; rfl
     rw [e]
     have := World.cell?_setCells_in w.heap.size [Value.int .i64 x] k w1 (fun j hj => by rw [hc1]; simp at hj; rw [Array.getElem?_eq_getElem (by omega)]; rfl) 0 (by simp)
     simpa using this
    ·have hjl := Kr hj
     rw [List.length_drop] at hjl
     have := World.cell?_setCells_in w.heap.size ((zs.map (Value.int .i64)).drop k) (k + 1) w2 (fun j hj => by
      rw [hdl] at hj
      have h1 : k + 1 + j < row'.size := by omega
      simp [World.cell?, hh2, h1]) j (by rw [hdl]; omega)
     rw [Nat.zero_add, this]
     rw [List.getElem?_drop] at hj
     obtain ⟨hj1, hj2⟩ := List.getElem?_eq_some_iff.1 hj
     simp [← hj2]
def M8p : MC :=
(Zs [.nilo 4 0 1] [0,1] (Zs [.mv 5 (ci 0)] [0,1,5] (.seq (.block 0 (.loop ([0,1,5], [0,1,2]) (.seq (.seq (.reg [Za (mS 6 5), Za (mS 7 0), Za (nS 8 7), Za (bS 9 .lss 6 8), Za (mS 10 9), Zb 10 true (mS 11 0), Zb 10 true (mS 12 5), Zb 10 true (xS 13 1 11 12), Zb 10 true (lF 14 1 13), Zb 10 true (mS 15 1), Zb 10 true (bS 16 .lss 14 15), Za (.pick 17 (.s 10) (.s 16) cF)] [0,1,5,17])
(cX 17 0))
(.block 1 (pr [mS 18 5, bC 19 .add 18 1, mS 5 19] [0,1,5])))))
(.seq (.seq (.reg [Za (mS 20 5), Za (mS 21 0), Za (nS 22 21), Za (bS 23 .lss 20 22), Za (mS 24 23), Zb 24 true (mS 25 0), Zb 24 true (mS 26 5), Zb 24 true (xS 27 1 25 26), Zb 24 true (lF 28 1 27), Zb 24 true (mS 29 1), Zb 24 true (bS 30 .eql 28 29), Za (.pick 31 (.s 24) (.s 30) cF)] [0,1,5,31])
(.cond (.s 31) (Zs [mS 32 0, .call 33 [0] (.f N3) [.s 32], mS 4 33] [4] .ret) .skip))
(Zs [mS 34 0, .call 35 [1] (.f N3) [.s 34], mS 36 5, mS 37 1, .lit 38 2 1 8 [.s 37], .callI 39 [0] (.f N2u) [.s 35, .s 36, .s 38] [1,2] [], mS 4 39] [4] .ret)))))
theorem Cf2 (l : List Int) (n : Int) (hs : l.length ≤ 1073741824) : Ctr Tryz.prog N7a [aL 1 (l.map encI), aI n] [rL 1 ((put l n).map encI)] := by
 refine cA M8p 3 40 [(.tmp 4, [true])] Tryz.func102 rfl rfl ?_; unfold M8p
 intro hb
 clear hb
 simp only [go_sem]
 refine Ko (fun k : Nat => [(5, vI k)]) (fun k => []) (fun k => k ≤ l.length ∧ ∀ x ∈ l.take k, x < n) (fun k => l.length - k) 0 ?_
 simp only [go_sem]
 refine ⟨?_, ⟨by omega, by simp⟩, ?_⟩
 ·simp only [go_sem]
 ·rintro k ⟨hk, hlt⟩
  have hp := K71 hlt
  by_cases hkl : k < l.length
  ·obtain ⟨x, hx⟩ := Kf hkl
   have h1 : (k : Int) < (l.length : Int) := by omega
   have h0 : (0 : Int) ≤ (k : Int) := by omega
   rw [Kn hx, put] at hp
   simp only [go_sem, h1, h0, K6 hx]
   refine ⟨fun hxn => ?_, fun hxn => ?_⟩
   ·refine ⟨k + 1, by rw [wI (by omega) (by omega)]; omega, ⟨by omega, fun y hy => ?_⟩, by omega⟩
    rw [Kc hx] at hy
    rcases List.mem_append.1 hy with hy | hy
    ·exact hlt y hy
    ·rw [List.mem_singleton.1 hy]; exact hxn
   ·rw [if_neg hxn] at hp
    refine ⟨fun he => ?_, fun he => ?_⟩
    ·rw [if_pos (by simpa using he), ← Kn hx, List.take_append_drop] at hp
     rw [hp]
     apply K0 (Cc l hs)
     simp only [go_sem]
    ·rw [if_neg (by simpa using he), ← Kn hx] at hp
     rw [hp]
     apply K0 (Cc l hs)
     simp only [go_sem]
     try intros
     refine ⟨by decide, ?_⟩
     apply K7 (C5l l k n hk hs)
     simp only [go_sem]
     try simp
  ·have h1 : ¬ (k : Int) < (l.length : Int) := by omega
   obtain rfl : k = l.length := by omega
   rw [List.drop_length, List.take_length, put] at hp
   rw [hp]
   simp only [go_sem, h1]
   apply K0 (Cc l hs)
   simp only [go_sem]
   try intros
   refine ⟨by decide, ?_⟩
   apply K7 (C5l l l.length n (Nat.le_refl _) hs)
   simp only [go_sem]
   try simp
def K2u (chosen : List Int) (root : Int) (x : GLibrary) : GLibrary := if chosen.contains x.Id then { x with Digests := put x.Digests root } else x
def tellL (chosen : List Int) (root : Int) (l : List GLibrary) : List GLibrary := l.map (K2u chosen root)
def K3e (d : GDisk) : Int := match d.Containers[d.Containers.length - 1]? with
 | some y => y.Root
 | none => 0
def ups (l : List GLibrary) : List Int := (l.filter fun x => x.Up).map fun x => x.Id
def K2y (a : GArchive) : List GLibrary := if (Ki a.Disk).Containers.length = a.Disk.Containers.length then a.Libraries
 else tellL (placedL (ups a.Libraries) (K3e (Ki a.Disk)) 3) (K3e (Ki a.Disk)) a.Libraries
def K15 (a : GArchive) : GArchive := if K1w a.Disk then { a with Disk := Ki a.Disk, Libraries := K2y a } else a
theorem K93 {chosen : List Int} {root : Int} : ∀ {l : List GLibrary}, ((tellL chosen root l).map GLibrary.size).sum ≤ (l.map GLibrary.size).sum + l.length
 | [] => by simp [tellL]
 | x :: l => by
  have ih := K93 (chosen := chosen) (root := root) (l := l)
  have hx : (K2u chosen root x).size ≤ x.size + 1 := by
   unfold K2u
   split
   ·simp only [GLibrary.size]; exact K8x
   ·omega
  simp only [tellL, List.map_cons, List.sum_cons, List.length_cons] at *
  omega
theorem wrote_size (a : GArchive) : (K15 a).size ≤ 3 * a.size := by
 unfold K15
 split
 ·have h1 := K6k a.Disk
  have h2 : (K2y a).length = a.Libraries.length ∧ ((K2y a).map GLibrary.size).sum ≤ (a.Libraries.map GLibrary.size).sum + a.Libraries.length := by
   unfold K2y
   split
   ·exact ⟨rfl, by omega⟩
   ·exact ⟨by simp [tellL], K93⟩
  simp only [GArchive.size] at *
  omega
 ·omega
theorem K8n (l : List GLibrary) : (ups l).length ≤ l.length := by
 unfold ups; rw [List.length_map]; exact List.length_filter_le _ _
theorem K99 {chosen : List Int} {root : Int} {l : List GLibrary} {k : Nat} {x : GLibrary} (h : l[k]? = some x) : (((tellL chosen root (l.take k)).map GLibrary.enc ++ (l.drop k).map GLibrary.enc).set k (K2u chosen root x).enc) = (tellL chosen root (l.take (k + 1))).map GLibrary.enc ++ (l.drop (k + 1)).map GLibrary.enc := by
 have hl := Kr h
 rw [Kn h, Kc h, tellL, tellL, List.map_append, List.map_append, List.map_cons]
 rw [List.set_append_right _ _ (by simp; omega)]
 simp [K2u, Nat.min_eq_left (Nat.le_of_lt hl)]
theorem K4j {chosen : List Int} {root : Int} {l : List GLibrary} {k : Nat} {x : GLibrary} (h : l[k]? = some x) : ((tellL chosen root (l.take k)).map GLibrary.enc ++ (l.drop k).map GLibrary.enc)[k]? = some x.enc := by
 have hl := Kr h
 rw [List.getElem?_append_right (by simp [tellL]; omega), Kn h]
 simp [tellL, Nat.min_eq_left (Nat.le_of_lt hl)]
theorem K4o {chosen : List Int} {root : Int} {l : List GLibrary} {k : Nat} : ((tellL chosen root (l.take k)).map GLibrary.enc ++ (l.drop k).map GLibrary.enc).length = l.length := by
 simp [tellL]; omega
theorem ups_yes {l : List GLibrary} {k : Nat} {x : GLibrary} (h : l[k]? = some x) (u : x.Up = true) : ups (l.take (k + 1)) = ups (l.take k) ++ [x.Id] := by
 rw [Kc h, ups, List.filter_append, List.map_append]; simp [ups, u]
theorem ups_no {l : List GLibrary} {k : Nat} {x : GLibrary} (h : l[k]? = some x) (u : x.Up = false) : ups (l.take (k + 1)) = ups (l.take k) := by
 rw [Kc h, ups, List.filter_append, List.map_append]; simp [ups, u]
theorem K7o (d : GDisk) : (Ki d).Containers.length = d.Containers.length ∨ (Ki d).Containers.length = d.Containers.length + 1 := by
 unfold Ki
 split
 ·exact .inl rfl
 ·split
  ·exact .inl rfl
  ·split
   ·right; simp
   ·exact .inl rfl
theorem K9b {chosen : List Int} {root : Int} {l : List GLibrary} {k : Nat} {x : GLibrary} (h : l[k]? = some x) (hc : chosen.contains x.Id = false) : (tellL chosen root (l.take k)).map GLibrary.enc ++ (l.drop k).map GLibrary.enc = (tellL chosen root (l.take (k + 1))).map GLibrary.enc ++ (l.drop (k + 1)).map GLibrary.enc := by
 have e : K2u chosen root x = x := by unfold K2u; rw [if_neg (by rw [hc]; simp)]
 rw [Kn h, Kc h]
 simp [tellL, e]
theorem K92 {a : GArchive} {root : Int} (h : K1w a.Disk = true) (h2 : ¬ (Ki a.Disk).Containers.length = a.Disk.Containers.length) (hr : K3e (Ki a.Disk) = root) : K15 a = { a with Disk := Ki a.Disk, Libraries := tellL (placedL (ups a.Libraries) root 3) root a.Libraries } := by
 simp [K15, h, K2y, h2, hr]
def Ma0 : MC :=
(Zs [.box 1 0 (.s 0), .alloc 2 1 [.emp 9, .emp 4, .emp 4, .emp 6, .emp 4, .emp 5, .emp 4, .emp 1, .emp 4, pz], .mv 3 cF] [1,2] (Zs [lT 14 10 1, .call 15 [2, 3, 4, 5, 6, 7, 8, 9, 10] (.f N5t) [.s 14], .alloc 4 11 [.emp 9, .emp 4, .emp 4, .emp 6, .emp 4, .emp 5, .emp 4, .emp 1, .emp 4, pz], sS 10 4 15] [1,2,4] (Zs [fS 17 1 2, lT 18 3 17, .call 19 [12, 13, 14] (.f N90) [.s 18], mS 16 19, .ext 20 (.s 16) 0, .ext 21 (.s 16) 1, .alloc 5 15 [.emp 4, .emp 6, .emp 4], sS 3 5 20, mS 6 21] [1,2,4,5,6] (.seq (Zs [mS 22 6, .un 23 .not (.s 22)] [1,2,4,5,23] (.cond (.s 23) (Zs [lT 24 10 4, sS 10 2 24, .mv 3 cF] [2,3] .ret) .skip))
(Zs [lT 25 3 5, fS 26 4 2, sS 3 26 25] [1,2,4,5] (.seq (Zs [fS 27 5 0, lF 28 1 27, nS 29 28, fS 30 1 2, fS 31 30 0, lF 32 1 31, nS 33 32, bS 34 .eql 29 33] [1,2,4,5,34] (.cond (.s 34) (Zs [lT 35 10 4, sS 10 2 35, .mv 3 cT] [2,3] .ret) .skip))
(Zs [fS 36 5 0, lF 37 1 36, fS 38 5 0, lF 39 1 38, nS 40 39, bC 41 .sub 40 1, xS 42 4 37 41, fS 43 42 3, lF 44 1 43, mS 7 44] [1,2,4,7] (Zs [.nilo 8 16 1] [1,2,4,7,8] (.seq (Zs [fS 45 1 6, lF 46 1 45, nS 47 46, .mv 48 (ci 0)] [2,4,7,8,46,47,48] (.block 0 (.loop ([2,4,7,8,46,47,48], [0,15,17,18,19,20,21]) (Zs [bS 49 .lss 48 47] [2,4,7,8,46,47,48,49] (.seq (cX 49 0)
(.seq (.block 1 (Zs [xS 50 4 46 48, lT 51 4 50, .alloc 10 17 [pz, .emp 1, .pl (.sc (.bool false)), .pl (.sc (.bool false))], sS 4 10 51] [2,4,7,8,10,46,47,48] (Zs [fS 52 10 2, lF 53 1 52] [2,4,7,8,10,46,47,48,53] (.cond (.s 53) (pr [mS 54 8, fS 55 10 0, lF 56 1 55, .lit 57 18 1 8 [.s 56], .app 58 16 1 8 (.s 54) (.s 57), mS 8 58] [2,4,7,8,46,47,48]) .skip))))
(pr [bC 59 .add 48 1, mS 48 59] [2,4,7,8,46,47,48])))))))
(Zs [mS 60 8, mS 61 7, .call 62 [19] (.f N5u) [.s 60, .s 61, .c (.int .i64 3)], mS 11 62] [2,4,7,11] (.seq (Zs [fS 63 4 6, lF 64 1 63, nS 65 64, .mv 66 (ci 0)] [2,4,7,11,64,65,66] (.block 2 (.loop ([2,4,7,11,64,65,66], [0,15,16,17,18,20,21]) (Zs [bS 67 .lss 66 65] [2,4,7,11,64,65,66,67] (.seq (cX 67 2)
(.seq (.block 3 (Zs [mS 68 66, xS 69 4 64 66, lT 70 4 69, .alloc 13 20 [pz, .emp 1, .pl (.sc (.bool false)), .pl (.sc (.bool false))], mS 12 68, sS 4 13 70] [2,4,7,11,12,13,64,65,66] (Zs [mS 71 11, fS 72 13 0, lF 73 1 72, .call 74 [] (.f N19) [.s 71, .s 73]] [2,4,7,11,12,13,64,65,66,74] (.cond (.s 74) (.dreg [Zf [77,78,79,80,81] [21] (fS 75 4 6), Zg [77,78,79,80,81] [21] [0] (lF 76 1 75), Zf [75,76,78,79,80,81] [21] (mS 77 12), Zc [75,76,77,80] (fS 78 13 1), Zd [75,76,77,80] [3] (lF 79 1 78), Zc [75,76,77,78,79] (mS 80 7), { o := .call 81 [21] (.f N7a) [.s 79, .s 80], hs := [75,76,77], ws := [21], bf := [3,4,5] }, Ze (.range 7) (xS 82 4 76 77), Ze (.range 8) (fS 83 82 1), { o := sS 1 83 81, ws := [8,21], bf := (.range 9) }] [2,4,7,11,64,65,66]) .skip))))
(pr [bC 84 .add 66 1, mS 66 84] [2,4,7,11,64,65,66])))))))
(Zs [lT 85 10 4, sS 10 2 85, .mv 3 cT] [2,3] .ret))))))))))))
set_option maxHeartbeats 2000000 in
theorem Ca1 (a : GArchive) (hs : a.size ≤ 268435456) : Ctr Tryz.prog N3c [aS a.enc] [rS (K15 a).enc, rB (K1w a.Disk)] := by
 refine cA Ma0 22 86 [(.cell 2 true 10, [true, true, true, true, true, true, true, true, true, false]), (.tmp 3, [false])] Tryz.func27 rfl rfl ?_; unfold Ma0
 intro hb
 clear hb
 have hlib : a.Libraries.length ≤ 268435456 := by simp only [GArchive.size] at hs; omega
 simp only [go_sem]
 apply K0 (Ce6 a (by omega))
 simp only [go_sem]
 intros
 apply K0 (Cfr a.Disk (by simp only [GArchive.size] at hs; omega))
 simp only [go_sem]
 intro hbd
 clear hbd
 refine ⟨fun hno => ?_, fun hyes => ⟨fun hsame => ?_, fun hmore => ?_⟩⟩
 ·simp [K15, hno]
 ·have hs' : (Ki a.Disk).Containers.length = a.Disk.Containers.length := by omega
  simp [K15, hyes, K2y, hs']
 ·have hm' : ¬ (Ki a.Disk).Containers.length = a.Disk.Containers.length := by omega
  have hnl := K7o a.Disk
  have hns := K6k a.Disk
  have hdl : (Ki a.Disk).Containers.length ≤ 536870912 := by simp only [GArchive.size, GDisk.size] at *; omega
  obtain ⟨y, hy⟩ := Kf (l := (Ki a.Disk).Containers) (k := (Ki a.Disk).Containers.length - 1) (by omega)
  have e1 : IntKind.i64.wrap (((Ki a.Disk).Containers.length : Int) - 1) = (((Ki a.Disk).Containers.length - 1 : Nat) : Int) := by rw [wI (by omega) (by omega)]; omega
  have hroot : K3e (Ki a.Disk) = y.Root := by unfold K3e; rw [hy]
  have hW := K92 hyes hm' hroot
  rw [hW, hyes]
  generalize Ki a.Disk = D at *
  rw [e1, Int.toNat_natCast, hy]
  refine ⟨⟨by omega, by omega⟩, ?_⟩
  simp only [go_sem]
  refine K5 a.Libraries (fun k => [(8, .val false [.ref 16 0 1 0 (ups (a.Libraries.take k)).length]), (48, vI k)]) (fun k => [(16, ⟨0, .row true 1 ((ups (a.Libraries.take k)).map encI)⟩)]) (fun _ => True) (by simp only [roomB]; omega) ?_
  simp only [go_sem]
  refine ⟨?_, trivial, ?_, ?_⟩
  ·simp only [go_sem, List.take_zero]
   exact ⟨rfl, rfl⟩
  ·intro k x hx _ h0 h1 hw
   have hul := K8n (a.Libraries.take k)
   have hkl : (a.Libraries.take k).length ≤ a.Libraries.length := by rw [List.length_take]; omega
   simp only [go_sem, K6 hx, h0, h1, hw]
   refine ⟨fun u => ?_, fun u => ?_⟩
   ·rw [ups_yes hx u]
    simp only [roomB]
    simp [encI]
    omega
   ·rw [ups_no hx u]
    exact ⟨rfl, rfl⟩
  ·intro _
   have hul := K8n a.Libraries
   simp only [go_sem, List.take_length]
   apply K0 (Cec (ups a.Libraries) y.Root 3 (by omega))
   simp only [go_sem]
   intros
   refine K5 a.Libraries (fun k => [(66, vI k)]) (fun k => [(8, ⟨0, .row true 4 ((tellL (placedL (ups a.Libraries) y.Root 3) y.Root (a.Libraries.take k)).map GLibrary.enc ++ (a.Libraries.drop k).map GLibrary.enc)⟩)]) (fun _ => True) (by simp only [roomB]; omega) ?_
   simp only [go_sem]
   refine ⟨?_, trivial, ?_, ?_⟩
   ·simp only [go_sem, List.take_zero, List.drop_zero]
    simp [tellL]
   ·intro k x hx _ h0 h1 hw
    have hxl := K14 (f := GLibrary.size) (Kx hx)
    have hxd : x.Digests.length ≤ 268435456 := by simp only [GLibrary.size] at hxl; simp only [GArchive.size] at hs; omega
    have hst := K99 (chosen := placedL (ups a.Libraries) y.Root 3) (root := y.Root) hx
    simp only [go_sem, K4o, K6 (K4j hx), h0, h1]
    apply K0 (Cet (placedL (ups a.Libraries) y.Root 3) x.Id)
    simp only [go_sem, hw]
    refine ⟨fun hc => ?_, fun hc => ?_⟩
    ·have ex : K2u (placedL (ups a.Libraries) y.Root 3) y.Root x = { x with Digests := put x.Digests y.Root } := by unfold K2u; rw [if_pos hc]
     rw [ex] at hst
     apply K0 (Cf2 x.Digests y.Root (by omega))
     simp only [go_sem, K4o, K6 (K4j hx), h0, h1, hw]
     intro _
     exact hst
    ·exact K9b (root := y.Root) hx hc
   ·intro _
    simp only [go_sem, List.take_length, List.drop_length]
    simp [tellL]
def Ma2 : MC :=
(Zs [.box 1 0 (.s 0), .alloc 2 1 [.emp 9, .emp 4, .emp 4, .emp 6, .emp 4, .emp 5, .emp 4, .emp 1, .emp 4, pz], .mv 3 cF] [1,2] (Zs [lT 10 10 1, .call 11 [2, 3, 4, 5, 6, 7, 8, 9, 10] (.f Nb3) [.s 10], .alloc 4 11 [.emp 9, .emp 4, .emp 4, .emp 6, .emp 4, .emp 5, .emp 4, .emp 1, .emp 4, pz], sS 10 4 11] [1,2,4] (Zs [fS 13 1 2, lT 14 3 13, .call 15 [12, 13, 14] (.f N8z) [.s 14], mS 12 15, .ext 16 (.s 12) 0, .ext 17 (.s 12) 1, .alloc 5 15 [.emp 4, .emp 6, .emp 4], sS 3 5 16, mS 6 17] [1,2,4,5,6] (.seq (Zs [mS 18 6, .un 19 .not (.s 18)] [1,2,4,5,19] (.cond (.s 19) (Zs [lT 20 10 4, sS 10 2 20, .mv 3 cF] [2,3] .ret) .skip))
(Zs [lT 21 3 5, fS 22 4 2, sS 3 22 21] [1,2,4,5] (.seq (Zs [fS 23 5 0, lF 24 1 23, nS 25 24, fS 26 1 2, fS 27 26 0, lF 28 1 27, nS 29 28, bS 30 .gtr 25 29] [1,2,4,5,30] (.cond (.s 30) (Zs [fS 31 5 0, lF 32 1 31, fS 33 5 0, lF 34 1 33, nS 35 34, bC 36 .sub 35 1, xS 37 4 32 36, fS 38 37 3, lF 39 1 38, mS 7 39] [1,2,4,7] (Zs [fS 40 1 6, lF 41 1 40, .call 42 [16] (.f Ndi) [.s 41], mS 43 7, .call 44 [17] (.f N5s) [.s 42, .s 43, .c (.int .i64 3)], mS 8 44] [2,4,7,8] (Zs [.mv 9 (ci 0)] [2,4,7,8,9] (.block 0 (.loop ([2,4,7,8,9], [0,15,16,18]) (.seq (Zs [mS 45 9, fS 46 4 6, lF 47 1 46, nS 48 47, bS 49 .lss 45 48] [2,4,7,8,9,49] (cX 49 0))
(.seq (.block 1 (Zs [mS 52 8, fS 53 4 6, lF 54 1 53, mS 55 9, xS 56 4 54 55, fS 57 56 0, lF 58 1 57, .call 59 [] (.f N6x) [.s 52, .s 58]] [2,4,7,8,9,59] (.cond (.s 59) (.dreg [Zf [62,63,64,65,66,67,68,69,70] [18] (fS 60 4 6), Zg [62,63,64,65,66,67,68,69,70] [18] [0] (lF 61 1 60), Zf [60,61,63,64,65,66,67,68,69,70] [18] (mS 62 9), Zc [60,61,62,65,69] (fS 63 4 6), Zd [60,61,62,65,69] [3] (lF 64 1 63), Zc [60,61,62,63,64,69] (mS 65 9), Zd [60,61,62,69] [3,4,5] (xS 66 4 64 65), Zd [60,61,62,69] [3,4,5,6] (fS 67 66 1), Zd [60,61,62,69] [3,4,5,6,7] (lF 68 1 67), Zc [60,61,62,63,64,65,66,67,68] (mS 69 7), { o := .call 70 [18] (.f Ndj) [.s 68, .s 69], hs := [60,61,62], ws := [18], bf := [3,4,5,6,7,8,9] }, Ze (.range 11) (xS 71 4 61 62), Ze (.range 12) (fS 72 71 1), { o := sS 1 72 70, ws := [8,18], bf := (.range 13) }] [2,4,7,8,9]) .skip)))
(pr [mS 50 9, bC 51 .add 50 1, mS 9 51] [2,4,7,8,9])))))))) .skip))
(Zs [lT 73 10 4, sS 10 2 73, .mv 3 cT] [2,3] .ret)))))))
set_option maxHeartbeats 2000000 in
theorem Cfv (a : GArchive) (hs : a.size ≤ 268435456) : Ctr Tryz.prog N8v [aS a.enc] [rS (K15 a).enc, rB (K1w a.Disk)] := by
 refine cA Ma2 19 74 [(.cell 2 true 10, [true, true, true, true, true, true, true, true, true, false]), (.tmp 3, [false])] Tryz.func26 rfl rfl ?_; unfold Ma2
 intro hb
 clear hb
 have hlib : a.Libraries.length ≤ 268435456 := by simp only [GArchive.size] at hs; omega
 simp only [go_sem]
 apply K0 (Cgl a (by omega))
 simp only [go_sem]
 intros
 apply K0 (Cfs a.Disk (by simp only [GArchive.size] at hs; omega))
 simp only [go_sem]
 intro hbd
 clear hbd
 refine ⟨fun hno => ?_, fun hyes => ⟨fun hmore => ?_, fun hsame => ?_⟩⟩
 ·simp [K15, hno]
 ·have hm' : ¬ (Ki a.Disk).Containers.length = a.Disk.Containers.length := by omega
  have hnl := K7o a.Disk
  have hns := K6k a.Disk
  have hdl : (Ki a.Disk).Containers.length ≤ 536870912 := by simp only [GArchive.size, GDisk.size] at *; omega
  obtain ⟨y, hy⟩ := Kf (l := (Ki a.Disk).Containers) (k := (Ki a.Disk).Containers.length - 1) (by omega)
  have e1 : IntKind.i64.wrap (((Ki a.Disk).Containers.length : Int) - 1) = (((Ki a.Disk).Containers.length - 1 : Nat) : Int) := by rw [wI (by omega) (by omega)]; omega
  have hroot : K3e (Ki a.Disk) = y.Root := by unfold K3e; rw [hy]
  have hW := K92 hyes hm' hroot
  rw [hW, hyes]
  generalize Ki a.Disk = D at *
  rw [e1, Int.toNat_natCast, hy]
  refine ⟨⟨by omega, by omega⟩, ?_⟩
  simp only [go_sem]
  have hul := K8n a.Libraries
  apply K0 (Cgt a.Libraries (by omega))
  simp only [go_sem]
  intros
  apply K0 (Ced (ups a.Libraries) y.Root 3 (by omega))
  simp only [go_sem]
  intros
  refine K5 a.Libraries (fun k => [(9, vI k)]) (fun k => [(8, ⟨0, .row true 4 ((tellL (placedL (ups a.Libraries) y.Root 3) y.Root (a.Libraries.take k)).map GLibrary.enc ++ (a.Libraries.drop k).map GLibrary.enc)⟩)]) (fun _ => True) (by simp only [roomB]; omega) ?_
  simp only [go_sem]
  refine ⟨?_, trivial, ?_, ?_⟩
  ·simp only [go_sem, List.take_zero, List.drop_zero]
   simp [tellL]
  ·intro k x hx _ h0 h1 hw
   have hxl := K14 (f := GLibrary.size) (Kx hx)
   have hxd : x.Digests.length ≤ 268435456 := by simp only [GLibrary.size] at hxl; simp only [GArchive.size] at hs; omega
   have hst := K99 (chosen := placedL (ups a.Libraries) y.Root 3) (root := y.Root) hx
   simp only [go_sem, K4o, K6 (K4j hx), h0, h1]
   apply K0 (Ccr (placedL (ups a.Libraries) y.Root 3) x.Id)
   simp only [go_sem, K4o, K6 (K4j hx), h0, h1, hw]
   refine ⟨fun hc => ?_, fun hc => ?_⟩
   ·have ex : K2u (placedL (ups a.Libraries) y.Root 3) y.Root x = { x with Digests := put x.Digests y.Root } := by unfold K2u; rw [if_pos hc]
    rw [ex] at hst
    apply K0 (Cgv x.Digests y.Root (by omega))
    simp only [go_sem, K4o, K6 (K4j hx), h0, h1, hw]
    intro _
    exact hst
   ·exact K9b (root := y.Root) hx hc
  ·intro _
   simp only [go_sem, List.take_length, List.drop_length]
   simp [tellL]
 ·have hnl := K7o a.Disk
  have hs' : (Ki a.Disk).Containers.length = a.Disk.Containers.length := by omega
  simp [K15, hyes, K2y, hs']
def M2w : MC :=
(Zs [.box 1 0 (.s 0), .mv 2 cF] [1] (Zs [.mv 3 (ci 1048576)] [1,3] (Zs [lT 14 10 1, mS 15 3, .call 16 [] (.f N8u) [.s 14, .s 15], mS 3 16] [1,3] (.seq (Zs [mS 17 3, bC 18 .lss 17 0] [1,18] (.cond (.s 18) (Zs [.mv 2 cT] [2] .ret) .skip))
(Zs [lT 20 10 1, .call 21 [1, 2, 3, 4, 5, 6, 7, 8, 9] (.f N1h) [.s 20], .call 22 [10, 11, 12, 13, 14, 15, 16, 17, 18] (.f N8v) [.s 21], mS 19 22, .ext 23 (.s 19) 0, .ext 24 (.s 19) 1, .alloc 4 19 [.emp 9, .emp 4, .emp 4, .emp 6, .emp 4, .emp 5, .emp 4, .emp 1, .emp 4, pz], sS 10 4 23, mS 5 24] [1,4,5] (Zs [lT 25 10 1, .call 26 [20, 21, 22, 23, 24, 25, 26, 27, 28] (.f N1h) [.s 25], .alloc 6 29 [.emp 9, .emp 4, .emp 4, .emp 6, .emp 4, .emp 5, .emp 4, .emp 1, .emp 4, pz], sS 10 6 26] [1,4,5,6] (Zs [lT 28 10 6, .call 29 [30, 31, 32, 33, 34, 35, 36, 37, 38] (.f N3c) [.s 28], mS 27 29, .ext 30 (.s 27) 0, .ext 31 (.s 27) 1, .alloc 7 39 [.emp 9, .emp 4, .emp 4, .emp 6, .emp 4, .emp 5, .emp 4, .emp 1, .emp 4, pz], sS 10 7 30, mS 8 31] [1,4,5,6,7,8] (.seq (.seq (.reg [Za (lT 32 10 7), Za (lT 33 10 4), Za (.call 34 [] (.f N1i) [.s 32, .s 33]), Za (.un 35 .not (.s 34)), Za (mS 36 35), Zb 36 false (mS 37 8), Zb 36 false (mS 38 5), Zb 36 false (.bin 39 true .neq (.s 37) (.s 38)), Za (.pick 40 (.s 36) cT (.s 39))] [1,4,5,6,7,8,40])
(.cond (.s 40) (Zs [.mv 2 cF] [2] .ret) .skip))
(.seq (.seq (.dreg [Zf [42,43] [40,41,42,43,44,45,46,47,48] (lT 41 10 6), Zc [41] (lT 42 10 1), { o := .call 43 [40, 41, 42, 43, 44, 45, 46, 47, 48] (.f N1h) [.s 42], hs := [41], ws := [40,41,42,43,44,45,46,47,48], bf := [1] }, Ze [0,1,2] (.call 44 [] (.f N1i) [.s 41, .s 43]), Ze (.range 4) (.un 45 .not (.s 44))] [1,4,5,6,7,8,45])
(.cond (.s 45) (Zs [.mv 2 cF] [2] .ret) .skip))
(Zs [.mv 9 (ci 1)] [1,4,5,6,7,8,9] (Zs [lT 46 10 6, mS 47 9, .callI 48 [] (.f N2p) [.s 46, .s 47] [20,21,22,23,24,25,26,27,28] [], mS 9 48] [1,4,5,7,8,9] (.seq (.seq (.reg [Za (mS 49 9), Za (bC 50 .lss 49 0), Za (mS 51 50), Zb 51 false (lT 52 10 7), Zb 51 false (lT 53 10 4), Zb 51 false (.call 54 [] (.f N1i) [.s 52, .s 53]), Zb 51 false (.un 55 .not (.s 54)), Za (.pick 56 (.s 51) cT (.s 55)), Za (mS 57 56), Zb 57 false (mS 58 8), Zb 57 false (mS 59 5), Zb 57 false (.bin 60 true .neq (.s 58) (.s 59)), Za (.pick 61 (.s 57) cT (.s 60))] [1,4,5,7,61])
(.cond (.s 61) (Zs [.mv 2 cF] [2] .ret) .skip))
(Zs [.mv 10 (ci 1)] [1,4,5,7,10] (Zs [lT 62 10 7, mS 63 10, .callI 64 [] (.f N2p) [.s 62, .s 63] [30,31,32,33,34,35,36,37,38] [], mS 10 64] [1,4,5,7,10] (Zs [.mv 11 (ci 1)] [1,4,5,7,10,11] (Zs [lT 65 10 7, mS 66 11, .call 67 [] (.f N2q) [.s 65, .s 66], mS 11 67] [1,4,5,7,10,11] (.seq (Zs [mS 68 11, bC 69 .lss 68 0] [1,4,5,7,10,11,69] (.cond (.s 69) (Zs [.mv 2 cF] [2] .ret) .skip))
(.seq (Zs [mS 70 11, mS 71 10, bS 72 .neq 70 71] [1,4,5,7,10,72] (.cond (.s 72) (Zs [.mv 2 cF] [2] .ret) .skip))
(Zs [lT 74 10 1, .call 75 [49, 50, 51, 52, 53, 54, 55, 56, 57] (.f N1h) [.s 74], .call 76 [58, 59, 60, 61, 62, 63, 64, 65, 66] (.f N3c) [.s 75], mS 73 76, .ext 77 (.s 73) 0, .ext 78 (.s 73) 1, .alloc 12 67 [.emp 9, .emp 4, .emp 4, .emp 6, .emp 4, .emp 5, .emp 4, .emp 1, .emp 4, pz], sS 10 12 77, mS 13 78] [4,5,7,10,12,13] (.seq (.seq (.reg [Za (lT 79 10 12), Za (lT 80 10 4), Za (.call 81 [] (.f N1i) [.s 79, .s 80]), Za (.un 82 .not (.s 81)), Za (mS 83 82), Zb 83 false (mS 84 13), Zb 83 false (mS 85 5), Zb 83 false (.bin 86 true .neq (.s 84) (.s 85)), Za (.pick 87 (.s 83) cT (.s 86))] [7,10,87])
(.cond (.s 87) (Zs [.mv 2 cF] [2] .ret) .skip))
(Zs [.mv 11 (ci 1)] [7,10,11] (Zs [lT 88 10 7, mS 89 11, .call 90 [] (.f N2q) [.s 88, .s 89], mS 11 90] [10,11] (.seq (Zs [mS 91 11, bC 92 .lss 91 0] [10,11,92] (.cond (.s 92) (Zs [.mv 2 cF] [2] .ret) .skip))
(.seq (Zs [mS 93 11, mS 94 10, bS 95 .neq 93 94] [95] (.cond (.s 95) (Zs [.mv 2 cF] [2] .ret) .skip))
(Zs [.mv 2 cT] [2] .ret)))))))))))))))))))))))))
theorem c_laws_FnExactStepWrite (a : GArchive) : Ctr Tryz.prog Na3 [aS a.enc] [rB true] := by
 refine cA M2w 68 96 [(.tmp 2, [false])] Tryz.func6 rfl rfl ?_; unfold M2w
 intro hb
 clear hb
 simp only [go_sem]
 apply K0 (Cfp a _ (by omega))
 simp only [go_sem]
 intro _ hz
 have hs := szr_ok hz
 have hc_a := GArchive.cts_le a
 have hr0 := GArchive.cts_le (K15 a)
 have hl_wrote_size := wrote_size a
 apply K0 (C24 a (by omega))
 simp only [go_sem]
 try intros
 apply K0 (Cfv a (by omega))
 simp only [go_sem]
 try intros
 apply K0 (C24 a (by omega))
 simp only [go_sem]
 try intros
 apply K0 (Ca1 a (by omega))
 simp only [go_sem]
 try intros
 apply K0 (C25 (K15 a) (K15 a))
 simp only [go_sem]
 try intros
 apply K0 (C24 a (by omega))
 simp only [go_sem]
 try intros
 apply K0 (C25 a a)
 simp only [go_sem]
 try intros
 apply K7 (C6g a (1) (by omega) (by omega))
 simp only [go_sem]
 try intros
 have hk : ¬ ((1 + ((a).cts : Nat) : Int)) < 0 := by omega
 simp only [go_sem, hk]
 try intros
 apply K0 (C25 (K15 a) (K15 a))
 simp only [go_sem]
 try intros
 apply K7 (C6g (K15 a) (1) (by omega) (by omega))
 simp only [go_sem]
 try intros
 apply K0 (C6i (K15 a) (1) (by omega) (by omega))
 simp only [go_sem]
 have hq0 : ¬ ((1 + ((K15 a).cts : Nat) : Int)) < 0 := by omega
 try simp only [go_sem, hq0]
 try intros
 apply K0 (C24 a (by omega))
 simp only [go_sem]
 try intros
 apply K0 (Ca1 a (by omega))
 simp only [go_sem]
 try intros
 apply K0 (C25 (K15 a) (K15 a))
 simp only [go_sem]
 try intros
 apply K0 (C6i (K15 a) (1) (by omega) (by omega))
 simp only [go_sem]
 have hq0 : ¬ ((1 + ((K15 a).cts : Nat) : Int)) < 0 := by omega
 try simp only [go_sem, hq0]
 try intros
end Go.Proofs.YtgkeplbnnjogiaaGreatR
