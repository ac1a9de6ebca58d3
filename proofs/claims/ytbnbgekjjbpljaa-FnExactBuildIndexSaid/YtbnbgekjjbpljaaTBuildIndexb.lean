/- What the functions compute that the law of BuildIndex reaches: contracts, function by function. Conditions stand in each theorem. -/
import Derived.Test.YtbnbgekjjbpljaaTBuildIndexa
namespace Go.Proofs.YtbnbgekjjbpljaaR
open Go Go.RowKit Go.Proofs
set_option linter.unusedSimpArgs false
set_option linter.unusedVariables false
namespace Srt
variable {α : Type} {lt : α → α → Bool}
theorem srt_at {l : List α} (h : srt lt l) {i j : Nat} {x y : α} (hi : l[i]? = some x) (hj : l[j]? = some y) (hij : i < j) : lt y x = false := by
  obtain ⟨h1, rfl⟩ := List.getElem?_eq_some_iff.1 hi
  obtain ⟨h2, rfl⟩ := List.getElem?_eq_some_iff.1 hj
  exact (List.pairwise_iff_getElem.1 h) i j h1 h2 hij
theorem srt_at_le (hw : Swo lt) {l : List α} (h : srt lt l) {i j : Nat} {x y : α} (hi : l[i]? = some x) (hj : l[j]? = some y) (hij : i ≤ j) : lt y x = false := by
  rcases Nat.lt_or_eq_of_le hij with k | rfl
  · exact srt_at h hi hj k
  · obtain rfl := Option.some.inj (hi.symm.trans hj)
    exact hw.irr x
theorem mem_take_at {l : List α} {u : Nat} {x : α} (h : x ∈ l.take u) : ∃ i, i < u ∧ l[i]? = some x := by
  obtain ⟨i, hi⟩ := List.mem_iff_getElem?.1 h
  rw [List.getElem?_take] at hi
  split at hi
  · exact ⟨i, by assumption, hi⟩
  · cases hi
theorem mem_drop_at {l : List α} {u : Nat} {x : α} (h : x ∈ l.drop u) : ∃ i, u ≤ i ∧ l[i]? = some x := by
  obtain ⟨i, hi⟩ := List.mem_iff_getElem?.1 h
  rw [List.getElem?_drop] at hi
  exact ⟨u + i, by omega, hi⟩
theorem head_drop_at {l : List α} {u : Nat} {x : α} (h : x ∈ (l.drop u).head?) : l[u]? = some x := by
  rw [List.head?_drop] at h
  exact h
theorem mrg_sym (hw : Swo lt) {X Y : List α} (hX : srt lt X) (hY : srt lt Y) {u M : Nat} (huX : u ≤ X.length) (huM : u ≤ M)
    (h1 : u = 0 ∨ Y.length ≤ M - u ∨ ∃ y x, Y[M - u]? = some y ∧ X[u - 1]? = some x ∧ lt y x = false)
    (h2 : u = M ∨ u = X.length ∨ ∃ y x, Y[M - 1 - u]? = some y ∧ X[u]? = some x ∧ lt y x = true) :
    mrg lt X Y = mrg lt (X.take u) (Y.take (M - u)) ++ mrg lt (X.drop u) (Y.drop (M - u)) := by
  conv => lhs; rw [← List.take_append_drop u X, ← List.take_append_drop (M - u) Y]
  refine mrg_split ?_ ?_ ?_
  · intro b hb a ha
    obtain ⟨i, hi, eb⟩ := mem_take_at hb
    have ea := head_drop_at ha
    have hlt := len_at ea
    rcases h2 with h2 | h2 | ⟨y, x, e1, e2, h2⟩
    · omega
    · omega
    · obtain rfl := Option.some.inj (e2.symm.trans ea)
      exact hw.fl (srt_at_le hw hY eb e1 (by omega)) h2
  · intro b hb a ha
    obtain ⟨i, hi, eb⟩ := mem_drop_at hb
    obtain ⟨k, hk, ea⟩ := mem_take_at ha
    have hlt := len_at eb
    rcases h1 with h1 | h1 | ⟨y, x, e1, e2, h1⟩
    · omega
    · omega
    · have p1 := srt_at_le hw hY e1 eb (by omega)
      have p2 := srt_at_le hw hX ea e2 (by omega)
      exact hw.ntr (hw.ntr p1 h1) p2
  · intro b hb a ha
    obtain ⟨i, hi, eb⟩ := mem_drop_at hb
    obtain ⟨k, hk, ea⟩ := mem_take_at ha
    exact srt_at hY ea eb (by omega)
theorem mrg_one (hw : Swo lt) {x : α} {Y : List α} (hY : srt lt Y) {u : Nat} (h1 : ∀ y ∈ Y.take u, lt y x = true) (h2 : ∀ y ∈ Y.drop u, lt y x = false) : mrg lt [x] Y = Y.take u ++ x :: Y.drop u := by
  have e := mrg_split (lt := lt) (A1 := []) (A2 := [x]) (B1 := Y.take u) (B2 := Y.drop u) (by simpa using h1) (by simp) (by
    intro b hb a ha
    obtain ⟨i, hi, eb⟩ := mem_drop_at hb
    obtain ⟨k, hk, ea⟩ := mem_take_at ha
    exact srt_at hY ea eb (by omega))
  rw [List.take_append_drop, List.nil_append] at e
  rw [e, mrg_nil_srt hw (srt_append.1 ((List.take_append_drop u Y).symm ▸ hY)).1]
  have e2 := mrg_right (lt := lt) (A1 := [x]) (A2 := []) (B := Y.drop u) (by simpa using h2)
  rw [List.append_nil] at e2
  rw [e2, mrg_nil_srt hw (srt_append.1 ((List.take_append_drop u Y).symm ▸ hY)).2.1]
  rfl
theorem mrg_last {y : α} {X : List α} {u : Nat} (h1 : ∀ z ∈ X.take u, lt y z = false) (h2 : ∀ z ∈ X.drop u, lt y z = true) : mrg lt X [y] = X.take u ++ y :: X.drop u := by
  have := ins_mid (lt := lt) (x := y) h1 (fun z hz => h2 z (List.mem_of_mem_head? hz))
  rw [List.take_append_drop] at this
  exact this
theorem lo_of (hw : Swo lt) {Y : List α} (hY : srt lt Y) {w : Nat} {x y : α} (e : Y[w]? = some y) (h : lt y x = true) : ∀ z ∈ Y.take (w + 1), lt z x = true := fun z hz => by
  obtain ⟨i, hi, ez⟩ := mem_take_at hz
  exact hw.fl (srt_at_le hw hY ez e (by omega)) h
theorem hi_of (hw : Swo lt) {Y : List α} (hY : srt lt Y) {w : Nat} {x y : α} (e : Y[w]? = some y) (h : lt y x = false) : ∀ z ∈ Y.drop w, lt z x = false := fun z hz => by
  obtain ⟨i, hi, ez⟩ := mem_drop_at hz
  exact hw.ntr (srt_at_le hw hY e ez hi) h
theorem lo_of' (hw : Swo lt) {X : List α} (hX : srt lt X) {w : Nat} {x y : α} (e : X[w]? = some x) (h : lt y x = false) : ∀ z ∈ X.take (w + 1), lt y z = false := fun z hz => by
  obtain ⟨i, hi, ez⟩ := mem_take_at hz
  exact hw.ntr h (srt_at_le hw hX ez e (by omega))
theorem hi_of' (hw : Swo lt) {X : List α} (hX : srt lt X) {w : Nat} {x y : α} (e : X[w]? = some x) (h : lt y x = true) : ∀ z ∈ X.drop w, lt y z = true := fun z hz => by
  obtain ⟨i, hi, ez⟩ := mem_drop_at hz
  exact hw.lf h (srt_at_le hw hX e ez hi)
end Srt
theorem shr1 {k : Int} : (if (1 : Int) < 0 then none else some (Value.int IntKind.u64 (k.fdiv (2 ^ min (Int.toNat 1) 64)))) = some (Value.int IntKind.u64 (k.fdiv 2)) := by rw [if_neg (by decide)]; rfl
theorem u64_wrap {n : Int} (h1 : 0 ≤ n) (h2 : n ≤ 9223372036854775807) : IntKind.u64.wrap n = n := by
  simp only [IntKind.wrap, IntKind.signed, IntKind.bits, Bool.false_and, Bool.false_eq_true, if_false]
  omega
theorem half_of {i j : Nat} (h : i + j ≤ 9223372036854775807) : (IntKind.u64.wrap (IntKind.i64.wrap ((i : Int) + (j : Int)))).fdiv 2 = (((i + j) / 2 : Nat) : Int) := by
  rw [wN h, u64_wrap (by omega) (by omega), Int.fdiv_eq_ediv_of_nonneg _ (by omega)]
  omega
theorem wK {k : Nat} (h : k ≤ 9223372036854775807) : IntKind.i64.wrap (k : Int) = (k : Int) := wI (by omega) (by omega)
def SymI (lt : GFound → GFound → Bool) (X Y : List GFound) (M u0 v0 u v : Nat) : Prop :=
  u0 ≤ u ∧ u ≤ v ∧ v ≤ v0 ∧ (u = 0 ∨ Y.length ≤ M - u ∨ ∃ y x, Y[M - u]? = some y ∧ X[u - 1]? = some x ∧ lt y x = false) ∧
    (v = M ∨ v = X.length ∨ ∃ y x, Y[M - 1 - v]? = some y ∧ X[v]? = some x ∧ lt y x = true)
theorem SymI.fin {lt : GFound → GFound → Bool} (hw : Srt.Swo lt) {X Y : List GFound} {M u0 v0 u : Nat} (h : SymI lt X Y M u0 v0 u u) (hX : Srt.srt lt X) (hY : Srt.srt lt Y) (q2 : v0 ≤ M) (q3 : v0 ≤ X.length) (q4 : M ≤ u0 + Y.length) :
    ∃ A1 A2 B1 B2, X = A1 ++ A2 ∧ Y = B1 ++ B2 ∧ A1.length = u ∧ B1.length = M - u ∧ u ≤ M ∧ Srt.mrg lt X Y = Srt.mrg lt A1 B1 ++ Srt.mrg lt A2 B2 ∧ Srt.srt lt A1 ∧ Srt.srt lt A2 ∧ Srt.srt lt B1 ∧ Srt.srt lt B2 := by
  obtain ⟨h1, h2, h3, h4, h5⟩ := h
  have e := Srt.mrg_sym hw hX hY (by omega) (by omega) h4 h5
  have sX := Srt.srt_append.1 ((List.take_append_drop u X).symm ▸ hX)
  have sY := Srt.srt_append.1 ((List.take_append_drop (M - u) Y).symm ▸ hY)
  exact ⟨X.take u, X.drop u, Y.take (M - u), Y.drop (M - u), (List.take_append_drop _ _).symm, (List.take_append_drop _ _).symm, by simp; omega, by simp; omega, by omega, e, sX.1, sX.2.1, sY.1, sY.2.1⟩
theorem sym7 {u l2 k l4 M : Nat} (hk : k = M - u) (huM : u ≤ M) (hM : M = (u + l2 + (k + l4)) / 2) (hX : 2 ≤ u + l2) (hY : 2 ≤ k + l4) :
    (0 < u ∧ 0 < l2 ∧ 0 < k ∧ 0 < l4) ∨ (u = 0 ∧ 0 < l2 ∧ 0 < k ∧ 0 < l4) ∨ (0 < u ∧ l2 = 0 ∧ 0 < k ∧ 0 < l4) ∨ (0 < u ∧ 0 < l2 ∧ k = 0 ∧ 0 < l4) ∨ (0 < u ∧ 0 < l2 ∧ 0 < k ∧ l4 = 0) ∨ (u = 0 ∧ 0 < l2 ∧ 0 < k ∧ l4 = 0) ∨ (0 < u ∧ l2 = 0 ∧ k = 0 ∧ 0 < l4) := by omega
theorem lt_yes {i j : Nat} (k : Nat) (h : j = i + k) (hk : 0 < k) : (i : Int) < (j : Int) := by omega
theorem lt_no {i j : Nat} (k : Nat) (h : j = i + k) (hk : k = 0) : ¬ (i : Int) < (j : Int) := by omega
theorem symL (lt : GFound → GFound → Bool) {P A1 A2 B1 B2 Q : List GFound} {a m b M u N n : Nat} (ha : P.length = a) (hA1 : A1.length = u) (hB1 : B1.length = M - u) (huM : u ≤ M) (hm : m = a + (A1 ++ A2).length) (hb : b = m + (B1 ++ B2).length)
    (hN : (P ++ (A1 ++ A2) ++ (B1 ++ B2) ++ Q).length = N) (hM : M = ((A1 ++ A2).length + (B1 ++ B2).length) / 2) (hn : (A1 ++ A2).length + (B1 ++ B2).length ≤ n + 1) (h1 : ¬ ((m - a : Nat) : Int) = 1) (h2 : ¬ ((b - m : Nat) : Int) = 1) (hX : 0 < (A1 ++ A2).length) (hY : 0 < (B1 ++ B2).length) :
    ((P ++ A1 ++ B1 ++ A2 ++ (B2 ++ Q)).length = N ∧ (P ++ A1 ++ A2 ++ B1 ++ (B2 ++ Q)).length = N ∧ (P ++ A1 ++ B1 ++ (A2 ++ (B2 ++ Q))).length = N ∧ (P ++ Srt.mrg lt A1 B1 ++ A2 ++ B2 ++ Q).length = N ∧ (P ++ Srt.mrg lt A1 B1 ++ (A2 ++ (B2 ++ Q))).length = N ∧ (P ++ Srt.mrg lt A1 B1 ++ Srt.mrg lt A2 B2 ++ Q).length = N) ∧
    ((P ++ A1).length = a + u ∧ (P ++ A1 ++ A2).length = m ∧ (P ++ A1 ++ A2 ++ B1).length = m + (M - u) ∧ (P ++ A1 ++ B1).length = a + M ∧ (P ++ Srt.mrg lt A1 B1).length = a + M ∧ (P ++ Srt.mrg lt A1 B1 ++ A2).length = m + (M - u) ∧ (P ++ Srt.mrg lt A1 B1 ++ A2 ++ B2).length = b) ∧
    A1.length + B1.length ≤ n ∧ A2.length + B2.length ≤ n ∧
    (m = a + u + A2.length ∧ m + (M - u) = m + B1.length ∧ a + u = a + A1.length ∧ a + M = a + u + B1.length ∧ m + (M - u) = a + M + A2.length ∧ b = m + (M - u) + B2.length) ∧
    ((0 < A1.length ∧ 0 < A2.length ∧ 0 < B1.length ∧ 0 < B2.length) ∨ (A1.length = 0 ∧ 0 < A2.length ∧ 0 < B1.length ∧ 0 < B2.length) ∨ (0 < A1.length ∧ A2.length = 0 ∧ 0 < B1.length ∧ 0 < B2.length) ∨ (0 < A1.length ∧ 0 < A2.length ∧ B1.length = 0 ∧ 0 < B2.length) ∨ (0 < A1.length ∧ 0 < A2.length ∧ 0 < B1.length ∧ B2.length = 0) ∨ (A1.length = 0 ∧ 0 < A2.length ∧ 0 < B1.length ∧ B2.length = 0) ∨ (0 < A1.length ∧ A2.length = 0 ∧ B1.length = 0 ∧ 0 < B2.length)) := by
  simp only [List.length_append, Srt.len_mrg] at *
  have h7 := sym7 (u := A1.length) (l2 := A2.length) (k := B1.length) (l4 := B2.length) (M := M) (by omega) (by omega) (by omega) (by omega) (by omega)
  refine ⟨⟨?_, ?_, ?_, ?_, ?_, ?_⟩, ⟨?_, ?_, ?_, ?_, ?_, ?_, ?_⟩, ?_, ?_, ⟨?_, ?_, ?_, ?_, ?_, ?_⟩, h7⟩ <;> clear h7 <;> omega
def m_slices_symMergeCmpFunc_impl_Found : MC :=
(.seq (.seq (pr [.mv 25 (.s 2), .mv 26 (.s 1), .bin 27 false .sub (.s 25) (.s 26), .bin 28 false .eql (.s 27) (.c (.int .i64 1))] [0,1,2,3,4,28])
(.cond (.s 28) (.seq (pr [.mv 29 (.s 2), .mv 10 (.s 29)] [0,1,3,4,10])
(.seq (pr [.mv 30 (.s 3), .mv 11 (.s 30)] [0,1,4,10,11])
(.seq (.block 0 (.loop ([0,1,4,10,11], []) (.seq (.seq (pr [.mv 31 (.s 10), .mv 32 (.s 11), .bin 33 false .lss (.s 31) (.s 32)] [0,1,4,10,11,33])
(.cond (.s 33) .skip (.exit 0)))
(.block 1 (.seq (pr [.mv 34 (.s 10), .mv 35 (.s 11), .bin 36 false .add (.s 34) (.s 35), .convI 37 .u64 (.s 36), .bin 38 false .shr (.s 37) (.c (.int .u64 1)), .convI 39 .i64 (.s 38), .mv 12 (.s 39)] [0,1,4,10,11,12])
(.seq (.dreg [{ o := .mv 40 (.s 4), hs := [41,42,43,44,45,46,47,48] }, { o := .mv 41 (.s 0), hs := [40,42,45,46,47,48] }, { o := .mv 42 (.s 12), hs := [40,41,45,46,47,48] }, { o := .idx 43 6 (.s 41) (.s 42), hs := [40,45,46,47,48], bf := [1,2] }, { o := .load 44 true 6 (.s 43), hs := [40,45,46,47,48], bf := [1,2,3] }, { o := .mv 45 (.s 0), hs := [40,41,42,43,44,46] }, { o := .mv 46 (.s 1), hs := [40,41,42,43,44,45] }, { o := .idx 47 6 (.s 45) (.s 46), hs := [40,41,42,43,44], bf := [5,6] }, { o := .load 48 true 6 (.s 47), hs := [40,41,42,43,44], bf := [5,6,7] }, { o := .call 49 [] (.s 40) [.s 44, .s 48], bf := [0,1,2,3,4,5,6,7,8] }, { o := .bin 50 false .lss (.s 49) (.c (.int .i64 0)), bf := [0,1,2,3,4,5,6,7,8,9] }] [0,1,4,10,11,12,50])
(.cond (.s 50) (pr [.mv 51 (.s 12), .bin 52 false .add (.s 51) (.c (.int .i64 1)), .mv 10 (.s 52)] [0,1,4,10,11]) (pr [.mv 53 (.s 12), .mv 11 (.s 53)] [0,1,4,10,11]))))))))
(.seq (.seq (pr [.mv 54 (.s 1), .mv 13 (.s 54)] [0,10,13])
(.block 2 (.loop ([0,10,13], []) (.seq (.seq (pr [.mv 55 (.s 13), .mv 56 (.s 10), .bin 57 false .sub (.s 56) (.c (.int .i64 1)), .bin 58 false .lss (.s 55) (.s 57)] [0,10,13,58])
(.cond (.s 58) .skip (.exit 2)))
(.seq (.block 3 (.dreg [{ o := .mv 61 (.s 0), hs := [62,63,64,65,66,67,68,69,70,71,72,73,74] }, { o := .mv 62 (.s 13), hs := [61,63,64,65,66,67,68,69,70,71,72,73,74] }, { o := .mv 63 (.s 0), hs := [61,62,64,65,66,67,68,69,70,71,72,73,74,75], ho := [0] }, { o := .mv 64 (.s 13), hs := [61,62,63,66,67,68,69,70,71,72,73,74,75], ho := [0] }, { o := .bin 65 false .add (.s 64) (.c (.int .i64 1)), hs := [61,62,63,66,67,68,69,70,71,72,73,74,75], ho := [0], bf := [3] }, { o := .mv 66 (.s 0), hs := [61,62,63,64,65,67,68,71,72,73,74] }, { o := .mv 67 (.s 13), hs := [61,62,63,64,65,66,71,72,73,74] }, { o := .bin 68 false .add (.s 67) (.c (.int .i64 1)), hs := [61,62,63,64,65,66,71,72,73,74], bf := [6] }, { o := .idx 69 6 (.s 66) (.s 68), hs := [61,62,63,64,65,71,72,73,74], bf := [5,6,7] }, { o := .load 70 true 6 (.s 69), hs := [61,62,63,64,65,71,72,73,74], bf := [5,6,7,8] }, { o := .mv 71 (.s 0), hs := [61,62,63,64,65,66,67,68,69,70,72] }, { o := .mv 72 (.s 13), hs := [61,62,63,64,65,66,67,68,69,70,71] }, { o := .idx 73 6 (.s 71) (.s 72), hs := [61,62,63,64,65,66,67,68,69,70], bf := [10,11] }, { o := .load 74 true 6 (.s 73), hs := [61,62,63,64,65,66,67,68,69,70], bf := [10,11,12] }, { o := .idx 75 6 (.s 61) (.s 62), hs := [63,64,65], bf := [0,1,5,6,7,8,9,10,11,12,13] }, { o := .store 6 (.s 75) (.s 70), hs := [63,64,65], ws := [0], bf := [0,1,5,6,7,8,9,10,11,12,13,14] }, { o := .idx 76 6 (.s 63) (.s 65), bf := [0,1,2,3,4,5,6,7,8,9,10,11,12,13,14,15] }, { o := .store 6 (.s 76) (.s 74), ws := [0], bf := [0,1,2,3,4,5,6,7,8,9,10,11,12,13,14,15,16] }] [0,10,13]))
(pr [.mv 59 (.s 13), .bin 60 false .add (.s 59) (.c (.int .i64 1)), .mv 13 (.s 60)] [0,10,13]))))))
.ret)))) .skip))
(.seq (.seq (pr [.mv 77 (.s 3), .mv 78 (.s 2), .bin 79 false .sub (.s 77) (.s 78), .bin 80 false .eql (.s 79) (.c (.int .i64 1))] [0,1,2,3,4,80])
(.cond (.s 80) (.seq (pr [.mv 81 (.s 1), .mv 14 (.s 81)] [0,2,4,14])
(.seq (pr [.mv 82 (.s 2), .mv 15 (.s 82)] [0,2,4,14,15])
(.seq (.block 4 (.loop ([0,2,4,14,15], []) (.seq (.seq (pr [.mv 83 (.s 14), .mv 84 (.s 15), .bin 85 false .lss (.s 83) (.s 84)] [0,2,4,14,15,85])
(.cond (.s 85) .skip (.exit 4)))
(.block 5 (.seq (pr [.mv 86 (.s 14), .mv 87 (.s 15), .bin 88 false .add (.s 86) (.s 87), .convI 89 .u64 (.s 88), .bin 90 false .shr (.s 89) (.c (.int .u64 1)), .convI 91 .i64 (.s 90), .mv 16 (.s 91)] [0,2,4,14,15,16])
(.seq (.dreg [{ o := .mv 92 (.s 4), hs := [93,94,95,96,97,98,99,100] }, { o := .mv 93 (.s 0), hs := [92,94,97,98,99,100] }, { o := .mv 94 (.s 2), hs := [92,93,97,98,99,100] }, { o := .idx 95 6 (.s 93) (.s 94), hs := [92,97,98,99,100], bf := [1,2] }, { o := .load 96 true 6 (.s 95), hs := [92,97,98,99,100], bf := [1,2,3] }, { o := .mv 97 (.s 0), hs := [92,93,94,95,96,98] }, { o := .mv 98 (.s 16), hs := [92,93,94,95,96,97] }, { o := .idx 99 6 (.s 97) (.s 98), hs := [92,93,94,95,96], bf := [5,6] }, { o := .load 100 true 6 (.s 99), hs := [92,93,94,95,96], bf := [5,6,7] }, { o := .call 101 [] (.s 92) [.s 96, .s 100], bf := [0,1,2,3,4,5,6,7,8] }, { o := .bin 102 false .lss (.s 101) (.c (.int .i64 0)), bf := [0,1,2,3,4,5,6,7,8,9] }, { o := .un 103 .not (.s 102), bf := [0,1,2,3,4,5,6,7,8,9,10] }] [0,2,4,14,15,16,103])
(.cond (.s 103) (pr [.mv 104 (.s 16), .bin 105 false .add (.s 104) (.c (.int .i64 1)), .mv 14 (.s 105)] [0,2,4,14,15]) (pr [.mv 106 (.s 16), .mv 15 (.s 106)] [0,2,4,14,15]))))))))
(.seq (.seq (pr [.mv 107 (.s 2), .mv 17 (.s 107)] [0,14,17])
(.block 6 (.loop ([0,14,17], []) (.seq (.seq (pr [.mv 108 (.s 17), .mv 109 (.s 14), .bin 110 false .gtr (.s 108) (.s 109)] [0,14,17,110])
(.cond (.s 110) .skip (.exit 6)))
(.seq (.block 7 (.dreg [{ o := .mv 113 (.s 0), hs := [114,115,116,117,118,119,120,121,122,123,124,125,126] }, { o := .mv 114 (.s 17), hs := [113,115,116,117,118,119,120,121,122,123,124,125,126] }, { o := .mv 115 (.s 0), hs := [113,114,116,117,118,119,120,121,122,123,124,125,126,127], ho := [0] }, { o := .mv 116 (.s 17), hs := [113,114,115,118,119,120,121,122,123,124,125,126,127], ho := [0] }, { o := .bin 117 false .sub (.s 116) (.c (.int .i64 1)), hs := [113,114,115,118,119,120,121,122,123,124,125,126,127], ho := [0], bf := [3] }, { o := .mv 118 (.s 0), hs := [113,114,115,116,117,119,120,123,124,125,126] }, { o := .mv 119 (.s 17), hs := [113,114,115,116,117,118,123,124,125,126] }, { o := .bin 120 false .sub (.s 119) (.c (.int .i64 1)), hs := [113,114,115,116,117,118,123,124,125,126], bf := [6] }, { o := .idx 121 6 (.s 118) (.s 120), hs := [113,114,115,116,117,123,124,125,126], bf := [5,6,7] }, { o := .load 122 true 6 (.s 121), hs := [113,114,115,116,117,123,124,125,126], bf := [5,6,7,8] }, { o := .mv 123 (.s 0), hs := [113,114,115,116,117,118,119,120,121,122,124] }, { o := .mv 124 (.s 17), hs := [113,114,115,116,117,118,119,120,121,122,123] }, { o := .idx 125 6 (.s 123) (.s 124), hs := [113,114,115,116,117,118,119,120,121,122], bf := [10,11] }, { o := .load 126 true 6 (.s 125), hs := [113,114,115,116,117,118,119,120,121,122], bf := [10,11,12] }, { o := .idx 127 6 (.s 113) (.s 114), hs := [115,116,117], bf := [0,1,5,6,7,8,9,10,11,12,13] }, { o := .store 6 (.s 127) (.s 122), hs := [115,116,117], ws := [0], bf := [0,1,5,6,7,8,9,10,11,12,13,14] }, { o := .idx 128 6 (.s 115) (.s 117), bf := [0,1,2,3,4,5,6,7,8,9,10,11,12,13,14,15] }, { o := .store 6 (.s 128) (.s 126), ws := [0], bf := [0,1,2,3,4,5,6,7,8,9,10,11,12,13,14,15,16] }] [0,14,17]))
(pr [.mv 111 (.s 17), .bin 112 false .sub (.s 111) (.c (.int .i64 1)), .mv 17 (.s 112)] [0,14,17]))))))
.ret)))) .skip))
(.seq (pr [.mv 129 (.s 1), .mv 130 (.s 3), .bin 131 false .add (.s 129) (.s 130), .convI 132 .u64 (.s 131), .bin 133 false .shr (.s 132) (.c (.int .u64 1)), .convI 134 .i64 (.s 133), .mv 18 (.s 134)] [0,1,2,3,4,18])
(.seq (pr [.mv 135 (.s 18), .mv 136 (.s 2), .bin 137 false .add (.s 135) (.s 136), .mv 19 (.s 137)] [0,1,2,3,4,18,19])
(.seq (pr [.mv 20 (.c (.int .i64 0)), .mv 21 (.c (.int .i64 0))] [0,1,2,3,4,18,19])
(.seq (.seq (pr [.mv 138 (.s 2), .mv 139 (.s 18), .bin 140 false .gtr (.s 138) (.s 139)] [0,1,2,3,4,18,19,140])
(.cond (.s 140) (.seq (pr [.mv 141 (.s 19), .mv 142 (.s 3), .bin 143 false .sub (.s 141) (.s 142), .mv 20 (.s 143)] [0,1,2,3,4,18,19,20])
(pr [.mv 144 (.s 18), .mv 21 (.s 144)] [0,1,2,3,4,18,19,20,21])) (.seq (pr [.mv 145 (.s 1), .mv 20 (.s 145)] [0,1,2,3,4,18,19,20])
(pr [.mv 146 (.s 2), .mv 21 (.s 146)] [0,1,2,3,4,18,19,20,21]))))
(.seq (pr [.mv 147 (.s 19), .bin 148 false .sub (.s 147) (.c (.int .i64 1)), .mv 22 (.s 148)] [0,1,2,3,4,18,19,20,21,22])
(.seq (.block 8 (.loop ([0,1,2,3,4,18,19,20,21,22], []) (.seq (.seq (pr [.mv 149 (.s 20), .mv 150 (.s 21), .bin 151 false .lss (.s 149) (.s 150)] [0,1,2,3,4,18,19,20,21,22,151])
(.cond (.s 151) .skip (.exit 8)))
(.block 9 (.seq (pr [.mv 152 (.s 20), .mv 153 (.s 21), .bin 154 false .add (.s 152) (.s 153), .convI 155 .u64 (.s 154), .bin 156 false .shr (.s 155) (.c (.int .u64 1)), .convI 157 .i64 (.s 156), .mv 23 (.s 157)] [0,1,2,3,4,18,19,20,21,22,23])
(.seq (.dreg [{ o := .mv 158 (.s 4), hs := [159,160,161,162,163,164,165,166,167,168] }, { o := .mv 159 (.s 0), hs := [158,160,161,162,165,166,167,168] }, { o := .mv 160 (.s 22), hs := [158,159,161,165,166,167,168] }, { o := .mv 161 (.s 23), hs := [158,159,160,165,166,167,168] }, { o := .bin 162 false .sub (.s 160) (.s 161), hs := [158,159,165,166,167,168], bf := [2,3] }, { o := .idx 163 6 (.s 159) (.s 162), hs := [158,165,166,167,168], bf := [1,2,3,4] }, { o := .load 164 true 6 (.s 163), hs := [158,165,166,167,168], bf := [1,2,3,4,5] }, { o := .mv 165 (.s 0), hs := [158,159,160,161,162,163,164,166] }, { o := .mv 166 (.s 23), hs := [158,159,160,161,162,163,164,165] }, { o := .idx 167 6 (.s 165) (.s 166), hs := [158,159,160,161,162,163,164], bf := [7,8] }, { o := .load 168 true 6 (.s 167), hs := [158,159,160,161,162,163,164], bf := [7,8,9] }, { o := .call 169 [] (.s 158) [.s 164, .s 168], bf := [0,1,2,3,4,5,6,7,8,9,10] }, { o := .bin 170 false .lss (.s 169) (.c (.int .i64 0)), bf := [0,1,2,3,4,5,6,7,8,9,10,11] }, { o := .un 171 .not (.s 170), bf := [0,1,2,3,4,5,6,7,8,9,10,11,12] }] [0,1,2,3,4,18,19,20,21,22,23,171])
(.cond (.s 171) (pr [.mv 172 (.s 23), .bin 173 false .add (.s 172) (.c (.int .i64 1)), .mv 20 (.s 173)] [0,1,2,3,4,18,19,20,21,22]) (pr [.mv 174 (.s 23), .mv 21 (.s 174)] [0,1,2,3,4,18,19,20,21,22]))))))))
(.seq (pr [.mv 175 (.s 19), .mv 176 (.s 20), .bin 177 false .sub (.s 175) (.s 176), .mv 24 (.s 177)] [0,1,2,3,4,18,20,24])
(.seq (.seq (.reg [{ o := .mv 178 (.s 20) }, { o := .mv 179 (.s 2) }, { o := .bin 180 false .lss (.s 178) (.s 179) }, { o := .mv 181 (.s 180) }, { o := .mv 182 (.s 2), g := some (181, true) }, { o := .mv 183 (.s 24), g := some (181, true) }, { o := .bin 184 false .lss (.s 182) (.s 183), g := some (181, true) }, { o := .pick 185 (.s 181) (.s 184) (.c (.bool false)) }] [0,1,2,3,4,18,20,24,185])
(.cond (.s 185) (pr [.mv 186 (.s 0), .mv 187 (.s 20), .mv 188 (.s 2), .mv 189 (.s 24), .mv 190 (.s 4), .callI 191 [] (.f n_slices_rotateCmpFunc_impl_Found) [.s 186, .s 187, .s 188, .s 189, .s 190] [0] []] [0,1,3,4,18,20,24]) .skip))
(.seq (.seq (.reg [{ o := .mv 192 (.s 1) }, { o := .mv 193 (.s 20) }, { o := .bin 194 false .lss (.s 192) (.s 193) }, { o := .mv 195 (.s 194) }, { o := .mv 196 (.s 20), g := some (195, true) }, { o := .mv 197 (.s 18), g := some (195, true) }, { o := .bin 198 false .lss (.s 196) (.s 197), g := some (195, true) }, { o := .pick 199 (.s 195) (.s 198) (.c (.bool false)) }] [0,1,3,4,18,20,24,199])
(.cond (.s 199) (pr [.mv 200 (.s 0), .mv 201 (.s 1), .mv 202 (.s 20), .mv 203 (.s 18), .mv 204 (.s 4), .callI 205 [] (.f n_slices_symMergeCmpFunc_impl_Found) [.s 200, .s 201, .s 202, .s 203, .s 204] [0] []] [0,3,4,18,24]) .skip))
(.seq (.reg [{ o := .mv 206 (.s 18) }, { o := .mv 207 (.s 24) }, { o := .bin 208 false .lss (.s 206) (.s 207) }, { o := .mv 209 (.s 208) }, { o := .mv 210 (.s 24), g := some (209, true) }, { o := .mv 211 (.s 3), g := some (209, true) }, { o := .bin 212 false .lss (.s 210) (.s 211), g := some (209, true) }, { o := .pick 213 (.s 209) (.s 212) (.c (.bool false)) }] [0,3,4,18,24,213])
(.cond (.s 213) (pr [.mv 214 (.s 0), .mv 215 (.s 18), .mv 216 (.s 24), .mv 217 (.s 3), .mv 218 (.s 4), .callI 219 [] (.f n_slices_symMergeCmpFunc_impl_Found) [.s 214, .s 215, .s 216, .s 217, .s 218] [0] []] []) .skip)))))))))))))
set_option maxHeartbeats 4000000 in
theorem c_slices_symMergeCmpFunc (f : FuncId) (c : GFound → GFound → Int) (hc : ∀ x y, Ctr Try.prog f [aS x.enc, aS y.enc] [rI (c x y)]) (hw : Srt.Swo (ltc c)) (n : Nat) : ∀ (P X Y Q : List GFound) {a m b : Nat}, X.length + Y.length ≤ n → P.length = a → (P ++ X).length = m → (P ++ X ++ Y).length = b → 0 < X.length → 0 < Y.length → Srt.srt (ltc c) X → Srt.srt (ltc c) Y →
    CtrI Try.prog n_slices_symMergeCmpFunc_impl_Found [oL 6 ((P ++ X ++ Y ++ Q).map GFound.enc), iI a, iI m, iI b, fI f] [some (6, (P ++ Srt.mrg (ltc c) X Y ++ Q).map GFound.enc)] [] := by
  induction n with
  | zero => intro P X Y Q a m b hn _ _ _ hX; omega
  | succ n ih =>
    intro P X Y Q a m b hn ha hm hb hX hY sX sY
    have hN2 : (P ++ Srt.mrg (ltc c) X Y ++ Q).length = (P ++ X ++ Y ++ Q).length := by simp [Srt.len_mrg]; omega
    refine ctrI_at (M := m_slices_symMergeCmpFunc_impl_Found) (m := 0) (n := 220) (res := []) hmix Try.func55 rfl (by kernel_rfl) rfl (by kernel_rfl) (by kernel_rfl) (Nat.le_of_ble_eq_true rfl) rfl rfl ?_; unfold m_slices_symMergeCmpFunc_impl_Found
    intro hbd
    have hl := len_of_bd hbd
    clear hbd
    have hm' : m = a + X.length := by rw [← hm, ← ha]; simp
    have hb' : b = m + Y.length := by rw [← hb, ← hm]; simp; omega
    have hbN : b ≤ (P ++ X ++ Y ++ Q).length := by rw [List.length_append, hb]; omega
    generalize hN : (P ++ X ++ Y ++ Q).length = N at *
    simp only [roomB] at hl
    simp only [↓bk_bind, ↓bk_map, ↓bk_ite, ↓bk_some, ↓reduceIte, Nat.reduceEqDiff, Nat.reduceLT, Nat.reduceLeDiff, Nat.reduceAdd, Nat.reduceMul, reduceCtorEq, List.reduceReplicate, go_sem, hN, wS (a := m) (b := a) (by omega) (by omega)]
    refine ⟨fun h1 => ?_, fun h1 => ?_⟩
    · obtain ⟨x, rfl⟩ : ∃ x, X = [x] := List.length_eq_one_iff.1 (by omega)
      simp only [List.length_cons, List.length_nil] at hm' hn
      have hxa : (P ++ [x] ++ Y ++ Q)[a]? = some x := by rw [← ha]; simp
      have hya : ∀ w, w < Y.length → (P ++ [x] ++ Y ++ Q)[m + w]? = Y[w]? := fun w hw => by
        rw [List.append_assoc, List.getElem?_append_right (by simp; omega), List.getElem?_append_left (by simp; omega)]
        congr 1; simp; omega
      refine loopK_up (ι := Nat × Nat) (fun s => [(10, vI ((m + s.1 : Nat) : Int)), (11, vI ((m + s.2 : Nat) : Int))]) (fun s => []) (fun s => s.1 ≤ s.2 ∧ s.2 ≤ Y.length ∧ (∀ y ∈ Y.take s.1, ltc c y x = true) ∧ (∀ y ∈ Y.drop s.2, ltc c y x = false)) (fun s => s.2 - s.1) (0, Y.length) ?_
      simp only [↓bk_bind, ↓bk_map, ↓bk_ite, ↓bk_some, ↓reduceIte, Nat.reduceEqDiff, Nat.reduceLT, Nat.reduceLeDiff, Nat.reduceAdd, Nat.reduceMul, reduceCtorEq, List.reduceReplicate, go_sem, hN]
      refine ⟨?_, ⟨by omega, by omega, by simp, by simp⟩, ?_⟩
      · simp only [↓bk_bind, ↓bk_map, ↓bk_ite, ↓bk_some, ↓reduceIte, Nat.reduceEqDiff, Nat.reduceLT, Nat.reduceLeDiff, Nat.reduceAdd, Nat.reduceMul, reduceCtorEq, List.reduceReplicate, go_sem]
        exact ⟨by omega, by omega⟩
      · rintro ⟨u, v⟩ ⟨i1, i2, i3, i4⟩
        simp only at i1 i2 i3 i4
        simp only [↓bk_bind, ↓bk_map, ↓bk_ite, ↓bk_some, ↓reduceIte, Nat.reduceEqDiff, Nat.reduceLT, Nat.reduceLeDiff, Nat.reduceAdd, Nat.reduceMul, reduceCtorEq, List.reduceReplicate, go_sem, hN, shr1, half_of (i := m + u) (j := m + v) (by omega)]
        refine ⟨fun hlt => ?_, fun hge => ?_⟩
        · have hwx : (m + u + (m + v)) / 2 = m + (u + v) / 2 := by omega
          have w1 : u ≤ (u + v) / 2 := by omega
          have w2 : (u + v) / 2 < v := by omega
          rw [hwx]
          generalize (u + v) / 2 = w at w1 w2
          obtain ⟨y, hy⟩ := at_some (show w < Y.length by omega)
          have hyw := (hya w (by omega)).trans hy
          have k1 : (0 : Int) ≤ ((m + w : Nat) : Int) := by omega
          have k2 : ((m + w : Nat) : Int) < (N : Int) := by omega
          have k3 : (0 : Int) ≤ (a : Int) := by omega
          have k4 : (a : Int) < (N : Int) := by omega
          simp only [↓bk_bind, ↓bk_map, ↓bk_ite, ↓bk_some, ↓reduceIte, Nat.reduceEqDiff, Nat.reduceLT, Nat.reduceLeDiff, Nat.reduceAdd, Nat.reduceMul, reduceCtorEq, List.reduceReplicate, go_sem, wK (k := m + w) (by omega), k1, k2, k3, k4, bk_eq hyw, bk_eq hxa, hN]
          apply callK_of (hc y x)
          simp only [↓bk_bind, ↓bk_map, ↓bk_ite, ↓bk_some, ↓reduceIte, Nat.reduceEqDiff, Nat.reduceLT, Nat.reduceLeDiff, Nat.reduceAdd, Nat.reduceMul, reduceCtorEq, List.reduceReplicate, go_sem, hN, wN1 (a := m + w) (by omega)]
          intro _
          refine ⟨fun hn => ⟨(w + 1, v), ⟨rfl, rfl⟩, ⟨by omega, i2, Srt.lo_of hw sY hy (by simpa [ltc] using hn), i4⟩, by omega⟩, fun hn => ⟨(u, w), ⟨rfl, rfl⟩, ⟨w1, by omega, i3, Srt.hi_of hw sY hy (by simpa [ltc] using hn)⟩, by omega⟩⟩
        · obtain rfl : u = v := by omega
          have hres := Srt.mrg_one hw sY i3 i4
          have hlt : ∀ t, (P ++ (Y.take t ++ x :: Y.drop t) ++ Q).length = N := fun t => by rw [← hN]; simp; omega
          refine loopK_up (fun t : Nat => [(13, vI ((a + t : Nat) : Int))]) (fun t => [(0, ⟨1, .row true 6 ((P ++ (Y.take t ++ x :: Y.drop t) ++ Q).map GFound.enc)⟩)]) (fun t => t ≤ u) (fun t => u - t) 0 ?_
          simp only [↓bk_bind, ↓bk_map, ↓bk_ite, ↓bk_some, ↓reduceIte, Nat.reduceEqDiff, Nat.reduceLT, Nat.reduceLeDiff, Nat.reduceAdd, Nat.reduceMul, reduceCtorEq, List.reduceReplicate, go_sem, hN]
          refine ⟨?_, by omega, ?_⟩
          · simp only [↓bk_bind, ↓bk_map, ↓bk_ite, ↓bk_some, ↓reduceIte, Nat.reduceEqDiff, Nat.reduceLT, Nat.reduceLeDiff, Nat.reduceAdd, Nat.reduceMul, reduceCtorEq, List.reduceReplicate, go_sem]
            simp
          · intro t ht
            have hs1 : IntKind.i64.wrap (((m + u : Nat) : Int) - 1) = ((a + u : Nat) : Int) := by
              rw [wI (by omega) (by omega)]; omega
            by_cases htu : t < u
            · obtain ⟨y, hy⟩ := at_some (show t < Y.length by omega)
              have e1 : (P ++ (Y.take t ++ x :: Y.drop t) ++ Q).map GFound.enc = two ((P ++ Y.take t).map GFound.enc) x.enc [] y.enc ((Y.drop (t + 1) ++ Q).map GFound.enc) := by simp [two, drop_cons hy]
              have e2 : (P ++ (Y.take (t + 1) ++ x :: Y.drop (t + 1)) ++ Q).map GFound.enc = two ((P ++ Y.take t).map GFound.enc) y.enc [] x.enc ((Y.drop (t + 1) ++ Q).map GFound.enc) := by simp [two, take_snoc hy]
              have hA : ((P ++ Y.take t).map GFound.enc).length = a + t := by simp; omega
              have hL0 : ∀ p q, (two ((P ++ Y.take t).map GFound.enc) p [] q ((Y.drop (t + 1) ++ Q).map GFound.enc)).length = N := fun p q => by
                rw [← hlt t]; simp [two, drop_cons hy]
              generalize (P ++ Y.take t).map GFound.enc = A at *
              generalize (Y.drop (t + 1) ++ Q).map GFound.enc = C at *
              obtain ⟨g1, g2, s1, s2, hL, d1, d2⟩ := two_at (A := A) (B := []) (C := C) (p := a + t) (q := a + t + 1) hA (by simp)
              have k1 : (0 : Int) ≤ ((a + t : Nat) : Int) := by omega
              have k2 : ((a + t : Nat) : Int) < (N : Int) := by omega
              have k3 : (0 : Int) ≤ ((a + t + 1 : Nat) : Int) := by omega
              have k4 : ((a + t + 1 : Nat) : Int) < (N : Int) := by omega
              have k5 : ((a + t : Nat) : Int) < ((a + u : Nat) : Int) := by omega
              rw [e1]
              simp only [↓bk_bind, ↓bk_map, ↓bk_ite, ↓bk_some, ↓reduceIte, Nat.reduceEqDiff, Nat.reduceLT, Nat.reduceLeDiff, Nat.reduceAdd, Nat.reduceMul, reduceCtorEq, List.reduceReplicate, go_sem, hs1, hL0, g1, g2, s1, s2, d1, d2, k1, k2, k3, k4, k5, wN1 (a := a + t) (by omega)]
              exact ⟨t + 1, ⟨rfl, e2.symm⟩, by omega, by omega⟩
            · obtain rfl : t = u := by omega
              simp only [↓bk_bind, ↓bk_map, ↓bk_ite, ↓bk_some, ↓reduceIte, Nat.reduceEqDiff, Nat.reduceLT, Nat.reduceLeDiff, Nat.reduceAdd, Nat.reduceMul, reduceCtorEq, List.reduceReplicate, go_sem, hs1, hlt]
              rw [hres]
    · simp only [↓bk_bind, ↓bk_map, ↓bk_ite, ↓bk_some, ↓reduceIte, Nat.reduceEqDiff, Nat.reduceLT, Nat.reduceLeDiff, Nat.reduceAdd, Nat.reduceMul, reduceCtorEq, List.reduceReplicate, go_sem, hN, wS (a := b) (b := m) (by omega) (by omega)]
      refine ⟨fun h2 => ?_, fun h2 => ?_⟩
      · obtain ⟨y, rfl⟩ : ∃ y, Y = [y] := List.length_eq_one_iff.1 (by omega)
        simp only [List.length_cons, List.length_nil] at hb' hn
        have hym : (P ++ X ++ [y] ++ Q)[m]? = some y := by rw [← hm]; simp
        have hxa : ∀ w, w < X.length → (P ++ X ++ [y] ++ Q)[a + w]? = X[w]? := fun w hw => by
          rw [List.append_assoc, List.append_assoc, List.getElem?_append_right (by omega), List.getElem?_append_left (by omega)]
          congr 1; omega
        refine loopK_up (ι := Nat × Nat) (fun s => [(14, vI ((a + s.1 : Nat) : Int)), (15, vI ((a + s.2 : Nat) : Int))]) (fun s => []) (fun s => s.1 ≤ s.2 ∧ s.2 ≤ X.length ∧ (∀ z ∈ X.take s.1, ltc c y z = false) ∧ (∀ z ∈ X.drop s.2, ltc c y z = true)) (fun s => s.2 - s.1) (0, X.length) ?_
        simp only [↓bk_bind, ↓bk_map, ↓bk_ite, ↓bk_some, ↓reduceIte, Nat.reduceEqDiff, Nat.reduceLT, Nat.reduceLeDiff, Nat.reduceAdd, Nat.reduceMul, reduceCtorEq, List.reduceReplicate, go_sem, hN]
        refine ⟨?_, ⟨by omega, by omega, by simp, by simp⟩, ?_⟩
        · simp only [↓bk_bind, ↓bk_map, ↓bk_ite, ↓bk_some, ↓reduceIte, Nat.reduceEqDiff, Nat.reduceLT, Nat.reduceLeDiff, Nat.reduceAdd, Nat.reduceMul, reduceCtorEq, List.reduceReplicate, go_sem]
          exact ⟨by omega, by omega⟩
        · rintro ⟨u, v⟩ ⟨i1, i2, i3, i4⟩
          simp only at i1 i2 i3 i4
          simp only [↓bk_bind, ↓bk_map, ↓bk_ite, ↓bk_some, ↓reduceIte, Nat.reduceEqDiff, Nat.reduceLT, Nat.reduceLeDiff, Nat.reduceAdd, Nat.reduceMul, reduceCtorEq, List.reduceReplicate, go_sem, hN, shr1, half_of (i := a + u) (j := a + v) (by omega)]
          refine ⟨fun hlt => ?_, fun hge => ?_⟩
          · have hwx : (a + u + (a + v)) / 2 = a + (u + v) / 2 := by omega
            have w1 : u ≤ (u + v) / 2 := by omega
            have w2 : (u + v) / 2 < v := by omega
            rw [hwx]
            generalize (u + v) / 2 = w at w1 w2
            obtain ⟨x, hx⟩ := at_some (show w < X.length by omega)
            have hxw := (hxa w (by omega)).trans hx
            have k1 : (0 : Int) ≤ ((a + w : Nat) : Int) := by omega
            have k2 : ((a + w : Nat) : Int) < (N : Int) := by omega
            have k3 : (0 : Int) ≤ (m : Int) := by omega
            have k4 : (m : Int) < (N : Int) := by omega
            simp only [↓bk_bind, ↓bk_map, ↓bk_ite, ↓bk_some, ↓reduceIte, Nat.reduceEqDiff, Nat.reduceLT, Nat.reduceLeDiff, Nat.reduceAdd, Nat.reduceMul, reduceCtorEq, List.reduceReplicate, go_sem, wK (k := a + w) (by omega), k1, k2, k3, k4, bk_eq hxw, bk_eq hym, hN]
            apply callK_of (hc y x)
            simp only [↓bk_bind, ↓bk_map, ↓bk_ite, ↓bk_some, ↓reduceIte, Nat.reduceEqDiff, Nat.reduceLT, Nat.reduceLeDiff, Nat.reduceAdd, Nat.reduceMul, reduceCtorEq, List.reduceReplicate, go_sem, hN, wN1 (a := a + w) (by omega)]
            intro _
            refine ⟨fun hn => ⟨(w + 1, v), ⟨rfl, rfl⟩, ⟨by omega, i2, Srt.lo_of' hw sX hx (by simpa [ltc] using hn), i4⟩, by omega⟩, fun hn => ⟨(u, w), ⟨rfl, rfl⟩, ⟨w1, by omega, i3, Srt.hi_of' hw sX hx (by simpa [ltc] using hn)⟩, by omega⟩⟩
          · obtain rfl : u = v := by omega
            have hres := Srt.mrg_last i3 i4
            have hlt : ∀ t, (P ++ (X.take t ++ y :: X.drop t) ++ Q).length = N := fun t => by rw [← hN]; simp; omega
            refine loopK_up (fun t : Nat => [(17, vI ((a + t : Nat) : Int))]) (fun t => [(0, ⟨1, .row true 6 ((P ++ (X.take t ++ y :: X.drop t) ++ Q).map GFound.enc)⟩)]) (fun t => u ≤ t ∧ t ≤ X.length) (fun t => t - u) X.length ?_
            simp only [↓bk_bind, ↓bk_map, ↓bk_ite, ↓bk_some, ↓reduceIte, Nat.reduceEqDiff, Nat.reduceLT, Nat.reduceLeDiff, Nat.reduceAdd, Nat.reduceMul, reduceCtorEq, List.reduceReplicate, go_sem, hN]
            refine ⟨?_, ⟨i2, by omega⟩, ?_⟩
            · simp only [↓bk_bind, ↓bk_map, ↓bk_ite, ↓bk_some, ↓reduceIte, Nat.reduceEqDiff, Nat.reduceLT, Nat.reduceLeDiff, Nat.reduceAdd, Nat.reduceMul, reduceCtorEq, List.reduceReplicate, go_sem, hm']
              simp
            · rintro t ⟨ht, ht2⟩
              by_cases htu : u < t
              · obtain ⟨t, rfl⟩ : ∃ s, t = s + 1 := ⟨t - 1, by omega⟩
                obtain ⟨x, hx⟩ := at_some (show t < X.length by omega)
                have e1 : (P ++ (X.take (t + 1) ++ y :: X.drop (t + 1)) ++ Q).map GFound.enc = two ((P ++ X.take t).map GFound.enc) x.enc [] y.enc ((X.drop (t + 1) ++ Q).map GFound.enc) := by simp [two, take_snoc hx]
                have e2 : (P ++ (X.take t ++ y :: X.drop t) ++ Q).map GFound.enc = two ((P ++ X.take t).map GFound.enc) y.enc [] x.enc ((X.drop (t + 1) ++ Q).map GFound.enc) := by simp [two, drop_cons hx]
                have hA : ((P ++ X.take t).map GFound.enc).length = a + t := by simp; omega
                have hL0 : ∀ p q, (two ((P ++ X.take t).map GFound.enc) p [] q ((X.drop (t + 1) ++ Q).map GFound.enc)).length = N := fun p q => by
                  rw [← hlt t]; simp [two, drop_cons hx]
                generalize (P ++ X.take t).map GFound.enc = A at *
                generalize (X.drop (t + 1) ++ Q).map GFound.enc = C at *
                obtain ⟨g1, g2, s1, s2, hL, d1, d2⟩ := two_at (A := A) (B := []) (C := C) (p := a + t) (q := a + t + 1) hA (by simp)
                have k1 : (0 : Int) ≤ ((a + t : Nat) : Int) := by omega
                have k2 : ((a + t : Nat) : Int) < (N : Int) := by omega
                have k3 : (0 : Int) ≤ ((a + t + 1 : Nat) : Int) := by omega
                have k4 : ((a + t + 1 : Nat) : Int) < (N : Int) := by omega
                have k5 : ((a + t + 1 : Nat) : Int) > ((a + u : Nat) : Int) := by omega
                have k6 : IntKind.i64.wrap (((a + t + 1 : Nat) : Int) - 1) = ((a + t : Nat) : Int) := by
                  rw [wI (by omega) (by omega)]; omega
                rw [e1, show a + (t + 1) = a + t + 1 from rfl]
                simp only [↓bk_bind, ↓bk_map, ↓bk_ite, ↓bk_some, ↓reduceIte, Nat.reduceEqDiff, Nat.reduceLT, Nat.reduceLeDiff, Nat.reduceAdd, Nat.reduceMul, reduceCtorEq, List.reduceReplicate, go_sem, hL0, g1, g2, s1, s2, d1, d2, k1, k2, k3, k4, k5, k6]
                exact ⟨t, ⟨rfl, e2.symm⟩, ⟨by omega, by omega⟩, by omega⟩
              · obtain rfl : t = u := by omega
                simp only [↓bk_bind, ↓bk_map, ↓bk_ite, ↓bk_some, ↓reduceIte, Nat.reduceEqDiff, Nat.reduceLT, Nat.reduceLeDiff, Nat.reduceAdd, Nat.reduceMul, reduceCtorEq, List.reduceReplicate, go_sem, hlt]
                rw [hres]
      · obtain ⟨M, hM⟩ : ∃ M, M = (X.length + Y.length) / 2 := ⟨_, rfl⟩
        have hmid : (a + b) / 2 = a + M := by omega
        have hxa : ∀ w, w < X.length → (P ++ X ++ Y ++ Q)[a + w]? = X[w]? := fun w hw => by
          rw [List.append_assoc, List.append_assoc, List.getElem?_append_right (by omega), List.getElem?_append_left (by omega)]
          congr 1; omega
        have hya : ∀ w, w < Y.length → (P ++ X ++ Y ++ Q)[m + w]? = Y[w]? := fun w hw => by
          rw [List.append_assoc, List.getElem?_append_right (by omega), List.getElem?_append_left (by omega)]
          congr 1; omega
        simp only [↓bk_bind, ↓bk_map, ↓bk_ite, ↓bk_some, ↓reduceIte, Nat.reduceEqDiff, Nat.reduceLT, Nat.reduceLeDiff, Nat.reduceAdd, Nat.reduceMul, reduceCtorEq, List.reduceReplicate, go_sem, hN, shr1, half_of (i := a) (j := b) (by omega), hmid, wK (k := a + M) (by omega), wN (a := a + M) (b := m) (by omega)]
        refine ⟨fun h3 => ?_, fun h3 => ?_⟩
        · have hs : IntKind.i64.wrap (((a + M + m : Nat) : Int) - (b : Int)) = ((a + (M - Y.length) : Nat) : Int) := by
            rw [wI (by omega) (by omega)]; omega
          simp only [↓bk_bind, ↓bk_map, ↓bk_ite, ↓bk_some, ↓reduceIte, Nat.reduceEqDiff, Nat.reduceLT, Nat.reduceLeDiff, Nat.reduceAdd, Nat.reduceMul, reduceCtorEq, List.reduceReplicate, go_sem, hN, hs, wS1 (a := a + M + m) (by omega) (by omega)]
          obtain ⟨u0, hu0⟩ : ∃ u, u = M - Y.length := ⟨_, rfl⟩
          obtain ⟨v0, hv0⟩ : ∃ v, v = M := ⟨_, rfl⟩
          rw [← hu0]
          have q1 : u0 ≤ v0 := by omega
          have q2 : v0 ≤ M := by omega
          have q3 : v0 ≤ X.length := by omega
          have q4 : M ≤ u0 + Y.length := by omega
          have q5 : u0 = 0 ∨ Y.length ≤ M - u0 := by omega
          have q6 : v0 = M ∨ v0 = X.length := by omega
          have q7 : a + M = a + v0 := by omega
          refine loopK_up (ι := Nat × Nat) (fun s => [(20, vI ((a + s.1 : Nat) : Int)), (21, vI ((a + s.2 : Nat) : Int))]) (fun s => []) (fun s => SymI (ltc c) X Y M u0 v0 s.1 s.2) (fun s => s.2 - s.1) (u0, v0) ?_
          simp only [↓bk_bind, ↓bk_map, ↓bk_ite, ↓bk_some, ↓reduceIte, Nat.reduceEqDiff, Nat.reduceLT, Nat.reduceLeDiff, Nat.reduceAdd, Nat.reduceMul, reduceCtorEq, List.reduceReplicate, go_sem, hN]
          refine ⟨?_, ⟨by omega, q1, by omega, q5.imp_right .inl, q6.imp_right .inl⟩, ?_⟩
          · simp only [↓bk_bind, ↓bk_map, ↓bk_ite, ↓bk_some, ↓reduceIte, Nat.reduceEqDiff, Nat.reduceLT, Nat.reduceLeDiff, Nat.reduceAdd, Nat.reduceMul, reduceCtorEq, List.reduceReplicate, go_sem]
            first | exact ⟨by omega, by omega⟩ | omega
          · rintro ⟨u, v⟩ hI
            obtain ⟨i1, i2, i3, i4, i5⟩ := hI
            simp only at i1 i2 i3 i4 i5
            simp only [↓bk_bind, ↓bk_map, ↓bk_ite, ↓bk_some, ↓reduceIte, Nat.reduceEqDiff, Nat.reduceLT, Nat.reduceLeDiff, Nat.reduceAdd, Nat.reduceMul, reduceCtorEq, List.reduceReplicate, go_sem, hN, shr1, half_of (i := a + u) (j := a + v) (by omega)]
            refine ⟨fun hlt => ?_, fun hge => ?_⟩
            · have hwx : (a + u + (a + v)) / 2 = a + (u + v) / 2 := by omega
              have w1 : u ≤ (u + v) / 2 := by omega
              have w2 : (u + v) / 2 < v := by omega
              rw [hwx]
              generalize (u + v) / 2 = w at w1 w2
              have hpc : IntKind.i64.wrap (((a + M + m - 1 : Nat) : Int) - ((a + w : Nat) : Int)) = ((m + (M - 1 - w) : Nat) : Int) := by
                rw [wI (by omega) (by omega)]; omega
              obtain ⟨x, hx⟩ := at_some (show w < X.length by omega)
              obtain ⟨y, hy⟩ := at_some (show M - 1 - w < Y.length by omega)
              have hxw := (hxa w (by omega)).trans hx
              have hyw := (hya (M - 1 - w) (by omega)).trans hy
              have k1 : (0 : Int) ≤ ((a + w : Nat) : Int) := by omega
              have k2 : ((a + w : Nat) : Int) < (N : Int) := by omega
              have k3 : (0 : Int) ≤ ((m + (M - 1 - w) : Nat) : Int) := by omega
              have k4 : ((m + (M - 1 - w) : Nat) : Int) < (N : Int) := by omega
              simp only [↓bk_bind, ↓bk_map, ↓bk_ite, ↓bk_some, ↓reduceIte, Nat.reduceEqDiff, Nat.reduceLT, Nat.reduceLeDiff, Nat.reduceAdd, Nat.reduceMul, reduceCtorEq, List.reduceReplicate, go_sem, wK (k := a + w) (by omega), hpc, k1, k2, k3, k4, bk_eq hxw, bk_eq hyw, hN]
              apply callK_of (hc y x)
              simp only [↓bk_bind, ↓bk_map, ↓bk_ite, ↓bk_some, ↓reduceIte, Nat.reduceEqDiff, Nat.reduceLT, Nat.reduceLeDiff, Nat.reduceAdd, Nat.reduceMul, reduceCtorEq, List.reduceReplicate, go_sem, hN, wN1 (a := a + w) (by omega)]
              intro _
              refine ⟨fun hn => ⟨(w + 1, v), ⟨rfl, rfl⟩, ⟨by omega, by omega, i3, .inr (.inr ⟨y, x, by rw [show M - (w + 1) = M - 1 - w by omega]; exact hy, hx, by simpa [ltc] using hn⟩), i5⟩, by show v - (w + 1) < v - u; omega⟩, fun hn => ⟨(u, w), ⟨rfl, rfl⟩, ⟨i1, w1, by omega, i4, .inr (.inr ⟨y, x, hy, hx, by simpa [ltc] using hn⟩)⟩, by show w - u < v - u; omega⟩⟩
            · obtain rfl : u = v := by omega
              obtain ⟨A1, A2, B1, B2, rfl, rfl, hA1, hB1, huM, hres, t1, t2, t3, t4⟩ := SymI.fin hw ⟨i1, i2, i3, i4, i5⟩ sX sY q2 q3 q4
              have hend : IntKind.i64.wrap (((a + M + m : Nat) : Int) - ((a + u : Nat) : Int)) = ((m + (M - u) : Nat) : Int) := by
                rw [wI (by omega) (by omega)]; omega
              have r0 : P ++ (A1 ++ A2) ++ (B1 ++ B2) ++ Q = (P ++ A1) ++ A2 ++ B1 ++ (B2 ++ Q) := by simp
              have r1 : (P ++ A1) ++ B1 ++ A2 ++ (B2 ++ Q) = P ++ A1 ++ B1 ++ (A2 ++ (B2 ++ Q)) := by simp
              have r2 : A2.length = 0 ∨ B1.length = 0 → P ++ (A1 ++ A2) ++ (B1 ++ B2) ++ Q = P ++ A1 ++ B1 ++ (A2 ++ (B2 ++ Q)) := fun h => by
                rcases h with h | h
                · rw [List.length_eq_zero_iff.1 h]; simp
                · rw [List.length_eq_zero_iff.1 h]; simp
              have r3 : A1.length = 0 ∨ B1.length = 0 → P ++ A1 ++ B1 ++ (A2 ++ (B2 ++ Q)) = (P ++ Srt.mrg (ltc c) A1 B1) ++ A2 ++ B2 ++ Q := fun h => by
                rcases h with h | h
                · rw [List.length_eq_zero_iff.1 h, Srt.mrg_nil_srt hw t3]; simp
                · rw [List.length_eq_zero_iff.1 h, Srt.mrg_nil]; simp
              have r4 : P ++ Srt.mrg (ltc c) A1 B1 ++ (A2 ++ (B2 ++ Q)) = (P ++ Srt.mrg (ltc c) A1 B1) ++ A2 ++ B2 ++ Q := by simp
              have r5 : A2.length = 0 ∨ B2.length = 0 → (P ++ Srt.mrg (ltc c) A1 B1) ++ A2 ++ B2 ++ Q = (P ++ Srt.mrg (ltc c) A1 B1) ++ Srt.mrg (ltc c) A2 B2 ++ Q := fun h => by
                rcases h with h | h
                · rw [List.length_eq_zero_iff.1 h, Srt.mrg_nil_srt hw t4]; simp
                · rw [List.length_eq_zero_iff.1 h, Srt.mrg_nil]; simp
              have r6 : P ++ Srt.mrg (ltc c) (A1 ++ A2) (B1 ++ B2) ++ Q = (P ++ Srt.mrg (ltc c) A1 B1) ++ Srt.mrg (ltc c) A2 B2 ++ Q := by rw [hres]; simp
              obtain ⟨⟨l0, l1, l2, l3, l4, l5⟩, ⟨L1, L2, L3, L4, L5, L6, L7⟩, hn1, hn2, ⟨eA, eB, eC, eD, eE, eF⟩, h7⟩ := symL (ltc c) ha hA1 hB1 huM hm' hb' hN hM hn h1 h2 hX hY
              clear hxa hya hres i4 i5
              rcases h7 with ⟨z1, z2, z3, z4⟩ | ⟨z1, z2, z3, z4⟩ | ⟨z1, z2, z3, z4⟩ | ⟨z1, z2, z3, z4⟩ | ⟨z1, z2, z3, z4⟩ | ⟨z1, z2, z3, z4⟩ | ⟨z1, z2, z3, z4⟩
              · have fA := lt_yes A2.length eA z2
                have fB := lt_yes B1.length eB z3
                have fC := lt_yes A1.length eC z1
                have fD := lt_yes B1.length eD z3
                have fE := lt_yes A2.length eE z2
                have fF := lt_yes B2.length eF z4
                simp only [↓bk_bind, ↓bk_map, ↓bk_ite, ↓bk_some, ↓reduceIte, Nat.reduceEqDiff, Nat.reduceLT, Nat.reduceLeDiff, Nat.reduceAdd, Nat.reduceMul, reduceCtorEq, List.reduceReplicate, go_sem, hend, fA, fB, fC, fD, fE, fF, hN]
                rw [r0]
                apply callIK_of (c_slices_rotateCmpFunc (P ++ A1) A2 B1 (B2 ++ Q) f L1 L2 L3 z2 z3)
                simp only [↓bk_bind, ↓bk_map, ↓bk_ite, ↓bk_some, ↓reduceIte, Nat.reduceEqDiff, Nat.reduceLT, Nat.reduceLeDiff, Nat.reduceAdd, Nat.reduceMul, reduceCtorEq, List.reduceReplicate, go_sem, fC, fD, fE, fF, l0, l1]
                rw [r1]
                apply callIK_of (ih P A1 B1 (A2 ++ (B2 ++ Q)) hn1 ha L1 L4 z1 z3 t1 t3)
                simp only [↓bk_bind, ↓bk_map, ↓bk_ite, ↓bk_some, ↓reduceIte, Nat.reduceEqDiff, Nat.reduceLT, Nat.reduceLeDiff, Nat.reduceAdd, Nat.reduceMul, reduceCtorEq, List.reduceReplicate, go_sem, fE, fF, l2, l4]
                rw [r4]
                apply callIK_of (ih (P ++ Srt.mrg (ltc c) A1 B1) A2 B2 Q hn2 L5 L6 L7 z2 z4 t2 t4)
                simp only [↓bk_bind, ↓bk_map, ↓bk_ite, ↓bk_some, ↓reduceIte, Nat.reduceEqDiff, Nat.reduceLT, Nat.reduceLeDiff, Nat.reduceAdd, Nat.reduceMul, reduceCtorEq, List.reduceReplicate, go_sem, l3, l5]
                rw [r6]
              · have fA := lt_yes A2.length eA z2
                have fB := lt_yes B1.length eB z3
                have fC := lt_no A1.length eC z1
                have fD := lt_yes B1.length eD z3
                have fE := lt_yes A2.length eE z2
                have fF := lt_yes B2.length eF z4
                simp only [↓bk_bind, ↓bk_map, ↓bk_ite, ↓bk_some, ↓reduceIte, Nat.reduceEqDiff, Nat.reduceLT, Nat.reduceLeDiff, Nat.reduceAdd, Nat.reduceMul, reduceCtorEq, List.reduceReplicate, go_sem, hend, fA, fB, fC, fD, fE, fF, hN]
                rw [r0]
                apply callIK_of (c_slices_rotateCmpFunc (P ++ A1) A2 B1 (B2 ++ Q) f L1 L2 L3 z2 z3)
                simp only [↓bk_bind, ↓bk_map, ↓bk_ite, ↓bk_some, ↓reduceIte, Nat.reduceEqDiff, Nat.reduceLT, Nat.reduceLeDiff, Nat.reduceAdd, Nat.reduceMul, reduceCtorEq, List.reduceReplicate, go_sem, fC, fD, fE, fF, l0, l1]
                rw [r1]
                rw [r3 (.inl z1)]
                apply callIK_of (ih (P ++ Srt.mrg (ltc c) A1 B1) A2 B2 Q hn2 L5 L6 L7 z2 z4 t2 t4)
                simp only [↓bk_bind, ↓bk_map, ↓bk_ite, ↓bk_some, ↓reduceIte, Nat.reduceEqDiff, Nat.reduceLT, Nat.reduceLeDiff, Nat.reduceAdd, Nat.reduceMul, reduceCtorEq, List.reduceReplicate, go_sem, l3, l5]
                rw [r6]
              · have fA := lt_no A2.length eA z2
                have fB := lt_yes B1.length eB z3
                have fC := lt_yes A1.length eC z1
                have fD := lt_yes B1.length eD z3
                have fE := lt_no A2.length eE z2
                have fF := lt_yes B2.length eF z4
                simp only [↓bk_bind, ↓bk_map, ↓bk_ite, ↓bk_some, ↓reduceIte, Nat.reduceEqDiff, Nat.reduceLT, Nat.reduceLeDiff, Nat.reduceAdd, Nat.reduceMul, reduceCtorEq, List.reduceReplicate, go_sem, hend, fA, fB, fC, fD, fE, fF, hN]
                rw [r2 (.inl z2)]
                apply callIK_of (ih P A1 B1 (A2 ++ (B2 ++ Q)) hn1 ha L1 L4 z1 z3 t1 t3)
                simp only [↓bk_bind, ↓bk_map, ↓bk_ite, ↓bk_some, ↓reduceIte, Nat.reduceEqDiff, Nat.reduceLT, Nat.reduceLeDiff, Nat.reduceAdd, Nat.reduceMul, reduceCtorEq, List.reduceReplicate, go_sem, fE, fF, l2, l4]
                rw [r4]
                rw [r5 (.inl z2)]
                rw [r6]
              · have fA := lt_yes A2.length eA z2
                have fB := lt_no B1.length eB z3
                have fC := lt_yes A1.length eC z1
                have fD := lt_no B1.length eD z3
                have fE := lt_yes A2.length eE z2
                have fF := lt_yes B2.length eF z4
                simp only [↓bk_bind, ↓bk_map, ↓bk_ite, ↓bk_some, ↓reduceIte, Nat.reduceEqDiff, Nat.reduceLT, Nat.reduceLeDiff, Nat.reduceAdd, Nat.reduceMul, reduceCtorEq, List.reduceReplicate, go_sem, hend, fA, fB, fC, fD, fE, fF, hN]
                rw [r2 (.inr z3)]
                rw [r3 (.inr z3)]
                apply callIK_of (ih (P ++ Srt.mrg (ltc c) A1 B1) A2 B2 Q hn2 L5 L6 L7 z2 z4 t2 t4)
                simp only [↓bk_bind, ↓bk_map, ↓bk_ite, ↓bk_some, ↓reduceIte, Nat.reduceEqDiff, Nat.reduceLT, Nat.reduceLeDiff, Nat.reduceAdd, Nat.reduceMul, reduceCtorEq, List.reduceReplicate, go_sem, l3, l5]
                rw [r6]
              · have fA := lt_yes A2.length eA z2
                have fB := lt_yes B1.length eB z3
                have fC := lt_yes A1.length eC z1
                have fD := lt_yes B1.length eD z3
                have fE := lt_yes A2.length eE z2
                have fF := lt_no B2.length eF z4
                simp only [↓bk_bind, ↓bk_map, ↓bk_ite, ↓bk_some, ↓reduceIte, Nat.reduceEqDiff, Nat.reduceLT, Nat.reduceLeDiff, Nat.reduceAdd, Nat.reduceMul, reduceCtorEq, List.reduceReplicate, go_sem, hend, fA, fB, fC, fD, fE, fF, hN]
                rw [r0]
                apply callIK_of (c_slices_rotateCmpFunc (P ++ A1) A2 B1 (B2 ++ Q) f L1 L2 L3 z2 z3)
                simp only [↓bk_bind, ↓bk_map, ↓bk_ite, ↓bk_some, ↓reduceIte, Nat.reduceEqDiff, Nat.reduceLT, Nat.reduceLeDiff, Nat.reduceAdd, Nat.reduceMul, reduceCtorEq, List.reduceReplicate, go_sem, fC, fD, fE, fF, l0, l1]
                rw [r1]
                apply callIK_of (ih P A1 B1 (A2 ++ (B2 ++ Q)) hn1 ha L1 L4 z1 z3 t1 t3)
                simp only [↓bk_bind, ↓bk_map, ↓bk_ite, ↓bk_some, ↓reduceIte, Nat.reduceEqDiff, Nat.reduceLT, Nat.reduceLeDiff, Nat.reduceAdd, Nat.reduceMul, reduceCtorEq, List.reduceReplicate, go_sem, fE, fF, l2, l4]
                rw [r4]
                rw [r5 (.inr z4)]
                rw [r6]
              · have fA := lt_yes A2.length eA z2
                have fB := lt_yes B1.length eB z3
                have fC := lt_no A1.length eC z1
                have fD := lt_yes B1.length eD z3
                have fE := lt_yes A2.length eE z2
                have fF := lt_no B2.length eF z4
                simp only [↓bk_bind, ↓bk_map, ↓bk_ite, ↓bk_some, ↓reduceIte, Nat.reduceEqDiff, Nat.reduceLT, Nat.reduceLeDiff, Nat.reduceAdd, Nat.reduceMul, reduceCtorEq, List.reduceReplicate, go_sem, hend, fA, fB, fC, fD, fE, fF, hN]
                rw [r0]
                apply callIK_of (c_slices_rotateCmpFunc (P ++ A1) A2 B1 (B2 ++ Q) f L1 L2 L3 z2 z3)
                simp only [↓bk_bind, ↓bk_map, ↓bk_ite, ↓bk_some, ↓reduceIte, Nat.reduceEqDiff, Nat.reduceLT, Nat.reduceLeDiff, Nat.reduceAdd, Nat.reduceMul, reduceCtorEq, List.reduceReplicate, go_sem, fC, fD, fE, fF, l0, l1]
                rw [r1]
                rw [r3 (.inl z1)]
                rw [r5 (.inr z4)]
                rw [r6]
              · have fA := lt_no A2.length eA z2
                have fB := lt_no B1.length eB z3
                have fC := lt_yes A1.length eC z1
                have fD := lt_no B1.length eD z3
                have fE := lt_no A2.length eE z2
                have fF := lt_yes B2.length eF z4
                simp only [↓bk_bind, ↓bk_map, ↓bk_ite, ↓bk_some, ↓reduceIte, Nat.reduceEqDiff, Nat.reduceLT, Nat.reduceLeDiff, Nat.reduceAdd, Nat.reduceMul, reduceCtorEq, List.reduceReplicate, go_sem, hend, fA, fB, fC, fD, fE, fF, hN]
                rw [r2 (.inl z2)]
                rw [r3 (.inr z3)]
                rw [r5 (.inl z2)]
                rw [r6]
        · simp only [↓bk_bind, ↓bk_map, ↓bk_ite, ↓bk_some, ↓reduceIte, Nat.reduceEqDiff, Nat.reduceLT, Nat.reduceLeDiff, Nat.reduceAdd, Nat.reduceMul, reduceCtorEq, List.reduceReplicate, go_sem, hN, wS1 (a := a + M + m) (by omega) (by omega)]
          obtain ⟨u0, hu0⟩ : ∃ u, u = 0 := ⟨_, rfl⟩
          obtain ⟨v0, hv0⟩ : ∃ v, v = X.length := ⟨_, rfl⟩
          have q1 : u0 ≤ v0 := by omega
          have q2 : v0 ≤ M := by omega
          have q3 : v0 ≤ X.length := by omega
          have q4 : M ≤ u0 + Y.length := by omega
          have q5 : u0 = 0 ∨ Y.length ≤ M - u0 := by omega
          have q6 : v0 = M ∨ v0 = X.length := by omega
          refine loopK_up (ι := Nat × Nat) (fun s => [(20, vI ((a + s.1 : Nat) : Int)), (21, vI ((a + s.2 : Nat) : Int))]) (fun s => []) (fun s => SymI (ltc c) X Y M u0 v0 s.1 s.2) (fun s => s.2 - s.1) (u0, v0) ?_
          simp only [↓bk_bind, ↓bk_map, ↓bk_ite, ↓bk_some, ↓reduceIte, Nat.reduceEqDiff, Nat.reduceLT, Nat.reduceLeDiff, Nat.reduceAdd, Nat.reduceMul, reduceCtorEq, List.reduceReplicate, go_sem, hN]
          refine ⟨?_, ⟨by omega, q1, by omega, q5.imp_right .inl, q6.imp_right .inl⟩, ?_⟩
          · simp only [↓bk_bind, ↓bk_map, ↓bk_ite, ↓bk_some, ↓reduceIte, Nat.reduceEqDiff, Nat.reduceLT, Nat.reduceLeDiff, Nat.reduceAdd, Nat.reduceMul, reduceCtorEq, List.reduceReplicate, go_sem]
            first | exact ⟨by omega, by omega⟩ | omega
          · rintro ⟨u, v⟩ hI
            obtain ⟨i1, i2, i3, i4, i5⟩ := hI
            simp only at i1 i2 i3 i4 i5
            simp only [↓bk_bind, ↓bk_map, ↓bk_ite, ↓bk_some, ↓reduceIte, Nat.reduceEqDiff, Nat.reduceLT, Nat.reduceLeDiff, Nat.reduceAdd, Nat.reduceMul, reduceCtorEq, List.reduceReplicate, go_sem, hN, shr1, half_of (i := a + u) (j := a + v) (by omega)]
            refine ⟨fun hlt => ?_, fun hge => ?_⟩
            · have hwx : (a + u + (a + v)) / 2 = a + (u + v) / 2 := by omega
              have w1 : u ≤ (u + v) / 2 := by omega
              have w2 : (u + v) / 2 < v := by omega
              rw [hwx]
              generalize (u + v) / 2 = w at w1 w2
              have hpc : IntKind.i64.wrap (((a + M + m - 1 : Nat) : Int) - ((a + w : Nat) : Int)) = ((m + (M - 1 - w) : Nat) : Int) := by
                rw [wI (by omega) (by omega)]; omega
              obtain ⟨x, hx⟩ := at_some (show w < X.length by omega)
              obtain ⟨y, hy⟩ := at_some (show M - 1 - w < Y.length by omega)
              have hxw := (hxa w (by omega)).trans hx
              have hyw := (hya (M - 1 - w) (by omega)).trans hy
              have k1 : (0 : Int) ≤ ((a + w : Nat) : Int) := by omega
              have k2 : ((a + w : Nat) : Int) < (N : Int) := by omega
              have k3 : (0 : Int) ≤ ((m + (M - 1 - w) : Nat) : Int) := by omega
              have k4 : ((m + (M - 1 - w) : Nat) : Int) < (N : Int) := by omega
              simp only [↓bk_bind, ↓bk_map, ↓bk_ite, ↓bk_some, ↓reduceIte, Nat.reduceEqDiff, Nat.reduceLT, Nat.reduceLeDiff, Nat.reduceAdd, Nat.reduceMul, reduceCtorEq, List.reduceReplicate, go_sem, wK (k := a + w) (by omega), hpc, k1, k2, k3, k4, bk_eq hxw, bk_eq hyw, hN]
              apply callK_of (hc y x)
              simp only [↓bk_bind, ↓bk_map, ↓bk_ite, ↓bk_some, ↓reduceIte, Nat.reduceEqDiff, Nat.reduceLT, Nat.reduceLeDiff, Nat.reduceAdd, Nat.reduceMul, reduceCtorEq, List.reduceReplicate, go_sem, hN, wN1 (a := a + w) (by omega)]
              intro _
              refine ⟨fun hn => ⟨(w + 1, v), ⟨rfl, rfl⟩, ⟨by omega, by omega, i3, .inr (.inr ⟨y, x, by rw [show M - (w + 1) = M - 1 - w by omega]; exact hy, hx, by simpa [ltc] using hn⟩), i5⟩, by show v - (w + 1) < v - u; omega⟩, fun hn => ⟨(u, w), ⟨rfl, rfl⟩, ⟨i1, w1, by omega, i4, .inr (.inr ⟨y, x, hy, hx, by simpa [ltc] using hn⟩)⟩, by show w - u < v - u; omega⟩⟩
            · obtain rfl : u = v := by omega
              obtain ⟨A1, A2, B1, B2, rfl, rfl, hA1, hB1, huM, hres, t1, t2, t3, t4⟩ := SymI.fin hw ⟨i1, i2, i3, i4, i5⟩ sX sY q2 q3 q4
              have hend : IntKind.i64.wrap (((a + M + m : Nat) : Int) - ((a + u : Nat) : Int)) = ((m + (M - u) : Nat) : Int) := by
                rw [wI (by omega) (by omega)]; omega
              have r0 : P ++ (A1 ++ A2) ++ (B1 ++ B2) ++ Q = (P ++ A1) ++ A2 ++ B1 ++ (B2 ++ Q) := by simp
              have r1 : (P ++ A1) ++ B1 ++ A2 ++ (B2 ++ Q) = P ++ A1 ++ B1 ++ (A2 ++ (B2 ++ Q)) := by simp
              have r2 : A2.length = 0 ∨ B1.length = 0 → P ++ (A1 ++ A2) ++ (B1 ++ B2) ++ Q = P ++ A1 ++ B1 ++ (A2 ++ (B2 ++ Q)) := fun h => by
                rcases h with h | h
                · rw [List.length_eq_zero_iff.1 h]; simp
                · rw [List.length_eq_zero_iff.1 h]; simp
              have r3 : A1.length = 0 ∨ B1.length = 0 → P ++ A1 ++ B1 ++ (A2 ++ (B2 ++ Q)) = (P ++ Srt.mrg (ltc c) A1 B1) ++ A2 ++ B2 ++ Q := fun h => by
                rcases h with h | h
                · rw [List.length_eq_zero_iff.1 h, Srt.mrg_nil_srt hw t3]; simp
                · rw [List.length_eq_zero_iff.1 h, Srt.mrg_nil]; simp
              have r4 : P ++ Srt.mrg (ltc c) A1 B1 ++ (A2 ++ (B2 ++ Q)) = (P ++ Srt.mrg (ltc c) A1 B1) ++ A2 ++ B2 ++ Q := by simp
              have r5 : A2.length = 0 ∨ B2.length = 0 → (P ++ Srt.mrg (ltc c) A1 B1) ++ A2 ++ B2 ++ Q = (P ++ Srt.mrg (ltc c) A1 B1) ++ Srt.mrg (ltc c) A2 B2 ++ Q := fun h => by
                rcases h with h | h
                · rw [List.length_eq_zero_iff.1 h, Srt.mrg_nil_srt hw t4]; simp
                · rw [List.length_eq_zero_iff.1 h, Srt.mrg_nil]; simp
              have r6 : P ++ Srt.mrg (ltc c) (A1 ++ A2) (B1 ++ B2) ++ Q = (P ++ Srt.mrg (ltc c) A1 B1) ++ Srt.mrg (ltc c) A2 B2 ++ Q := by rw [hres]; simp
              obtain ⟨⟨l0, l1, l2, l3, l4, l5⟩, ⟨L1, L2, L3, L4, L5, L6, L7⟩, hn1, hn2, ⟨eA, eB, eC, eD, eE, eF⟩, h7⟩ := symL (ltc c) ha hA1 hB1 huM hm' hb' hN hM hn h1 h2 hX hY
              clear hxa hya hres i4 i5
              rcases h7 with ⟨z1, z2, z3, z4⟩ | ⟨z1, z2, z3, z4⟩ | ⟨z1, z2, z3, z4⟩ | ⟨z1, z2, z3, z4⟩ | ⟨z1, z2, z3, z4⟩ | ⟨z1, z2, z3, z4⟩ | ⟨z1, z2, z3, z4⟩
              · have fA := lt_yes A2.length eA z2
                have fB := lt_yes B1.length eB z3
                have fC := lt_yes A1.length eC z1
                have fD := lt_yes B1.length eD z3
                have fE := lt_yes A2.length eE z2
                have fF := lt_yes B2.length eF z4
                simp only [↓bk_bind, ↓bk_map, ↓bk_ite, ↓bk_some, ↓reduceIte, Nat.reduceEqDiff, Nat.reduceLT, Nat.reduceLeDiff, Nat.reduceAdd, Nat.reduceMul, reduceCtorEq, List.reduceReplicate, go_sem, hend, fA, fB, fC, fD, fE, fF, hN]
                rw [r0]
                apply callIK_of (c_slices_rotateCmpFunc (P ++ A1) A2 B1 (B2 ++ Q) f L1 L2 L3 z2 z3)
                simp only [↓bk_bind, ↓bk_map, ↓bk_ite, ↓bk_some, ↓reduceIte, Nat.reduceEqDiff, Nat.reduceLT, Nat.reduceLeDiff, Nat.reduceAdd, Nat.reduceMul, reduceCtorEq, List.reduceReplicate, go_sem, fC, fD, fE, fF, l0, l1]
                rw [r1]
                apply callIK_of (ih P A1 B1 (A2 ++ (B2 ++ Q)) hn1 ha L1 L4 z1 z3 t1 t3)
                simp only [↓bk_bind, ↓bk_map, ↓bk_ite, ↓bk_some, ↓reduceIte, Nat.reduceEqDiff, Nat.reduceLT, Nat.reduceLeDiff, Nat.reduceAdd, Nat.reduceMul, reduceCtorEq, List.reduceReplicate, go_sem, fE, fF, l2, l4]
                rw [r4]
                apply callIK_of (ih (P ++ Srt.mrg (ltc c) A1 B1) A2 B2 Q hn2 L5 L6 L7 z2 z4 t2 t4)
                simp only [↓bk_bind, ↓bk_map, ↓bk_ite, ↓bk_some, ↓reduceIte, Nat.reduceEqDiff, Nat.reduceLT, Nat.reduceLeDiff, Nat.reduceAdd, Nat.reduceMul, reduceCtorEq, List.reduceReplicate, go_sem, l3, l5]
                rw [r6]
              · have fA := lt_yes A2.length eA z2
                have fB := lt_yes B1.length eB z3
                have fC := lt_no A1.length eC z1
                have fD := lt_yes B1.length eD z3
                have fE := lt_yes A2.length eE z2
                have fF := lt_yes B2.length eF z4
                simp only [↓bk_bind, ↓bk_map, ↓bk_ite, ↓bk_some, ↓reduceIte, Nat.reduceEqDiff, Nat.reduceLT, Nat.reduceLeDiff, Nat.reduceAdd, Nat.reduceMul, reduceCtorEq, List.reduceReplicate, go_sem, hend, fA, fB, fC, fD, fE, fF, hN]
                rw [r0]
                apply callIK_of (c_slices_rotateCmpFunc (P ++ A1) A2 B1 (B2 ++ Q) f L1 L2 L3 z2 z3)
                simp only [↓bk_bind, ↓bk_map, ↓bk_ite, ↓bk_some, ↓reduceIte, Nat.reduceEqDiff, Nat.reduceLT, Nat.reduceLeDiff, Nat.reduceAdd, Nat.reduceMul, reduceCtorEq, List.reduceReplicate, go_sem, fC, fD, fE, fF, l0, l1]
                rw [r1]
                rw [r3 (.inl z1)]
                apply callIK_of (ih (P ++ Srt.mrg (ltc c) A1 B1) A2 B2 Q hn2 L5 L6 L7 z2 z4 t2 t4)
                simp only [↓bk_bind, ↓bk_map, ↓bk_ite, ↓bk_some, ↓reduceIte, Nat.reduceEqDiff, Nat.reduceLT, Nat.reduceLeDiff, Nat.reduceAdd, Nat.reduceMul, reduceCtorEq, List.reduceReplicate, go_sem, l3, l5]
                rw [r6]
              · have fA := lt_no A2.length eA z2
                have fB := lt_yes B1.length eB z3
                have fC := lt_yes A1.length eC z1
                have fD := lt_yes B1.length eD z3
                have fE := lt_no A2.length eE z2
                have fF := lt_yes B2.length eF z4
                simp only [↓bk_bind, ↓bk_map, ↓bk_ite, ↓bk_some, ↓reduceIte, Nat.reduceEqDiff, Nat.reduceLT, Nat.reduceLeDiff, Nat.reduceAdd, Nat.reduceMul, reduceCtorEq, List.reduceReplicate, go_sem, hend, fA, fB, fC, fD, fE, fF, hN]
                rw [r2 (.inl z2)]
                apply callIK_of (ih P A1 B1 (A2 ++ (B2 ++ Q)) hn1 ha L1 L4 z1 z3 t1 t3)
                simp only [↓bk_bind, ↓bk_map, ↓bk_ite, ↓bk_some, ↓reduceIte, Nat.reduceEqDiff, Nat.reduceLT, Nat.reduceLeDiff, Nat.reduceAdd, Nat.reduceMul, reduceCtorEq, List.reduceReplicate, go_sem, fE, fF, l2, l4]
                rw [r4]
                rw [r5 (.inl z2)]
                rw [r6]
              · have fA := lt_yes A2.length eA z2
                have fB := lt_no B1.length eB z3
                have fC := lt_yes A1.length eC z1
                have fD := lt_no B1.length eD z3
                have fE := lt_yes A2.length eE z2
                have fF := lt_yes B2.length eF z4
                simp only [↓bk_bind, ↓bk_map, ↓bk_ite, ↓bk_some, ↓reduceIte, Nat.reduceEqDiff, Nat.reduceLT, Nat.reduceLeDiff, Nat.reduceAdd, Nat.reduceMul, reduceCtorEq, List.reduceReplicate, go_sem, hend, fA, fB, fC, fD, fE, fF, hN]
                rw [r2 (.inr z3)]
                rw [r3 (.inr z3)]
                apply callIK_of (ih (P ++ Srt.mrg (ltc c) A1 B1) A2 B2 Q hn2 L5 L6 L7 z2 z4 t2 t4)
                simp only [↓bk_bind, ↓bk_map, ↓bk_ite, ↓bk_some, ↓reduceIte, Nat.reduceEqDiff, Nat.reduceLT, Nat.reduceLeDiff, Nat.reduceAdd, Nat.reduceMul, reduceCtorEq, List.reduceReplicate, go_sem, l3, l5]
                rw [r6]
              · have fA := lt_yes A2.length eA z2
                have fB := lt_yes B1.length eB z3
                have fC := lt_yes A1.length eC z1
                have fD := lt_yes B1.length eD z3
                have fE := lt_yes A2.length eE z2
                have fF := lt_no B2.length eF z4
                simp only [↓bk_bind, ↓bk_map, ↓bk_ite, ↓bk_some, ↓reduceIte, Nat.reduceEqDiff, Nat.reduceLT, Nat.reduceLeDiff, Nat.reduceAdd, Nat.reduceMul, reduceCtorEq, List.reduceReplicate, go_sem, hend, fA, fB, fC, fD, fE, fF, hN]
                rw [r0]
                apply callIK_of (c_slices_rotateCmpFunc (P ++ A1) A2 B1 (B2 ++ Q) f L1 L2 L3 z2 z3)
                simp only [↓bk_bind, ↓bk_map, ↓bk_ite, ↓bk_some, ↓reduceIte, Nat.reduceEqDiff, Nat.reduceLT, Nat.reduceLeDiff, Nat.reduceAdd, Nat.reduceMul, reduceCtorEq, List.reduceReplicate, go_sem, fC, fD, fE, fF, l0, l1]
                rw [r1]
                apply callIK_of (ih P A1 B1 (A2 ++ (B2 ++ Q)) hn1 ha L1 L4 z1 z3 t1 t3)
                simp only [↓bk_bind, ↓bk_map, ↓bk_ite, ↓bk_some, ↓reduceIte, Nat.reduceEqDiff, Nat.reduceLT, Nat.reduceLeDiff, Nat.reduceAdd, Nat.reduceMul, reduceCtorEq, List.reduceReplicate, go_sem, fE, fF, l2, l4]
                rw [r4]
                rw [r5 (.inr z4)]
                rw [r6]
              · have fA := lt_yes A2.length eA z2
                have fB := lt_yes B1.length eB z3
                have fC := lt_no A1.length eC z1
                have fD := lt_yes B1.length eD z3
                have fE := lt_yes A2.length eE z2
                have fF := lt_no B2.length eF z4
                simp only [↓bk_bind, ↓bk_map, ↓bk_ite, ↓bk_some, ↓reduceIte, Nat.reduceEqDiff, Nat.reduceLT, Nat.reduceLeDiff, Nat.reduceAdd, Nat.reduceMul, reduceCtorEq, List.reduceReplicate, go_sem, hend, fA, fB, fC, fD, fE, fF, hN]
                rw [r0]
                apply callIK_of (c_slices_rotateCmpFunc (P ++ A1) A2 B1 (B2 ++ Q) f L1 L2 L3 z2 z3)
                simp only [↓bk_bind, ↓bk_map, ↓bk_ite, ↓bk_some, ↓reduceIte, Nat.reduceEqDiff, Nat.reduceLT, Nat.reduceLeDiff, Nat.reduceAdd, Nat.reduceMul, reduceCtorEq, List.reduceReplicate, go_sem, fC, fD, fE, fF, l0, l1]
                rw [r1]
                rw [r3 (.inl z1)]
                rw [r5 (.inr z4)]
                rw [r6]
              · have fA := lt_no A2.length eA z2
                have fB := lt_no B1.length eB z3
                have fC := lt_yes A1.length eC z1
                have fD := lt_no B1.length eD z3
                have fE := lt_no A2.length eE z2
                have fF := lt_yes B2.length eF z4
                simp only [↓bk_bind, ↓bk_map, ↓bk_ite, ↓bk_some, ↓reduceIte, Nat.reduceEqDiff, Nat.reduceLT, Nat.reduceLeDiff, Nat.reduceAdd, Nat.reduceMul, reduceCtorEq, List.reduceReplicate, go_sem, hend, fA, fB, fC, fD, fE, fF, hN]
                rw [r2 (.inl z2)]
                rw [r3 (.inr z3)]
                rw [r5 (.inl z2)]
                rw [r6]
end Go.Proofs.YtbnbgekjjbpljaaR
namespace Go.Proofs.YtbnbgekjjbpljaaR
open Go Go.RowKit Go.Proofs
set_option linter.unusedSimpArgs false
set_option linter.unusedVariables false
namespace Srt
variable {α : Type} {lt : α → α → Bool}
/-- k blocks of s elements, each sorted; the rest as it was. -/
def blks (lt : α → α → Bool) (s : Nat) : Nat → List α → List α
  | 0, l => l
  | k + 1, l => isort lt (l.take s) ++ blks lt s k (l.drop s)
theorem len_blks {s : Nat} : ∀ {k : Nat} {l : List α}, (blks lt s k l).length = l.length
  | 0, l => rfl
  | k + 1, l => by
    simp only [blks, List.length_append, len_isort, len_blks, List.length_take, List.length_drop]; omega
/-- Blocks that are sorted, and the rest. -/
theorem blks_split {s : Nat} : ∀ {k : Nat} {l : List α}, k * s ≤ l.length → blks lt s k l = (blks lt s k (l.take (k * s))) ++ l.drop (k * s)
  | 0, l, _ => by simp [blks]
  | k + 1, l, h => by
    rw [Nat.succ_mul] at h
    simp only [blks]
    rw [blks_split (k := k) (l := l.drop s) (by simp; omega), List.append_assoc]
    congr 1
    · rw [List.take_take, Nat.min_eq_left (by rw [Nat.succ_mul]; omega)]
    · rw [List.drop_drop, List.drop_take, show (k + 1) * s - s = k * s by rw [Nat.succ_mul]; omega, show s + k * s = (k + 1) * s by rw [Nat.succ_mul]; omega]
/-- One block more. -/
theorem blks_snoc {s : Nat} : ∀ {k : Nat} {l : List α}, (k + 1) * s ≤ l.length → ∃ A, A.length = k * s ∧ blks lt s k l = A ++ ((l.drop (k * s)).take s ++ l.drop ((k + 1) * s)) ∧ blks lt s (k + 1) l = A ++ (isort lt ((l.drop (k * s)).take s) ++ l.drop ((k + 1) * s))
  | 0, l, h => ⟨[], by simp, by simp [blks], by simp [blks]⟩
  | k + 1, l, h => by
    have h' : (k + 1) * s ≤ (l.drop s).length := by
      rw [Nat.succ_mul] at h
      simp only [List.length_drop]; omega
    obtain ⟨A, hA, e1, e2⟩ := blks_snoc (k := k) (l := l.drop s) h'
    have d1 : s + k * s = (k + 1) * s := by rw [Nat.succ_mul]; omega
    have d2 : s + (k + 1) * s = (k + 1 + 1) * s := by rw [Nat.succ_mul (k + 1)]; omega
    have hs : s ≤ l.length := by rw [Nat.succ_mul] at h; omega
    refine ⟨isort lt (l.take s) ++ A, ?_, ?_, ?_⟩
    · rw [List.length_append, len_isort, List.length_take, Nat.min_eq_left hs, hA, d1]
    · rw [blks, e1, List.drop_drop, List.drop_drop, d1, d2, List.append_assoc]
    · rw [blks, e2, List.drop_drop, List.drop_drop, d1, d2, List.append_assoc]
/-- The last block, shorter than s. -/
theorem blks_last {s : Nat} : ∀ {k : Nat} {l : List α}, k * s ≤ l.length → l.length < (k + 1) * s → ∃ A, A.length = k * s ∧ blks lt s k l = A ++ l.drop (k * s) ∧ blks lt s (k + 1) l = A ++ isort lt (l.drop (k * s))
  | 0, l, _, h => by
    have h' : l.length ≤ s := by omega
    exact ⟨[], by simp, by simp [blks], by simp [blks, List.take_of_length_le h', List.drop_of_length_le h']⟩
  | k + 1, l, h0, h => by
    have d1 : s + k * s = (k + 1) * s := by rw [Nat.succ_mul]; omega
    have d2 : s + (k + 1) * s = (k + 1 + 1) * s := by rw [Nat.succ_mul (k + 1)]; omega
    have h1 : k * s + s ≤ l.length := by rw [← Nat.succ_mul]; exact h0
    have h2 : l.length < k * s + s + s := by rw [← Nat.succ_mul, ← Nat.succ_mul]; exact h
    obtain ⟨A, hA, e1, e2⟩ := blks_last (k := k) (l := l.drop s) (Nat.le_trans (Nat.le_sub_of_add_le h1) (by rw [List.length_drop]; exact Nat.le_refl _)) (by rw [List.length_drop, Nat.succ_mul]; exact Nat.sub_lt_right_of_lt_add (Nat.le_trans (Nat.le_add_left _ _) h1) h2)
    have hs : s ≤ l.length := Nat.le_trans (Nat.le_add_left _ _) h1
    refine ⟨isort lt (l.take s) ++ A, ?_, ?_, ?_⟩
    · rw [List.length_append, len_isort, List.length_take, Nat.min_eq_left hs, hA, d1]
    · rw [blks, e1, List.drop_drop, d1, List.append_assoc]
    · rw [blks, e2, List.drop_drop, d1, List.append_assoc]
theorem blk_le {s : Nat} {l : List α} (h : l.length ≤ s) : blk lt s l = isort lt l := by
  rw [blk, dif_pos (.inr h)]
theorem blk_eq {s : Nat} {l : List α} : blk lt s l = isort lt (l.take s) ++ blk lt s (l.drop s) := by
  by_cases h : s = 0 ∨ l.length ≤ s
  · rcases h with rfl | h
    · simp [isort, mrg]
    · rw [blk_le h, List.take_of_length_le h, List.drop_of_length_le h, blk_le (by simp)]
      simp [isort, mrg]
  · rw [blk, dif_neg h]
theorem len_blk {s : Nat} : ∀ {n : Nat} {l : List α}, l.length ≤ n → (blk lt s l).length = l.length
  | 0, l, h => by rw [blk_le (by omega), len_isort]
  | n + 1, l, h => by
    by_cases h2 : s = 0 ∨ l.length ≤ s
    · rw [blk, dif_pos h2, len_isort]
    · rw [blk_eq, List.length_append, len_isort, len_blk (n := n) (by simp only [List.length_drop]; omega), List.length_take, List.length_drop]
      omega
theorem blks_blk {s : Nat} : ∀ {k : Nat} {l : List α}, k * s ≤ l.length → l.length < (k + 1) * s → blks lt s (k + 1) l = blk lt s l
  | 0, l, _, h => by
    have h' : l.length ≤ s := by omega
    rw [blk_le h']
    simp [blks, List.take_of_length_le h', List.drop_of_length_le h']
  | k + 1, l, h0, h => by
    rw [Nat.succ_mul] at h0 h
    rw [blks, blk_eq, blks_blk (k := k) (l := l.drop s) (by rw [List.length_drop]; omega) (by rw [List.length_drop]; omega)]
/-- k double blocks sorted, the rest in blocks. -/
def mix (lt : α → α → Bool) (s : Nat) : Nat → List α → List α
  | 0, l => blk lt s l
  | k + 1, l => isort lt (l.take (2 * s)) ++ mix lt s k (l.drop (2 * s))
theorem len_mix {s : Nat} : ∀ {k : Nat} {l : List α}, (mix lt s k l).length = l.length
  | 0, l => len_blk (Nat.le_refl _)
  | k + 1, l => by
    rw [mix, List.length_append, len_isort, len_mix, List.length_take, List.length_drop]; omega
theorem mix_step (hw : Swo lt) {s : Nat} : ∀ {k : Nat} {l : List α}, k * (2 * s) + 2 * s ≤ l.length → ∃ P X Y Q, P.length = k * (2 * s) ∧ X.length = s ∧ Y.length = s ∧ srt lt X ∧ srt lt Y ∧ mix lt s k l = P ++ X ++ Y ++ Q ∧ mix lt s (k + 1) l = P ++ mrg lt X Y ++ Q
  | 0, l, h => by
    refine ⟨[], isort lt (l.take s), isort lt ((l.drop s).take s), blk lt s (l.drop (2 * s)), by simp, ?_, ?_, srt_isort hw _, srt_isort hw _, ?_, ?_⟩
    · rw [len_isort, List.length_take]; omega
    · rw [len_isort, List.length_take, List.length_drop]; omega
    · rw [mix, blk_eq, blk_eq (l := l.drop s), List.drop_drop, show s + s = 2 * s by omega]
      simp
    · rw [← isort_append hw, mix, mix, List.nil_append, ← List.take_add, show s + s = 2 * s by omega]
  | k + 1, l, h => by
    have e : (k + 1) * (2 * s) = k * (2 * s) + 2 * s := Nat.succ_mul ..
    rw [e] at h
    obtain ⟨P, X, Y, Q, h1, h2, h3, h4, h5, h6, h7⟩ := mix_step hw (s := s) (k := k) (l := l.drop (2 * s)) (by rw [List.length_drop]; omega)
    refine ⟨isort lt (l.take (2 * s)) ++ P, X, Y, Q, ?_, h2, h3, h4, h5, ?_, ?_⟩
    · rw [List.length_append, len_isort, h1, List.length_take, e]; omega
    · rw [mix, h6]; simp
    · rw [mix, h7]; simp
theorem mix_end (hw : Swo lt) {s : Nat} : ∀ {k : Nat} {l : List α}, k * (2 * s) ≤ l.length → l.length < k * (2 * s) + 2 * s →
    (k * (2 * s) + s < l.length → ∃ P X Y, P.length = k * (2 * s) ∧ X.length = s ∧ k * (2 * s) + s + Y.length = l.length ∧ srt lt X ∧ srt lt Y ∧ mix lt s k l = P ++ X ++ Y ∧ blk lt (2 * s) l = P ++ mrg lt X Y) ∧
    (l.length ≤ k * (2 * s) + s → mix lt s k l = blk lt (2 * s) l)
  | 0, l, h0, h => by
    refine ⟨fun h1 => ⟨[], isort lt (l.take s), isort lt (l.drop s), by simp, ?_, ?_, srt_isort hw _, srt_isort hw _, ?_, ?_⟩, fun h1 => ?_⟩
    · rw [len_isort, List.length_take]; omega
    · rw [len_isort, List.length_drop]; omega
    · rw [mix, blk_eq, blk_le (l := l.drop s) (by rw [List.length_drop]; omega), List.nil_append]
    · rw [← isort_append hw, List.take_append_drop, blk_le (by omega), List.nil_append]
    · rw [mix, blk_le (by omega), blk_le (by omega)]
  | k + 1, l, h0, h => by
    have e : (k + 1) * (2 * s) = k * (2 * s) + 2 * s := Nat.succ_mul ..
    rw [e] at h h0
    obtain ⟨i1, i2⟩ := mix_end hw (s := s) (k := k) (l := l.drop (2 * s)) (by rw [List.length_drop]; omega) (by rw [List.length_drop]; omega)
    rw [List.length_drop] at i1 i2
    rw [e]
    refine ⟨fun h1 => ?_, fun h1 => ?_⟩
    · obtain ⟨P, X, Y, h1, h2, h3, h4, h5, h6, h7⟩ := i1 (by omega)
      refine ⟨isort lt (l.take (2 * s)) ++ P, X, Y, ?_, h2, by omega, h4, h5, ?_, ?_⟩
      · rw [List.length_append, len_isort, h1, List.length_take]; omega
      · rw [mix, h6]; simp
      · rw [blk_eq, h7]; simp
    · rw [mix, i2 (by omega), ← blk_eq]
end Srt
def m_slices_stableCmpFunc_impl_Found : MC :=
(.seq (pr [.mv 6 (.c (.int .i64 20))] [0,1,2,6])
(.seq (pr [.mv 10 (.s 6), .mv 7 (.c (.int .i64 0)), .mv 8 (.s 10)] [0,1,2,6,7,8])
(.seq (.block 0 (.loop ([0,1,2,6,7,8], []) (.seq (.seq (pr [.mv 11 (.s 8), .mv 12 (.s 1), .bin 13 false .leq (.s 11) (.s 12)] [0,1,2,6,7,8,13])
(.cond (.s 13) .skip (.exit 0)))
(.block 1 (.seq (pr [.mv 14 (.s 0), .mv 15 (.s 7), .mv 16 (.s 8), .mv 17 (.s 2), .callI 18 [] (.f n_slices_insertionSortCmpFunc_impl_Found) [.s 14, .s 15, .s 16, .s 17] [0] []] [0,1,2,6,8])
(.seq (pr [.mv 19 (.s 8), .mv 7 (.s 19)] [0,1,2,6,7,8])
(pr [.mv 20 (.s 8), .mv 21 (.s 6), .bin 22 false .add (.s 20) (.s 21), .mv 8 (.s 22)] [0,1,2,6,7,8])))))))
(.seq (pr [.mv 23 (.s 0), .mv 24 (.s 7), .mv 25 (.s 1), .mv 26 (.s 2), .callI 27 [] (.f n_slices_insertionSortCmpFunc_impl_Found) [.s 23, .s 24, .s 25, .s 26] [0] []] [0,1,2,6])
(.block 2 (.loop ([0,1,2,6], []) (.seq (.seq (pr [.mv 28 (.s 6), .mv 29 (.s 1), .bin 30 false .lss (.s 28) (.s 29)] [0,1,2,6,30])
(.cond (.s 30) .skip (.exit 2)))
(.block 3 (.seq (pr [.mv 31 (.s 6), .bin 32 false .mul (.c (.int .i64 2)) (.s 31), .mv 7 (.c (.int .i64 0)), .mv 8 (.s 32)] [0,1,2,6,7,8])
(.seq (.block 4 (.loop ([0,1,2,6,7,8], []) (.seq (.seq (pr [.mv 33 (.s 8), .mv 34 (.s 1), .bin 35 false .leq (.s 33) (.s 34)] [0,1,2,6,7,8,35])
(.cond (.s 35) .skip (.exit 4)))
(.block 5 (.seq (pr [.mv 36 (.s 0), .mv 37 (.s 7), .mv 38 (.s 7), .mv 39 (.s 6), .bin 40 false .add (.s 38) (.s 39), .mv 41 (.s 8), .mv 42 (.s 2), .callI 43 [] (.f n_slices_symMergeCmpFunc_impl_Found) [.s 36, .s 37, .s 40, .s 41, .s 42] [0] []] [0,1,2,6,8])
(.seq (pr [.mv 44 (.s 8), .mv 7 (.s 44)] [0,1,2,6,7,8])
(pr [.mv 45 (.s 8), .mv 46 (.s 6), .bin 47 false .mul (.c (.int .i64 2)) (.s 46), .bin 48 false .add (.s 45) (.s 47), .mv 8 (.s 48)] [0,1,2,6,7,8])))))))
(.seq (.seq (pr [.mv 49 (.s 7), .mv 50 (.s 6), .bin 51 false .add (.s 49) (.s 50), .mv 9 (.s 51)] [0,1,2,6,7,9])
(.seq (pr [.mv 52 (.s 9), .mv 53 (.s 1), .bin 54 false .lss (.s 52) (.s 53)] [0,1,2,6,7,9,54])
(.cond (.s 54) (pr [.mv 55 (.s 0), .mv 56 (.s 7), .mv 57 (.s 9), .mv 58 (.s 1), .mv 59 (.s 2), .callI 60 [] (.f n_slices_symMergeCmpFunc_impl_Found) [.s 55, .s 56, .s 57, .s 58, .s 59] [0] []] [0,1,2,6]) .skip)))
(pr [.mv 61 (.s 6), .bin 62 false .mul (.s 61) (.c (.int .i64 2)), .mv 6 (.s 62)] [0,1,2,6]))))))))))))
set_option maxHeartbeats 4000000 in
theorem c_slices_stableCmpFunc (X : List GFound) (f : FuncId) (c : GFound → GFound → Int) (hc : ∀ x y, Ctr Try.prog f [aS x.enc, aS y.enc] [rI (c x y)]) (hw : Srt.Swo (ltc c)) : CtrI Try.prog n_slices_stableCmpFunc_impl_Found [oL 6 (X.map GFound.enc), iI X.length, fI f] [some (6, (Srt.isort (ltc c) X).map GFound.enc)] [] := by
  refine ctrI_at (M := m_slices_stableCmpFunc_impl_Found) (m := 0) (n := 63) (res := []) hmix Try.func44 rfl (by kernel_rfl) rfl (by kernel_rfl) (by kernel_rfl) (Nat.le_of_ble_eq_true rfl) rfl rfl ?_; unfold m_slices_stableCmpFunc_impl_Found
  intro hbd
  have hl := len_of_bd hbd
  clear hbd
  simp only [roomB] at hl
  simp only [↓bk_bind, ↓bk_map, ↓bk_ite, ↓bk_some, ↓reduceIte, Nat.reduceEqDiff, Nat.reduceLT, Nat.reduceLeDiff, Nat.reduceAdd, Nat.reduceMul, reduceCtorEq, List.reduceReplicate, go_sem]
  refine loopK_up (fun k : Nat => [(7, vI ((k * 20 : Nat) : Int)), (8, vI (((k + 1) * 20 : Nat) : Int))]) (fun k => [(0, ⟨1, .row true 6 ((Srt.blks (ltc c) 20 k X).map GFound.enc)⟩)]) (fun k => k * 20 ≤ X.length) (fun k => X.length - k * 20) 0 ?_
  simp only [↓bk_bind, ↓bk_map, ↓bk_ite, ↓bk_some, ↓reduceIte, Nat.reduceEqDiff, Nat.reduceLT, Nat.reduceLeDiff, Nat.reduceAdd, Nat.reduceMul, reduceCtorEq, List.reduceReplicate, go_sem, Srt.len_blks]
  refine ⟨?_, by omega, ?_⟩
  · simp only [↓bk_bind, ↓bk_map, ↓bk_ite, ↓bk_some, ↓reduceIte, Nat.reduceEqDiff, Nat.reduceLT, Nat.reduceLeDiff, Nat.reduceAdd, Nat.reduceMul, reduceCtorEq, List.reduceReplicate, go_sem]
    exact ⟨rfl, rfl⟩
  · intro k hk
    simp only [↓bk_bind, ↓bk_map, ↓bk_ite, ↓bk_some, ↓reduceIte, Nat.reduceEqDiff, Nat.reduceLT, Nat.reduceLeDiff, Nat.reduceAdd, Nat.reduceMul, reduceCtorEq, List.reduceReplicate, go_sem, Srt.len_blks]
    refine ⟨fun hlt => ?_, fun hge => ?_⟩
    · obtain ⟨A, hA, e1, e2⟩ := Srt.blks_snoc (lt := ltc c) (s := 20) (k := k) (l := X) (by omega)
      have g1 := congrArg List.length e1
      have g2 := congrArg List.length e2
      rw [Srt.len_blks] at g1 g2
      rw [← List.append_assoc] at e1 e2 g1 g2
      rw [e1]
      apply callIK_of (c_slices_insertionSortCmpFunc A _ _ f c hc hw hA (by simp [hA]; omega))
      have w1 : IntKind.i64.wrap ((((k + 1) * 20 : Nat) : Int) + 20) = (((k + 1 + 1) * 20 : Nat) : Int) := by
        rw [wI (by omega) (by omega)]; omega
      simp only [↓bk_bind, ↓bk_map, ↓bk_ite, ↓bk_some, ↓reduceIte, Nat.reduceEqDiff, Nat.reduceLT, Nat.reduceLeDiff, Nat.reduceAdd, Nat.reduceMul, reduceCtorEq, List.reduceReplicate, go_sem, g1.symm, g2.symm, w1]
      exact ⟨k + 1, ⟨⟨rfl, rfl⟩, by rw [e2]⟩, by omega, by omega⟩
    · obtain ⟨A, hA, e1, e2⟩ := Srt.blks_last (lt := ltc c) (s := 20) (k := k) (l := X) (by omega) (by omega)
      have g1 := congrArg List.length e1
      have g2 := congrArg List.length e2
      rw [Srt.len_blks] at g1 g2
      have e1' : A ++ X.drop (k * 20) = A ++ X.drop (k * 20) ++ [] := by simp
      rw [e1, e1']
      apply callIK_of (c_slices_insertionSortCmpFunc A _ [] f c hc hw hA (by simp [hA]; omega))
      rw [List.append_nil, ← e2]
      rw [Srt.blks_blk (by omega) (by omega)]
      simp only [↓bk_bind, ↓bk_map, ↓bk_ite, ↓bk_some, ↓reduceIte, Nat.reduceEqDiff, Nat.reduceLT, Nat.reduceLeDiff, Nat.reduceAdd, Nat.reduceMul, reduceCtorEq, List.reduceReplicate, go_sem, g1.symm, g2.symm, Srt.len_blk (Nat.le_refl X.length)]
      refine loopK_up (fun s : Nat => [(6, vI (s : Int))]) (fun s => [(0, ⟨1, .row true 6 ((Srt.blk (ltc c) s X).map GFound.enc)⟩)]) (fun s => 0 < s ∧ s ≤ 2 * X.length + 20) (fun s => X.length - s) 20 ?_
      simp only [↓bk_bind, ↓bk_map, ↓bk_ite, ↓bk_some, ↓reduceIte, Nat.reduceEqDiff, Nat.reduceLT, Nat.reduceLeDiff, Nat.reduceAdd, Nat.reduceMul, reduceCtorEq, List.reduceReplicate, go_sem, Srt.len_blk (Nat.le_refl X.length)]
      refine ⟨?_, ⟨by omega, by omega⟩, ?_⟩
      · simp only [↓bk_bind, ↓bk_map, ↓bk_ite, ↓bk_some, ↓reduceIte, Nat.reduceEqDiff, Nat.reduceLT, Nat.reduceLeDiff, Nat.reduceAdd, Nat.reduceMul, reduceCtorEq, List.reduceReplicate, go_sem]
        first | rfl | exact ⟨rfl, rfl⟩
      · rintro s ⟨hs0, hs1⟩
        clear e1' e1 e2 g1 g2 hA A hge hk
        have w2 : IntKind.i64.wrap (2 * (s : Int)) = ((2 * s : Nat) : Int) := by rw [wI (by omega) (by omega)]; omega
        have w3 : IntKind.i64.wrap ((s : Int) * 2) = ((2 * s : Nat) : Int) := by rw [wI (by omega) (by omega)]; omega
        simp only [↓bk_bind, ↓bk_map, ↓bk_ite, ↓bk_some, ↓reduceIte, Nat.reduceEqDiff, Nat.reduceLT, Nat.reduceLeDiff, Nat.reduceAdd, Nat.reduceMul, reduceCtorEq, List.reduceReplicate, go_sem, Srt.len_blk (Nat.le_refl X.length), w2, w3]
        refine ⟨fun hlt => ?_, fun hge => ?_⟩
        · refine loopK_up (fun k : Nat => [(7, vI ((k * (2 * s) : Nat) : Int)), (8, vI ((k * (2 * s) + 2 * s : Nat) : Int))]) (fun k => [(0, ⟨1, .row true 6 ((Srt.mix (ltc c) s k X).map GFound.enc)⟩)]) (fun k => k * (2 * s) ≤ X.length) (fun k => X.length - k * (2 * s)) 0 ?_
          simp only [↓bk_bind, ↓bk_map, ↓bk_ite, ↓bk_some, ↓reduceIte, Nat.reduceEqDiff, Nat.reduceLT, Nat.reduceLeDiff, Nat.reduceAdd, Nat.reduceMul, reduceCtorEq, List.reduceReplicate, go_sem, Srt.len_mix, w2, w3]
          refine ⟨?_, by omega, ?_⟩
          · simp only [↓bk_bind, ↓bk_map, ↓bk_ite, ↓bk_some, ↓reduceIte, Nat.reduceEqDiff, Nat.reduceLT, Nat.reduceLeDiff, Nat.reduceAdd, Nat.reduceMul, reduceCtorEq, List.reduceReplicate, go_sem]
            refine ⟨⟨?_, ?_⟩, rfl⟩
            · rw [Nat.zero_mul]; rfl
            · rw [Nat.zero_mul, Nat.zero_add]
          · intro k hk
            simp only [↓bk_bind, ↓bk_map, ↓bk_ite, ↓bk_some, ↓reduceIte, Nat.reduceEqDiff, Nat.reduceLT, Nat.reduceLeDiff, Nat.reduceAdd, Nat.reduceMul, reduceCtorEq, List.reduceReplicate, go_sem, Srt.len_mix, w2, w3]
            refine ⟨fun hle => ?_, fun hgt => ?_⟩
            · obtain ⟨P, A, B, Q, m1, m2, m3, m4, m5, m6, m7⟩ := Srt.mix_step hw (s := s) (k := k) (l := X) (by omega)
              have g1 : (P ++ A ++ B ++ Q).length = X.length := by rw [← m6, Srt.len_mix]
              have g2 : (P ++ Srt.mrg (ltc c) A B ++ Q).length = X.length := by rw [← m7, Srt.len_mix]
              have wa : IntKind.i64.wrap (((k * (2 * s) : Nat) : Int) + (s : Int)) = ((k * (2 * s) + s : Nat) : Int) := wN (by omega)
              have wb : IntKind.i64.wrap (((k * (2 * s) + 2 * s : Nat) : Int) + ((2 * s : Nat) : Int)) = (((k + 1) * (2 * s) + 2 * s : Nat) : Int) := by
                rw [wN (by omega), Nat.succ_mul k (2 * s)]
              rw [m6]
              simp only [↓bk_bind, ↓bk_map, ↓bk_ite, ↓bk_some, ↓reduceIte, Nat.reduceEqDiff, Nat.reduceLT, Nat.reduceLeDiff, Nat.reduceAdd, Nat.reduceMul, reduceCtorEq, List.reduceReplicate, go_sem, g1, g2, wa, wb]
              apply callIK_of (c_slices_symMergeCmpFunc f c hc hw _ P A B Q (Nat.le_refl _) m1 (m := k * (2 * s) + s) (b := k * (2 * s) + 2 * s) (by rw [List.length_append]; omega) (by rw [List.length_append, List.length_append]; omega) (by omega) (by omega) m4 m5)
              simp only [↓bk_bind, ↓bk_map, ↓bk_ite, ↓bk_some, ↓reduceIte, Nat.reduceEqDiff, Nat.reduceLT, Nat.reduceLeDiff, Nat.reduceAdd, Nat.reduceMul, reduceCtorEq, List.reduceReplicate, go_sem, g1, g2, wa, wb]
              have hj : (k + 1) * (2 * s) = k * (2 * s) + 2 * s := Nat.succ_mul k (2 * s)
              exact ⟨k + 1, ⟨⟨by rw [hj], by rw [w2, wb]⟩, by rw [m7]⟩, by omega, by omega⟩
            · obtain ⟨i1, i2⟩ := Srt.mix_end hw (s := s) (k := k) (l := X) hk (by omega)
              have wa : IntKind.i64.wrap (((k * (2 * s) : Nat) : Int) + (s : Int)) = ((k * (2 * s) + s : Nat) : Int) := wN (by omega)
              simp only [↓bk_bind, ↓bk_map, ↓bk_ite, ↓bk_some, ↓reduceIte, Nat.reduceEqDiff, Nat.reduceLT, Nat.reduceLeDiff, Nat.reduceAdd, Nat.reduceMul, reduceCtorEq, List.reduceReplicate, go_sem, Srt.len_mix, wa, w3]
              refine ⟨fun hlt2 => ?_, fun hge2 => ?_⟩
              · obtain ⟨P, A, B, m1, m2, m3, m4, m5, m6, m7⟩ := i1 (by omega)
                have g1 : (P ++ A ++ B ++ []).length = X.length := by rw [List.append_nil, ← m6, Srt.len_mix]
                have g2 : (P ++ Srt.mrg (ltc c) A B ++ []).length = X.length := by rw [List.append_nil, ← m7, Srt.len_blk (Nat.le_refl _)]
                rw [m6, ← List.append_nil (P ++ A ++ B)]
                apply callIK_of (c_slices_symMergeCmpFunc f c hc hw _ P A B [] (Nat.le_refl _) m1 (m := k * (2 * s) + s) (b := X.length) (by rw [List.length_append]; omega) (by rw [List.length_append, List.length_append]; omega) (by omega) (by omega) m4 m5)
                simp only [↓bk_bind, ↓bk_map, ↓bk_ite, ↓bk_some, ↓reduceIte, Nat.reduceEqDiff, Nat.reduceLT, Nat.reduceLeDiff, Nat.reduceAdd, Nat.reduceMul, reduceCtorEq, List.reduceReplicate, go_sem, g1, g2, wa, w3]
                exact ⟨2 * s, ⟨rfl, by rw [m7]⟩, ⟨by omega, by omega⟩, by omega⟩
              · exact ⟨2 * s, ⟨rfl, by rw [i2 (by omega)]⟩, ⟨by omega, by omega⟩, by omega⟩
        · rw [Srt.blk_le (by omega)]
end Go.Proofs.YtbnbgekjjbpljaaR
namespace Go.Proofs.YtbnbgekjjbpljaaR
open Go Go.RowKit Go.Proofs
set_option linter.unusedSimpArgs false
set_option linter.unusedVariables false
def m_slices_SortStableFunc_impl_Found_impl_Found : MC :=
(pr [.mv 4 (.s 0), .mv 5 (.s 0), .len 6 false (.s 5), .mv 7 (.s 1), .callI 8 [] (.f n_slices_stableCmpFunc_impl_Found) [.s 4, .s 6, .s 7] [0] []] [])
theorem c_slices_SortStableFunc (X : List GFound) (f : FuncId) (c : GFound → GFound → Int) (hc : ∀ x y, Ctr Try.prog f [aS x.enc, aS y.enc] [rI (c x y)]) (hw : Srt.Swo (ltc c)) : CtrI Try.prog n_slices_SortStableFunc_impl_Found_impl_Found [oL 6 (X.map GFound.enc), fI f] [some (6, (Srt.isort (ltc c) X).map GFound.enc)] [] := by
  refine ctrI_at (M := m_slices_SortStableFunc_impl_Found_impl_Found) (m := 0) (n := 9) (res := []) hmix Try.func26 rfl (by kernel_rfl) rfl (by kernel_rfl) (by kernel_rfl) (Nat.le_of_ble_eq_true rfl) rfl rfl ?_; unfold m_slices_SortStableFunc_impl_Found_impl_Found
  intro hbd
  have hl := len_of_bd hbd
  clear hbd
  simp only [roomB] at hl
  simp only [↓bk_bind, ↓bk_map, ↓bk_ite, ↓bk_some, ↓reduceIte, Nat.reduceEqDiff, Nat.reduceLT, Nat.reduceLeDiff, Nat.reduceAdd, Nat.reduceMul, reduceCtorEq, List.reduceReplicate, go_sem]
  apply callIK_of (c_slices_stableCmpFunc X f c hc hw)
  simp only [↓bk_bind, ↓bk_map, ↓bk_ite, ↓bk_some, ↓reduceIte, Nat.reduceEqDiff, Nat.reduceLT, Nat.reduceLeDiff, Nat.reduceAdd, Nat.reduceMul, reduceCtorEq, List.reduceReplicate, go_sem]
  try intros
  try trivial
end Go.Proofs.YtbnbgekjjbpljaaR
namespace Go.Proofs.YtbnbgekjjbpljaaR
open Go Go.RowKit Go.Proofs
set_option linter.unusedSimpArgs false
set_option linter.unusedVariables false
attribute [go_sem] eqB
def addrLt (a b : GAddress) : Bool := decide (a.Host < b.Host ∨ a.Host = b.Host ∧ (a.Path < b.Path ∨ a.Path = b.Path ∧ a.Query < b.Query))
def cmpI (x y : Int) : Int := if x < y then -1 else if y < x then 1 else 0
def fndCmp (a b : GFound) : Int := if addrLt a.Address b.Address = true then -1 else if addrLt b.Address a.Address = true then 1 else cmpI a.Tick b.Tick
def fndLt (a b : GFound) : Bool := decide (a.Address.Host < b.Address.Host ∨ a.Address.Host = b.Address.Host ∧ (a.Address.Path < b.Address.Path ∨ a.Address.Path = b.Address.Path ∧ (a.Address.Query < b.Address.Query ∨ a.Address.Query = b.Address.Query ∧ a.Tick < b.Tick)))
theorem fndLt_eq : ltc fndCmp = fndLt := by
  funext a b
  unfold ltc fndCmp fndLt addrLt cmpI
  rw [Bool.eq_iff_iff]
  simp only [decide_eq_true_eq]
  split
  · simp; omega
  · split
    · simp; omega
    · split
      · simp; omega
      · split <;> simp <;> omega
theorem fndSwo : Srt.Swo (ltc fndCmp) := by
  rw [fndLt_eq]
  constructor
  · intro x y h
    simp only [fndLt, decide_eq_true_eq, decide_eq_false_iff_not] at *
    omega
  · intro x y z h
    simp only [fndLt, decide_eq_true_eq] at *
    omega
def fnd1 (i : Nat) : Nat → List GCapture → List GFound
  | _, [] => []
  | k, c :: cs => ⟨c.Address, c.Tick, i, k⟩ :: fnd1 i (k + 1) cs
def fnds : Nat → List GContainer → List GFound
  | _, [] => []
  | i, x :: xs => fnd1 i 0 x.Captures ++ fnds (i + 1) xs
theorem fnd1_snoc {i : Nat} : ∀ {cs : List GCapture} {k m : Nat} {c : GCapture}, cs[k]? = some c → fnd1 i m (cs.take (k + 1)) = fnd1 i m (cs.take k) ++ [⟨c.Address, c.Tick, i, (m + k : Nat)⟩]
  | [], _, _, _, h => by simp at h
  | c :: cs, 0, m, d, h => by
    simp only [List.getElem?_cons_zero, Option.some.injEq] at h
    subst h
    simp [fnd1]
  | c :: cs, k + 1, m, d, h => by
    simp only [List.getElem?_cons_succ] at h
    rw [List.take_succ_cons, List.take_succ_cons, fnd1, fnd1, fnd1_snoc h, List.cons_append, show m + 1 + k = m + (k + 1) by omega]
theorem fnds_snoc : ∀ {l : List GContainer} {k m : Nat} {x : GContainer}, l[k]? = some x → fnds m (l.take (k + 1)) = fnds m (l.take k) ++ fnd1 (m + k) 0 x.Captures
  | [], _, _, _, h => by simp at h
  | c :: cs, 0, m, d, h => by
    simp only [List.getElem?_cons_zero, Option.some.injEq] at h
    subst h
    simp [fnds]
  | c :: cs, k + 1, m, d, h => by
    simp only [List.getElem?_cons_succ] at h
    rw [List.take_succ_cons, List.take_succ_cons, fnds, fnds, fnds_snoc h, List.append_assoc, show m + 1 + k = m + (k + 1) by omega]
theorem len_fnd1 {i : Nat} : ∀ {cs : List GCapture} {k : Nat}, (fnd1 i k cs).length = cs.length
  | [], _ => rfl
  | c :: cs, k => by rw [fnd1, List.length_cons, len_fnd1, List.length_cons]
theorem len_fnds : ∀ {l : List GContainer} {m : Nat}, (fnds m l).length = (l.map fun x => x.Captures.length).sum
  | [], _ => rfl
  | x :: l, m => by rw [fnds, List.length_append, len_fnd1, len_fnds, List.map_cons, List.sum_cons]
/-- The index of a list of containers. -/
def index (l : List GContainer) : List GFound := Srt.isort fndLt (fnds 0 l)
theorem fndSwo' : Srt.Swo fndLt := fndLt_eq ▸ fndSwo
theorem len_fnds_le {m : Nat} : ∀ {l : List GContainer}, (fnds m l).length ≤ (l.map GContainer.size).sum := by
  intro l
  rw [len_fnds]
  induction l with
  | nil => simp
  | cons x l ih => simp only [List.map_cons, List.sum_cons, GContainer.size]; omega
theorem len_fnds_at {l : List GContainer} {i k : Nat} {x : GContainer} (hx : l[i]? = some x) : (fnds 0 (l.take i) ++ fnd1 i 0 (x.Captures.take k)).length ≤ (l.map GContainer.size).sum := by
  have h1 : (fnds 0 (l.take (i + 1))).length ≤ (l.map GContainer.size).sum := Nat.le_trans len_fnds_le (sum_take_le l (i + 1))
  rw [fnds_snoc hx, List.length_append, len_fnd1] at h1
  rw [List.length_append, len_fnd1, List.length_take]
  omega
theorem fnds_step {l : List GContainer} {i k : Nat} {x : GContainer} {c : GCapture} (hc : x.Captures[k]? = some c) : fnds 0 (l.take i) ++ fnd1 i 0 (x.Captures.take (k + 1)) = fnds 0 (l.take i) ++ fnd1 i 0 (x.Captures.take k) ++ [⟨c.Address, c.Tick, i, k⟩] := by
  rw [fnd1_snoc hc, List.append_assoc, Nat.zero_add]
theorem cutA {α : Type} {f : α → List T} {l : List α} {m : Nat} (h : m ≤ l.length) : (if ((m : Int) - 0).toNat = l.length then l.map f else List.take ((m : Int) - 0).toNat (l.map f)) = (l.take m).map f := by
  rw [show ((m : Int) - 0).toNat = m by omega]
  split
  · rename_i e; rw [List.take_of_length_le (by omega)]
  · rw [List.map_take]
theorem cutB {α : Type} {f : α → List T} {l : List α} {m : Nat} (h : m ≤ l.length) : (if m = 0 ∧ ((l.length : Int) - (m : Int)).toNat = l.length then l.map f else List.take ((l.length : Int) - (m : Int)).toNat (List.drop m (l.map f))) = (l.drop m).map f := by
  rw [show ((l.length : Int) - (m : Int)).toNat = l.length - m by omega]
  split
  · rename_i e; rw [e.1]; rfl
  · rw [List.take_of_length_le (by simp), List.map_drop]
namespace Srt
variable {α : Type} {lt : α → α → Bool}
/-- Insertion from the right end. -/
theorem ins_at {l : List α} (hw : Swo lt) (hs : srt lt l) {x : α} {n : Nat} (h1 : ∀ z ∈ l.drop n, lt x z = true) (h2 : n = 0 ∨ ∃ y, l[n - 1]? = some y ∧ lt x y = false) : ins lt x l = l.take n ++ [x] ++ l.drop n := by
  have e : ins lt x (l.take n ++ l.drop n) = l.take n ++ x :: l.drop n := by
    refine ins_mid ?_ (fun a ha => h1 a (List.mem_of_mem_head? ha))
    intro a ha
    rcases h2 with rfl | ⟨y, hy, h⟩
    · simp at ha
    · obtain ⟨i, hi⟩ := List.mem_iff_getElem?.1 ha
      rw [List.getElem?_take] at hi
      split at hi
      · rename_i hlt
        by_cases hin : i = n - 1
        · subst hin
          obtain rfl := Option.some.inj (hi.symm.trans hy)
          exact h
        · obtain ⟨h1, rfl⟩ := List.getElem?_eq_some_iff.1 hi
          obtain ⟨h2, rfl⟩ := List.getElem?_eq_some_iff.1 hy
          exact hw.ntr h ((List.pairwise_iff_getElem.1 hs) i (n - 1) h1 h2 (by omega))
      · cases hi
  rw [List.take_append_drop] at e
  rw [e]; simp
theorem drop_step {l : List α} {x : α} {n : Nat} {y : α} (hn : 0 < n) (hy : l[n - 1]? = some y) (h : ∀ z ∈ l.drop n, lt x z = true) (hx : lt x y = true) : ∀ z ∈ l.drop (n - 1), lt x z = true := by
  obtain ⟨h1, rfl⟩ := List.getElem?_eq_some_iff.1 hy
  rw [List.drop_eq_getElem_cons h1, show n - 1 + 1 = n by omega]
  intro z hz
  rcases List.mem_cons.1 hz with rfl | hz
  · exact hx
  · exact h z hz
end Srt
def m_impl_BeforeAddress : MC :=
(.seq (pr [.box 2 0 (.s 0), .box 3 1 (.s 1), .mv 4 (.c (.bool false))] [2,3])
(.seq (.block 0 (.seq (pr [.fld 6 (.s 2) 0, .load 7 false 1 (.s 6), .fld 8 (.s 3) 0, .load 9 false 1 (.s 8), .bin 10 false .neq (.s 7) (.s 9), .mv 5 (.s 10)] [2,3,5])
(.cond (.s 5) (.seq (pr [.fld 11 (.s 2) 0, .load 12 false 1 (.s 11), .fld 13 (.s 3) 0, .load 14 false 1 (.s 13), .bin 15 false .lss (.s 12) (.s 14), .mv 4 (.s 15)] [4])
.ret) (.seq (pr [.fld 17 (.s 2) 1, .load 18 false 1 (.s 17), .fld 19 (.s 3) 1, .load 20 false 1 (.s 19), .bin 21 false .neq (.s 18) (.s 20), .mv 16 (.s 21)] [2,3,16])
(.cond (.s 16) (.seq (pr [.fld 22 (.s 2) 1, .load 23 false 1 (.s 22), .fld 24 (.s 3) 1, .load 25 false 1 (.s 24), .bin 26 false .lss (.s 23) (.s 25), .mv 4 (.s 26)] [4])
.ret) .skip)))))
(.seq (pr [.fld 27 (.s 2) 2, .load 28 false 1 (.s 27), .fld 29 (.s 3) 2, .load 30 false 1 (.s 29), .bin 31 false .lss (.s 28) (.s 30), .mv 4 (.s 31)] [4])
.ret)))
theorem c_impl_BeforeAddress (a b : GAddress) : Ctr Try.prog n_impl_BeforeAddress [aS a.enc, aS b.enc] [rB (addrLt a b)] := by
  refine ctr_at (M := m_impl_BeforeAddress) (m := 2) (n := 32) (res := [(.tmp 4, [false])]) hmix Try.func28 rfl (by kernel_rfl) rfl (by kernel_rfl) (by kernel_rfl) (Nat.le_of_ble_eq_true rfl) ?_; unfold m_impl_BeforeAddress
  intro hb
  clear hb
  simp only [↓bk_bind, ↓bk_map, ↓bk_ite, ↓bk_some, ↓reduceIte, Nat.reduceEqDiff, Nat.reduceLT, Nat.reduceLeDiff, Nat.reduceAdd, Nat.reduceMul, reduceCtorEq, List.reduceReplicate, go_sem]
  repeat' first
    | (refine And.intro ?_ ?_ <;> intro h)
  all_goals (unfold addrLt; first | (symm; rw [decide_eq_false_iff_not]; omega) | (rw [Bool.eq_iff_iff]; simp only [decide_eq_true_eq]; omega))
def m_spec_BeforeAddress : MC :=
(.seq (pr [.box 2 0 (.s 0), .box 3 1 (.s 1), .mv 4 (.c (.bool false))] [2,3])
(.seq (.seq (pr [.fld 5 (.s 2) 0, .load 6 false 1 (.s 5), .fld 7 (.s 3) 0, .load 8 false 1 (.s 7), .bin 9 false .neq (.s 6) (.s 8)] [2,3,9])
(.cond (.s 9) (.seq (pr [.fld 10 (.s 2) 0, .load 11 false 1 (.s 10), .fld 12 (.s 3) 0, .load 13 false 1 (.s 12), .bin 14 false .lss (.s 11) (.s 13), .mv 4 (.s 14)] [4])
.ret) .skip))
(.seq (.seq (pr [.fld 15 (.s 2) 1, .load 16 false 1 (.s 15), .fld 17 (.s 3) 1, .load 18 false 1 (.s 17), .bin 19 false .neq (.s 16) (.s 18)] [2,3,19])
(.cond (.s 19) (.seq (pr [.fld 20 (.s 2) 1, .load 21 false 1 (.s 20), .fld 22 (.s 3) 1, .load 23 false 1 (.s 22), .bin 24 false .lss (.s 21) (.s 23), .mv 4 (.s 24)] [4])
.ret) .skip))
(.seq (pr [.fld 25 (.s 2) 2, .load 26 false 1 (.s 25), .fld 27 (.s 3) 2, .load 28 false 1 (.s 27), .bin 29 false .lss (.s 26) (.s 28), .mv 4 (.s 29)] [4])
.ret))))
theorem c_spec_BeforeAddress (a b : GAddress) : Ctr Try.prog n_spec_BeforeAddress [aS a.enc, aS b.enc] [rB (addrLt a b)] := by
  refine ctr_at (M := m_spec_BeforeAddress) (m := 2) (n := 30) (res := [(.tmp 4, [false])]) hmix Try.func40 rfl (by kernel_rfl) rfl (by kernel_rfl) (by kernel_rfl) (Nat.le_of_ble_eq_true rfl) ?_; unfold m_spec_BeforeAddress
  intro hb
  clear hb
  simp only [↓bk_bind, ↓bk_map, ↓bk_ite, ↓bk_some, ↓reduceIte, Nat.reduceEqDiff, Nat.reduceLT, Nat.reduceLeDiff, Nat.reduceAdd, Nat.reduceMul, reduceCtorEq, List.reduceReplicate, go_sem]
  repeat' first
    | (refine And.intro ?_ ?_ <;> intro h)
  all_goals (unfold addrLt; first | (symm; rw [decide_eq_false_iff_not]; omega) | (rw [Bool.eq_iff_iff]; simp only [decide_eq_true_eq]; omega))
def m_spec_l31Before : MC :=
(.seq (pr [.box 2 0 (.s 0), .box 3 1 (.s 1), .mv 4 (.c (.bool false))] [2,3])
(.seq (.seq (pr [.fld 5 (.s 2) 0, .load 6 true 3 (.s 5), .fld 7 (.s 3) 0, .load 8 true 3 (.s 7), .eqA 9 true [.i .i64, .i .i64, .i .i64] (.s 6) (.s 8)] [2,3,9])
(.cond (.s 9) (.seq (pr [.fld 10 (.s 2) 0, .load 11 true 3 (.s 10), .fld 12 (.s 3) 0, .load 13 true 3 (.s 12), .call 14 [] (.f n_spec_BeforeAddress) [.s 11, .s 13], .mv 4 (.s 14)] [4])
.ret) .skip))
(.seq (pr [.fld 15 (.s 2) 3, .load 16 false 1 (.s 15), .fld 17 (.s 3) 3, .load 18 false 1 (.s 17), .bin 19 false .lss (.s 16) (.s 18), .mv 4 (.s 19)] [4])
.ret)))
theorem c_spec_l31Before (a b : GFound) : Ctr Try.prog n_spec_l31Before [aS a.enc, aS b.enc] [rB (fndLt a b)] := by
  refine ctr_at (M := m_spec_l31Before) (m := 2) (n := 20) (res := [(.tmp 4, [false])]) hmix Try.func24 rfl (by kernel_rfl) rfl (by kernel_rfl) (by kernel_rfl) (Nat.le_of_ble_eq_true rfl) ?_; unfold m_spec_l31Before
  intro hb
  clear hb
  simp only [↓bk_bind, ↓bk_map, ↓bk_ite, ↓bk_some, ↓reduceIte, Nat.reduceEqDiff, Nat.reduceLT, Nat.reduceLeDiff, Nat.reduceAdd, Nat.reduceMul, reduceCtorEq, List.reduceReplicate, go_sem]
  repeat' first
    | (refine And.intro ?_ ?_ <;> intro h)
    | (apply callK_of (c_spec_BeforeAddress _ _); simp only [↓bk_bind, ↓bk_map, ↓bk_ite, ↓bk_some, ↓reduceIte, Nat.reduceEqDiff, Nat.reduceLT, Nat.reduceLeDiff, Nat.reduceAdd, Nat.reduceMul, reduceCtorEq, List.reduceReplicate, go_sem])
  all_goals (simp only [fndLt, addrLt]; rw [Bool.eq_iff_iff]; simp only [decide_eq_true_eq]; simp at h; omega)
def m_cmp_isNaN_int : MC :=
(.seq (pr [.mv 2 (.c (.bool false))] [0])
(.seq (pr [.mv 3 (.s 0), .mv 4 (.s 0), .bin 5 false .neq (.s 3) (.s 4), .mv 2 (.s 5)] [2])
.ret))
theorem c_cmp_isNaN (x : Int) : Ctr Try.prog n_cmp_isNaN_int [aI x] [rB false] := by
  refine ctr_at (M := m_cmp_isNaN_int) (m := 0) (n := 6) (res := [(.tmp 2, [false])]) hmix Try.func45 rfl (by kernel_rfl) rfl (by kernel_rfl) (by kernel_rfl) (Nat.le_of_ble_eq_true rfl) ?_; unfold m_cmp_isNaN_int
  intro hb
  clear hb
  simp only [↓bk_bind, ↓bk_map, ↓bk_ite, ↓bk_some, ↓reduceIte, Nat.reduceEqDiff, Nat.reduceLT, Nat.reduceLeDiff, Nat.reduceAdd, Nat.reduceMul, reduceCtorEq, List.reduceReplicate, go_sem]
def m_cmp_Compare_int : MC :=
(.seq (pr [.mv 4 (.c (.int .i64 0))] [0,1])
(.seq (pr [.mv 7 (.s 0), .call 8 [] (.f n_cmp_isNaN_int) [.s 7], .mv 5 (.s 8)] [0,1,5])
(.seq (pr [.mv 9 (.s 1), .call 10 [] (.f n_cmp_isNaN_int) [.s 9], .mv 6 (.s 10)] [0,1,5,6])
(.seq (.seq (pr [.mv 11 (.s 5)] [0,1,6,11])
(.cond (.s 11) (.seq (.seq (pr [.mv 12 (.s 6)] [12])
(.cond (.s 12) (.seq (pr [.mv 4 (.c (.int .i64 0))] [4])
.ret) .skip))
(.seq (pr [.mv 4 (.c (.int .i64 (-1)))] [4])
.ret)) .skip))
(.seq (.seq (pr [.mv 13 (.s 6)] [0,1,13])
(.cond (.s 13) (.seq (pr [.mv 4 (.c (.int .i64 1))] [4])
.ret) .skip))
(.seq (.seq (pr [.mv 14 (.s 0), .mv 15 (.s 1), .bin 16 false .lss (.s 14) (.s 15)] [0,1,16])
(.cond (.s 16) (.seq (pr [.mv 4 (.c (.int .i64 (-1)))] [4])
.ret) .skip))
(.seq (.seq (pr [.mv 17 (.s 0), .mv 18 (.s 1), .bin 19 false .gtr (.s 17) (.s 18)] [19])
(.cond (.s 19) (.seq (pr [.mv 4 (.c (.int .i64 1))] [4])
.ret) .skip))
(.seq (pr [.mv 4 (.c (.int .i64 0))] [4])
.ret))))))))
theorem c_cmp_Compare (x y : Int) : Ctr Try.prog n_cmp_Compare_int [aI x, aI y] [rI (cmpI x y)] := by
  refine ctr_at (M := m_cmp_Compare_int) (m := 0) (n := 20) (res := [(.tmp 4, [false])]) hmix Try.func29 rfl (by kernel_rfl) rfl (by kernel_rfl) (by kernel_rfl) (Nat.le_of_ble_eq_true rfl) ?_; unfold m_cmp_Compare_int
  intro hb
  clear hb
  simp only [↓bk_bind, ↓bk_map, ↓bk_ite, ↓bk_some, ↓reduceIte, Nat.reduceEqDiff, Nat.reduceLT, Nat.reduceLeDiff, Nat.reduceAdd, Nat.reduceMul, reduceCtorEq, List.reduceReplicate, go_sem]
  repeat' first
    | (refine And.intro ?_ ?_ <;> intro h)
    | (apply callK_of (c_cmp_isNaN _); simp only [↓bk_bind, ↓bk_map, ↓bk_ite, ↓bk_some, ↓reduceIte, Nat.reduceEqDiff, Nat.reduceLT, Nat.reduceLeDiff, Nat.reduceAdd, Nat.reduceMul, reduceCtorEq, List.reduceReplicate, go_sem])
  all_goals (unfold cmpI; first | rfl | (repeat' split) <;> first | rfl | omega)
def m_impl_BuildIndex_1 : MC :=
(.seq (pr [.box 2 0 (.s 0), .box 3 1 (.s 1), .mv 4 (.c (.int .i64 0))] [2,3])
(.seq (.block 0 (.seq (pr [.fld 6 (.s 2) 0, .load 7 true 3 (.s 6), .fld 8 (.s 3) 0, .load 9 true 3 (.s 8), .call 10 [] (.f n_impl_BeforeAddress) [.s 7, .s 9], .mv 5 (.s 10)] [2,3,5])
(.cond (.s 5) (.seq (pr [.mv 4 (.c (.int .i64 (-1)))] [4])
.ret) (.seq (pr [.fld 12 (.s 3) 0, .load 13 true 3 (.s 12), .fld 14 (.s 2) 0, .load 15 true 3 (.s 14), .call 16 [] (.f n_impl_BeforeAddress) [.s 13, .s 15], .mv 11 (.s 16)] [2,3,11])
(.cond (.s 11) (.seq (pr [.mv 4 (.c (.int .i64 1))] [4])
.ret) .skip)))))
(.seq (pr [.fld 17 (.s 2) 3, .load 18 false 1 (.s 17), .fld 19 (.s 3) 3, .load 20 false 1 (.s 19), .call 21 [] (.f n_cmp_Compare_int) [.s 18, .s 20], .mv 4 (.s 21)] [4])
.ret)))
theorem c_impl_BuildIndex_1 (a b : GFound) : Ctr Try.prog n_impl_BuildIndex_1 [aS a.enc, aS b.enc] [rI (fndCmp a b)] := by
  refine ctr_at (M := m_impl_BuildIndex_1) (m := 2) (n := 22) (res := [(.tmp 4, [false])]) hmix Try.func27 rfl (by kernel_rfl) rfl (by kernel_rfl) (by kernel_rfl) (Nat.le_of_ble_eq_true rfl) ?_; unfold m_impl_BuildIndex_1
  intro hb
  clear hb
  simp only [↓bk_bind, ↓bk_map, ↓bk_ite, ↓bk_some, ↓reduceIte, Nat.reduceEqDiff, Nat.reduceLT, Nat.reduceLeDiff, Nat.reduceAdd, Nat.reduceMul, reduceCtorEq, List.reduceReplicate, go_sem]
  repeat' first
    | (refine And.intro ?_ ?_ <;> intro h)
    | (apply callK_of (c_impl_BeforeAddress _ _); simp only [↓bk_bind, ↓bk_map, ↓bk_ite, ↓bk_some, ↓reduceIte, Nat.reduceEqDiff, Nat.reduceLT, Nat.reduceLeDiff, Nat.reduceAdd, Nat.reduceMul, reduceCtorEq, List.reduceReplicate, go_sem])
    | (apply callK_of (c_cmp_Compare _ _); simp only [↓bk_bind, ↓bk_map, ↓bk_ite, ↓bk_some, ↓reduceIte, Nat.reduceEqDiff, Nat.reduceLT, Nat.reduceLeDiff, Nat.reduceAdd, Nat.reduceMul, reduceCtorEq, List.reduceReplicate, go_sem])
  all_goals (unfold fndCmp; simp_all)
def m_impl_BuildIndex : MC :=
(.seq (pr [.nilo 2 0 6] [0])
(.seq (pr [.nilo 3 0 6] [0,3])
(.seq (.seq (pr [.mv 8 (.s 0), .len 9 false (.s 8), .mv 10 (.c (.int .i64 0))] [3,8,9,10])
(.block 0 (.loop ([3,8,9,10], [1,2,3]) (.seq (pr [.bin 11 false .lss (.s 10) (.s 9)] [3,8,9,10,11])
(.seq (.cond (.s 11) .skip (.exit 0))
(.seq (.block 1 (.seq (pr [.mv 12 (.s 10), .idx 13 4 (.s 8) (.s 10), .load 14 true 4 (.s 13), .alloc 5 1 [.emp 4, .emp 5, .emp 9, .pl (.sc (.int .i64 0))], .mv 4 (.s 12), .store 4 (.s 5) (.s 14)] [3,4,5,8,9,10])
(.seq (pr [.fld 15 (.s 5) 2, .load 16 false 1 (.s 15), .len 17 false (.s 16), .mv 18 (.c (.int .i64 0))] [3,4,8,9,10,16,17,18])
(.block 2 (.loop ([3,4,8,9,10,16,17,18], [1,2,3]) (.seq (pr [.bin 19 false .lss (.s 18) (.s 17)] [3,4,8,9,10,16,17,18,19])
(.seq (.cond (.s 19) .skip (.exit 2))
(.seq (.block 3 (.seq (pr [.mv 20 (.s 18), .idx 21 9 (.s 16) (.s 18), .load 22 true 9 (.s 21), .alloc 7 2 [.pl (.sc (.int .i64 0)), .pl (.sc (.int .i64 0)), .pl (.sc (.int .i64 0)), .pl (.sc (.int .i64 0)), .pl (.sc (.int .i64 0)), .emp 1, .pl (.sc (.int .i64 0)), .pl (.sc (.int .i64 0)), .pl (.sc (.int .i64 0))], .mv 6 (.s 20), .store 9 (.s 7) (.s 22)] [3,4,6,7,8,9,10,16,17,18])
(pr [.mv 23 (.s 3), .fld 24 (.s 7) 0, .load 25 true 3 (.s 24), .fld 26 (.s 7) 3, .load 27 false 1 (.s 26), .mv 28 (.s 4), .mv 29 (.s 6), .build 30 [.pl (.sc (.int .i64 0)), .pl (.sc (.int .i64 0)), .pl (.sc (.int .i64 0)), .pl (.sc (.int .i64 0)), .pl (.sc (.int .i64 0)), .pl (.sc (.int .i64 0))] [(0, 3, .s 25), (3, 1, .s 27), (4, 1, .s 28), (5, 1, .s 29)], .lit 31 3 6 48 [.s 30], .app 32 0 6 48 (.s 23) (.s 31), .mv 3 (.s 32)] [3,4,8,9,10,16,17,18])))
(pr [.bin 33 false .add (.s 18) (.c (.int .i64 1)), .mv 18 (.s 33)] [3,4,8,9,10,16,17,18])))))))))
(pr [.bin 34 false .add (.s 10) (.c (.int .i64 1)), .mv 10 (.s 34)] [3,8,9,10])))))))
(.seq (pr [.mv 35 (.s 3), .callI 36 [] (.f n_slices_SortStableFunc_impl_Found_impl_Found) [.s 35, .f n_impl_BuildIndex_1] [0] []] [3])
(.seq (pr [.mv 37 (.s 3), .mv 2 (.s 37)] [2])
.ret)))))
theorem c_impl_BuildIndex (l : List GContainer) (hs : l.length + (l.map GContainer.size).sum ≤ 1073741824) : Ctr Try.prog n_impl_BuildIndex [aL 4 (l.map GContainer.enc)] [rL 6 ((index l).map GFound.enc)] := by
  refine ctr_at (M := m_impl_BuildIndex) (m := 4) (n := 38) (res := [(.tmp 2, [true])]) hmix Try.func13 rfl (by kernel_rfl) rfl (by kernel_rfl) (by kernel_rfl) (Nat.le_of_ble_eq_true rfl) ?_; unfold m_impl_BuildIndex
  intro hb
  clear hb
  simp only [↓bk_bind, ↓bk_map, ↓bk_ite, ↓bk_some, ↓reduceIte, Nat.reduceEqDiff, Nat.reduceLT, Nat.reduceLeDiff, Nat.reduceAdd, Nat.reduceMul, reduceCtorEq, List.reduceReplicate, go_sem]
  refine loopK_rng l (fun i => [(3, .val false [.ref 0 0 6 0 (fnds 0 (l.take i)).length]), (10, vI i)]) (fun i => [(0, ⟨0, .row true 6 ((fnds 0 (l.take i)).map GFound.enc)⟩)]) (fun _ => True) (by simp only [roomB]; omega) ?_
  simp only [↓bk_bind, ↓bk_map, ↓bk_ite, ↓bk_some, ↓reduceIte, Nat.reduceEqDiff, Nat.reduceLT, Nat.reduceLeDiff, Nat.reduceAdd, Nat.reduceMul, reduceCtorEq, List.reduceReplicate, go_sem]
  refine ⟨?_, trivial, ?_, ?_⟩
  · simp only [↓bk_bind, ↓bk_map, ↓bk_ite, ↓bk_some, ↓reduceIte, Nat.reduceEqDiff, Nat.reduceLT, Nat.reduceLeDiff, Nat.reduceAdd, Nat.reduceMul, reduceCtorEq, List.reduceReplicate, go_sem, List.take_zero]
    exact ⟨rfl, rfl⟩
  · intro i x hx _ h0 h1 hw
    have hx1 := mem_sum (f := GContainer.size) (at_mem hx)
    have hi := len_at hx
    have hxl : x.Captures.length ≤ x.size := by simp only [GContainer.size]; omega
    simp only [↓bk_bind, ↓bk_map, ↓bk_ite, ↓bk_some, ↓reduceIte, Nat.reduceEqDiff, Nat.reduceLT, Nat.reduceLeDiff, Nat.reduceAdd, Nat.reduceMul, reduceCtorEq, List.reduceReplicate, go_sem, bk_eq hx, h0, h1, hw]
    refine loopK_rng x.Captures (fun k => [(3, .val false [.ref 0 0 6 0 (fnds 0 (l.take i) ++ fnd1 i 0 (x.Captures.take k)).length]), (18, vI k)]) (fun k => [(0, ⟨0, .row true 6 ((fnds 0 (l.take i) ++ fnd1 i 0 (x.Captures.take k)).map GFound.enc)⟩)]) (fun _ => True) (by simp only [roomB]; omega) ?_
    simp only [↓bk_bind, ↓bk_map, ↓bk_ite, ↓bk_some, ↓reduceIte, Nat.reduceEqDiff, Nat.reduceLT, Nat.reduceLeDiff, Nat.reduceAdd, Nat.reduceMul, reduceCtorEq, List.reduceReplicate, go_sem]
    refine ⟨?_, trivial, ?_, ?_⟩
    · simp only [↓bk_bind, ↓bk_map, ↓bk_ite, ↓bk_some, ↓reduceIte, Nat.reduceEqDiff, Nat.reduceLT, Nat.reduceLeDiff, Nat.reduceAdd, Nat.reduceMul, reduceCtorEq, List.reduceReplicate, go_sem, List.take_zero]
      exact ⟨by simp [fnd1], by simp [fnd1]⟩
    · intro k c hc _ h2 h3 hw2
      have hn := len_fnds_at (k := k) hx
      simp only [↓bk_bind, ↓bk_map, ↓bk_ite, ↓bk_some, ↓reduceIte, Nat.reduceEqDiff, Nat.reduceLT, Nat.reduceLeDiff, Nat.reduceAdd, Nat.reduceMul, reduceCtorEq, List.reduceReplicate, go_sem, bk_eq hc, h2, h3, hw2, hw, fnds_step hc]
      exact ⟨by simp only [roomB]; omega, by simp only [roomB]; omega, by simp only [List.length_append, List.length_cons, List.length_nil], by simp [GFound.enc, GAddress.enc]⟩
    · intro _
      simp only [↓bk_bind, ↓bk_map, ↓bk_ite, ↓bk_some, ↓reduceIte, Nat.reduceEqDiff, Nat.reduceLT, Nat.reduceLeDiff, Nat.reduceAdd, Nat.reduceMul, reduceCtorEq, List.reduceReplicate, go_sem, List.take_length, h0, h1, hw]
      exact ⟨by rw [fnds_snoc hx, Nat.zero_add], by rw [fnds_snoc hx, Nat.zero_add]⟩
  · intro _
    simp only [↓bk_bind, ↓bk_map, ↓bk_ite, ↓bk_some, ↓reduceIte, Nat.reduceEqDiff, Nat.reduceLT, Nat.reduceLeDiff, Nat.reduceAdd, Nat.reduceMul, reduceCtorEq, List.reduceReplicate, go_sem, List.take_length]
    apply callIK_of (c_slices_SortStableFunc (fnds 0 l) _ fndCmp c_impl_BuildIndex_1 fndSwo)
    simp only [↓bk_bind, ↓bk_map, ↓bk_ite, ↓bk_some, ↓reduceIte, Nat.reduceEqDiff, Nat.reduceLT, Nat.reduceLeDiff, Nat.reduceAdd, Nat.reduceMul, reduceCtorEq, List.reduceReplicate, go_sem]
    exact ⟨Srt.len_isort.symm, by rw [index, fndLt_eq]⟩
def m_spec_BuildIndex : MC :=
(.seq (pr [.nilo 2 0 6] [0])
(.seq (pr [.lit 8 0 6 48 [], .mv 3 (.s 8)] [0,3])
(.seq (.seq (pr [.mv 4 (.c (.int .i64 0))] [0,3,4])
(.block 0 (.loop ([0,3,4], [1,2,3]) (.seq (.seq (pr [.mv 9 (.s 4), .mv 10 (.s 0), .len 11 false (.s 10), .bin 12 false .lss (.s 9) (.s 11)] [0,3,4,12])
(.cond (.s 12) .skip (.exit 0)))
(.seq (.block 1 (.seq (pr [.mv 5 (.c (.int .i64 0))] [0,3,4,5])
(.block 2 (.loop ([0,3,4,5], [1,2,3]) (.seq (.seq (pr [.mv 15 (.s 5), .mv 16 (.s 0), .mv 17 (.s 4), .idx 18 4 (.s 16) (.s 17), .fld 19 (.s 18) 2, .load 20 false 1 (.s 19), .len 21 false (.s 20), .bin 22 false .lss (.s 15) (.s 21)] [0,3,4,5,22])
(.cond (.s 22) .skip (.exit 2)))
(.seq (.block 3 (.seq (.dreg [{ o := .mv 25 (.s 0), hs := [6,26,30,34,35,36,37,38,39,40,41,42,43,44], ho := [1] }, { o := .mv 26 (.s 4), hs := [6,25,30,34,35,36,37,38,39,40,41,42,43,44], ho := [1] }, { o := .idx 27 4 (.s 25) (.s 26), hs := [6,30,34,35,36,37,38,39,40,41,42,43,44], ho := [1], bf := [0,1] }, { o := .fld 28 (.s 27) 2, hs := [6,30,34,35,36,37,38,39,40,41,42,43,44], ho := [1], bf := [0,1,2] }, { o := .load 29 false 1 (.s 28), hs := [6,30,34,35,36,37,38,39,40,41,42,43,44], ho := [1], bf := [0,1,2,3] }, { o := .mv 30 (.s 5), hs := [6,25,26,27,28,29,34,35,36,37,38,39,40,41,42,43,44], ho := [1] }, { o := .idx 31 9 (.s 29) (.s 30), hs := [6,34,35,36,37,38,39,40,41,42,43,44], ho := [1], bf := [0,1,2,3,4,5] }, { o := .fld 32 (.s 31) 0, hs := [6,34,35,36,37,38,39,40,41,42,43,44], ho := [1], bf := [0,1,2,3,4,5,6] }, { o := .load 33 true 3 (.s 32), hs := [6,34,35,36,37,38,39,40,41,42,43,44], ho := [1], bf := [0,1,2,3,4,5,6,7] }, { o := .mv 34 (.s 0), hs := [6,25,26,27,28,29,30,31,32,33,35,39,43,44], ho := [1] }, { o := .mv 35 (.s 4), hs := [6,25,26,27,28,29,30,31,32,33,34,39,43,44], ho := [1] }, { o := .idx 36 4 (.s 34) (.s 35), hs := [6,25,26,27,28,29,30,31,32,33,39,43,44], ho := [1], bf := [9,10] }, { o := .fld 37 (.s 36) 2, hs := [6,25,26,27,28,29,30,31,32,33,39,43,44], ho := [1], bf := [9,10,11] }, { o := .load 38 false 1 (.s 37), hs := [6,25,26,27,28,29,30,31,32,33,39,43,44], ho := [1], bf := [9,10,11,12] }, { o := .mv 39 (.s 5), hs := [6,25,26,27,28,29,30,31,32,33,34,35,36,37,38,43,44], ho := [1] }, { o := .idx 40 9 (.s 38) (.s 39), hs := [6,25,26,27,28,29,30,31,32,33,43,44], ho := [1], bf := [9,10,11,12,13,14] }, { o := .fld 41 (.s 40) 3, hs := [6,25,26,27,28,29,30,31,32,33,43,44], ho := [1], bf := [9,10,11,12,13,14,15] }, { o := .load 42 false 1 (.s 41), hs := [6,25,26,27,28,29,30,31,32,33,43,44], ho := [1], bf := [9,10,11,12,13,14,15,16] }, { o := .mv 43 (.s 4), hs := [6,25,26,27,28,29,30,31,32,33,34,35,36,37,38,39,40,41,42,44], ho := [1] }, { o := .mv 44 (.s 5), hs := [6,25,26,27,28,29,30,31,32,33,34,35,36,37,38,39,40,41,42,43], ho := [1] }, { o := .build 45 [.pl (.sc (.int .i64 0)), .pl (.sc (.int .i64 0)), .pl (.sc (.int .i64 0)), .pl (.sc (.int .i64 0)), .pl (.sc (.int .i64 0)), .pl (.sc (.int .i64 0))] [(0, 3, .s 33), (3, 1, .s 42), (4, 1, .s 43), (5, 1, .s 44)], hs := [6], ho := [1], bf := [0,1,2,3,4,5,6,7,8,9,10,11,12,13,14,15,16,17,18,19] }, { o := .alloc 6 1 [.pl (.sc (.int .i64 0)), .pl (.sc (.int .i64 0)), .pl (.sc (.int .i64 0)), .pl (.sc (.int .i64 0)), .pl (.sc (.int .i64 0)), .pl (.sc (.int .i64 0))], hs := [25,26,27,28,29,30,31,32,33,34,35,36,37,38,39,40,41,42,43,44,45], ws := [1] }, { o := .store 6 (.s 6) (.s 45), ws := [1], bf := [0,1,2,3,4,5,6,7,8,9,10,11,12,13,14,15,16,17,18,19,20,21] }] [0,3,4,5,6])
(.seq (pr [.mv 46 (.s 3), .len 47 false (.s 46), .mv 7 (.s 47)] [0,3,4,5,6,7])
(.seq (.block 4 (.loop ([0,3,4,5,6,7], [2,3]) (.seq (.seq (.dreg [{ o := .mv 48 (.s 7) }, { o := .bin 49 false .gtr (.s 48) (.c (.int .i64 0)), bf := [0] }, { o := .mv 50 (.s 49), bf := [0,1] }, { o := .load 51 true 6 (.s 6), g := some (50, true), hs := [52,53,54,55,56], bf := [0,1,2] }, { o := .mv 52 (.s 3), g := some (50, true), hs := [51,53,54], bf := [0,1,2] }, { o := .mv 53 (.s 7), g := some (50, true), hs := [51,52], bf := [0,1,2] }, { o := .bin 54 false .sub (.s 53) (.c (.int .i64 1)), g := some (50, true), hs := [51,52], bf := [0,1,2,5] }, { o := .idx 55 6 (.s 52) (.s 54), g := some (50, true), hs := [51], bf := [0,1,2,4,5,6] }, { o := .load 56 true 6 (.s 55), g := some (50, true), hs := [51], bf := [0,1,2,4,5,6,7] }, { o := .call 57 [] (.f n_spec_l31Before) [.s 51, .s 56], g := some (50, true), bf := [0,1,2,3,4,5,6,7,8] }, { o := .pick 58 (.s 50) (.s 57) (.c (.bool false)), bf := [0,1,2,3,4,5,6,7,8,9] }] [0,3,4,5,6,7,58])
(.cond (.s 58) .skip (.exit 4)))
(.block 5 (pr [.mv 59 (.s 7), .bin 60 false .sub (.s 59) (.c (.int .i64 1)), .mv 7 (.s 60)] [0,3,4,5,6,7])))))
(.dreg [{ o := .lit 61 2 6 48 [], hs := [62,63,64,66,67,69,70,71], ho := [3], ws := [2] }, { o := .mv 62 (.s 3), hs := [61,63,66,67,69,70,71], ho := [2,3] }, { o := .mv 63 (.s 7), hs := [61,62,66,67,69,70,71], ho := [2,3] }, { o := .slc 64 6 (.s 62) none (some (.s 63)) none, hs := [61,66,67,69,70,71], ho := [2,3], bf := [1,2] }, { o := .app 65 2 6 48 (.s 61) (.s 64), hs := [66,67,69,70,71], ho := [3], ws := [2], bf := [0,1,2,3] }, { o := .load 66 true 6 (.s 6), hs := [61,62,63,64,65,69,70,71], ho := [2] }, { o := .lit 67 3 6 48 [.s 66], hs := [61,62,63,64,65,69,70,71], ho := [2], ws := [3], bf := [5] }, { o := .app 68 2 6 48 (.s 65) (.s 67), hs := [69,70,71], ws := [2], bf := [0,1,2,3,4,5,6] }, { o := .mv 69 (.s 3), hs := [61,62,63,64,65,66,67,68,70], ho := [2,3] }, { o := .mv 70 (.s 7), hs := [61,62,63,64,65,66,67,68,69], ho := [2,3] }, { o := .slc 71 6 (.s 69) (some (.s 70)) none none, hs := [61,62,63,64,65,66,67,68], ho := [2,3], bf := [8,9] }, { o := .app 72 0 6 48 (.s 68) (.s 71), ws := [0,2], bf := [0,1,2,3,4,5,6,7,8,9,10] }, { o := .mv 3 (.s 72), bf := [0,1,2,3,4,5,6,7,8,9,10,11] }] [0,3,4,5])))))
(pr [.mv 23 (.s 5), .bin 24 false .add (.s 23) (.c (.int .i64 1)), .mv 5 (.s 24)] [0,3,4,5])))))))
(pr [.mv 13 (.s 4), .bin 14 false .add (.s 13) (.c (.int .i64 1)), .mv 4 (.s 14)] [0,3,4]))))))
(.seq (pr [.mv 73 (.s 3), .mv 2 (.s 73)] [2])
.ret))))
theorem c_spec_BuildIndex (l : List GContainer) (hs : l.length + (l.map GContainer.size).sum ≤ 1073741824) : Ctr Try.prog n_spec_BuildIndex [aL 4 (l.map GContainer.enc)] [rL 6 ((index l).map GFound.enc)] := by
  refine ctr_at (M := m_spec_BuildIndex) (m := 4) (n := 74) (res := [(.tmp 2, [true])]) hmix Try.func11 rfl (by kernel_rfl) rfl (by kernel_rfl) (by kernel_rfl) (Nat.le_of_ble_eq_true rfl) ?_; unfold m_spec_BuildIndex
  intro hb
  clear hb
  simp only [↓bk_bind, ↓bk_map, ↓bk_ite, ↓bk_some, ↓reduceIte, Nat.reduceEqDiff, Nat.reduceLT, Nat.reduceLeDiff, Nat.reduceAdd, Nat.reduceMul, reduceCtorEq, List.reduceReplicate, go_sem]
  refine loopK_rng l (fun i => [(3, .val false [.ref 0 0 6 0 (Srt.isort fndLt (fnds 0 (l.take i))).length]), (4, vI i)]) (fun i => [(0, ⟨0, .row true 6 ((Srt.isort fndLt (fnds 0 (l.take i))).map GFound.enc)⟩)]) (fun _ => True) (by simp only [roomB]; omega) ?_
  simp only [↓bk_bind, ↓bk_map, ↓bk_ite, ↓bk_some, ↓reduceIte, Nat.reduceEqDiff, Nat.reduceLT, Nat.reduceLeDiff, Nat.reduceAdd, Nat.reduceMul, reduceCtorEq, List.reduceReplicate, go_sem]
  refine ⟨?_, trivial, ?_, ?_⟩
  · simp only [↓bk_bind, ↓bk_map, ↓bk_ite, ↓bk_some, ↓reduceIte, Nat.reduceEqDiff, Nat.reduceLT, Nat.reduceLeDiff, Nat.reduceAdd, Nat.reduceMul, reduceCtorEq, List.reduceReplicate, go_sem, List.take_zero]
    exact ⟨rfl, rfl⟩
  · intro i x hx _ h0 h1 hw
    have hx1 := mem_sum (f := GContainer.size) (at_mem hx)
    have hi := len_at hx
    have hxl : x.Captures.length ≤ x.size := by simp only [GContainer.size]; omega
    simp only [↓bk_bind, ↓bk_map, ↓bk_ite, ↓bk_some, ↓reduceIte, Nat.reduceEqDiff, Nat.reduceLT, Nat.reduceLeDiff, Nat.reduceAdd, Nat.reduceMul, reduceCtorEq, List.reduceReplicate, go_sem, bk_eq hx, h0, h1, hw]
    refine loopK_rng x.Captures (fun k => [(3, .val false [.ref 0 0 6 0 (Srt.isort fndLt (fnds 0 (l.take i) ++ fnd1 i 0 (x.Captures.take k))).length]), (5, vI k)]) (fun k => [(0, ⟨0, .row true 6 ((Srt.isort fndLt (fnds 0 (l.take i) ++ fnd1 i 0 (x.Captures.take k))).map GFound.enc)⟩)]) (fun _ => True) (by simp only [roomB]; omega) ?_
    simp only [↓bk_bind, ↓bk_map, ↓bk_ite, ↓bk_some, ↓reduceIte, Nat.reduceEqDiff, Nat.reduceLT, Nat.reduceLeDiff, Nat.reduceAdd, Nat.reduceMul, reduceCtorEq, List.reduceReplicate, go_sem, bk_eq hx]
    refine ⟨?_, trivial, ?_, ?_⟩
    · simp only [↓bk_bind, ↓bk_map, ↓bk_ite, ↓bk_some, ↓reduceIte, Nat.reduceEqDiff, Nat.reduceLT, Nat.reduceLeDiff, Nat.reduceAdd, Nat.reduceMul, reduceCtorEq, List.reduceReplicate, go_sem, List.take_zero]
      exact ⟨by simp [fnd1], by simp [fnd1]⟩
    · intro k c hc _ h2 h3 hw2
      have hn := len_fnds_at (k := k) hx
      obtain ⟨y, hy⟩ : ∃ y : GFound, y = ⟨c.Address, c.Tick, i, k⟩ := ⟨_, rfl⟩
      obtain ⟨out, hout⟩ : ∃ out, out = Srt.isort fndLt (fnds 0 (l.take i) ++ fnd1 i 0 (x.Captures.take k)) := ⟨_, rfl⟩
      have hsr : Srt.srt fndLt out := hout ▸ Srt.srt_isort fndSwo' _
      have hol : out.length ≤ (l.map GContainer.size).sum := by rw [hout, Srt.len_isort]; exact hn
      have hst : Srt.isort fndLt (fnds 0 (l.take i) ++ fnd1 i 0 (x.Captures.take (k + 1))) = Srt.ins fndLt y out := by
        rw [fnds_step hc, Srt.isort_snoc, ← hout, ← hy]
      have hye : ([tI c.Address.Host, tI c.Address.Path, tI c.Address.Query, tI c.Tick, tI (i : Int), tI (k : Int)] : List T) = y.enc := by rw [hy]; rfl
      rw [hst, ← hout]
      simp only [↓bk_bind, ↓bk_map, ↓bk_ite, ↓bk_some, ↓reduceIte, Nat.reduceEqDiff, Nat.reduceLT, Nat.reduceLeDiff, Nat.reduceAdd, Nat.reduceMul, reduceCtorEq, List.reduceReplicate, go_sem, bk_eq hx, bk_eq hc, h0, h1, h2, h3, hw2, hw]
      refine loopK_up (fun n : Nat => [(7, vI n)]) (fun n => []) (fun n => n ≤ out.length ∧ ∀ z ∈ out.drop n, fndLt y z = true) (fun n => n) out.length ?_
      simp only [↓bk_bind, ↓bk_map, ↓bk_ite, ↓bk_some, ↓reduceIte, Nat.reduceEqDiff, Nat.reduceLT, Nat.reduceLeDiff, Nat.reduceAdd, Nat.reduceMul, reduceCtorEq, List.reduceReplicate, go_sem]
      refine ⟨?_, ⟨Nat.le_refl _, by simp⟩, ?_⟩
      · simp only [↓bk_bind, ↓bk_map, ↓bk_ite, ↓bk_some, ↓reduceIte, Nat.reduceEqDiff, Nat.reduceLT, Nat.reduceLeDiff, Nat.reduceAdd, Nat.reduceMul, reduceCtorEq, List.reduceReplicate, go_sem]
      · rintro n ⟨hn1, hn2⟩
        simp only [↓bk_bind, ↓bk_map, ↓bk_ite, ↓bk_some, ↓reduceIte, Nat.reduceEqDiff, Nat.reduceLT, Nat.reduceLeDiff, Nat.reduceAdd, Nat.reduceMul, reduceCtorEq, List.reduceReplicate, go_sem]
        refine ⟨fun hpos => ?_, fun hzero => ?_⟩
        · obtain ⟨m, hm⟩ : ∃ m, m = n - 1 := ⟨_, rfl⟩
          obtain ⟨z, hz⟩ := at_some (show m < out.length by omega)
          have e1 : IntKind.i64.wrap ((n : Int) - 1) = (m : Int) := by rw [wI (by omega) (by omega)]; omega
          rw [e1]
          simp only [↓bk_bind, ↓bk_map, ↓bk_ite, ↓bk_some, ↓reduceIte, Nat.reduceEqDiff, Nat.reduceLT, Nat.reduceLeDiff, Nat.reduceAdd, Nat.reduceMul, reduceCtorEq, List.reduceReplicate, go_sem, bk_eq hz, e1]
          refine ⟨⟨by omega, by omega⟩, ?_⟩
          apply callK_of (c_spec_l31Before ⟨c.Address, c.Tick, (i : Int), (k : Int)⟩ z)
          simp only [↓bk_bind, ↓bk_map, ↓bk_ite, ↓bk_some, ↓reduceIte, Nat.reduceEqDiff, Nat.reduceLT, Nat.reduceLeDiff, Nat.reduceAdd, Nat.reduceMul, reduceCtorEq, List.reduceReplicate, go_sem]
          rw [e1]
          refine ⟨fun ht => ⟨m, rfl, ⟨by omega, ?_⟩, by omega⟩, fun hf => ?_⟩
          · rw [hm]
            exact Srt.drop_step (by omega) (hm ▸ hz) hn2 (hy ▸ ht)
          · have hstop : n = 0 ∨ ∃ y', out[n - 1]? = some y' ∧ fndLt y y' = false := .inr ⟨z, hm ▸ hz, hy ▸ hf⟩
            rw [cutA hn1]
            refine ⟨by omega, by omega, ?_⟩
            have hA : (out.take n).length = n := by rw [List.length_take]; omega
            have hB : out.length = n + (out.drop n).length := by rw [List.length_drop]; omega
            have eC := cutB (f := GFound.enc) hn1
            have e5 : List.map GFound.enc (out.take n) ++ [[T.sc (Value.int IntKind.i64 c.Address.Host), T.sc (Value.int IntKind.i64 c.Address.Path), T.sc (Value.int IntKind.i64 c.Address.Query), T.sc (Value.int IntKind.i64 c.Tick), T.sc (Value.int IntKind.i64 (i : Int)), T.sc (Value.int IntKind.i64 (k : Int))]] = (out.take n ++ [y]).map GFound.enc := by rw [hy]; simp [GFound.enc, GAddress.enc]
            have e6 : ((out.take n ++ [y]).map GFound.enc).length = (out.take n).length + 1 := by simp
            simp only [↓bk_bind, ↓bk_map, ↓bk_ite, ↓bk_some, ↓reduceIte, Nat.reduceEqDiff, Nat.reduceLT, Nat.reduceLeDiff, Nat.reduceAdd, Nat.reduceMul, reduceCtorEq, List.reduceReplicate, go_sem, ↓flat_of (f := GFound.enc) (fun _ => rfl) (out.take n), ↓eC, ↓e5, ↓e6, ↓flat_of (f := GFound.enc) (fun _ => rfl) (out.drop n)]
            rw [Srt.ins_at fndSwo' hsr hn2 hstop]
            simp only [roomB]
            exact ⟨by omega, by omega, by omega, ⟨by omega, by omega, by omega⟩, by omega, by omega, ⟨by simp only [List.length_append, List.length_cons, List.length_nil], hw2⟩, by rw [← List.map_append]⟩
        · have hstop : n = 0 ∨ ∃ y', out[n - 1]? = some y' ∧ fndLt y y' = false := .inl (by omega)
          rw [cutA hn1]
          refine ⟨by omega, by omega, ?_⟩
          have hA : (out.take n).length = n := by rw [List.length_take]; omega
          have hB : out.length = n + (out.drop n).length := by rw [List.length_drop]; omega
          have eC := cutB (f := GFound.enc) hn1
          have e5 : List.map GFound.enc (out.take n) ++ [[T.sc (Value.int IntKind.i64 c.Address.Host), T.sc (Value.int IntKind.i64 c.Address.Path), T.sc (Value.int IntKind.i64 c.Address.Query), T.sc (Value.int IntKind.i64 c.Tick), T.sc (Value.int IntKind.i64 (i : Int)), T.sc (Value.int IntKind.i64 (k : Int))]] = (out.take n ++ [y]).map GFound.enc := by rw [hy]; simp [GFound.enc, GAddress.enc]
          have e6 : ((out.take n ++ [y]).map GFound.enc).length = (out.take n).length + 1 := by simp
          simp only [↓bk_bind, ↓bk_map, ↓bk_ite, ↓bk_some, ↓reduceIte, Nat.reduceEqDiff, Nat.reduceLT, Nat.reduceLeDiff, Nat.reduceAdd, Nat.reduceMul, reduceCtorEq, List.reduceReplicate, go_sem, ↓flat_of (f := GFound.enc) (fun _ => rfl) (out.take n), ↓eC, ↓e5, ↓e6, ↓flat_of (f := GFound.enc) (fun _ => rfl) (out.drop n)]
          rw [Srt.ins_at fndSwo' hsr hn2 hstop]
          simp only [roomB]
          exact ⟨by omega, by omega, by omega, ⟨by omega, by omega, by omega⟩, by omega, by omega, ⟨by simp only [List.length_append, List.length_cons, List.length_nil], hw2⟩, by rw [← List.map_append]⟩
    · intro _
      simp only [↓bk_bind, ↓bk_map, ↓bk_ite, ↓bk_some, ↓reduceIte, Nat.reduceEqDiff, Nat.reduceLT, Nat.reduceLeDiff, Nat.reduceAdd, Nat.reduceMul, reduceCtorEq, List.reduceReplicate, go_sem, List.take_length, bk_eq hx, h0, h1, hw, Int.lt_irrefl]
      exact ⟨by rw [fnds_snoc hx, Nat.zero_add], by rw [fnds_snoc hx, Nat.zero_add]⟩
  · intro _
    simp only [↓bk_bind, ↓bk_map, ↓bk_ite, ↓bk_some, ↓reduceIte, Nat.reduceEqDiff, Nat.reduceLT, Nat.reduceLeDiff, Nat.reduceAdd, Nat.reduceMul, reduceCtorEq, List.reduceReplicate, go_sem, List.take_length]
    rfl
end Go.Proofs.YtbnbgekjjbpljaaR
namespace Go.Proofs.YtbnbgekjjbpljaaR
open Go Go.RowKit Go.Proofs
set_option linter.unusedSimpArgs false
set_option linter.unusedVariables false
theorem len_index (l : List GContainer) : (index l).length ≤ (l.map GContainer.size).sum := by
  rw [index, Srt.len_isort]; exact len_fnds_le
def m_laws_FnExactBuildIndex : MC :=
(.seq (pr [.mv 2 (.c (.bool false))] [0])
(.seq (pr [.mv 3 (.c (.int .i64 1048576))] [0,3])
(.seq (pr [.mv 11 (.s 0), .mv 12 (.s 3), .call 13 [] (.f n_laws_szContainerS) [.s 11, .s 12], .mv 3 (.s 13)] [0,3])
(.seq (.seq (pr [.mv 14 (.s 3), .bin 15 false .lss (.s 14) (.c (.int .i64 0))] [0,15])
(.cond (.s 15) (.seq (pr [.mv 2 (.c (.bool true))] [2])
.ret) .skip))
(.seq (pr [.mv 16 (.s 0), .call 17 [0] (.f n_laws_toContainerS) [.s 16], .call 18 [1] (.f n_spec_BuildIndex) [.s 17], .mv 4 (.s 18)] [0,4])
(.seq (pr [.mv 19 (.s 0), .call 20 [2] (.f n_laws_toContainerS) [.s 19], .mv 5 (.s 20)] [0,4,5])
(.seq (pr [.mv 21 (.s 5), .call 22 [3] (.f n_impl_BuildIndex) [.s 21], .mv 6 (.s 22)] [0,4,5,6])
(.seq (.seq (pr [.mv 23 (.s 6), .mv 24 (.s 4), .call 25 [] (.f n_laws_eqFoundS) [.s 23, .s 24], .un 26 .not (.s 25)] [0,4,5,6,26])
(.cond (.s 26) (.seq (pr [.mv 2 (.c (.bool false))] [2])
.ret) .skip))
(.seq (.seq (pr [.mv 27 (.s 5), .mv 28 (.s 0), .call 29 [4] (.f n_laws_toContainerS) [.s 28], .call 30 [] (.f n_laws_eqContainerS) [.s 27, .s 29], .un 31 .not (.s 30)] [0,4,5,6,31])
(.cond (.s 31) (.seq (pr [.mv 2 (.c (.bool false))] [2])
.ret) .skip))
(.seq (pr [.mv 7 (.c (.int .i64 1))] [0,4,5,6,7])
(.seq (pr [.mv 32 (.s 5), .mv 33 (.s 7), .callI 34 [] (.f n_laws_markContainerS) [.s 32, .s 33] [2] [], .mv 7 (.s 34)] [0,4,6,7])
(.seq (.seq (.reg [{ o := .mv 35 (.s 7) }, { o := .bin 36 false .lss (.s 35) (.c (.int .i64 0)) }, { o := .mv 37 (.s 36) }, { o := .mv 38 (.s 6), g := some (37, false) }, { o := .mv 39 (.s 4), g := some (37, false) }, { o := .call 40 [] (.f n_laws_eqFoundS) [.s 38, .s 39], g := some (37, false) }, { o := .un 41 .not (.s 40), g := some (37, false) }, { o := .pick 42 (.s 37) (.c (.bool true)) (.s 41) }] [0,4,6,42])
(.cond (.s 42) (.seq (pr [.mv 2 (.c (.bool false))] [2])
.ret) .skip))
(.seq (pr [.mv 8 (.c (.int .i64 1))] [0,4,6,8])
(.seq (pr [.mv 43 (.s 6), .mv 44 (.s 8), .callI 45 [] (.f n_laws_markFoundS) [.s 43, .s 44] [3] [], .mv 8 (.s 45)] [0,4,6,8])
(.seq (pr [.mv 9 (.c (.int .i64 1))] [0,4,6,8,9])
(.seq (pr [.mv 46 (.s 6), .mv 47 (.s 9), .call 48 [] (.f n_laws_heldFoundS) [.s 46, .s 47], .mv 9 (.s 48)] [0,4,6,8,9])
(.seq (.seq (pr [.mv 49 (.s 9), .bin 50 false .lss (.s 49) (.c (.int .i64 0))] [0,4,6,8,9,50])
(.cond (.s 50) (.seq (pr [.mv 2 (.c (.bool false))] [2])
.ret) .skip))
(.seq (.seq (pr [.mv 51 (.s 9), .mv 52 (.s 8), .bin 53 false .neq (.s 51) (.s 52)] [0,4,6,8,53])
(.cond (.s 53) (.seq (pr [.mv 2 (.c (.bool false))] [2])
.ret) .skip))
(.seq (pr [.mv 54 (.s 0), .call 55 [5] (.f n_laws_toContainerS) [.s 54], .call 56 [6] (.f n_impl_BuildIndex) [.s 55], .mv 10 (.s 56)] [4,6,8,10])
(.seq (.seq (pr [.mv 57 (.s 10), .mv 58 (.s 4), .call 59 [] (.f n_laws_eqFoundS) [.s 57, .s 58], .un 60 .not (.s 59)] [6,8,60])
(.cond (.s 60) (.seq (pr [.mv 2 (.c (.bool false))] [2])
.ret) .skip))
(.seq (pr [.mv 9 (.c (.int .i64 1))] [6,8,9])
(.seq (pr [.mv 61 (.s 6), .mv 62 (.s 9), .call 63 [] (.f n_laws_heldFoundS) [.s 61, .s 62], .mv 9 (.s 63)] [8,9])
(.seq (.seq (pr [.mv 64 (.s 9), .bin 65 false .lss (.s 64) (.c (.int .i64 0))] [8,9,65])
(.cond (.s 65) (.seq (pr [.mv 2 (.c (.bool false))] [2])
.ret) .skip))
(.seq (.seq (pr [.mv 66 (.s 9), .mv 67 (.s 8), .bin 68 false .neq (.s 66) (.s 67)] [68])
(.cond (.s 68) (.seq (pr [.mv 2 (.c (.bool false))] [2])
.ret) .skip))
(.seq (pr [.mv 2 (.c (.bool true))] [2])
.ret)))))))))))))))))))))))))
theorem c_laws_FnExactBuildIndex (l : List GContainer) : Ctr Try.prog n_laws_FnExactBuildIndex [aL 4 (l.map GContainer.enc)] [rB true] := by
  refine ctr_at (M := m_laws_FnExactBuildIndex) (m := 7) (n := 69) (res := [(.tmp 2, [false])]) hmix Try.func4 rfl (by kernel_rfl) rfl (by kernel_rfl) (by kernel_rfl) (Nat.le_of_ble_eq_true rfl) ?_; unfold m_laws_FnExactBuildIndex
  intro hb
  clear hb
  simp only [↓bk_bind, ↓bk_map, ↓bk_ite, ↓bk_some, ↓reduceIte, Nat.reduceEqDiff, Nat.reduceLT, Nat.reduceLeDiff, Nat.reduceAdd, Nat.reduceMul, reduceCtorEq, List.reduceReplicate, go_sem]
  apply callK_of (c_laws_szContainerS l _ (by omega))
  simp only [↓bk_bind, ↓bk_map, ↓bk_ite, ↓bk_some, ↓reduceIte, Nat.reduceEqDiff, Nat.reduceLT, Nat.reduceLeDiff, Nat.reduceAdd, Nat.reduceMul, reduceCtorEq, List.reduceReplicate, go_sem]
  intro _ hz
  have hs := szr_ok hz
  have hc_l := ctL_le (c := GContainer.ct) (s := GContainer.size) GContainer.ct_le l
  have hr0 := ctL_le' (c := GFound.ct) (fun y => by simp only [GFound.ct]; omega) (index l)
  have hl_len_index := len_index l
  apply callK_of (c_laws_toContainerS l (by omega))
  simp only [↓bk_bind, ↓bk_map, ↓bk_ite, ↓bk_some, ↓reduceIte, Nat.reduceEqDiff, Nat.reduceLT, Nat.reduceLeDiff, Nat.reduceAdd, Nat.reduceMul, reduceCtorEq, List.reduceReplicate, go_sem]
  intros
  apply callK_of (c_spec_BuildIndex l (by omega))
  simp only [↓bk_bind, ↓bk_map, ↓bk_ite, ↓bk_some, ↓reduceIte, Nat.reduceEqDiff, Nat.reduceLT, Nat.reduceLeDiff, Nat.reduceAdd, Nat.reduceMul, reduceCtorEq, List.reduceReplicate, go_sem]
  intros
  apply callK_of (c_laws_toContainerS l (by omega))
  simp only [↓bk_bind, ↓bk_map, ↓bk_ite, ↓bk_some, ↓reduceIte, Nat.reduceEqDiff, Nat.reduceLT, Nat.reduceLeDiff, Nat.reduceAdd, Nat.reduceMul, reduceCtorEq, List.reduceReplicate, go_sem]
  intros
  apply callK_of (c_impl_BuildIndex l (by omega))
  simp only [↓bk_bind, ↓bk_map, ↓bk_ite, ↓bk_some, ↓reduceIte, Nat.reduceEqDiff, Nat.reduceLT, Nat.reduceLeDiff, Nat.reduceAdd, Nat.reduceMul, reduceCtorEq, List.reduceReplicate, go_sem]
  intros
  apply callK_of (c_laws_eqFoundS (index l) (index l))
  simp only [↓bk_bind, ↓bk_map, ↓bk_ite, ↓bk_some, ↓reduceIte, Nat.reduceEqDiff, Nat.reduceLT, Nat.reduceLeDiff, Nat.reduceAdd, Nat.reduceMul, reduceCtorEq, List.reduceReplicate, go_sem]
  intros
  apply callK_of (c_laws_toContainerS l (by omega))
  simp only [↓bk_bind, ↓bk_map, ↓bk_ite, ↓bk_some, ↓reduceIte, Nat.reduceEqDiff, Nat.reduceLT, Nat.reduceLeDiff, Nat.reduceAdd, Nat.reduceMul, reduceCtorEq, List.reduceReplicate, go_sem]
  intros
  apply callK_of (c_laws_eqContainerS l l)
  simp only [↓bk_bind, ↓bk_map, ↓bk_ite, ↓bk_some, ↓reduceIte, Nat.reduceEqDiff, Nat.reduceLT, Nat.reduceLeDiff, Nat.reduceAdd, Nat.reduceMul, reduceCtorEq, List.reduceReplicate, go_sem]
  intros
  apply callIK_of (c_laws_markContainerS l (1) (by omega) (by omega))
  simp only [↓bk_bind, ↓bk_map, ↓bk_ite, ↓bk_some, ↓reduceIte, Nat.reduceEqDiff, Nat.reduceLT, Nat.reduceLeDiff, Nat.reduceAdd, Nat.reduceMul, reduceCtorEq, List.reduceReplicate, go_sem]
  intros
  have hk : ¬ ((1 + (ctL GContainer.ct (l) : Nat) : Int)) < 0 := by omega
  simp only [↓bk_bind, ↓bk_map, ↓bk_ite, ↓bk_some, ↓reduceIte, Nat.reduceEqDiff, Nat.reduceLT, Nat.reduceLeDiff, Nat.reduceAdd, Nat.reduceMul, reduceCtorEq, List.reduceReplicate, go_sem, hk]
  try intros
  apply callK_of (c_laws_eqFoundS (index l) (index l))
  simp only [↓bk_bind, ↓bk_map, ↓bk_ite, ↓bk_some, ↓reduceIte, Nat.reduceEqDiff, Nat.reduceLT, Nat.reduceLeDiff, Nat.reduceAdd, Nat.reduceMul, reduceCtorEq, List.reduceReplicate, go_sem]
  intros
  apply callIK_of (c_laws_markFoundS (index l) (1) (by omega) (by omega))
  simp only [↓bk_bind, ↓bk_map, ↓bk_ite, ↓bk_some, ↓reduceIte, Nat.reduceEqDiff, Nat.reduceLT, Nat.reduceLeDiff, Nat.reduceAdd, Nat.reduceMul, reduceCtorEq, List.reduceReplicate, go_sem]
  intros
  apply callK_of (c_laws_heldFoundS (index l) (1) (by omega) (by omega))
  simp only [↓bk_bind, ↓bk_map, ↓bk_ite, ↓bk_some, ↓reduceIte, Nat.reduceEqDiff, Nat.reduceLT, Nat.reduceLeDiff, Nat.reduceAdd, Nat.reduceMul, reduceCtorEq, List.reduceReplicate, go_sem]
  have hq0 : ¬ ((1 + (ctL GFound.ct (index l) : Nat) : Int)) < 0 := by omega
  try simp only [↓bk_bind, ↓bk_map, ↓bk_ite, ↓bk_some, ↓reduceIte, Nat.reduceEqDiff, Nat.reduceLT, Nat.reduceLeDiff, Nat.reduceAdd, Nat.reduceMul, reduceCtorEq, List.reduceReplicate, go_sem, hq0]
  try intros
  apply callK_of (c_laws_toContainerS l (by omega))
  simp only [↓bk_bind, ↓bk_map, ↓bk_ite, ↓bk_some, ↓reduceIte, Nat.reduceEqDiff, Nat.reduceLT, Nat.reduceLeDiff, Nat.reduceAdd, Nat.reduceMul, reduceCtorEq, List.reduceReplicate, go_sem]
  intros
  apply callK_of (c_impl_BuildIndex l (by omega))
  simp only [↓bk_bind, ↓bk_map, ↓bk_ite, ↓bk_some, ↓reduceIte, Nat.reduceEqDiff, Nat.reduceLT, Nat.reduceLeDiff, Nat.reduceAdd, Nat.reduceMul, reduceCtorEq, List.reduceReplicate, go_sem]
  intros
  apply callK_of (c_laws_eqFoundS (index l) (index l))
  simp only [↓bk_bind, ↓bk_map, ↓bk_ite, ↓bk_some, ↓reduceIte, Nat.reduceEqDiff, Nat.reduceLT, Nat.reduceLeDiff, Nat.reduceAdd, Nat.reduceMul, reduceCtorEq, List.reduceReplicate, go_sem]
  intros
  apply callK_of (c_laws_heldFoundS (index l) (1) (by omega) (by omega))
  simp only [↓bk_bind, ↓bk_map, ↓bk_ite, ↓bk_some, ↓reduceIte, Nat.reduceEqDiff, Nat.reduceLT, Nat.reduceLeDiff, Nat.reduceAdd, Nat.reduceMul, reduceCtorEq, List.reduceReplicate, go_sem]
  have hq0 : ¬ ((1 + (ctL GFound.ct (index l) : Nat) : Int)) < 0 := by omega
  try simp only [↓bk_bind, ↓bk_map, ↓bk_ite, ↓bk_some, ↓reduceIte, Nat.reduceEqDiff, Nat.reduceLT, Nat.reduceLeDiff, Nat.reduceAdd, Nat.reduceMul, reduceCtorEq, List.reduceReplicate, go_sem, hq0]
  try intros
end Go.Proofs.YtbnbgekjjbpljaaR
