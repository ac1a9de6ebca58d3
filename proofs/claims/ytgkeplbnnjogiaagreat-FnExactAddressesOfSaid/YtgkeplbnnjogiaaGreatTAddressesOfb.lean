/- What the functions compute that the laws of AddressesOf reach: contracts. Conditions stand in each theorem. -/
import Derived.Shelf.Sort.Plain
import Derived.Ground.Names2Prog
import Derived.Shelf.Slices.CompactI
import Derived.Shelf.Slices.In.SortNone
import Derived.Shelf.SlSortCmp.NoneTotal
import Derived.Test.YtgkeplbnnjogiaaGreatTAddressesOfa
set_option linter.unusedVariables false
set_option linter.unusedSimpArgs false
namespace Go.Proofs.YtgkeplbnnjogiaaGreatR
open Go Go.RowKit Go.Proofs
open Nat (reduceEqDiff reduceLT reduceLeDiff reduceAdd reduceMul)
open List (reduceReplicate)
namespace Srt
variable {α : Type} {lt : α → α → Bool}
theorem srt_at {l : List α} (h : srt lt l) {i j : Nat} {x y : α} (hi : l[i]? = some x) (hj : l[j]? = some y) (hij : i < j) : lt y x = false := by
 obtain ⟨h1, rfl⟩ := List.getElem?_eq_some_iff.1 hi
 obtain ⟨h2, rfl⟩ := List.getElem?_eq_some_iff.1 hj
 exact (List.pairwise_iff_getElem.1 h) i j h1 h2 hij
theorem K2n (hw : Swo lt) {l : List α} (h : srt lt l) {i j : Nat} {x y : α} (hi : l[i]? = some x) (hj : l[j]? = some y) (hij : i ≤ j) : lt y x = false := by
 rcases Nat.lt_or_eq_of_le hij with k | rfl
 ·exact srt_at h hi hj k
 ·obtain rfl := Option.some.inj (hi.symm.trans hj)
  exact hw.irr x
theorem K2g {l : List α} {u : Nat} {x : α} (h : x ∈ l.take u) : ∃ i, i < u ∧ l[i]? = some x := by
 obtain ⟨i, hi⟩ := List.mem_iff_getElem?.1 h
 rw [List.getElem?_take] at hi
 split at hi
 ·exact ⟨i, by assumption, hi⟩
 ·cases hi
theorem K2u {l : List α} {u : Nat} {x : α} (h : x ∈ l.drop u) : ∃ i, u ≤ i ∧ l[i]? = some x := by
 obtain ⟨i, hi⟩ := List.mem_iff_getElem?.1 h
 rw [List.getElem?_drop] at hi
 exact ⟨u + i, by omega, hi⟩
theorem K8l {l : List α} {u : Nat} {x : α} (h : x ∈ (l.drop u).head?) : l[u]? = some x := by
 rw [List.head?_drop] at h
 exact h
theorem mrg_sym (hw : Swo lt) {X Y : List α} (hX : srt lt X) (hY : srt lt Y) {u M : Nat} (huX : u ≤ X.length) (huM : u ≤ M)
  (h1 : u = 0 ∨ Y.length ≤ M - u ∨ ∃ y x, Y[M - u]? = some y ∧ X[u - 1]? = some x ∧ lt y x = false)
  (h2 : u = M ∨ u = X.length ∨ ∃ y x, Y[M - 1 - u]? = some y ∧ X[u]? = some x ∧ lt y x = true) :
  mrg lt X Y = mrg lt (X.take u) (Y.take (M - u)) ++ mrg lt (X.drop u) (Y.drop (M - u)) := by
 conv => lhs; rw [← List.take_append_drop u X, ← List.take_append_drop (M - u) Y]
 refine K82 ?_ ?_ ?_
 ·intro b hb a ha
  obtain ⟨i, hi, eb⟩ := K2g hb
  have ea := K8l ha
  have hlt := Ke ea
  rcases h2 with h2 | h2 | ⟨y, x, e1, e2, h2⟩
  ·omega
  ·omega
  ·obtain rfl := Option.some.inj (e2.symm.trans ea)
   exact hw.fl (K2n hw hY eb e1 (by omega)) h2
 ·intro b hb a ha
  obtain ⟨i, hi, eb⟩ := K2u hb
  obtain ⟨k, hk, ea⟩ := K2g ha
  have hlt := Ke eb
  rcases h1 with h1 | h1 | ⟨y, x, e1, e2, h1⟩
  ·omega
  ·omega
  ·have p1 := K2n hw hY e1 eb (by omega)
   have p2 := K2n hw hX ea e2 (by omega)
   exact hw.ntr (hw.ntr p1 h1) p2
 ·intro b hb a ha
  obtain ⟨i, hi, eb⟩ := K2u hb
  obtain ⟨k, hk, ea⟩ := K2g ha
  exact srt_at hY ea eb (by omega)
theorem mrg_one (hw : Swo lt) {x : α} {Y : List α} (hY : srt lt Y) {u : Nat} (h1 : ∀ y ∈ Y.take u, lt y x = true) (h2 : ∀ y ∈ Y.drop u, lt y x = false) : mrg lt [x] Y = Y.take u ++ x :: Y.drop u := by
 have e := K82 (lt := lt) (A1 := []) (A2 := [x]) (B1 := Y.take u) (B2 := Y.drop u) (by simpa using h1) (by simp) (by
  intro b hb a ha
  obtain ⟨i, hi, eb⟩ := K2u hb
  obtain ⟨k, hk, ea⟩ := K2g ha
  exact srt_at hY ea eb (by omega))
 rw [List.take_append_drop, List.nil_append] at e
 rw [e, mrg_nil_srt hw (srt_append.1 ((List.take_append_drop u Y).symm ▸ hY)).1]
 have e2 := K5r (lt := lt) (A1 := [x]) (A2 := []) (B := Y.drop u) (by simpa using h2)
 rw [List.append_nil] at e2
 rw [e2, mrg_nil_srt hw (srt_append.1 ((List.take_append_drop u Y).symm ▸ hY)).2.1]
 rfl
theorem mrg_last {y : α} {X : List α} {u : Nat} (h1 : ∀ z ∈ X.take u, lt y z = false) (h2 : ∀ z ∈ X.drop u, lt y z = true) : mrg lt X [y] = X.take u ++ y :: X.drop u := by
 have := ins_mid (lt := lt) (x := y) h1 (fun z hz => h2 z (List.mem_of_mem_head? hz))
 rw [List.take_append_drop] at this
 exact this
theorem lo_of (hw : Swo lt) {Y : List α} (hY : srt lt Y) {w : Nat} {x y : α} (e : Y[w]? = some y) (h : lt y x = true) : ∀ z ∈ Y.take (w + 1), lt z x = true := fun z hz => by
 obtain ⟨i, hi, ez⟩ := K2g hz
 exact hw.fl (K2n hw hY ez e (by omega)) h
theorem hi_of (hw : Swo lt) {Y : List α} (hY : srt lt Y) {w : Nat} {x y : α} (e : Y[w]? = some y) (h : lt y x = false) : ∀ z ∈ Y.drop w, lt z x = false := fun z hz => by
 obtain ⟨i, hi, ez⟩ := K2u hz
 exact hw.ntr (K2n hw hY e ez hi) h
theorem lo_of' (hw : Swo lt) {X : List α} (hX : srt lt X) {w : Nat} {x y : α} (e : X[w]? = some x) (h : lt y x = false) : ∀ z ∈ X.take (w + 1), lt y z = false := fun z hz => by
 obtain ⟨i, hi, ez⟩ := K2g hz
 exact hw.ntr h (K2n hw hX ez e (by omega))
theorem hi_of' (hw : Swo lt) {X : List α} (hX : srt lt X) {w : Nat} {x y : α} (e : X[w]? = some x) (h : lt y x = true) : ∀ z ∈ X.drop w, lt y z = true := fun z hz => by
 obtain ⟨i, hi, ez⟩ := K2u hz
 exact hw.lf h (K2n hw hX e ez hi)
end Srt
theorem shr1 {k : Int} : (if (1 : Int) < 0 then none else some (Value.int IntKind.u64 (k.fdiv (2 ^ min (Int.toNat 1) 64)))) = some (Value.int IntKind.u64 (k.fdiv 2)) := by rw [if_neg (by decide)]; rfl
theorem u64_wrap {n : Int} (h1 : 0 ≤ n) (h2 : n ≤ 9223372036854775807) : IntKind.u64.wrap n = n := by
 simp only [IntKind.wrap, IntKind.signed, IntKind.bits, Bool.false_and, Bool.false_eq_true, if_false]
 omega
theorem K4v {i j : Nat} (h : i + j ≤ 9223372036854775807) : (IntKind.u64.wrap (IntKind.i64.wrap ((i : Int) + (j : Int)))).fdiv 2 = (((i + j) / 2 : Nat) : Int) := by
 rw [wN h, u64_wrap (by omega) (by omega), Int.fdiv_eq_ediv_of_nonneg _ (by omega)]
 omega
theorem wK {k : Nat} (h : k ≤ 9223372036854775807) : IntKind.i64.wrap (k : Int) = (k : Int) := wI (by omega) (by omega)
def SymI (lt : GFound → GFound → Bool) (X Y : List GFound) (M u0 v0 u v : Nat) : Prop :=
 u0 ≤ u ∧ u ≤ v ∧ v ≤ v0 ∧ (u = 0 ∨ Y.length ≤ M - u ∨ ∃ y x, Y[M - u]? = some y ∧ X[u - 1]? = some x ∧ lt y x = false) ∧
  (v = M ∨ v = X.length ∨ ∃ y x, Y[M - 1 - v]? = some y ∧ X[v]? = some x ∧ lt y x = true)
theorem SymI.fin {lt : GFound → GFound → Bool} (hw : Srt.Swo lt) {X Y : List GFound} {M u0 v0 u : Nat} (h : SymI lt X Y M u0 v0 u u) (hX : Srt.srt lt X) (hY : Srt.srt lt Y) (q2 : v0 ≤ M) (q3 : v0 ≤ X.length) (q4 : M ≤ u0 + Y.length) :
  ∃ A1 A2 B1 B2, X = A1 ++ A2 ∧ Y = B1 ++ B2 ∧ A1.length = u ∧ B1.length = M - u ∧ u ≤ M ∧ Srt.mrg lt X Y = Srt.mrg lt A1 B1 ++ Srt.mrg lt A2 B2 ∧ Srt.srt lt A1 ∧ Srt.srt lt A2 ∧ Srt.srt lt B1 ∧ Srt.srt lt B2 := by
 obtain ⟨h1, h2, h3, h4, h5⟩ := h
 have e := Srt.mrg_sym hw hX hY (by omega) (by omega) h4 h5
 have sX := Srt.srt_append.1 ((List.take_append_drop u X).symm ▸ hX)
 have sY := Srt.srt_append.1 ((List.take_append_drop (M - u) Y).symm ▸ hY)
 exact ⟨X.take u, X.drop u, Y.take (M - u), Y.drop (M - u), (List.take_append_drop _ _).symm, (List.take_append_drop _ _).symm, by simp; omega, by simp; omega, by omega, e, sX.1, sX.2.1, sY.1, sY.2.1⟩
theorem sym7 {u l2 k l4 M : Nat} (hk : k = M - u) (huM : u ≤ M) (hM : M = (u + l2 + (k + l4)) / 2) (hX : 2 ≤ u + l2) (hY : 2 ≤ k + l4) :
  (0 < u ∧ 0 < l2 ∧ 0 < k ∧ 0 < l4) ∨ (u = 0 ∧ 0 < l2 ∧ 0 < k ∧ 0 < l4) ∨ (0 < u ∧ l2 = 0 ∧ 0 < k ∧ 0 < l4) ∨ (0 < u ∧ 0 < l2 ∧ k = 0 ∧ 0 < l4) ∨ (0 < u ∧ 0 < l2 ∧ 0 < k ∧ l4 = 0) ∨ (u = 0 ∧ 0 < l2 ∧ 0 < k ∧ l4 = 0) ∨ (0 < u ∧ l2 = 0 ∧ k = 0 ∧ 0 < l4) := by omega
theorem Ka {i j : Nat} (k : Nat) (h : j = i + k) (hk : 0 < k) : (i : Int) < (j : Int) := by omega
theorem K18 {i j : Nat} (k : Nat) (h : j = i + k) (hk : k = 0) : ¬ (i : Int) < (j : Int) := by omega
theorem symL (lt : GFound → GFound → Bool) {P A1 A2 B1 B2 Q : List GFound} {a m b M u N n : Nat} (ha : P.length = a) (hA1 : A1.length = u) (hB1 : B1.length = M - u) (huM : u ≤ M) (hm : m = a + (A1 ++ A2).length) (hb : b = m + (B1 ++ B2).length)
  (hN : (P ++ (A1 ++ A2) ++ (B1 ++ B2) ++ Q).length = N) (hM : M = ((A1 ++ A2).length + (B1 ++ B2).length) / 2) (hn : (A1 ++ A2).length + (B1 ++ B2).length ≤ n + 1) (h1 : ¬ ((m - a : Nat) : Int) = 1) (h2 : ¬ ((b - m : Nat) : Int) = 1) (hX : 0 < (A1 ++ A2).length) (hY : 0 < (B1 ++ B2).length) :
  ((P ++ A1 ++ B1 ++ A2 ++ (B2 ++ Q)).length = N ∧ (P ++ A1 ++ A2 ++ B1 ++ (B2 ++ Q)).length = N ∧ (P ++ A1 ++ B1 ++ (A2 ++ (B2 ++ Q))).length = N ∧ (P ++ Srt.mrg lt A1 B1 ++ A2 ++ B2 ++ Q).length = N ∧ (P ++ Srt.mrg lt A1 B1 ++ (A2 ++ (B2 ++ Q))).length = N ∧ (P ++ Srt.mrg lt A1 B1 ++ Srt.mrg lt A2 B2 ++ Q).length = N) ∧
  ((P ++ A1).length = a + u ∧ (P ++ A1 ++ A2).length = m ∧ (P ++ A1 ++ A2 ++ B1).length = m + (M - u) ∧ (P ++ A1 ++ B1).length = a + M ∧ (P ++ Srt.mrg lt A1 B1).length = a + M ∧ (P ++ Srt.mrg lt A1 B1 ++ A2).length = m + (M - u) ∧ (P ++ Srt.mrg lt A1 B1 ++ A2 ++ B2).length = b) ∧
  A1.length + B1.length ≤ n ∧ A2.length + B2.length ≤ n ∧
  (m = a + u + A2.length ∧ m + (M - u) = m + B1.length ∧ a + u = a + A1.length ∧ a + M = a + u + B1.length ∧ m + (M - u) = a + M + A2.length ∧ b = m + (M - u) + B2.length) ∧
  ((0 < A1.length ∧ 0 < A2.length ∧ 0 < B1.length ∧ 0 < B2.length) ∨ (A1.length = 0 ∧ 0 < A2.length ∧ 0 < B1.length ∧ 0 < B2.length) ∨ (0 < A1.length ∧ A2.length = 0 ∧ 0 < B1.length ∧ 0 < B2.length) ∨ (0 < A1.length ∧ 0 < A2.length ∧ B1.length = 0 ∧ 0 < B2.length) ∨ (0 < A1.length ∧ 0 < A2.length ∧ 0 < B1.length ∧ B2.length = 0) ∨ (A1.length = 0 ∧ 0 < A2.length ∧ 0 < B1.length ∧ B2.length = 0) ∨ (0 < A1.length ∧ A2.length = 0 ∧ B1.length = 0 ∧ 0 < B2.length)) := by
 simp only [List.length_append, Srt.len_mrg] at *
 have h7 := sym7 (u := A1.length) (l2 := A2.length) (k := B1.length) (l4 := B2.length) (M := M) (by omega) (by omega) (by omega) (by omega) (by omega)
 refine ⟨⟨?_, ?_, ?_, ?_, ?_, ?_⟩, ⟨?_, ?_, ?_, ?_, ?_, ?_, ?_⟩, ?_, ?_, ⟨?_, ?_, ?_, ?_, ?_, ?_⟩, h7⟩ <;> clear h7 <;> omega
def Ml : MC :=
(.seq (Zs [mS 25 2, mS 26 1, bS 27 .sub 25 26, bC 28 .eql 27 1] [0,1,2,3,4,28] (.cond (.s 28) (Zs [mS 29 2, mS 10 29] [0,1,3,4,10] (Zs [mS 30 3, mS 11 30] [0,1,4,10,11] (.seq (.block 0 (.loop ([0,1,4,10,11], []) (.seq (Zs [mS 31 10, mS 32 11, bS 33 .lss 31 32] [0,1,4,10,11,33] (cX 33 0))
(.block 1 (Zs [mS 34 10, mS 35 11, bS 36 .add 34 35, .convI 37 .u64 (.s 36), .bin 38 false .shr (.s 37) (.c (.int .u64 1)), .convI 39 .i64 (.s 38), mS 12 39] [0,1,4,10,11,12] (.seq (.dreg [Zc [41,42,43,44,45,46,47,48] (mS 40 4), Zc [40,42,45,46,47,48] (mS 41 0), Zc [40,41,45,46,47,48] (mS 42 12), Zd [40,45,46,47,48] [1,2] (xS 43 6 41 42), Zd [40,45,46,47,48] [1,2,3] (lT 44 6 43), Zc [40,41,42,43,44,46] (mS 45 0), Zc [40,41,42,43,44,45] (mS 46 1), Zd [40,41,42,43,44] [5,6] (xS 47 6 45 46), Zd [40,41,42,43,44] [5,6,7] (lT 48 6 47), Ze (.range 9) (.call 49 [] (.s 40) [.s 44, .s 48]), Ze (.range 10) (bC 50 .lss 49 0)] [0,1,4,10,11,12,50])
(.cond (.s 50) (pr [mS 51 12, bC 52 .add 51 1, mS 10 52] [0,1,4,10,11]) (pr [mS 53 12, mS 11 53] [0,1,4,10,11]))))))))
(.seq (Zs [mS 54 1, mS 13 54] [0,10,13] (.block 2 (.loop ([0,10,13], []) (.seq (Zs [mS 55 13, mS 56 10, bC 57 .sub 56 1, bS 58 .lss 55 57] [0,10,13,58] (cX 58 2))
(.seq (.block 3 (.dreg [Zc [62,63,64,65,66,67,68,69,70,71,72,73,74] (mS 61 0), Zc [61,63,64,65,66,67,68,69,70,71,72,73,74] (mS 62 13), Zf [61,62,64,65,66,67,68,69,70,71,72,73,74,75] [0] (mS 63 0), Zf [61,62,63,66,67,68,69,70,71,72,73,74,75] [0] (mS 64 13), Zg [61,62,63,66,67,68,69,70,71,72,73,74,75] [0] [3] (bC 65 .add 64 1), Zc [61,62,63,64,65,67,68,71,72,73,74] (mS 66 0), Zc [61,62,63,64,65,66,71,72,73,74] (mS 67 13), Zd [61,62,63,64,65,66,71,72,73,74] [6] (bC 68 .add 67 1), Zd [61,62,63,64,65,71,72,73,74] [5,6,7] (xS 69 6 66 68), Zd [61,62,63,64,65,71,72,73,74] [5,6,7,8] (lT 70 6 69), Zc [61,62,63,64,65,66,67,68,69,70,72] (mS 71 0), Zc [61,62,63,64,65,66,67,68,69,70,71] (mS 72 13), Zd [61,62,63,64,65,66,67,68,69,70] [10,11] (xS 73 6 71 72), Zd [61,62,63,64,65,66,67,68,69,70] [10,11,12] (lT 74 6 73), Zd [63,64,65] [0,1,5,6,7,8,9,10,11,12,13] (xS 75 6 61 62), { o := sS 6 75 70, hs := [63,64,65], ws := [0], bf := [0,1,5,6,7,8,9,10,11,12,13,14] }, Ze (.range 16) (xS 76 6 63 65), { o := sS 6 76 74, ws := [0], bf := (.range 17) }] [0,10,13]))
(pr [mS 59 13, bC 60 .add 59 1, mS 13 60] [0,10,13]))))))
.ret)))) .skip))
(.seq (Zs [mS 77 3, mS 78 2, bS 79 .sub 77 78, bC 80 .eql 79 1] [0,1,2,3,4,80] (.cond (.s 80) (Zs [mS 81 1, mS 14 81] [0,2,4,14] (Zs [mS 82 2, mS 15 82] [0,2,4,14,15] (.seq (.block 4 (.loop ([0,2,4,14,15], []) (.seq (Zs [mS 83 14, mS 84 15, bS 85 .lss 83 84] [0,2,4,14,15,85] (cX 85 4))
(.block 5 (Zs [mS 86 14, mS 87 15, bS 88 .add 86 87, .convI 89 .u64 (.s 88), .bin 90 false .shr (.s 89) (.c (.int .u64 1)), .convI 91 .i64 (.s 90), mS 16 91] [0,2,4,14,15,16] (.seq (.dreg [Zc [93,94,95,96,97,98,99,100] (mS 92 4), Zc [92,94,97,98,99,100] (mS 93 0), Zc [92,93,97,98,99,100] (mS 94 2), Zd [92,97,98,99,100] [1,2] (xS 95 6 93 94), Zd [92,97,98,99,100] [1,2,3] (lT 96 6 95), Zc [92,93,94,95,96,98] (mS 97 0), Zc [92,93,94,95,96,97] (mS 98 16), Zd [92,93,94,95,96] [5,6] (xS 99 6 97 98), Zd [92,93,94,95,96] [5,6,7] (lT 100 6 99), Ze (.range 9) (.call 101 [] (.s 92) [.s 96, .s 100]), Ze (.range 10) (bC 102 .lss 101 0), Ze (.range 11) (.un 103 .not (.s 102))] [0,2,4,14,15,16,103])
(.cond (.s 103) (pr [mS 104 16, bC 105 .add 104 1, mS 14 105] [0,2,4,14,15]) (pr [mS 106 16, mS 15 106] [0,2,4,14,15]))))))))
(.seq (Zs [mS 107 2, mS 17 107] [0,14,17] (.block 6 (.loop ([0,14,17], []) (.seq (Zs [mS 108 17, mS 109 14, bS 110 .gtr 108 109] [0,14,17,110] (cX 110 6))
(.seq (.block 7 (.dreg [Zc [114,115,116,117,118,119,120,121,122,123,124,125,126] (mS 113 0), Zc [113,115,116,117,118,119,120,121,122,123,124,125,126] (mS 114 17), Zf [113,114,116,117,118,119,120,121,122,123,124,125,126,127] [0] (mS 115 0), Zf [113,114,115,118,119,120,121,122,123,124,125,126,127] [0] (mS 116 17), Zg [113,114,115,118,119,120,121,122,123,124,125,126,127] [0] [3] (bC 117 .sub 116 1), Zc [113,114,115,116,117,119,120,123,124,125,126] (mS 118 0), Zc [113,114,115,116,117,118,123,124,125,126] (mS 119 17), Zd [113,114,115,116,117,118,123,124,125,126] [6] (bC 120 .sub 119 1), Zd [113,114,115,116,117,123,124,125,126] [5,6,7] (xS 121 6 118 120), Zd [113,114,115,116,117,123,124,125,126] [5,6,7,8] (lT 122 6 121), Zc [113,114,115,116,117,118,119,120,121,122,124] (mS 123 0), Zc [113,114,115,116,117,118,119,120,121,122,123] (mS 124 17), Zd [113,114,115,116,117,118,119,120,121,122] [10,11] (xS 125 6 123 124), Zd [113,114,115,116,117,118,119,120,121,122] [10,11,12] (lT 126 6 125), Zd [115,116,117] [0,1,5,6,7,8,9,10,11,12,13] (xS 127 6 113 114), { o := sS 6 127 122, hs := [115,116,117], ws := [0], bf := [0,1,5,6,7,8,9,10,11,12,13,14] }, Ze (.range 16) (xS 128 6 115 117), { o := sS 6 128 126, ws := [0], bf := (.range 17) }] [0,14,17]))
(pr [mS 111 17, bC 112 .sub 111 1, mS 17 112] [0,14,17]))))))
.ret)))) .skip))
(Zs [mS 129 1, mS 130 3, bS 131 .add 129 130, .convI 132 .u64 (.s 131), .bin 133 false .shr (.s 132) (.c (.int .u64 1)), .convI 134 .i64 (.s 133), mS 18 134] [0,1,2,3,4,18] (Zs [mS 135 18, mS 136 2, bS 137 .add 135 136, mS 19 137] [0,1,2,3,4,18,19] (Zs [.mv 20 (ci 0), .mv 21 (ci 0)] [0,1,2,3,4,18,19] (.seq (Zs [mS 138 2, mS 139 18, bS 140 .gtr 138 139] [0,1,2,3,4,18,19,140] (.cond (.s 140) (Zs [mS 141 19, mS 142 3, bS 143 .sub 141 142, mS 20 143] [0,1,2,3,4,18,19,20] (pr [mS 144 18, mS 21 144] [0,1,2,3,4,18,19,20,21])) (Zs [mS 145 1, mS 20 145] [0,1,2,3,4,18,19,20] (pr [mS 146 2, mS 21 146] [0,1,2,3,4,18,19,20,21]))))
(Zs [mS 147 19, bC 148 .sub 147 1, mS 22 148] [0,1,2,3,4,18,19,20,21,22] (.seq (.block 8 (.loop ([0,1,2,3,4,18,19,20,21,22], []) (.seq (Zs [mS 149 20, mS 150 21, bS 151 .lss 149 150] [0,1,2,3,4,18,19,20,21,22,151] (cX 151 8))
(.block 9 (Zs [mS 152 20, mS 153 21, bS 154 .add 152 153, .convI 155 .u64 (.s 154), .bin 156 false .shr (.s 155) (.c (.int .u64 1)), .convI 157 .i64 (.s 156), mS 23 157] [0,1,2,3,4,18,19,20,21,22,23] (.seq (.dreg [Zc [159,160,161,162,163,164,165,166,167,168] (mS 158 4), Zc [158,160,161,162,165,166,167,168] (mS 159 0), Zc [158,159,161,165,166,167,168] (mS 160 22), Zc [158,159,160,165,166,167,168] (mS 161 23), Zd [158,159,165,166,167,168] [2,3] (bS 162 .sub 160 161), Zd [158,165,166,167,168] [1,2,3,4] (xS 163 6 159 162), Zd [158,165,166,167,168] [1,2,3,4,5] (lT 164 6 163), Zc [158,159,160,161,162,163,164,166] (mS 165 0), Zc [158,159,160,161,162,163,164,165] (mS 166 23), Zd [158,159,160,161,162,163,164] [7,8] (xS 167 6 165 166), Zd [158,159,160,161,162,163,164] [7,8,9] (lT 168 6 167), Ze (.range 11) (.call 169 [] (.s 158) [.s 164, .s 168]), Ze (.range 12) (bC 170 .lss 169 0), Ze (.range 13) (.un 171 .not (.s 170))] [0,1,2,3,4,18,19,20,21,22,23,171])
(.cond (.s 171) (pr [mS 172 23, bC 173 .add 172 1, mS 20 173] [0,1,2,3,4,18,19,20,21,22]) (pr [mS 174 23, mS 21 174] [0,1,2,3,4,18,19,20,21,22]))))))))
(Zs [mS 175 19, mS 176 20, bS 177 .sub 175 176, mS 24 177] [0,1,2,3,4,18,20,24] (.seq (.seq (.reg [Za (mS 178 20), Za (mS 179 2), Za (bS 180 .lss 178 179), Za (mS 181 180), Zb 181 true (mS 182 2), Zb 181 true (mS 183 24), Zb 181 true (bS 184 .lss 182 183), Za (.pick 185 (.s 181) (.s 184) cF)] [0,1,2,3,4,18,20,24,185])
(.cond (.s 185) (pr [mS 186 0, mS 187 20, mS 188 2, mS 189 24, mS 190 4, .callI 191 [] (.f Np) [.s 186, .s 187, .s 188, .s 189, .s 190] [0] []] [0,1,3,4,18,20,24]) .skip))
(.seq (.seq (.reg [Za (mS 192 1), Za (mS 193 20), Za (bS 194 .lss 192 193), Za (mS 195 194), Zb 195 true (mS 196 20), Zb 195 true (mS 197 18), Zb 195 true (bS 198 .lss 196 197), Za (.pick 199 (.s 195) (.s 198) cF)] [0,1,3,4,18,20,24,199])
(.cond (.s 199) (pr [mS 200 0, mS 201 1, mS 202 20, mS 203 18, mS 204 4, .callI 205 [] (.f N0) [.s 200, .s 201, .s 202, .s 203, .s 204] [0] []] [0,3,4,18,24]) .skip))
(.seq (.reg [Za (mS 206 18), Za (mS 207 24), Za (bS 208 .lss 206 207), Za (mS 209 208), Zb 209 true (mS 210 24), Zb 209 true (mS 211 3), Zb 209 true (bS 212 .lss 210 211), Za (.pick 213 (.s 209) (.s 212) cF)] [0,3,4,18,24,213])
(.cond (.s 213) (pr [mS 214 0, mS 215 18, mS 216 24, mS 217 3, mS 218 4, .callI 219 [] (.f N0) [.s 214, .s 215, .s 216, .s 217, .s 218] [0] []] []) .skip)))))))))))))
set_option maxHeartbeats 4000000 in
theorem C1f (f : FuncId) (c : GFound → GFound → Int) (hc : ∀ x y, Ctr Tryz.prog f [aS x.enc, aS y.enc] [rI (c x y)]) (hw : Srt.Swo (ltc c)) (n : Nat) : ∀ (P X Y Q : List GFound) {a m b : Nat}, X.length + Y.length ≤ n → P.length = a → (P ++ X).length = m → (P ++ X ++ Y).length = b → 0 < X.length → 0 < Y.length → Srt.srt (ltc c) X → Srt.srt (ltc c) Y →
  CtrI Tryz.prog N0 [oL 6 ((P ++ X ++ Y ++ Q).map GFound.enc), iI a, iI m, iI b, fI f] [some (6, (P ++ Srt.mrg (ltc c) X Y ++ Q).map GFound.enc)] [] := by
 induction n with
 | zero => intro P X Y Q a m b hn _ _ _ hX; omega
 | succ n ih =>
  intro P X Y Q a m b hn ha hm hb hX hY sX sY
  have hN2 : (P ++ Srt.mrg (ltc c) X Y ++ Q).length = (P ++ X ++ Y ++ Q).length := by simp [Srt.len_mrg]; omega
  refine K11 (M := Ml) (m := 0) (n := 220) (res := []) hmix Tryz.func423 rfl (by kernel_rfl) rfl (by kernel_rfl) (by kernel_rfl) (Nat.le_of_ble_eq_true rfl) rfl rfl ?_; unfold Ml
  intro hbd
  have hl := Kw hbd
  clear hbd
  have hm' : m = a + X.length := by rw [← hm, ← ha]; simp
  have hb' : b = m + Y.length := by rw [← hb, ← hm]; simp; omega
  have hbN : b ≤ (P ++ X ++ Y ++ Q).length := by rw [List.length_append, hb]; omega
  generalize hN : (P ++ X ++ Y ++ Q).length = N at *
  simp only [roomB] at hl
  simp only [go_sem, hN, wS (a := m) (b := a) (by omega) (by omega)]
  refine ⟨fun h1 => ?_, fun h1 => ?_⟩
  ·obtain ⟨x, rfl⟩ : ∃ x, X = [x] := List.length_eq_one_iff.1 (by omega)
   simp only [List.length_cons, List.length_nil] at hm' hn
   have hxa : (P ++ [x] ++ Y ++ Q)[a]? = some x := by rw [← ha]; simp
   have hya : ∀ w, w < Y.length → (P ++ [x] ++ Y ++ Q)[m + w]? = Y[w]? := fun w hw => by
    rw [List.append_assoc, List.getElem?_append_right (by simp; omega), List.getElem?_append_left (by simp; omega)]
    congr 1; simp; omega
   refine K1c (ι := Nat × Nat) (fun s => [(10, vI ((m + s.1 : Nat) : Int)), (11, vI ((m + s.2 : Nat) : Int))]) (fun s => []) (fun s => s.1 ≤ s.2 ∧ s.2 ≤ Y.length ∧ (∀ y ∈ Y.take s.1, ltc c y x = true) ∧ (∀ y ∈ Y.drop s.2, ltc c y x = false)) (fun s => s.2 - s.1) (0, Y.length) ?_
   simp only [go_sem]
   refine ⟨?_, ⟨by omega, by omega, by simp, by simp⟩, ?_⟩
   ·simp only [go_sem]
    exact ⟨by omega, by omega⟩
   ·rintro ⟨u, v⟩ ⟨i1, i2, i3, i4⟩
    simp only at i1 i2 i3 i4
    simp only [go_sem, hN, shr1, K4v (i := m + u) (j := m + v) (by omega)]
    refine ⟨fun hlt => ?_, fun hge => ?_⟩
    ·have hwx : (m + u + (m + v)) / 2 = m + (u + v) / 2 := by omega
     have w1 : u ≤ (u + v) / 2 := by omega
     have w2 : (u + v) / 2 < v := by omega
     rw [hwx]
     generalize (u + v) / 2 = w at w1 w2
     obtain ⟨y, hy⟩ := Ki (show w < Y.length by omega)
     have hyw := (hya w (by omega)).trans hy
     have k1 : (0 : Int) ≤ ((m + w : Nat) : Int) := by omega
     have k2 : ((m + w : Nat) : Int) < (N : Int) := by omega
     have k3 : (0 : Int) ≤ (a : Int) := by omega
     have k4 : (a : Int) < (N : Int) := by omega
     simp only [go_sem, wK (k := m + w) (by omega), k1, k2, k3, k4, K7 hyw, K7 hxa]
     apply K0 (hc y x)
     simp only [go_sem, wN1 (a := m + w) (by omega)]
     intro _
     refine ⟨fun hn => ⟨(w + 1, v), ⟨rfl, rfl⟩, ⟨by omega, i2, Srt.lo_of hw sY hy (by simpa [ltc] using hn), i4⟩, by omega⟩, fun hn => ⟨(u, w), ⟨rfl, rfl⟩, ⟨w1, by omega, i3, Srt.hi_of hw sY hy (by simpa [ltc] using hn)⟩, by omega⟩⟩
    ·obtain rfl : u = v := by omega
     have hres := Srt.mrg_one hw sY i3 i4
     have hlt : ∀ t, (P ++ (Y.take t ++ x :: Y.drop t) ++ Q).length = N := fun t => by rw [← hN]; simp; omega
     refine K1c (fun t : Nat => [(13, vI ((a + t : Nat) : Int))]) (fun t => [(0, ⟨1, .row true 6 ((P ++ (Y.take t ++ x :: Y.drop t) ++ Q).map GFound.enc)⟩)]) (fun t => t ≤ u) (fun t => u - t) 0 ?_
     simp only [go_sem]
     refine ⟨?_, by omega, ?_⟩
     ·simp only [go_sem]
      simp
     ·intro t ht
      have hs1 : IntKind.i64.wrap (((m + u : Nat) : Int) - 1) = ((a + u : Nat) : Int) := by
       rw [wI (by omega) (by omega)]; omega
      by_cases htu : t < u
      ·obtain ⟨y, hy⟩ := Ki (show t < Y.length by omega)
       have e1 : (P ++ (Y.take t ++ x :: Y.drop t) ++ Q).map GFound.enc = two ((P ++ Y.take t).map GFound.enc) x.enc [] y.enc ((Y.drop (t + 1) ++ Q).map GFound.enc) := by simp [two, K1h hy]
       have e2 : (P ++ (Y.take (t + 1) ++ x :: Y.drop (t + 1)) ++ Q).map GFound.enc = two ((P ++ Y.take t).map GFound.enc) y.enc [] x.enc ((Y.drop (t + 1) ++ Q).map GFound.enc) := by simp [two, Ks hy]
       have hA : ((P ++ Y.take t).map GFound.enc).length = a + t := by simp; omega
       have hL0 : ∀ p q, (two ((P ++ Y.take t).map GFound.enc) p [] q ((Y.drop (t + 1) ++ Q).map GFound.enc)).length = N := fun p q => by
        rw [← hlt t]; simp [two, K1h hy]
       generalize (P ++ Y.take t).map GFound.enc = A at *
       generalize (Y.drop (t + 1) ++ Q).map GFound.enc = C at *
       obtain ⟨g1, g2, s1, s2, hL, d1, d2⟩ := K6r (A := A) (B := []) (C := C) (p := a + t) (q := a + t + 1) hA (by simp)
       have k1 : (0 : Int) ≤ ((a + t : Nat) : Int) := by omega
       have k2 : ((a + t : Nat) : Int) < (N : Int) := by omega
       have k3 : (0 : Int) ≤ ((a + t + 1 : Nat) : Int) := by omega
       have k4 : ((a + t + 1 : Nat) : Int) < (N : Int) := by omega
       have k5 : ((a + t : Nat) : Int) < ((a + u : Nat) : Int) := by omega
       rw [e1]
       simp only [go_sem, hs1, hL0, g1, g2, s1, s2, k1, k2, k3, k4, k5, wN1 (a := a + t) (by omega)]
       exact ⟨t + 1, ⟨rfl, e2.symm⟩, by omega, by omega⟩
      ·obtain rfl : t = u := by omega
       simp only [go_sem, hs1]
       rw [hres]
  ·simp only [go_sem, wS (a := b) (b := m) (by omega) (by omega)]
   refine ⟨fun h2 => ?_, fun h2 => ?_⟩
   ·obtain ⟨y, rfl⟩ : ∃ y, Y = [y] := List.length_eq_one_iff.1 (by omega)
    simp only [List.length_cons, List.length_nil] at hb' hn
    have hym : (P ++ X ++ [y] ++ Q)[m]? = some y := by rw [← hm]; simp
    have hxa : ∀ w, w < X.length → (P ++ X ++ [y] ++ Q)[a + w]? = X[w]? := fun w hw => by
     rw [List.append_assoc, List.append_assoc, List.getElem?_append_right (by omega), List.getElem?_append_left (by omega)]
     congr 1; omega
    refine K1c (ι := Nat × Nat) (fun s => [(14, vI ((a + s.1 : Nat) : Int)), (15, vI ((a + s.2 : Nat) : Int))]) (fun s => []) (fun s => s.1 ≤ s.2 ∧ s.2 ≤ X.length ∧ (∀ z ∈ X.take s.1, ltc c y z = false) ∧ (∀ z ∈ X.drop s.2, ltc c y z = true)) (fun s => s.2 - s.1) (0, X.length) ?_
    simp only [go_sem]
    refine ⟨?_, ⟨by omega, by omega, by simp, by simp⟩, ?_⟩
    ·simp only [go_sem]
     exact ⟨by omega, by omega⟩
    ·rintro ⟨u, v⟩ ⟨i1, i2, i3, i4⟩
     simp only at i1 i2 i3 i4
     simp only [go_sem, hN, shr1, K4v (i := a + u) (j := a + v) (by omega)]
     refine ⟨fun hlt => ?_, fun hge => ?_⟩
     ·have hwx : (a + u + (a + v)) / 2 = a + (u + v) / 2 := by omega
      have w1 : u ≤ (u + v) / 2 := by omega
      have w2 : (u + v) / 2 < v := by omega
      rw [hwx]
      generalize (u + v) / 2 = w at w1 w2
      obtain ⟨x, hx⟩ := Ki (show w < X.length by omega)
      have hxw := (hxa w (by omega)).trans hx
      have k1 : (0 : Int) ≤ ((a + w : Nat) : Int) := by omega
      have k2 : ((a + w : Nat) : Int) < (N : Int) := by omega
      have k3 : (0 : Int) ≤ (m : Int) := by omega
      have k4 : (m : Int) < (N : Int) := by omega
      simp only [go_sem, wK (k := a + w) (by omega), k1, k2, k3, k4, K7 hxw, K7 hym]
      apply K0 (hc y x)
      simp only [go_sem, wN1 (a := a + w) (by omega)]
      intro _
      refine ⟨fun hn => ⟨(w + 1, v), ⟨rfl, rfl⟩, ⟨by omega, i2, Srt.lo_of' hw sX hx (by simpa [ltc] using hn), i4⟩, by omega⟩, fun hn => ⟨(u, w), ⟨rfl, rfl⟩, ⟨w1, by omega, i3, Srt.hi_of' hw sX hx (by simpa [ltc] using hn)⟩, by omega⟩⟩
     ·obtain rfl : u = v := by omega
      have hres := Srt.mrg_last i3 i4
      have hlt : ∀ t, (P ++ (X.take t ++ y :: X.drop t) ++ Q).length = N := fun t => by rw [← hN]; simp; omega
      refine K1c (fun t : Nat => [(17, vI ((a + t : Nat) : Int))]) (fun t => [(0, ⟨1, .row true 6 ((P ++ (X.take t ++ y :: X.drop t) ++ Q).map GFound.enc)⟩)]) (fun t => u ≤ t ∧ t ≤ X.length) (fun t => t - u) X.length ?_
      simp only [go_sem]
      refine ⟨?_, ⟨i2, by omega⟩, ?_⟩
      ·simp only [go_sem, hm']
       simp
      ·rintro t ⟨ht, ht2⟩
       by_cases htu : u < t
       ·obtain ⟨t, rfl⟩ : ∃ s, t = s + 1 := ⟨t - 1, by omega⟩
        obtain ⟨x, hx⟩ := Ki (show t < X.length by omega)
        have e1 : (P ++ (X.take (t + 1) ++ y :: X.drop (t + 1)) ++ Q).map GFound.enc = two ((P ++ X.take t).map GFound.enc) x.enc [] y.enc ((X.drop (t + 1) ++ Q).map GFound.enc) := by simp [two, Ks hx]
        have e2 : (P ++ (X.take t ++ y :: X.drop t) ++ Q).map GFound.enc = two ((P ++ X.take t).map GFound.enc) y.enc [] x.enc ((X.drop (t + 1) ++ Q).map GFound.enc) := by simp [two, K1h hx]
        have hA : ((P ++ X.take t).map GFound.enc).length = a + t := by simp; omega
        have hL0 : ∀ p q, (two ((P ++ X.take t).map GFound.enc) p [] q ((X.drop (t + 1) ++ Q).map GFound.enc)).length = N := fun p q => by
         rw [← hlt t]; simp [two, K1h hx]
        generalize (P ++ X.take t).map GFound.enc = A at *
        generalize (X.drop (t + 1) ++ Q).map GFound.enc = C at *
        obtain ⟨g1, g2, s1, s2, hL, d1, d2⟩ := K6r (A := A) (B := []) (C := C) (p := a + t) (q := a + t + 1) hA (by simp)
        have k1 : (0 : Int) ≤ ((a + t : Nat) : Int) := by omega
        have k2 : ((a + t : Nat) : Int) < (N : Int) := by omega
        have k3 : (0 : Int) ≤ ((a + t + 1 : Nat) : Int) := by omega
        have k4 : ((a + t + 1 : Nat) : Int) < (N : Int) := by omega
        have k5 : ((a + t + 1 : Nat) : Int) > ((a + u : Nat) : Int) := by omega
        have k6 : IntKind.i64.wrap (((a + t + 1 : Nat) : Int) - 1) = ((a + t : Nat) : Int) := by
         rw [wI (by omega) (by omega)]; omega
        rw [e1, show a + (t + 1) = a + t + 1 from rfl]
        simp only [go_sem, hL0, g1, g2, s1, s2, k1, k2, k3, k4, k5, k6]
        exact ⟨t, ⟨rfl, e2.symm⟩, ⟨by omega, by omega⟩, by omega⟩
       ·obtain rfl : t = u := by omega
        simp only [go_sem]
        rw [hres]
   ·obtain ⟨M, hM⟩ : ∃ M, M = (X.length + Y.length) / 2 := ⟨_, rfl⟩
    have hmid : (a + b) / 2 = a + M := by omega
    have hxa : ∀ w, w < X.length → (P ++ X ++ Y ++ Q)[a + w]? = X[w]? := fun w hw => by
     rw [List.append_assoc, List.append_assoc, List.getElem?_append_right (by omega), List.getElem?_append_left (by omega)]
     congr 1; omega
    have hya : ∀ w, w < Y.length → (P ++ X ++ Y ++ Q)[m + w]? = Y[w]? := fun w hw => by
     rw [List.append_assoc, List.getElem?_append_right (by omega), List.getElem?_append_left (by omega)]
     congr 1; omega
    simp only [go_sem, shr1, K4v (i := a) (j := b) (by omega), hmid, wK (k := a + M) (by omega), wN (a := a + M) (b := m) (by omega)]
    refine ⟨fun h3 => ?_, fun h3 => ?_⟩
    ·have hs : IntKind.i64.wrap (((a + M + m : Nat) : Int) - (b : Int)) = ((a + (M - Y.length) : Nat) : Int) := by
      rw [wI (by omega) (by omega)]; omega
     simp only [go_sem, hs, wS1 (a := a + M + m) (by omega) (by omega)]
     obtain ⟨u0, hu0⟩ : ∃ u, u = M - Y.length := ⟨_, rfl⟩
     obtain ⟨v0, hv0⟩ : ∃ v, v = M := ⟨_, rfl⟩
     rw [← hu0]
     have q1 : u0 ≤ v0 := by omega
     have q2 : v0 ≤ M := by omega
     have q3 : v0 ≤ X.length := by omega
     have q4 : M ≤ u0 + Y.length := by omega
     have q5 : u0 = 0 ∨ Y.length ≤ M - u0 := by omega
     have q6 : v0 = M ∨ v0 = X.length := by omega
     have q7 : a + M = a + v0 := by omega
     refine K1c (ι := Nat × Nat) (fun s => [(20, vI ((a + s.1 : Nat) : Int)), (21, vI ((a + s.2 : Nat) : Int))]) (fun s => []) (fun s => SymI (ltc c) X Y M u0 v0 s.1 s.2) (fun s => s.2 - s.1) (u0, v0) ?_
     simp only [go_sem]
     refine ⟨?_, ⟨by omega, q1, by omega, q5.imp_right .inl, q6.imp_right .inl⟩, ?_⟩
     ·simp only [go_sem]
      first | exact ⟨by omega, by omega⟩ | omega
     ·rintro ⟨u, v⟩ hI
      obtain ⟨i1, i2, i3, i4, i5⟩ := hI
      simp only at i1 i2 i3 i4 i5
      simp only [go_sem, hN, shr1, K4v (i := a + u) (j := a + v) (by omega)]
      refine ⟨fun hlt => ?_, fun hge => ?_⟩
      ·have hwx : (a + u + (a + v)) / 2 = a + (u + v) / 2 := by omega
       have w1 : u ≤ (u + v) / 2 := by omega
       have w2 : (u + v) / 2 < v := by omega
       rw [hwx]
       generalize (u + v) / 2 = w at w1 w2
       have hpc : IntKind.i64.wrap (((a + M + m - 1 : Nat) : Int) - ((a + w : Nat) : Int)) = ((m + (M - 1 - w) : Nat) : Int) := by
        rw [wI (by omega) (by omega)]; omega
       obtain ⟨x, hx⟩ := Ki (show w < X.length by omega)
       obtain ⟨y, hy⟩ := Ki (show M - 1 - w < Y.length by omega)
       have hxw := (hxa w (by omega)).trans hx
       have hyw := (hya (M - 1 - w) (by omega)).trans hy
       have k1 : (0 : Int) ≤ ((a + w : Nat) : Int) := by omega
       have k2 : ((a + w : Nat) : Int) < (N : Int) := by omega
       have k3 : (0 : Int) ≤ ((m + (M - 1 - w) : Nat) : Int) := by omega
       have k4 : ((m + (M - 1 - w) : Nat) : Int) < (N : Int) := by omega
       simp only [go_sem, wK (k := a + w) (by omega), hpc, k1, k2, k3, k4, K7 hxw, K7 hyw]
       apply K0 (hc y x)
       simp only [go_sem, wN1 (a := a + w) (by omega)]
       intro _
       refine ⟨fun hn => ⟨(w + 1, v), ⟨rfl, rfl⟩, ⟨by omega, by omega, i3, .inr (.inr ⟨y, x, by rw [show M - (w + 1) = M - 1 - w by omega]; exact hy, hx, by simpa [ltc] using hn⟩), i5⟩, by show v - (w + 1) < v - u; omega⟩, fun hn => ⟨(u, w), ⟨rfl, rfl⟩, ⟨i1, w1, by omega, i4, .inr (.inr ⟨y, x, hy, hx, by simpa [ltc] using hn⟩)⟩, by show w - u < v - u; omega⟩⟩
      ·obtain rfl : u = v := by omega
       obtain ⟨A1, A2, B1, B2, rfl, rfl, hA1, hB1, huM, hres, t1, t2, t3, t4⟩ := SymI.fin hw ⟨i1, i2, i3, i4, i5⟩ sX sY q2 q3 q4
       have hend : IntKind.i64.wrap (((a + M + m : Nat) : Int) - ((a + u : Nat) : Int)) = ((m + (M - u) : Nat) : Int) := by
        rw [wI (by omega) (by omega)]; omega
       have r0 : P ++ (A1 ++ A2) ++ (B1 ++ B2) ++ Q = (P ++ A1) ++ A2 ++ B1 ++ (B2 ++ Q) := by simp
       have r1 : (P ++ A1) ++ B1 ++ A2 ++ (B2 ++ Q) = P ++ A1 ++ B1 ++ (A2 ++ (B2 ++ Q)) := by simp
       have r2 : A2.length = 0 ∨ B1.length = 0 → P ++ (A1 ++ A2) ++ (B1 ++ B2) ++ Q = P ++ A1 ++ B1 ++ (A2 ++ (B2 ++ Q)) := fun h => by
        rcases h with h | h
        ·rw [List.length_eq_zero_iff.1 h]; simp
        ·rw [List.length_eq_zero_iff.1 h]; simp
       have r3 : A1.length = 0 ∨ B1.length = 0 → P ++ A1 ++ B1 ++ (A2 ++ (B2 ++ Q)) = (P ++ Srt.mrg (ltc c) A1 B1) ++ A2 ++ B2 ++ Q := fun h => by
        rcases h with h | h
        ·rw [List.length_eq_zero_iff.1 h, Srt.mrg_nil_srt hw t3]; simp
        ·rw [List.length_eq_zero_iff.1 h, Srt.mrg_nil]; simp
       have r4 : P ++ Srt.mrg (ltc c) A1 B1 ++ (A2 ++ (B2 ++ Q)) = (P ++ Srt.mrg (ltc c) A1 B1) ++ A2 ++ B2 ++ Q := by simp
       have r5 : A2.length = 0 ∨ B2.length = 0 → (P ++ Srt.mrg (ltc c) A1 B1) ++ A2 ++ B2 ++ Q = (P ++ Srt.mrg (ltc c) A1 B1) ++ Srt.mrg (ltc c) A2 B2 ++ Q := fun h => by
        rcases h with h | h
        ·rw [List.length_eq_zero_iff.1 h, Srt.mrg_nil_srt hw t4]; simp
        ·rw [List.length_eq_zero_iff.1 h, Srt.mrg_nil]; simp
       have r6 : P ++ Srt.mrg (ltc c) (A1 ++ A2) (B1 ++ B2) ++ Q = (P ++ Srt.mrg (ltc c) A1 B1) ++ Srt.mrg (ltc c) A2 B2 ++ Q := by rw [hres]; simp
       obtain ⟨⟨l0, l1, l2, l3, l4, l5⟩, ⟨L1, L2, L3, L4, L5, L6, L7⟩, hn1, hn2, ⟨eA, eB, eC, eD, eE, eF⟩, h7⟩ := symL (ltc c) ha hA1 hB1 huM hm' hb' hN hM hn h1 h2 hX hY
       clear hxa hya hres i4 i5
       rcases h7 with ⟨z1, z2, z3, z4⟩ | ⟨z1, z2, z3, z4⟩ | ⟨z1, z2, z3, z4⟩ | ⟨z1, z2, z3, z4⟩ | ⟨z1, z2, z3, z4⟩ | ⟨z1, z2, z3, z4⟩ | ⟨z1, z2, z3, z4⟩
       ·have fA := Ka A2.length eA z2
        have fB := Ka B1.length eB z3
        have fC := Ka A1.length eC z1
        have fD := Ka B1.length eD z3
        have fE := Ka A2.length eE z2
        have fF := Ka B2.length eF z4
        simp only [go_sem, hend, fA, fB, fC, fD, fE, fF]
        rw [r0]
        apply K8 (C1 (P ++ A1) A2 B1 (B2 ++ Q) f L1 L2 L3 z2 z3)
        simp only [go_sem, fC, fD, l0]
        rw [r1]
        apply K8 (ih P A1 B1 (A2 ++ (B2 ++ Q)) hn1 ha L1 L4 z1 z3 t1 t3)
        simp only [go_sem, fE, fF, l4]
        rw [r4]
        apply K8 (ih (P ++ Srt.mrg (ltc c) A1 B1) A2 B2 Q hn2 L5 L6 L7 z2 z4 t2 t4)
        simp only [go_sem]
        rw [r6]
       ·have fA := Ka A2.length eA z2
        have fB := Ka B1.length eB z3
        have fC := K18 A1.length eC z1
        have fD := Ka B1.length eD z3
        have fE := Ka A2.length eE z2
        have fF := Ka B2.length eF z4
        simp only [go_sem, hend, fA, fB, fC, fD, fE, fF]
        rw [r0]
        apply K8 (C1 (P ++ A1) A2 B1 (B2 ++ Q) f L1 L2 L3 z2 z3)
        simp only [go_sem, fC, fE, fF, l0]
        rw [r1]
        rw [r3 (.inl z1)]
        apply K8 (ih (P ++ Srt.mrg (ltc c) A1 B1) A2 B2 Q hn2 L5 L6 L7 z2 z4 t2 t4)
        simp only [go_sem]
        rw [r6]
       ·have fA := K18 A2.length eA z2
        have fB := Ka B1.length eB z3
        have fC := Ka A1.length eC z1
        have fD := Ka B1.length eD z3
        have fE := K18 A2.length eE z2
        have fF := Ka B2.length eF z4
        simp only [go_sem, hend, fA, fB, fC, fD, fE, fF]
        rw [r2 (.inl z2)]
        apply K8 (ih P A1 B1 (A2 ++ (B2 ++ Q)) hn1 ha L1 L4 z1 z3 t1 t3)
        simp only [go_sem, fE]
        rw [r4]
        rw [r5 (.inl z2)]
        rw [r6]
       ·have fA := Ka A2.length eA z2
        have fB := K18 B1.length eB z3
        have fC := Ka A1.length eC z1
        have fD := K18 B1.length eD z3
        have fE := Ka A2.length eE z2
        have fF := Ka B2.length eF z4
        simp only [go_sem, hend, fA, fB, fC, fD, fE, fF]
        rw [r2 (.inr z3)]
        rw [r3 (.inr z3)]
        apply K8 (ih (P ++ Srt.mrg (ltc c) A1 B1) A2 B2 Q hn2 L5 L6 L7 z2 z4 t2 t4)
        simp only [go_sem]
        rw [r6]
       ·have fA := Ka A2.length eA z2
        have fB := Ka B1.length eB z3
        have fC := Ka A1.length eC z1
        have fD := Ka B1.length eD z3
        have fE := Ka A2.length eE z2
        have fF := K18 B2.length eF z4
        simp only [go_sem, hend, fA, fB, fC, fD, fE, fF]
        rw [r0]
        apply K8 (C1 (P ++ A1) A2 B1 (B2 ++ Q) f L1 L2 L3 z2 z3)
        simp only [go_sem, fC, fD, l0]
        rw [r1]
        apply K8 (ih P A1 B1 (A2 ++ (B2 ++ Q)) hn1 ha L1 L4 z1 z3 t1 t3)
        simp only [go_sem, fE, fF]
        rw [r4]
        rw [r5 (.inr z4)]
        rw [r6]
       ·have fA := Ka A2.length eA z2
        have fB := Ka B1.length eB z3
        have fC := K18 A1.length eC z1
        have fD := Ka B1.length eD z3
        have fE := Ka A2.length eE z2
        have fF := K18 B2.length eF z4
        simp only [go_sem, hend, fA, fB, fC, fD, fE, fF]
        rw [r0]
        apply K8 (C1 (P ++ A1) A2 B1 (B2 ++ Q) f L1 L2 L3 z2 z3)
        simp only [go_sem, fC, fE, fF]
        rw [r1]
        rw [r3 (.inl z1)]
        rw [r5 (.inr z4)]
        rw [r6]
       ·have fA := K18 A2.length eA z2
        have fB := K18 B1.length eB z3
        have fC := Ka A1.length eC z1
        have fD := K18 B1.length eD z3
        have fE := K18 A2.length eE z2
        have fF := Ka B2.length eF z4
        simp only [go_sem, hend, fA, fB, fC, fD, fE, fF]
        rw [r2 (.inl z2)]
        rw [r3 (.inr z3)]
        rw [r5 (.inl z2)]
        rw [r6]
    ·simp only [go_sem, wS1 (a := a + M + m) (by omega) (by omega)]
     obtain ⟨u0, hu0⟩ : ∃ u, u = 0 := ⟨_, rfl⟩
     obtain ⟨v0, hv0⟩ : ∃ v, v = X.length := ⟨_, rfl⟩
     have q1 : u0 ≤ v0 := by omega
     have q2 : v0 ≤ M := by omega
     have q3 : v0 ≤ X.length := by omega
     have q4 : M ≤ u0 + Y.length := by omega
     have q5 : u0 = 0 ∨ Y.length ≤ M - u0 := by omega
     have q6 : v0 = M ∨ v0 = X.length := by omega
     refine K1c (ι := Nat × Nat) (fun s => [(20, vI ((a + s.1 : Nat) : Int)), (21, vI ((a + s.2 : Nat) : Int))]) (fun s => []) (fun s => SymI (ltc c) X Y M u0 v0 s.1 s.2) (fun s => s.2 - s.1) (u0, v0) ?_
     simp only [go_sem]
     refine ⟨?_, ⟨by omega, q1, by omega, q5.imp_right .inl, q6.imp_right .inl⟩, ?_⟩
     ·simp only [go_sem]
      first | exact ⟨by omega, by omega⟩ | omega
     ·rintro ⟨u, v⟩ hI
      obtain ⟨i1, i2, i3, i4, i5⟩ := hI
      simp only at i1 i2 i3 i4 i5
      simp only [go_sem, hN, shr1, K4v (i := a + u) (j := a + v) (by omega)]
      refine ⟨fun hlt => ?_, fun hge => ?_⟩
      ·have hwx : (a + u + (a + v)) / 2 = a + (u + v) / 2 := by omega
       have w1 : u ≤ (u + v) / 2 := by omega
       have w2 : (u + v) / 2 < v := by omega
       rw [hwx]
       generalize (u + v) / 2 = w at w1 w2
       have hpc : IntKind.i64.wrap (((a + M + m - 1 : Nat) : Int) - ((a + w : Nat) : Int)) = ((m + (M - 1 - w) : Nat) : Int) := by
        rw [wI (by omega) (by omega)]; omega
       obtain ⟨x, hx⟩ := Ki (show w < X.length by omega)
       obtain ⟨y, hy⟩ := Ki (show M - 1 - w < Y.length by omega)
       have hxw := (hxa w (by omega)).trans hx
       have hyw := (hya (M - 1 - w) (by omega)).trans hy
       have k1 : (0 : Int) ≤ ((a + w : Nat) : Int) := by omega
       have k2 : ((a + w : Nat) : Int) < (N : Int) := by omega
       have k3 : (0 : Int) ≤ ((m + (M - 1 - w) : Nat) : Int) := by omega
       have k4 : ((m + (M - 1 - w) : Nat) : Int) < (N : Int) := by omega
       simp only [go_sem, wK (k := a + w) (by omega), hpc, k1, k2, k3, k4, K7 hxw, K7 hyw]
       apply K0 (hc y x)
       simp only [go_sem, wN1 (a := a + w) (by omega)]
       intro _
       refine ⟨fun hn => ⟨(w + 1, v), ⟨rfl, rfl⟩, ⟨by omega, by omega, i3, .inr (.inr ⟨y, x, by rw [show M - (w + 1) = M - 1 - w by omega]; exact hy, hx, by simpa [ltc] using hn⟩), i5⟩, by show v - (w + 1) < v - u; omega⟩, fun hn => ⟨(u, w), ⟨rfl, rfl⟩, ⟨i1, w1, by omega, i4, .inr (.inr ⟨y, x, hy, hx, by simpa [ltc] using hn⟩)⟩, by show w - u < v - u; omega⟩⟩
      ·obtain rfl : u = v := by omega
       obtain ⟨A1, A2, B1, B2, rfl, rfl, hA1, hB1, huM, hres, t1, t2, t3, t4⟩ := SymI.fin hw ⟨i1, i2, i3, i4, i5⟩ sX sY q2 q3 q4
       have hend : IntKind.i64.wrap (((a + M + m : Nat) : Int) - ((a + u : Nat) : Int)) = ((m + (M - u) : Nat) : Int) := by
        rw [wI (by omega) (by omega)]; omega
       have r0 : P ++ (A1 ++ A2) ++ (B1 ++ B2) ++ Q = (P ++ A1) ++ A2 ++ B1 ++ (B2 ++ Q) := by simp
       have r1 : (P ++ A1) ++ B1 ++ A2 ++ (B2 ++ Q) = P ++ A1 ++ B1 ++ (A2 ++ (B2 ++ Q)) := by simp
       have r2 : A2.length = 0 ∨ B1.length = 0 → P ++ (A1 ++ A2) ++ (B1 ++ B2) ++ Q = P ++ A1 ++ B1 ++ (A2 ++ (B2 ++ Q)) := fun h => by
        rcases h with h | h
        ·rw [List.length_eq_zero_iff.1 h]; simp
        ·rw [List.length_eq_zero_iff.1 h]; simp
       have r3 : A1.length = 0 ∨ B1.length = 0 → P ++ A1 ++ B1 ++ (A2 ++ (B2 ++ Q)) = (P ++ Srt.mrg (ltc c) A1 B1) ++ A2 ++ B2 ++ Q := fun h => by
        rcases h with h | h
        ·rw [List.length_eq_zero_iff.1 h, Srt.mrg_nil_srt hw t3]; simp
        ·rw [List.length_eq_zero_iff.1 h, Srt.mrg_nil]; simp
       have r4 : P ++ Srt.mrg (ltc c) A1 B1 ++ (A2 ++ (B2 ++ Q)) = (P ++ Srt.mrg (ltc c) A1 B1) ++ A2 ++ B2 ++ Q := by simp
       have r5 : A2.length = 0 ∨ B2.length = 0 → (P ++ Srt.mrg (ltc c) A1 B1) ++ A2 ++ B2 ++ Q = (P ++ Srt.mrg (ltc c) A1 B1) ++ Srt.mrg (ltc c) A2 B2 ++ Q := fun h => by
        rcases h with h | h
        ·rw [List.length_eq_zero_iff.1 h, Srt.mrg_nil_srt hw t4]; simp
        ·rw [List.length_eq_zero_iff.1 h, Srt.mrg_nil]; simp
       have r6 : P ++ Srt.mrg (ltc c) (A1 ++ A2) (B1 ++ B2) ++ Q = (P ++ Srt.mrg (ltc c) A1 B1) ++ Srt.mrg (ltc c) A2 B2 ++ Q := by rw [hres]; simp
       obtain ⟨⟨l0, l1, l2, l3, l4, l5⟩, ⟨L1, L2, L3, L4, L5, L6, L7⟩, hn1, hn2, ⟨eA, eB, eC, eD, eE, eF⟩, h7⟩ := symL (ltc c) ha hA1 hB1 huM hm' hb' hN hM hn h1 h2 hX hY
       clear hxa hya hres i4 i5
       rcases h7 with ⟨z1, z2, z3, z4⟩ | ⟨z1, z2, z3, z4⟩ | ⟨z1, z2, z3, z4⟩ | ⟨z1, z2, z3, z4⟩ | ⟨z1, z2, z3, z4⟩ | ⟨z1, z2, z3, z4⟩ | ⟨z1, z2, z3, z4⟩
       ·have fA := Ka A2.length eA z2
        have fB := Ka B1.length eB z3
        have fC := Ka A1.length eC z1
        have fD := Ka B1.length eD z3
        have fE := Ka A2.length eE z2
        have fF := Ka B2.length eF z4
        simp only [go_sem, hend, fA, fB, fC, fD, fE, fF]
        rw [r0]
        apply K8 (C1 (P ++ A1) A2 B1 (B2 ++ Q) f L1 L2 L3 z2 z3)
        simp only [go_sem, fC, fD, l0]
        rw [r1]
        apply K8 (ih P A1 B1 (A2 ++ (B2 ++ Q)) hn1 ha L1 L4 z1 z3 t1 t3)
        simp only [go_sem, fE, fF, l4]
        rw [r4]
        apply K8 (ih (P ++ Srt.mrg (ltc c) A1 B1) A2 B2 Q hn2 L5 L6 L7 z2 z4 t2 t4)
        simp only [go_sem]
        rw [r6]
       ·have fA := Ka A2.length eA z2
        have fB := Ka B1.length eB z3
        have fC := K18 A1.length eC z1
        have fD := Ka B1.length eD z3
        have fE := Ka A2.length eE z2
        have fF := Ka B2.length eF z4
        simp only [go_sem, hend, fA, fB, fC, fD, fE, fF]
        rw [r0]
        apply K8 (C1 (P ++ A1) A2 B1 (B2 ++ Q) f L1 L2 L3 z2 z3)
        simp only [go_sem, fC, fE, fF, l0]
        rw [r1]
        rw [r3 (.inl z1)]
        apply K8 (ih (P ++ Srt.mrg (ltc c) A1 B1) A2 B2 Q hn2 L5 L6 L7 z2 z4 t2 t4)
        simp only [go_sem]
        rw [r6]
       ·have fA := K18 A2.length eA z2
        have fB := Ka B1.length eB z3
        have fC := Ka A1.length eC z1
        have fD := Ka B1.length eD z3
        have fE := K18 A2.length eE z2
        have fF := Ka B2.length eF z4
        simp only [go_sem, hend, fA, fB, fC, fD, fE, fF]
        rw [r2 (.inl z2)]
        apply K8 (ih P A1 B1 (A2 ++ (B2 ++ Q)) hn1 ha L1 L4 z1 z3 t1 t3)
        simp only [go_sem, fE]
        rw [r4]
        rw [r5 (.inl z2)]
        rw [r6]
       ·have fA := Ka A2.length eA z2
        have fB := K18 B1.length eB z3
        have fC := Ka A1.length eC z1
        have fD := K18 B1.length eD z3
        have fE := Ka A2.length eE z2
        have fF := Ka B2.length eF z4
        simp only [go_sem, hend, fA, fB, fC, fD, fE, fF]
        rw [r2 (.inr z3)]
        rw [r3 (.inr z3)]
        apply K8 (ih (P ++ Srt.mrg (ltc c) A1 B1) A2 B2 Q hn2 L5 L6 L7 z2 z4 t2 t4)
        simp only [go_sem]
        rw [r6]
       ·have fA := Ka A2.length eA z2
        have fB := Ka B1.length eB z3
        have fC := Ka A1.length eC z1
        have fD := Ka B1.length eD z3
        have fE := Ka A2.length eE z2
        have fF := K18 B2.length eF z4
        simp only [go_sem, hend, fA, fB, fC, fD, fE, fF]
        rw [r0]
        apply K8 (C1 (P ++ A1) A2 B1 (B2 ++ Q) f L1 L2 L3 z2 z3)
        simp only [go_sem, fC, fD, l0]
        rw [r1]
        apply K8 (ih P A1 B1 (A2 ++ (B2 ++ Q)) hn1 ha L1 L4 z1 z3 t1 t3)
        simp only [go_sem, fE, fF]
        rw [r4]
        rw [r5 (.inr z4)]
        rw [r6]
       ·have fA := Ka A2.length eA z2
        have fB := Ka B1.length eB z3
        have fC := K18 A1.length eC z1
        have fD := Ka B1.length eD z3
        have fE := Ka A2.length eE z2
        have fF := K18 B2.length eF z4
        simp only [go_sem, hend, fA, fB, fC, fD, fE, fF]
        rw [r0]
        apply K8 (C1 (P ++ A1) A2 B1 (B2 ++ Q) f L1 L2 L3 z2 z3)
        simp only [go_sem, fC, fE, fF]
        rw [r1]
        rw [r3 (.inl z1)]
        rw [r5 (.inr z4)]
        rw [r6]
       ·have fA := K18 A2.length eA z2
        have fB := K18 B1.length eB z3
        have fC := Ka A1.length eC z1
        have fD := K18 B1.length eD z3
        have fE := K18 A2.length eE z2
        have fF := Ka B2.length eF z4
        simp only [go_sem, hend, fA, fB, fC, fD, fE, fF]
        rw [r2 (.inl z2)]
        rw [r3 (.inr z3)]
        rw [r5 (.inl z2)]
        rw [r6]
end Go.Proofs.YtgkeplbnnjogiaaGreatR
namespace Go.Proofs.YtgkeplbnnjogiaaGreatR
open Go Go.RowKit Go.Proofs
open Nat (reduceEqDiff reduceLT reduceLeDiff reduceAdd reduceMul)
open List (reduceReplicate)
namespace Srt
variable {α : Type} {lt : α → α → Bool}
def blks (lt : α → α → Bool) (s : Nat) : Nat → List α → List α
 | 0, l => l
 | k + 1, l => isort lt (l.take s) ++ blks lt s k (l.drop s)
theorem len_blks {s : Nat} : ∀ {k : Nat} {l : List α}, (blks lt s k l).length = l.length
 | 0, l => rfl
 | k + 1, l => by
  simp only [blks, List.length_append, len_isort, len_blks, List.length_take, List.length_drop]; omega
theorem blks_snoc {s : Nat} : ∀ {k : Nat} {l : List α}, (k + 1) * s ≤ l.length → ∃ A, A.length = k * s ∧ blks lt s k l = A ++ ((l.drop (k * s)).take s ++ l.drop ((k + 1) * s)) ∧ blks lt s (k + 1) l = A ++ (isort lt ((l.drop (k * s)).take s) ++ l.drop ((k + 1) * s))
 | 0, l, h => ⟨[], by simp, by simp [blks], by simp [blks]⟩
 | k + 1, l, h => by
  have h' : (k + 1) * s ≤ (l.drop s).length := by
   rw [Nat.succ_mul] at h
   simp only [List.length_drop]; omega
  obtain ⟨A, hA, e1, e2⟩ := blks_snoc (k := k) (l := l.drop s) h'
  have d1 : s + k * s = (k + 1) * s := by rw [Nat.succ_mul]; omega
  have d2 : s + (k + 1) * s = (k + 1 + 1) * s := by rw [Nat.succ_mul (k + 1)]; omega
  have hs : s ≤ l.length := by rw [Nat.succ_mul] at h; omega
  refine ⟨isort lt (l.take s) ++ A, ?_, ?_, ?_⟩
  ·rw [List.length_append, len_isort, List.length_take, Nat.min_eq_left hs, hA, d1]
  ·rw [blks, e1, List.drop_drop, List.drop_drop, d1, d2, List.append_assoc]
  ·rw [blks, e2, List.drop_drop, List.drop_drop, d1, d2, List.append_assoc]
theorem blks_last {s : Nat} : ∀ {k : Nat} {l : List α}, k * s ≤ l.length → l.length < (k + 1) * s → ∃ A, A.length = k * s ∧ blks lt s k l = A ++ l.drop (k * s) ∧ blks lt s (k + 1) l = A ++ isort lt (l.drop (k * s))
 | 0, l, _, h => by
  have h' : l.length ≤ s := by omega
  exact ⟨[], by simp, by simp [blks], by simp [blks, List.take_of_length_le h', List.drop_of_length_le h']⟩
 | k + 1, l, h0, h => by
  have d1 : s + k * s = (k + 1) * s := by rw [Nat.succ_mul]; omega
  have d2 : s + (k + 1) * s = (k + 1 + 1) * s := by rw [Nat.succ_mul (k + 1)]; omega
  have h1 : k * s + s ≤ l.length := by rw [← Nat.succ_mul]; exact h0
  have h2 : l.length < k * s + s + s := by rw [← Nat.succ_mul, ← Nat.succ_mul]; exact h
  obtain ⟨A, hA, e1, e2⟩ := blks_last (k := k) (l := l.drop s) (Nat.le_trans (Nat.le_sub_of_add_le h1) (by rw [List.length_drop]; exact Nat.le_refl _)) (by rw [List.length_drop, Nat.succ_mul]; exact Nat.sub_lt_right_of_lt_add (Nat.le_trans (Nat.le_add_left _ _) h1) h2)
  have hs : s ≤ l.length := Nat.le_trans (Nat.le_add_left _ _) h1
  refine ⟨isort lt (l.take s) ++ A, ?_, ?_, ?_⟩
  ·rw [List.length_append, len_isort, List.length_take, Nat.min_eq_left hs, hA, d1]
  ·rw [blks, e1, List.drop_drop, d1, List.append_assoc]
  ·rw [blks, e2, List.drop_drop, d1, List.append_assoc]
theorem blk_le {s : Nat} {l : List α} (h : l.length ≤ s) : blk lt s l = isort lt l := by
 rw [blk, dif_pos (.inr h)]
theorem K40 {s : Nat} {l : List α} : blk lt s l = isort lt (l.take s) ++ blk lt s (l.drop s) := by
 by_cases h : s = 0 ∨ l.length ≤ s
 ·rcases h with rfl | h
  ·simp [isort, mrg]
  ·rw [blk_le h, List.take_of_length_le h, List.drop_of_length_le h, blk_le (by simp)]
   simp [isort, mrg]
 ·rw [blk, dif_neg h]
theorem len_blk {s : Nat} : ∀ {n : Nat} {l : List α}, l.length ≤ n → (blk lt s l).length = l.length
 | 0, l, h => by rw [blk_le (by omega), len_isort]
 | n + 1, l, h => by
  by_cases h2 : s = 0 ∨ l.length ≤ s
  ·rw [blk, dif_pos h2, len_isort]
  ·rw [K40, List.length_append, len_isort, len_blk (n := n) (by simp only [List.length_drop]; omega), List.length_take, List.length_drop]
   omega
theorem blks_blk {s : Nat} : ∀ {k : Nat} {l : List α}, k * s ≤ l.length → l.length < (k + 1) * s → blks lt s (k + 1) l = blk lt s l
 | 0, l, _, h => by
  have h' : l.length ≤ s := by omega
  rw [blk_le h']
  simp [blks, List.take_of_length_le h', List.drop_of_length_le h']
 | k + 1, l, h0, h => by
  rw [Nat.succ_mul] at h0 h
  rw [blks, K40, blks_blk (k := k) (l := l.drop s) (by rw [List.length_drop]; omega) (by rw [List.length_drop]; omega)]
def mix (lt : α → α → Bool) (s : Nat) : Nat → List α → List α
 | 0, l => blk lt s l
 | k + 1, l => isort lt (l.take (2 * s)) ++ mix lt s k (l.drop (2 * s))
theorem len_mix {s : Nat} : ∀ {k : Nat} {l : List α}, (mix lt s k l).length = l.length
 | 0, l => len_blk (Nat.le_refl _)
 | k + 1, l => by
  rw [mix, List.length_append, len_isort, len_mix, List.length_take, List.length_drop]; omega
theorem mix_step (hw : Swo lt) {s : Nat} : ∀ {k : Nat} {l : List α}, k * (2 * s) + 2 * s ≤ l.length → ∃ P X Y Q, P.length = k * (2 * s) ∧ X.length = s ∧ Y.length = s ∧ srt lt X ∧ srt lt Y ∧ mix lt s k l = P ++ X ++ Y ++ Q ∧ mix lt s (k + 1) l = P ++ mrg lt X Y ++ Q
 | 0, l, h => by
  refine ⟨[], isort lt (l.take s), isort lt ((l.drop s).take s), blk lt s (l.drop (2 * s)), by simp, ?_, ?_, srt_isort hw _, srt_isort hw _, ?_, ?_⟩
  ·rw [len_isort, List.length_take]; omega
  ·rw [len_isort, List.length_take, List.length_drop]; omega
  ·rw [mix, K40, K40 (l := l.drop s), List.drop_drop, show s + s = 2 * s by omega]
   simp
  ·rw [← K5n hw, mix, mix, List.nil_append, ← List.take_add, show s + s = 2 * s by omega]
 | k + 1, l, h => by
  have e : (k + 1) * (2 * s) = k * (2 * s) + 2 * s := Nat.succ_mul ..
  rw [e] at h
  obtain ⟨P, X, Y, Q, h1, h2, h3, h4, h5, h6, h7⟩ := mix_step hw (s := s) (k := k) (l := l.drop (2 * s)) (by rw [List.length_drop]; omega)
  refine ⟨isort lt (l.take (2 * s)) ++ P, X, Y, Q, ?_, h2, h3, h4, h5, ?_, ?_⟩
  ·rw [List.length_append, len_isort, h1, List.length_take, e]; omega
  ·rw [mix, h6]; simp
  ·rw [mix, h7]; simp
theorem mix_end (hw : Swo lt) {s : Nat} : ∀ {k : Nat} {l : List α}, k * (2 * s) ≤ l.length → l.length < k * (2 * s) + 2 * s →
  (k * (2 * s) + s < l.length → ∃ P X Y, P.length = k * (2 * s) ∧ X.length = s ∧ k * (2 * s) + s + Y.length = l.length ∧ srt lt X ∧ srt lt Y ∧ mix lt s k l = P ++ X ++ Y ∧ blk lt (2 * s) l = P ++ mrg lt X Y) ∧
  (l.length ≤ k * (2 * s) + s → mix lt s k l = blk lt (2 * s) l)
 | 0, l, h0, h => by
  refine ⟨fun h1 => ⟨[], isort lt (l.take s), isort lt (l.drop s), by simp, ?_, ?_, srt_isort hw _, srt_isort hw _, ?_, ?_⟩, fun h1 => ?_⟩
  ·rw [len_isort, List.length_take]; omega
  ·rw [len_isort, List.length_drop]; omega
  ·rw [mix, K40, blk_le (l := l.drop s) (by rw [List.length_drop]; omega), List.nil_append]
  ·rw [← K5n hw, List.take_append_drop, blk_le (by omega), List.nil_append]
  ·rw [mix, blk_le (by omega), blk_le (by omega)]
 | k + 1, l, h0, h => by
  have e : (k + 1) * (2 * s) = k * (2 * s) + 2 * s := Nat.succ_mul ..
  rw [e] at h h0
  obtain ⟨i1, i2⟩ := mix_end hw (s := s) (k := k) (l := l.drop (2 * s)) (by rw [List.length_drop]; omega) (by rw [List.length_drop]; omega)
  rw [List.length_drop] at i1 i2
  rw [e]
  refine ⟨fun h1 => ?_, fun h1 => ?_⟩
  ·obtain ⟨P, X, Y, h1, h2, h3, h4, h5, h6, h7⟩ := i1 (by omega)
   refine ⟨isort lt (l.take (2 * s)) ++ P, X, Y, ?_, h2, by omega, h4, h5, ?_, ?_⟩
   ·rw [List.length_append, len_isort, h1, List.length_take]; omega
   ·rw [mix, h6]; simp
   ·rw [K40, h7]; simp
  ·rw [mix, i2 (by omega), ← K40]
end Srt
def Mr : MC :=
(Zs [.mv 6 (ci 20)] [0,1,2,6] (Zs [mS 10 6, .mv 7 (ci 0), mS 8 10] [0,1,2,6,7,8] (.seq (.block 0 (.loop ([0,1,2,6,7,8], []) (.seq (Zs [mS 11 8, mS 12 1, bS 13 .leq 11 12] [0,1,2,6,7,8,13] (cX 13 0))
(.block 1 (Zs [mS 14 0, mS 15 7, mS 16 8, mS 17 2, .callI 18 [] (.f N3) [.s 14, .s 15, .s 16, .s 17] [0] []] [0,1,2,6,8] (Zs [mS 19 8, mS 7 19] [0,1,2,6,7,8] (pr [mS 20 8, mS 21 6, bS 22 .add 20 21, mS 8 22] [0,1,2,6,7,8])))))))
(Zs [mS 23 0, mS 24 7, mS 25 1, mS 26 2, .callI 27 [] (.f N3) [.s 23, .s 24, .s 25, .s 26] [0] []] [0,1,2,6] (.block 2 (.loop ([0,1,2,6], []) (.seq (Zs [mS 28 6, mS 29 1, bS 30 .lss 28 29] [0,1,2,6,30] (cX 30 2))
(.block 3 (Zs [mS 31 6, .bin 32 false .mul (ci 2) (.s 31), .mv 7 (ci 0), mS 8 32] [0,1,2,6,7,8] (.seq (.block 4 (.loop ([0,1,2,6,7,8], []) (.seq (Zs [mS 33 8, mS 34 1, bS 35 .leq 33 34] [0,1,2,6,7,8,35] (cX 35 4))
(.block 5 (Zs [mS 36 0, mS 37 7, mS 38 7, mS 39 6, bS 40 .add 38 39, mS 41 8, mS 42 2, .callI 43 [] (.f N0) [.s 36, .s 37, .s 40, .s 41, .s 42] [0] []] [0,1,2,6,8] (Zs [mS 44 8, mS 7 44] [0,1,2,6,7,8] (pr [mS 45 8, mS 46 6, .bin 47 false .mul (ci 2) (.s 46), bS 48 .add 45 47, mS 8 48] [0,1,2,6,7,8])))))))
(.seq (Zs [mS 49 7, mS 50 6, bS 51 .add 49 50, mS 9 51] [0,1,2,6,7,9] (Zs [mS 52 9, mS 53 1, bS 54 .lss 52 53] [0,1,2,6,7,9,54] (.cond (.s 54) (pr [mS 55 0, mS 56 7, mS 57 9, mS 58 1, mS 59 2, .callI 60 [] (.f N0) [.s 55, .s 56, .s 57, .s 58, .s 59] [0] []] [0,1,2,6]) .skip)))
(pr [mS 61 6, bC 62 .mul 61 2, mS 6 62] [0,1,2,6]))))))))))))
set_option maxHeartbeats 4000000 in
theorem C6x (X : List GFound) (f : FuncId) (c : GFound → GFound → Int) (hc : ∀ x y, Ctr Tryz.prog f [aS x.enc, aS y.enc] [rI (c x y)]) (hw : Srt.Swo (ltc c)) : CtrI Tryz.prog Nn [oL 6 (X.map GFound.enc), iI X.length, fI f] [some (6, (Srt.isort (ltc c) X).map GFound.enc)] [] := by
 refine K11 (M := Mr) (m := 0) (n := 63) (res := []) hmix Tryz.func383 rfl (by kernel_rfl) rfl (by kernel_rfl) (by kernel_rfl) (Nat.le_of_ble_eq_true rfl) rfl rfl ?_; unfold Mr
 intro hbd
 have hl := Kw hbd
 clear hbd
 simp only [roomB] at hl
 simp only [go_sem]
 refine K1c (fun k : Nat => [(7, vI ((k * 20 : Nat) : Int)), (8, vI (((k + 1) * 20 : Nat) : Int))]) (fun k => [(0, ⟨1, .row true 6 ((Srt.blks (ltc c) 20 k X).map GFound.enc)⟩)]) (fun k => k * 20 ≤ X.length) (fun k => X.length - k * 20) 0 ?_
 simp only [go_sem]
 refine ⟨?_, by omega, ?_⟩
 ·simp only [go_sem]
  exact ⟨rfl, rfl⟩
 ·intro k hk
  simp only [go_sem, Srt.len_blks]
  refine ⟨fun hlt => ?_, fun hge => ?_⟩
  ·obtain ⟨A, hA, e1, e2⟩ := Srt.blks_snoc (lt := ltc c) (s := 20) (k := k) (l := X) (by omega)
   have g1 := congrArg List.length e1
   have g2 := congrArg List.length e2
   rw [Srt.len_blks] at g1 g2
   rw [← List.append_assoc] at e1 e2 g1 g2
   rw [e1]
   apply K8 (Cy A _ _ f c hc hw hA (by simp [hA]; omega))
   have w1 : IntKind.i64.wrap ((((k + 1) * 20 : Nat) : Int) + 20) = (((k + 1 + 1) * 20 : Nat) : Int) := by
    rw [wI (by omega) (by omega)]; omega
   simp only [go_sem, w1]
   exact ⟨k + 1, ⟨⟨rfl, rfl⟩, by rw [e2]⟩, by omega, by omega⟩
  ·obtain ⟨A, hA, e1, e2⟩ := Srt.blks_last (lt := ltc c) (s := 20) (k := k) (l := X) (by omega) (by omega)
   have g1 := congrArg List.length e1
   have g2 := congrArg List.length e2
   rw [Srt.len_blks] at g1 g2
   have e1' : A ++ X.drop (k * 20) = A ++ X.drop (k * 20) ++ [] := by simp
   rw [e1, e1']
   apply K8 (Cy A _ [] f c hc hw hA (by simp [hA]; omega))
   rw [List.append_nil, ← e2]
   rw [Srt.blks_blk (by omega) (by omega)]
   simp only [go_sem]
   refine K1c (fun s : Nat => [(6, vI (s : Int))]) (fun s => [(0, ⟨1, .row true 6 ((Srt.blk (ltc c) s X).map GFound.enc)⟩)]) (fun s => 0 < s ∧ s ≤ 2 * X.length + 20) (fun s => X.length - s) 20 ?_
   simp only [go_sem]
   refine ⟨?_, ⟨by omega, by omega⟩, ?_⟩
   ·simp only [go_sem]
    first | rfl | exact ⟨rfl, rfl⟩
   ·rintro s ⟨hs0, hs1⟩
    clear e1' e1 e2 g1 g2 hA A hge hk
    have w2 : IntKind.i64.wrap (2 * (s : Int)) = ((2 * s : Nat) : Int) := by rw [wI (by omega) (by omega)]; omega
    have w3 : IntKind.i64.wrap ((s : Int) * 2) = ((2 * s : Nat) : Int) := by rw [wI (by omega) (by omega)]; omega
    simp only [go_sem, w2]
    refine ⟨fun hlt => ?_, fun hge => ?_⟩
    ·refine K1c (fun k : Nat => [(7, vI ((k * (2 * s) : Nat) : Int)), (8, vI ((k * (2 * s) + 2 * s : Nat) : Int))]) (fun k => [(0, ⟨1, .row true 6 ((Srt.mix (ltc c) s k X).map GFound.enc)⟩)]) (fun k => k * (2 * s) ≤ X.length) (fun k => X.length - k * (2 * s)) 0 ?_
     simp only [go_sem]
     refine ⟨?_, by omega, ?_⟩
     ·simp only [go_sem]
      refine ⟨⟨?_, ?_⟩, rfl⟩
      ·rw [Nat.zero_mul]; rfl
      ·rw [Nat.zero_mul, Nat.zero_add]
     ·intro k hk
      simp only [go_sem, Srt.len_mix, w3]
      refine ⟨fun hle => ?_, fun hgt => ?_⟩
      ·obtain ⟨P, A, B, Q, m1, m2, m3, m4, m5, m6, m7⟩ := Srt.mix_step hw (s := s) (k := k) (l := X) (by omega)
       have g1 : (P ++ A ++ B ++ Q).length = X.length := by rw [← m6, Srt.len_mix]
       have g2 : (P ++ Srt.mrg (ltc c) A B ++ Q).length = X.length := by rw [← m7, Srt.len_mix]
       have wa : IntKind.i64.wrap (((k * (2 * s) : Nat) : Int) + (s : Int)) = ((k * (2 * s) + s : Nat) : Int) := wN (by omega)
       have wb : IntKind.i64.wrap (((k * (2 * s) + 2 * s : Nat) : Int) + ((2 * s : Nat) : Int)) = (((k + 1) * (2 * s) + 2 * s : Nat) : Int) := by
        rw [wN (by omega), Nat.succ_mul k (2 * s)]
       rw [m6]
       simp only [go_sem, wa]
       apply K8 (C1f f c hc hw _ P A B Q (Nat.le_refl _) m1 (m := k * (2 * s) + s) (b := k * (2 * s) + 2 * s) (by rw [List.length_append]; omega) (by rw [List.length_append, List.length_append]; omega) (by omega) (by omega) m4 m5)
       simp only [go_sem]
       have hj : (k + 1) * (2 * s) = k * (2 * s) + 2 * s := Nat.succ_mul k (2 * s)
       exact ⟨k + 1, ⟨⟨by rw [hj], by rw [w2, wb]⟩, by rw [m7]⟩, by omega, by omega⟩
      ·obtain ⟨i1, i2⟩ := Srt.mix_end hw (s := s) (k := k) (l := X) hk (by omega)
       have wa : IntKind.i64.wrap (((k * (2 * s) : Nat) : Int) + (s : Int)) = ((k * (2 * s) + s : Nat) : Int) := wN (by omega)
       simp only [go_sem, wa]
       refine ⟨fun hlt2 => ?_, fun hge2 => ?_⟩
       ·obtain ⟨P, A, B, m1, m2, m3, m4, m5, m6, m7⟩ := i1 (by omega)
        have g1 : (P ++ A ++ B ++ []).length = X.length := by rw [List.append_nil, ← m6, Srt.len_mix]
        have g2 : (P ++ Srt.mrg (ltc c) A B ++ []).length = X.length := by rw [List.append_nil, ← m7, Srt.len_blk (Nat.le_refl _)]
        rw [m6, ← List.append_nil (P ++ A ++ B)]
        apply K8 (C1f f c hc hw _ P A B [] (Nat.le_refl _) m1 (m := k * (2 * s) + s) (b := X.length) (by rw [List.length_append]; omega) (by rw [List.length_append, List.length_append]; omega) (by omega) (by omega) m4 m5)
        simp only [go_sem, w3]
        exact ⟨2 * s, ⟨rfl, by rw [m7]⟩, ⟨by omega, by omega⟩, by omega⟩
       ·exact ⟨2 * s, ⟨rfl, by rw [i2 (by omega)]⟩, ⟨by omega, by omega⟩, by omega⟩
    ·rw [Srt.blk_le (by omega)]
end Go.Proofs.YtgkeplbnnjogiaaGreatR
namespace Go.Proofs.YtgkeplbnnjogiaaGreatR
open Go Go.RowKit Go.Proofs
open Nat (reduceEqDiff reduceLT reduceLeDiff reduceAdd reduceMul)
open List (reduceReplicate)
def M9 : MC :=
(pr [mS 4 0, mS 5 0, nS 6 5, mS 7 1, .callI 8 [] (.f Nn) [.s 4, .s 6, .s 7] [0] []] [])
theorem C6b (X : List GFound) (f : FuncId) (c : GFound → GFound → Int) (hc : ∀ x y, Ctr Tryz.prog f [aS x.enc, aS y.enc] [rI (c x y)]) (hw : Srt.Swo (ltc c)) : CtrI Tryz.prog N8 [oL 6 (X.map GFound.enc), fI f] [some (6, (Srt.isort (ltc c) X).map GFound.enc)] [] := by
 refine K11 (M := M9) (m := 0) (n := 9) (res := []) hmix Tryz.func298 rfl (by kernel_rfl) rfl (by kernel_rfl) (by kernel_rfl) (Nat.le_of_ble_eq_true rfl) rfl rfl ?_; unfold M9
 intro hbd
 have hl := Kw hbd
 clear hbd
 simp only [roomB] at hl
 simp only [go_sem]
 apply K8 (C6x X f c hc hw)
 simp only [go_sem]
 try intros
 try trivial
end Go.Proofs.YtgkeplbnnjogiaaGreatR
namespace Go.Proofs.YtgkeplbnnjogiaaGreatR
open Go Go.RowKit Go.Proofs
open Nat (reduceEqDiff reduceLT reduceLeDiff reduceAdd reduceMul)
open List (reduceReplicate)
attribute [go_sem] eqB
def Kg (a b : GAddress) : Bool := decide (a.Host < b.Host ∨ a.Host = b.Host ∧ (a.Path < b.Path ∨ a.Path = b.Path ∧ a.Query < b.Query))
def cmpI (x y : Int) : Int := if x < y then -1 else if y < x then 1 else 0
def K4t (a b : GFound) : Int := if Kg a.Address b.Address = true then -1 else if Kg b.Address a.Address = true then 1 else cmpI a.Tick b.Tick
def K1o (a b : GFound) : Bool := decide (a.Address.Host < b.Address.Host ∨ a.Address.Host = b.Address.Host ∧ (a.Address.Path < b.Address.Path ∨ a.Address.Path = b.Address.Path ∧ (a.Address.Query < b.Address.Query ∨ a.Address.Query = b.Address.Query ∧ a.Tick < b.Tick)))
theorem K6f : ltc K4t = K1o := by
 funext a b
 unfold ltc K4t K1o Kg cmpI
 rw [Bool.eq_iff_iff]
 simp only [decide_eq_true_eq]
 split
 ·simp; omega
 ·split
  ·simp; omega
  ·split
   ·simp; omega
   ·split <;> simp <;> omega
theorem fndSwo : Srt.Swo (ltc K4t) := by
 rw [K6f]
 constructor
 ·intro x y h
  simp only [K1o, decide_eq_true_eq, decide_eq_false_iff_not] at *
  omega
 ·intro x y z h
  simp only [K1o, decide_eq_true_eq] at *
  omega
def fnd1 (i : Nat) : Nat → List GCapture → List GFound
 | _, [] => []
 | k, c :: cs => ⟨c.Address, c.Tick, i, k⟩ :: fnd1 i (k + 1) cs
def fnds : Nat → List GContainer → List GFound
 | _, [] => []
 | i, x :: xs => fnd1 i 0 x.Captures ++ fnds (i + 1) xs
theorem K81 {i : Nat} : ∀ {cs : List GCapture} {k m : Nat} {c : GCapture}, cs[k]? = some c → fnd1 i m (cs.take (k + 1)) = fnd1 i m (cs.take k) ++ [⟨c.Address, c.Tick, i, (m + k : Nat)⟩]
 | [], _, _, _, h => by simp at h
 | c :: cs, 0, m, d, h => by
  simp only [List.getElem?_cons_zero, Option.some.injEq] at h
  subst h
  simp [fnd1]
 | c :: cs, k + 1, m, d, h => by
  simp only [List.getElem?_cons_succ] at h
  rw [List.take_succ_cons, List.take_succ_cons, fnd1, fnd1, K81 h, List.cons_append, show m + 1 + k = m + (k + 1) by omega]
theorem K32 : ∀ {l : List GContainer} {k m : Nat} {x : GContainer}, l[k]? = some x → fnds m (l.take (k + 1)) = fnds m (l.take k) ++ fnd1 (m + k) 0 x.Captures
 | [], _, _, _, h => by simp at h
 | c :: cs, 0, m, d, h => by
  simp only [List.getElem?_cons_zero, Option.some.injEq] at h
  subst h
  simp [fnds]
 | c :: cs, k + 1, m, d, h => by
  simp only [List.getElem?_cons_succ] at h
  rw [List.take_succ_cons, List.take_succ_cons, fnds, fnds, K32 h, List.append_assoc, show m + 1 + k = m + (k + 1) by omega]
theorem K56 {i : Nat} : ∀ {cs : List GCapture} {k : Nat}, (fnd1 i k cs).length = cs.length
 | [], _ => rfl
 | c :: cs, k => by rw [fnd1, List.length_cons, K56, List.length_cons]
theorem K8n : ∀ {l : List GContainer} {m : Nat}, (fnds m l).length = (l.map fun x => x.Captures.length).sum
 | [], _ => rfl
 | x :: l, m => by rw [fnds, List.length_append, K56, K8n, List.map_cons, List.sum_cons]
def index (l : List GContainer) : List GFound := Srt.isort K1o (fnds 0 l)
theorem fndSwo' : Srt.Swo K1o := K6f ▸ fndSwo
theorem K9v {m : Nat} : ∀ {l : List GContainer}, (fnds m l).length ≤ (l.map GContainer.size).sum := by
 intro l
 rw [K8n]
 induction l with
 | nil => simp
 | cons x l ih => simp only [List.map_cons, List.sum_cons, GContainer.size]; omega
theorem K66 {l : List GContainer} {i k : Nat} {x : GContainer} (hx : l[i]? = some x) : (fnds 0 (l.take i) ++ fnd1 i 0 (x.Captures.take k)).length ≤ (l.map GContainer.size).sum := by
 have h1 : (fnds 0 (l.take (i + 1))).length ≤ (l.map GContainer.size).sum := Nat.le_trans K9v (K1g l (i + 1))
 rw [K32 hx, List.length_append, K56] at h1
 rw [List.length_append, K56, List.length_take]
 omega
theorem K7y {l : List GContainer} {i k : Nat} {x : GContainer} {c : GCapture} (hc : x.Captures[k]? = some c) : fnds 0 (l.take i) ++ fnd1 i 0 (x.Captures.take (k + 1)) = fnds 0 (l.take i) ++ fnd1 i 0 (x.Captures.take k) ++ [⟨c.Address, c.Tick, i, k⟩] := by
 rw [K81 hc, List.append_assoc, Nat.zero_add]
theorem cutA {α : Type} {f : α → List T} {l : List α} {m : Nat} (h : m ≤ l.length) : (if ((m : Int) - 0).toNat = l.length then l.map f else List.take ((m : Int) - 0).toNat (l.map f)) = (l.take m).map f := by
 rw [show ((m : Int) - 0).toNat = m by omega]
 split
 ·rename_i e; rw [List.take_of_length_le (by omega)]
 ·rw [List.map_take]
theorem cutB {α : Type} {f : α → List T} {l : List α} {m : Nat} (h : m ≤ l.length) : (if m = 0 ∧ ((l.length : Int) - (m : Int)).toNat = l.length then l.map f else List.take ((l.length : Int) - (m : Int)).toNat (List.drop m (l.map f))) = (l.drop m).map f := by
 rw [show ((l.length : Int) - (m : Int)).toNat = l.length - m by omega]
 split
 ·rename_i e; rw [e.1]; rfl
 ·rw [List.take_of_length_le (by simp), List.map_drop]
namespace Srt
variable {α : Type} {lt : α → α → Bool}
theorem ins_at {l : List α} (hw : Swo lt) (hs : srt lt l) {x : α} {n : Nat} (h1 : ∀ z ∈ l.drop n, lt x z = true) (h2 : n = 0 ∨ ∃ y, l[n - 1]? = some y ∧ lt x y = false) : ins lt x l = l.take n ++ [x] ++ l.drop n := by
 have e : ins lt x (l.take n ++ l.drop n) = l.take n ++ x :: l.drop n := by
  refine ins_mid ?_ (fun a ha => h1 a (List.mem_of_mem_head? ha))
  intro a ha
  rcases h2 with rfl | ⟨y, hy, h⟩
  ·simp at ha
  ·obtain ⟨i, hi⟩ := List.mem_iff_getElem?.1 ha
   rw [List.getElem?_take] at hi
   split at hi
   ·rename_i hlt
    by_cases hin : i = n - 1
    ·subst hin
     obtain rfl := Option.some.inj (hi.symm.trans hy)
     exact h
    ·obtain ⟨h1, rfl⟩ := List.getElem?_eq_some_iff.1 hi
     obtain ⟨h2, rfl⟩ := List.getElem?_eq_some_iff.1 hy
     exact hw.ntr h ((List.pairwise_iff_getElem.1 hs) i (n - 1) h1 h2 (by omega))
   ·cases hi
 rw [List.take_append_drop] at e
 rw [e]; simp
theorem drop_step {l : List α} {x : α} {n : Nat} {y : α} (hn : 0 < n) (hy : l[n - 1]? = some y) (h : ∀ z ∈ l.drop n, lt x z = true) (hx : lt x y = true) : ∀ z ∈ l.drop (n - 1), lt x z = true := by
 obtain ⟨h1, rfl⟩ := List.getElem?_eq_some_iff.1 hy
 rw [List.drop_eq_getElem_cons h1, show n - 1 + 1 = n by omega]
 intro z hz
 rcases List.mem_cons.1 hz with rfl | hz
 ·exact hx
 ·exact h z hz
end Srt
def M20 : MC :=
(Zs [.box 2 0 (.s 0), .box 3 1 (.s 1), .mv 4 cF] [2,3] (.seq (.block 0 (Zs [fS 6 2 0, lF 7 1 6, fS 8 3 0, lF 9 1 8, bS 10 .neq 7 9, mS 5 10] [2,3,5] (.cond (.s 5) (Zs [fS 11 2 0, lF 12 1 11, fS 13 3 0, lF 14 1 13, bS 15 .lss 12 14, mS 4 15] [4] .ret) (Zs [fS 17 2 1, lF 18 1 17, fS 19 3 1, lF 20 1 19, bS 21 .neq 18 20, mS 16 21] [2,3,16] (.cond (.s 16) (Zs [fS 22 2 1, lF 23 1 22, fS 24 3 1, lF 25 1 24, bS 26 .lss 23 25, mS 4 26] [4] .ret) .skip)))))
(Zs [fS 27 2 2, lF 28 1 27, fS 29 3 2, lF 30 1 29, bS 31 .lss 28 30, mS 4 31] [4] .ret)))
theorem C7i (a b : GAddress) : Ctr Tryz.prog N14 [aS a.enc, aS b.enc] [rB (Kg a b)] := by
 refine cA M20 2 32 [(.tmp 4, [false])] Tryz.func84 rfl rfl ?_; unfold M20
 intro hb
 clear hb
 simp only [go_sem]
 repeat' first
  | (refine And.intro ?_ ?_ <;> intro h)
 all_goals (unfold Kg; first | (symm; rw [decide_eq_false_iff_not]; omega) | (rw [Bool.eq_iff_iff]; simp only [decide_eq_true_eq]; omega))
def M21 : MC :=
(Zs [.box 2 0 (.s 0), .box 3 1 (.s 1), .mv 4 cF] [2,3] (.seq (Zs [fS 5 2 0, lF 6 1 5, fS 7 3 0, lF 8 1 7, bS 9 .neq 6 8] [2,3,9] (.cond (.s 9) (Zs [fS 10 2 0, lF 11 1 10, fS 12 3 0, lF 13 1 12, bS 14 .lss 11 13, mS 4 14] [4] .ret) .skip))
(.seq (Zs [fS 15 2 1, lF 16 1 15, fS 17 3 1, lF 18 1 17, bS 19 .neq 16 18] [2,3,19] (.cond (.s 19) (Zs [fS 20 2 1, lF 21 1 20, fS 22 3 1, lF 23 1 22, bS 24 .lss 21 23, mS 4 24] [4] .ret) .skip))
(Zs [fS 25 2 2, lF 26 1 25, fS 27 3 2, lF 28 1 27, bS 29 .lss 26 28, mS 4 29] [4] .ret))))
theorem C22 (a b : GAddress) : Ctr Tryz.prog N12 [aS a.enc, aS b.enc] [rB (Kg a b)] := by
 refine cA M21 2 30 [(.tmp 4, [false])] Tryz.func79 rfl rfl ?_; unfold M21
 intro hb
 clear hb
 simp only [go_sem]
 repeat' first
  | (refine And.intro ?_ ?_ <;> intro h)
 all_goals (unfold Kg; first | (symm; rw [decide_eq_false_iff_not]; omega) | (rw [Bool.eq_iff_iff]; simp only [decide_eq_true_eq]; omega))
def M6a : MC :=
(Zs [.box 2 0 (.s 0), .box 3 1 (.s 1), .mv 4 cF] [2,3] (.seq (Zs [fS 5 2 0, lT 6 3 5, fS 7 3 0, lT 8 3 7, .eqA 9 true [.i .i64, .i .i64, .i .i64] (.s 6) (.s 8)] [2,3,9] (.cond (.s 9) (Zs [fS 10 2 0, lT 11 3 10, fS 12 3 0, lT 13 3 12, .call 14 [] (.f N12) [.s 11, .s 13], mS 4 14] [4] .ret) .skip))
(Zs [fS 15 2 3, lF 16 1 15, fS 17 3 3, lF 18 1 17, bS 19 .lss 16 18, mS 4 19] [4] .ret)))
theorem C9s (a b : GFound) : Ctr Tryz.prog N5p [aS a.enc, aS b.enc] [rB (K1o a b)] := by
 refine cA M6a 2 20 [(.tmp 4, [false])] Tryz.func293 rfl rfl ?_; unfold M6a
 intro hb
 clear hb
 simp only [go_sem]
 repeat' first
  | (refine And.intro ?_ ?_ <;> intro h)
  | (apply K0 (C22 _ _); simp only [go_sem])
 all_goals (simp only [K1o, Kg]; rw [Bool.eq_iff_iff]; simp only [decide_eq_true_eq]; simp at h; omega)
def M6u : MC :=
(Zs [.mv 2 cF] [0] (Zs [mS 3 0, mS 4 0, bS 5 .neq 3 4, mS 2 5] [2] .ret))
theorem Caj (x : Int) : Ctr Tryz.prog N1z [aI x] [rB false] := by
 refine cA M6u 0 6 [(.tmp 2, [false])] Tryz.func384 rfl rfl ?_; unfold M6u
 intro hb
 clear hb
 simp only [go_sem]
def M55 : MC :=
(Zs [.mv 4 (ci 0)] [0,1] (Zs [mS 7 0, .call 8 [] (.f N1z) [.s 7], mS 5 8] [0,1,5] (Zs [mS 9 1, .call 10 [] (.f N1z) [.s 9], mS 6 10] [0,1,5,6] (.seq (Zs [mS 11 5] [0,1,6,11] (.cond (.s 11) (.seq (Zs [mS 12 6] [12] (.cond (.s 12) (Zs [.mv 4 (ci 0)] [4] .ret) .skip))
(Zs [.mv 4 (.c (.int .i64 (-1)))] [4] .ret)) .skip))
(.seq (Zs [mS 13 6] [0,1,13] (.cond (.s 13) (Zs [.mv 4 (ci 1)] [4] .ret) .skip))
(.seq (Zs [mS 14 0, mS 15 1, bS 16 .lss 14 15] [0,1,16] (.cond (.s 16) (Zs [.mv 4 (.c (.int .i64 (-1)))] [4] .ret) .skip))
(.seq (Zs [mS 17 0, mS 18 1, bS 19 .gtr 17 18] [19] (.cond (.s 19) (Zs [.mv 4 (ci 1)] [4] .ret) .skip))
(Zs [.mv 4 (ci 0)] [4] .ret))))))))
theorem Cae (x y : Int) : Ctr Tryz.prog N4g [aI x, aI y] [rI (cmpI x y)] := by
 refine cA M55 0 20 [(.tmp 4, [false])] Tryz.func300 rfl rfl ?_; unfold M55
 intro hb
 clear hb
 simp only [go_sem]
 repeat' first
  | (refine And.intro ?_ ?_ <;> intro h)
  | (apply K0 (Caj _); simp only [go_sem])
 all_goals (unfold cmpI; first | rfl | (repeat' split) <;> first | rfl | omega)
def M30 : MC :=
(Zs [.box 2 0 (.s 0), .box 3 1 (.s 1), .mv 4 (ci 0)] [2,3] (.seq (.block 0 (Zs [fS 6 2 0, lT 7 3 6, fS 8 3 0, lT 9 3 8, .call 10 [] (.f N14) [.s 7, .s 9], mS 5 10] [2,3,5] (.cond (.s 5) (Zs [.mv 4 (.c (.int .i64 (-1)))] [4] .ret) (Zs [fS 12 3 0, lT 13 3 12, fS 14 2 0, lT 15 3 14, .call 16 [] (.f N14) [.s 13, .s 15], mS 11 16] [2,3,11] (.cond (.s 11) (Zs [.mv 4 (ci 1)] [4] .ret) .skip)))))
(Zs [fS 17 2 3, lF 18 1 17, fS 19 3 3, lF 20 1 19, .call 21 [] (.f N4g) [.s 18, .s 20], mS 4 21] [4] .ret)))
theorem C85 (a b : GFound) : Ctr Tryz.prog N2f [aS a.enc, aS b.enc] [rI (K4t a b)] := by
 refine cA M30 2 22 [(.tmp 4, [false])] Tryz.func299 rfl rfl ?_; unfold M30
 intro hb
 clear hb
 simp only [go_sem]
 repeat' first
  | (refine And.intro ?_ ?_ <;> intro h)
  | (apply K0 (C7i _ _); simp only [go_sem])
  | (apply K0 (Cae _ _); simp only [go_sem])
 all_goals (unfold K4t; simp_all)
def M56 : MC :=
(Zs [.nilo 2 0 6] [0] (Zs [.nilo 3 0 6] [0,3] (.seq (Zs [mS 8 0, nS 9 8, .mv 10 (ci 0)] [3,8,9,10] (.block 0 (.loop ([3,8,9,10], [1,2,3]) (Zs [bS 11 .lss 10 9] [3,8,9,10,11] (.seq (cX 11 0)
(.seq (.block 1 (Zs [mS 12 10, xS 13 4 8 10, lT 14 4 13, .alloc 5 1 [.emp 4, .emp 5, .emp 9, pz], mS 4 12, sS 4 5 14] [3,4,5,8,9,10] (Zs [fS 15 5 2, lF 16 1 15, nS 17 16, .mv 18 (ci 0)] [3,4,8,9,10,16,17,18] (.block 2 (.loop ([3,4,8,9,10,16,17,18], [1,2,3]) (Zs [bS 19 .lss 18 17] [3,4,8,9,10,16,17,18,19] (.seq (cX 19 2)
(.seq (.block 3 (Zs [mS 20 18, xS 21 9 16 18, lT 22 9 21, .alloc 7 2 [pz, pz, pz, pz, pz, .emp 1, pz, pz, pz], mS 6 20, sS 9 7 22] [3,4,6,7,8,9,10,16,17,18] (pr [mS 23 3, fS 24 7 0, lT 25 3 24, fS 26 7 3, lF 27 1 26, mS 28 4, mS 29 6, .build 30 [pz, pz, pz, pz, pz, pz] [(0, 3, .s 25), (3, 1, .s 27), (4, 1, .s 28), (5, 1, .s 29)], .lit 31 3 6 48 [.s 30], .app 32 0 6 48 (.s 23) (.s 31), mS 3 32] [3,4,8,9,10,16,17,18])))
(pr [bC 33 .add 18 1, mS 18 33] [3,4,8,9,10,16,17,18])))))))))
(pr [bC 34 .add 10 1, mS 10 34] [3,8,9,10])))))))
(Zs [mS 35 3, .callI 36 [] (.f N8) [.s 35, .f N2f] [0] []] [3] (Zs [mS 37 3, mS 2 37] [2] .ret)))))
theorem C96 (l : List GContainer) (hs : l.length + (l.map GContainer.size).sum ≤ 1073741824) : Ctr Tryz.prog N4a [aL 4 (l.map GContainer.enc)] [rL 6 ((index l).map GFound.enc)] := by
 refine cA M56 4 38 [(.tmp 2, [true])] Tryz.func189 rfl rfl ?_; unfold M56
 intro hb
 clear hb
 simp only [go_sem]
 refine K5 l (fun i => [(3, .val false [.ref 0 0 6 0 (fnds 0 (l.take i)).length]), (10, vI i)]) (fun i => [(0, ⟨0, .row true 6 ((fnds 0 (l.take i)).map GFound.enc)⟩)]) (fun _ => True) (by simp only [roomB]; omega) ?_
 simp only [go_sem]
 refine ⟨?_, trivial, ?_, ?_⟩
 ·simp only [go_sem, List.take_zero]
  exact ⟨rfl, rfl⟩
 ·intro i x hx _ h0 h1 hw
  have hx1 := K2e (f := GContainer.size) (K1y hx)
  have hi := Ke hx
  have hxl : x.Captures.length ≤ x.size := by simp only [GContainer.size]; omega
  simp only [go_sem, K7 hx, h0, h1]
  refine K5 x.Captures (fun k => [(3, .val false [.ref 0 0 6 0 (fnds 0 (l.take i) ++ fnd1 i 0 (x.Captures.take k)).length]), (18, vI k)]) (fun k => [(0, ⟨0, .row true 6 ((fnds 0 (l.take i) ++ fnd1 i 0 (x.Captures.take k)).map GFound.enc)⟩)]) (fun _ => True) (by simp only [roomB]; omega) ?_
  simp only [go_sem]
  refine ⟨?_, trivial, ?_, ?_⟩
  ·simp only [go_sem, List.take_zero]
   exact ⟨by simp [fnd1], by simp [fnd1]⟩
  ·intro k c hc _ h2 h3 hw2
   have hn := K66 (k := k) hx
   simp only [go_sem, K7 hc, h2, h3, hw2, K7y hc]
   exact ⟨by simp only [roomB]; omega, by simp only [roomB]; omega, by simp only [List.length_append, List.length_cons, List.length_nil], by simp [GFound.enc]⟩
  ·intro _
   simp only [go_sem, List.take_length, hw]
   exact ⟨by rw [K32 hx, Nat.zero_add], by rw [K32 hx, Nat.zero_add]⟩
 ·intro _
  simp only [go_sem, List.take_length]
  apply K8 (C6b (fnds 0 l) _ K4t C85 fndSwo)
  simp only [go_sem]
  exact ⟨Srt.len_isort.symm, by rw [index, K6f]⟩
def M57 : MC :=
(Zs [.nilo 2 0 6] [0] (Zs [.lit 8 0 6 48 [], mS 3 8] [0,3] (.seq (Zs [.mv 4 (ci 0)] [0,3,4] (.block 0 (.loop ([0,3,4], [1,2,3]) (.seq (Zs [mS 9 4, mS 10 0, nS 11 10, bS 12 .lss 9 11] [0,3,4,12] (cX 12 0))
(.seq (.block 1 (Zs [.mv 5 (ci 0)] [0,3,4,5] (.block 2 (.loop ([0,3,4,5], [1,2,3]) (.seq (Zs [mS 15 5, mS 16 0, mS 17 4, xS 18 4 16 17, fS 19 18 2, lF 20 1 19, nS 21 20, bS 22 .lss 15 21] [0,3,4,5,22] (cX 22 2))
(.seq (.block 3 (.seq (.dreg [Zf [6,26,30,34,35,36,37,38,39,40,41,42,43,44] [1] (mS 25 0), Zf [6,25,30,34,35,36,37,38,39,40,41,42,43,44] [1] (mS 26 4), Zg [6,30,34,35,36,37,38,39,40,41,42,43,44] [1] [0,1] (xS 27 4 25 26), Zg [6,30,34,35,36,37,38,39,40,41,42,43,44] [1] [0,1,2] (fS 28 27 2), Zg [6,30,34,35,36,37,38,39,40,41,42,43,44] [1] (.range 4) (lF 29 1 28), Zf [6,25,26,27,28,29,34,35,36,37,38,39,40,41,42,43,44] [1] (mS 30 5), Zg [6,34,35,36,37,38,39,40,41,42,43,44] [1] (.range 6) (xS 31 9 29 30), Zg [6,34,35,36,37,38,39,40,41,42,43,44] [1] (.range 7) (fS 32 31 0), Zg [6,34,35,36,37,38,39,40,41,42,43,44] [1] (.range 8) (lT 33 3 32), Zf [6,25,26,27,28,29,30,31,32,33,35,39,43,44] [1] (mS 34 0), Zf [6,25,26,27,28,29,30,31,32,33,34,39,43,44] [1] (mS 35 4), Zg [6,25,26,27,28,29,30,31,32,33,39,43,44] [1] [9,10] (xS 36 4 34 35), Zg [6,25,26,27,28,29,30,31,32,33,39,43,44] [1] [9,10,11] (fS 37 36 2), Zg [6,25,26,27,28,29,30,31,32,33,39,43,44] [1] [9,10,11,12] (lF 38 1 37), Zf [6,25,26,27,28,29,30,31,32,33,34,35,36,37,38,43,44] [1] (mS 39 5), Zg [6,25,26,27,28,29,30,31,32,33,43,44] [1] [9,10,11,12,13,14] (xS 40 9 38 39), Zg [6,25,26,27,28,29,30,31,32,33,43,44] [1] [9,10,11,12,13,14,15] (fS 41 40 3), Zg [6,25,26,27,28,29,30,31,32,33,43,44] [1] [9,10,11,12,13,14,15,16] (lF 42 1 41), Zf [6,25,26,27,28,29,30,31,32,33,34,35,36,37,38,39,40,41,42,44] [1] (mS 43 4), Zf [6,25,26,27,28,29,30,31,32,33,34,35,36,37,38,39,40,41,42,43] [1] (mS 44 5), Zg [6] [1] (.range 20) (.build 45 [pz, pz, pz, pz, pz, pz] [(0, 3, .s 33), (3, 1, .s 42), (4, 1, .s 43), (5, 1, .s 44)]), { o := .alloc 6 1 [pz, pz, pz, pz, pz, pz], hs := [25,26,27,28,29,30,31,32,33,34,35,36,37,38,39,40,41,42,43,44,45], ws := [1] }, { o := sS 6 6 45, ws := [1], bf := (.range 22) }] [0,3,4,5,6])
(Zs [mS 46 3, nS 47 46, mS 7 47] [0,3,4,5,6,7] (.seq (.block 4 (.loop ([0,3,4,5,6,7], [2,3]) (.seq (.seq (.dreg [Za (mS 48 7), Ze [0] (bC 49 .gtr 48 0), Ze [0,1] (mS 50 49), { o := lT 51 6 6, g := some (50, true), hs := [52,53,54,55,56], bf := [0,1,2] }, { o := mS 52 3, g := some (50, true), hs := [51,53,54], bf := [0,1,2] }, { o := mS 53 7, g := some (50, true), hs := [51,52], bf := [0,1,2] }, { o := bC 54 .sub 53 1, g := some (50, true), hs := [51,52], bf := [0,1,2,5] }, { o := xS 55 6 52 54, g := some (50, true), hs := [51], bf := [0,1,2,4,5,6] }, { o := lT 56 6 55, g := some (50, true), hs := [51], bf := [0,1,2,4,5,6,7] }, { o := .call 57 [] (.f N5p) [.s 51, .s 56], g := some (50, true), bf := (.range 9) }, Ze (.range 10) (.pick 58 (.s 50) (.s 57) cF)] [0,3,4,5,6,7,58])
(cX 58 4))
(.block 5 (pr [mS 59 7, bC 60 .sub 59 1, mS 7 60] [0,3,4,5,6,7])))))
(.dreg [{ o := .lit 61 2 6 48 [], hs := [62,63,64,66,67,69,70,71], ho := [3], ws := [2] }, Zf [61,63,66,67,69,70,71] [2,3] (mS 62 3), Zf [61,62,66,67,69,70,71] [2,3] (mS 63 7), Zg [61,66,67,69,70,71] [2,3] [1,2] (.slc 64 6 (.s 62) none (some (.s 63)) none), { o := .app 65 2 6 48 (.s 61) (.s 64), hs := [66,67,69,70,71], ho := [3], ws := [2], bf := (.range 4) }, Zf [61,62,63,64,65,69,70,71] [2] (lT 66 6 6), { o := .lit 67 3 6 48 [.s 66], hs := [61,62,63,64,65,69,70,71], ho := [2], ws := [3], bf := [5] }, { o := .app 68 2 6 48 (.s 65) (.s 67), hs := [69,70,71], ws := [2], bf := (.range 7) }, Zf [61,62,63,64,65,66,67,68,70] [2,3] (mS 69 3), Zf [61,62,63,64,65,66,67,68,69] [2,3] (mS 70 7), Zg [61,62,63,64,65,66,67,68] [2,3] [8,9] (.slc 71 6 (.s 69) (some (.s 70)) none none), { o := .app 72 0 6 48 (.s 68) (.s 71), ws := [0,2], bf := (.range 11) }, Ze (.range 12) (mS 3 72)] [0,3,4,5])))))
(pr [mS 23 5, bC 24 .add 23 1, mS 5 24] [0,3,4,5])))))))
(pr [mS 13 4, bC 14 .add 13 1, mS 4 14] [0,3,4]))))))
(Zs [mS 73 3, mS 2 73] [2] .ret))))
theorem C97 (l : List GContainer) (hs : l.length + (l.map GContainer.size).sum ≤ 1073741824) : Ctr Tryz.prog N49 [aL 4 (l.map GContainer.enc)] [rL 6 ((index l).map GFound.enc)] := by
 refine cA M57 4 74 [(.tmp 2, [true])] Tryz.func178 rfl rfl ?_; unfold M57
 intro hb
 clear hb
 simp only [go_sem]
 refine K5 l (fun i => [(3, .val false [.ref 0 0 6 0 (Srt.isort K1o (fnds 0 (l.take i))).length]), (4, vI i)]) (fun i => [(0, ⟨0, .row true 6 ((Srt.isort K1o (fnds 0 (l.take i))).map GFound.enc)⟩)]) (fun _ => True) (by simp only [roomB]; omega) ?_
 simp only [go_sem]
 refine ⟨?_, trivial, ?_, ?_⟩
 ·simp only [go_sem, List.take_zero]
  exact ⟨rfl, rfl⟩
 ·intro i x hx _ h0 h1 hw
  have hx1 := K2e (f := GContainer.size) (K1y hx)
  have hi := Ke hx
  have hxl : x.Captures.length ≤ x.size := by simp only [GContainer.size]; omega
  simp only [go_sem, h1]
  refine K5 x.Captures (fun k => [(3, .val false [.ref 0 0 6 0 (Srt.isort K1o (fnds 0 (l.take i) ++ fnd1 i 0 (x.Captures.take k))).length]), (5, vI k)]) (fun k => [(0, ⟨0, .row true 6 ((Srt.isort K1o (fnds 0 (l.take i) ++ fnd1 i 0 (x.Captures.take k))).map GFound.enc)⟩)]) (fun _ => True) (by simp only [roomB]; omega) ?_
  simp only [go_sem]
  refine ⟨?_, trivial, ?_, ?_⟩
  ·simp only [go_sem, List.take_zero]
   exact ⟨by simp [fnd1], by simp [fnd1]⟩
  ·intro k c hc _ h2 h3 hw2
   have hn := K66 (k := k) hx
   obtain ⟨y, hy⟩ : ∃ y : GFound, y = ⟨c.Address, c.Tick, i, k⟩ := ⟨_, rfl⟩
   obtain ⟨out, hout⟩ : ∃ out, out = Srt.isort K1o (fnds 0 (l.take i) ++ fnd1 i 0 (x.Captures.take k)) := ⟨_, rfl⟩
   have hsr : Srt.srt K1o out := hout ▸ Srt.srt_isort fndSwo' _
   have hol : out.length ≤ (l.map GContainer.size).sum := by rw [hout, Srt.len_isort]; exact hn
   have hst : Srt.isort K1o (fnds 0 (l.take i) ++ fnd1 i 0 (x.Captures.take (k + 1))) = Srt.ins K1o y out := by
    rw [K7y hc, Srt.isort_snoc, ← hout, ← hy]
   have hye : ([tI c.Address.Host, tI c.Address.Path, tI c.Address.Query, tI c.Tick, tI (i : Int), tI (k : Int)] : List T) = y.enc := by rw [hy]; rfl
   rw [hst, ← hout]
   simp only [go_sem, K7 hx, K7 hc, h0, h1, h2, h3, hw]
   refine K1c (fun n : Nat => [(7, vI n)]) (fun n => []) (fun n => n ≤ out.length ∧ ∀ z ∈ out.drop n, K1o y z = true) (fun n => n) out.length ?_
   simp only [go_sem]
   refine ⟨?_, ⟨Nat.le_refl _, by simp⟩, ?_⟩
   ·simp only [go_sem]
   ·rintro n ⟨hn1, hn2⟩
    simp only [go_sem]
    refine ⟨fun hpos => ?_, fun hzero => ?_⟩
    ·obtain ⟨m, hm⟩ : ∃ m, m = n - 1 := ⟨_, rfl⟩
     obtain ⟨z, hz⟩ := Ki (show m < out.length by omega)
     have e1 : IntKind.i64.wrap ((n : Int) - 1) = (m : Int) := by rw [wI (by omega) (by omega)]; omega
     rw [e1]
     simp only [go_sem, K7 hz]
     refine ⟨⟨by omega, by omega⟩, ?_⟩
     apply K0 (C9s ⟨c.Address, c.Tick, (i : Int), (k : Int)⟩ z)
     simp only [go_sem]
     rw [e1]
     refine ⟨fun ht => ⟨m, rfl, ⟨by omega, ?_⟩, by omega⟩, fun hf => ?_⟩
     ·rw [hm]
      exact Srt.drop_step (by omega) (hm ▸ hz) hn2 (hy ▸ ht)
     ·have hstop : n = 0 ∨ ∃ y', out[n - 1]? = some y' ∧ K1o y y' = false := .inr ⟨z, hm ▸ hz, hy ▸ hf⟩
      rw [cutA hn1]
      refine ⟨by omega, by omega, ?_⟩
      have hA : (out.take n).length = n := by rw [List.length_take]; omega
      have hB : out.length = n + (out.drop n).length := by rw [List.length_drop]; omega
      have eC := cutB (f := GFound.enc) hn1
      have e5 : List.map GFound.enc (out.take n) ++ [[T.sc (Value.int IntKind.i64 c.Address.Host), T.sc (Value.int IntKind.i64 c.Address.Path), T.sc (Value.int IntKind.i64 c.Address.Query), T.sc (Value.int IntKind.i64 c.Tick), T.sc (Value.int IntKind.i64 (i : Int)), T.sc (Value.int IntKind.i64 (k : Int))]] = (out.take n ++ [y]).map GFound.enc := by rw [hy]; simp [GFound.enc]
      have e6 : ((out.take n ++ [y]).map GFound.enc).length = (out.take n).length + 1 := by simp
      simp only [go_sem, ↓K2h (f := GFound.enc) (fun _ => rfl) (out.take n), ↓eC, ↓e5, ↓e6, ↓K2h (f := GFound.enc) (fun _ => rfl) (out.drop n)]
      rw [Srt.ins_at fndSwo' hsr hn2 hstop]
      simp only [roomB]
      exact ⟨by omega, by omega, by omega, ⟨by omega, by omega, by omega⟩, by omega, by omega, ⟨by simp only [List.length_append, List.length_cons, List.length_nil], hw2⟩, by rw [← List.map_append]⟩
    ·have hstop : n = 0 ∨ ∃ y', out[n - 1]? = some y' ∧ K1o y y' = false := .inl (by omega)
     rw [cutA hn1]
     refine ⟨by omega, by omega, ?_⟩
     have hA : (out.take n).length = n := by rw [List.length_take]; omega
     have hB : out.length = n + (out.drop n).length := by rw [List.length_drop]; omega
     have eC := cutB (f := GFound.enc) hn1
     have e5 : List.map GFound.enc (out.take n) ++ [[T.sc (Value.int IntKind.i64 c.Address.Host), T.sc (Value.int IntKind.i64 c.Address.Path), T.sc (Value.int IntKind.i64 c.Address.Query), T.sc (Value.int IntKind.i64 c.Tick), T.sc (Value.int IntKind.i64 (i : Int)), T.sc (Value.int IntKind.i64 (k : Int))]] = (out.take n ++ [y]).map GFound.enc := by rw [hy]; simp [GFound.enc]
     have e6 : ((out.take n ++ [y]).map GFound.enc).length = (out.take n).length + 1 := by simp
     simp only [go_sem, ↓K2h (f := GFound.enc) (fun _ => rfl) (out.take n), ↓eC, ↓e5, ↓e6, ↓K2h (f := GFound.enc) (fun _ => rfl) (out.drop n)]
     rw [Srt.ins_at fndSwo' hsr hn2 hstop]
     simp only [roomB]
     exact ⟨by omega, by omega, by omega, ⟨by omega, by omega, by omega⟩, by omega, by omega, ⟨by simp only [List.length_append, List.length_cons, List.length_nil], hw2⟩, by rw [← List.map_append]⟩
  ·intro _
   simp only [go_sem, List.take_length, K7 hx, h0, h1, hw, Int.lt_irrefl]
   exact ⟨by rw [K32 hx, Nat.zero_add], by rw [K32 hx, Nat.zero_add]⟩
 ·intro _
  simp only [go_sem, List.take_length]
  rfl
end Go.Proofs.YtgkeplbnnjogiaaGreatR
namespace Go.Proofs.YtgkeplbnnjogiaaGreatR
open Go Go.RowKit Go.Proofs
open Nat (reduceEqDiff reduceLT reduceLeDiff reduceAdd reduceMul)
open List (reduceReplicate)
end Go.Proofs.YtgkeplbnnjogiaaGreatR
namespace Go.Proofs.YtgkeplbnnjogiaaGreatR
open Go Go.RowKit Go.Proofs
open Nat (reduceEqDiff reduceLT reduceLeDiff reduceAdd reduceMul)
open List (reduceReplicate)
def whole (d : GDisk) : Bool := decide (d.Index = index d.Containers)
def Y15 (v0 : Nat) (v1 : Nat) : MC :=
(Zs [.box 1 0 (.s 0), .mv 2 cF] [1] (.seq (.dreg [Zf [5,6,7] [1] (fS 3 1 1), Zg [5,6,7] [1] [0] (lF 4 1 3), Zc [3,4] (fS 5 1 0), Zd [3,4] [2] (lF 6 1 5), { o := .call 7 [1] (.f v0) [.s 6], hs := [3,4], ws := [1], bf := [2,3] }, Ze (.range 5) (.call 8 [] (.f v1) [.s 4, .s 7]), Ze (.range 6) (mS 2 8)] [2])
.ret))
attribute [go_sem] Y15
def M31 : MC := Y15 N4a Ni
theorem Ca9 (d : GDisk) (hs : d.size ≤ 1073741824) : Ctr Tryz.prog N2c [aS d.enc] [rB (whole d)] := by
 refine cA M31 2 9 [(.tmp 2, [false])] Tryz.func188 rfl rfl ?_; unfold M31
 intro hb
 clear hb
 simp only [GDisk.size] at hs
 simp only [go_sem]
 apply K0 (C96 d.Containers (by omega))
 simp only [go_sem]
 intros
 apply K0 (C7h _ _)
 simp only [go_sem]
 intros
 rfl
def M6v : MC := Y15 N49 N70
theorem Ca2 (d : GDisk) (hs : d.size ≤ 1073741824) : Ctr Tryz.prog N6g [aS d.enc] [rB (whole d)] := by
 refine cA M6v 2 9 [(.tmp 2, [false])] Tryz.func177 rfl rfl ?_; unfold M6v
 intro hb
 clear hb
 simp only [GDisk.size] at hs
 simp only [go_sem]
 apply K0 (C97 d.Containers (by omega))
 simp only [go_sem]
 intros
 apply K0 (Ca8 _ _)
 simp only [go_sem]
 intros
 rfl
theorem take_sz {l : List GContainer} {n N : Nat} (h : l.length + (l.map GContainer.size).sum ≤ N) : (l.take n).length + ((l.take n).map GContainer.size).sum ≤ N := by
 have h1 := List.length_take_le n l
 have h2 := K1g (f := GContainer.size) l n
 have h3 : (l.take n).length ≤ l.length := by rw [List.length_take]; omega
 omega
end Go.Proofs.YtgkeplbnnjogiaaGreatR
namespace Go.Proofs.YtgkeplbnnjogiaaGreatR
open Go Go.RowKit Go.Proofs
open Nat (reduceEqDiff reduceLT reduceLeDiff reduceAdd reduceMul)
open List (reduceReplicate)
end Go.Proofs.YtgkeplbnnjogiaaGreatR
namespace Go.Proofs.YtgkeplbnnjogiaaGreatR
open Go Go.RowKit Go.Proofs
open Nat (reduceEqDiff reduceLT reduceLeDiff reduceAdd reduceMul)
open List (reduceReplicate)
theorem addrB {x y : GAddress} : (x.Host == y.Host && (x.Path == y.Path && x.Query == y.Query)) = decide (x = y) := by
 rw [Bool.eq_iff_iff]; simp [GAddress.eqv]
def Ma3 : MC :=
(Zs [.mv 4 (ci 0)] [0,1] (.seq (Zs [mS 5 1, mS 6 0, bS 7 .gtr 5 6] [0,1,7] (.cond (.s 7) (Zs [mS 8 1, mS 4 8] [4] .ret) .skip))
(Zs [mS 9 0, mS 4 9] [4] .ret)))
theorem Cak (x y : Int) : Ctr Tryz.prog N9t [aI x, aI y] [rI (if y > x then y else x)] := by
 refine cA Ma3 0 10 [(.tmp 4, [false])] Tryz.func162 rfl rfl ?_; unfold Ma3
 intro hb
 clear hb
 simp only [go_sem]
 refine ⟨fun h => ?_, fun h => ?_⟩
 ·rw [if_pos (by omega)]
 ·rw [if_neg (by omega)]
end Go.Proofs.YtgkeplbnnjogiaaGreatR
namespace Go.Proofs.YtgkeplbnnjogiaaGreatR
open Go Go.RowKit Go.Proofs
open Nat (reduceEqDiff reduceLT reduceLeDiff reduceAdd reduceMul)
open List (reduceReplicate)
def K12 (l : List GContainer) : List GCapture := l.flatMap fun x => x.Captures
theorem K21 {l : List GContainer} {k : Nat} {x : GContainer} (h : l[k]? = some x) : K12 (l.take (k + 1)) = K12 (l.take k) ++ x.Captures := by
 rw [Ks h, K12, List.flatMap_append]; simp [K12]
theorem K4a : ∀ {l : List GContainer}, (K12 l).length + ((K12 l).map GCapture.size).sum ≤ (l.map GContainer.size).sum
 | [] => by simp [K12]
 | x :: l => by
  have := K4a (l := l)
  simp only [K12, List.flatMap_cons, List.length_append, List.map_append, List.sum_append, List.map_cons, List.sum_cons, GContainer.size] at *
  omega
theorem K30 {l : List GContainer} {k : Nat} {x : GContainer} (h : l[k]? = some x) : (K12 (l.take k)).length + x.Captures.length ≤ (l.map GContainer.size).sum := by
 have h1 := K4a (l := l.take (k + 1))
 have h2 := K1g (f := GContainer.size) l (k + 1)
 rw [K21 h, List.length_append] at h1
 omega
theorem K2z {l : List GContainer} {k : Nat} {x : GContainer} (h : l[k]? = some x) : x.Captures.length + (x.Captures.map GCapture.size).sum ≤ (l.map GContainer.size).sum := by
 have h1 := K2e (f := GContainer.size) (K1y h)
 simp only [GContainer.size] at h1 ⊢
 omega
def told (d : GDisk) : List GContainer := if whole d then d.Containers else d.Containers.dropLast
def Ky (a : GArchive) : List GCapture := K12 (told a.Disk)
theorem K92 {d : GDisk} (h : whole d = true) : told d = d.Containers := by unfold told; rw [h]; rfl
theorem K61 {d : GDisk} (h : whole d = false) : told d = d.Containers.take (d.Containers.length - 1) := by unfold told; rw [h, List.dropLast_eq_take]; rfl
theorem at_take {α : Type} {l : List α} {n k : Nat} {x : α} (h : (l.take n)[k]? = some x) : l[k]? = some x := by
 rw [List.getElem?_take] at h
 split at h
 ·exact h
 ·cases h
def M3t : MC :=
(Zs [.box 1 0 (.s 0), .nilo 2 1 9] [1] (Zs [fS 7 1 2, fS 8 7 0, lF 9 1 8, mS 3 9] [1,3] (.seq (.seq (.reg [Za (fS 10 1 2), Za (lT 11 3 10), Za (.call 12 [] (.f N2c) [.s 11]), Za (.un 13 .not (.s 12)), Za (mS 14 13), Zb 14 true (mS 15 3), Zb 14 true (nS 16 15), Zb 14 true (bC 17 .gtr 16 0), Za (.pick 18 (.s 14) (.s 17) cF)] [3,18])
(.cond (.s 18) (pr [mS 19 3, mS 20 3, nS 21 20, bC 22 .sub 21 1, .slc 23 4 (.s 19) none (some (.s 22)) none, mS 3 23] [3]) .skip))
(Zs [.nilo 4 1 9] [3,4] (.seq (Zs [mS 24 3, nS 25 24, .mv 26 (ci 0)] [4,24,25,26] (.block 0 (.loop ([4,24,25,26], [0,2,3]) (Zs [bS 27 .lss 26 25] [4,24,25,26,27] (.seq (cX 27 0)
(.seq (.block 1 (Zs [xS 28 4 24 26, lT 29 4 28, .alloc 6 2 [.emp 4, .emp 5, .emp 9, pz], sS 4 6 29] [4,6,24,25,26] (pr [mS 30 4, fS 31 6 2, lF 32 1 31, .call 33 [3] (.f N1a) [.s 32], .app 34 1 9 88 (.s 30) (.s 33), mS 4 34] [4,24,25,26])))
(pr [bC 35 .add 26 1, mS 26 35] [4,24,25,26])))))))
(Zs [mS 36 4, mS 2 36] [2] .ret))))))
theorem C8p (a : GArchive) (hs : a.size ≤ 1073741824) : Ctr Tryz.prog N37 [aS a.enc] [rL 9 ((Ky a).map GCapture.enc)] := by
 refine cA M3t 4 37 [(.tmp 2, [true])] Tryz.func116 rfl rfl ?_; unfold M3t
 intro hb
 clear hb
 have hsd : a.Disk.size ≤ 1073741824 := by simp only [GArchive.size] at hs; omega
 have hsz : a.Disk.Containers.length + (a.Disk.Containers.map GContainer.size).sum ≤ 1073741824 := by simp only [GDisk.size] at hsd; omega
 have hsz2 := take_sz (n := a.Disk.Containers.length - 1) hsz
 have hw1 : (a.Disk.Containers.length : Int) > 0 → IntKind.i64.wrap ((a.Disk.Containers.length : Int) - 1) = ((a.Disk.Containers.length - 1 : Nat) : Int) := fun h => by rw [wI (by omega) (by omega)]; omega
 simp only [go_sem]
 apply K0 (Ca9 a.Disk hsd)
 simp only [go_sem]
 repeat' first
  | (refine And.intro ?_ ?_ <;> intro h)
 ·rename_i hN
  have eL : (a.Disk.Containers.take (a.Disk.Containers.length - 1)).length = a.Disk.Containers.length - 1 := by rw [List.length_take]; omega
  rw [hw1 h, cutA (by omega)]
  refine ⟨⟨by omega, by omega, by omega⟩, ?_⟩
  try simp only [go_sem, eL]
  refine K5 (a.Disk.Containers.take (a.Disk.Containers.length - 1)) (fun k => [(4, .val false [.ref 1 0 9 0 (K12 ((a.Disk.Containers.take (a.Disk.Containers.length - 1)).take k)).length]), (26, vI k)]) (fun k => [(1, ⟨0, .row true 9 ((K12 ((a.Disk.Containers.take (a.Disk.Containers.length - 1)).take k)).map GCapture.enc)⟩)]) (fun _ => True) (by simp only [roomB]; omega) ?_
  simp only [go_sem]
  refine ⟨?_, trivial, ?_, ?_⟩
  ·simp only [go_sem, List.take_zero]
   exact ⟨rfl, rfl⟩
  ·intro k x hx _ h0 h1 hw
   have hq := K30 hx
   have hq2 := K2z hx
   have hx3 : a.Disk.Containers[k]? = some x := at_take hx
   have hx2 : (k : Int) < ((a.Disk.Containers.length - 1 : Nat) : Int) := by have := Ke hx; rw [List.length_take] at this; omega
   have hx4 : (k : Int) < a.Disk.Containers.length := by have := Ke hx3; omega
   simp only [go_sem, K7 hx, hx2, h0, h1]
   apply K0 (Cw x.Captures (by omega))
   by_cases hf : flat (x.Captures.map GCapture.enc) = true
   all_goals
    simp only [go_sem, hw, hf, K21 hx, List.length_append]
    simp only [roomB]
    exact ⟨by omega, fun _ => by rw [List.map_append]⟩
  ·intro _
   simp only [go_sem, eL, Int.lt_irrefl, List.take_take, Nat.min_self]
   rw [Ky, K61 hN]
 ·rename_i hN
  have eL : True := trivial
  have hC0 : a.Disk.Containers = [] := List.length_eq_zero_iff.1 (by omega)
  refine K5 (a.Disk.Containers) (fun k => [(4, .val false [.ref 1 0 9 0 (K12 ((a.Disk.Containers).take k)).length]), (26, vI k)]) (fun k => [(1, ⟨0, .row true 9 ((K12 ((a.Disk.Containers).take k)).map GCapture.enc)⟩)]) (fun _ => True) (by simp only [roomB]; omega) ?_
  simp only [go_sem]
  refine ⟨?_, trivial, ?_, ?_⟩
  ·simp only [go_sem, List.take_zero]
   exact ⟨rfl, rfl⟩
  ·intro k x hx _ h0 h1 hw
   have hq := K30 hx
   have hq2 := K2z hx
   have hx3 : a.Disk.Containers[k]? = some x := hx
   have hx2 : (k : Int) < (a.Disk.Containers.length : Int) := by have := Ke hx; omega
   have hx4 : (k : Int) < a.Disk.Containers.length := by have := Ke hx3; omega
   simp only [go_sem, K7 hx, hx2, h0]
   apply K0 (Cw x.Captures (by omega))
   by_cases hf : flat (x.Captures.map GCapture.enc) = true
   all_goals
    simp only [go_sem, hw, hf, K21 hx, List.length_append]
    simp only [roomB]
    exact ⟨by omega, fun _ => by rw [List.map_append]⟩
  ·intro _
   simp only [go_sem, List.take_length, Int.lt_irrefl]
   rw [Ky, K61 hN, hC0]
   rfl
 ·have eL : True := trivial
  refine K5 (a.Disk.Containers) (fun k => [(4, .val false [.ref 1 0 9 0 (K12 ((a.Disk.Containers).take k)).length]), (26, vI k)]) (fun k => [(1, ⟨0, .row true 9 ((K12 ((a.Disk.Containers).take k)).map GCapture.enc)⟩)]) (fun _ => True) (by simp only [roomB]; omega) ?_
  simp only [go_sem]
  refine ⟨?_, trivial, ?_, ?_⟩
  ·simp only [go_sem, List.take_zero]
   exact ⟨rfl, rfl⟩
  ·intro k x hx _ h0 h1 hw
   have hq := K30 hx
   have hq2 := K2z hx
   have hx3 : a.Disk.Containers[k]? = some x := hx
   have hx2 : (k : Int) < (a.Disk.Containers.length : Int) := by have := Ke hx; omega
   have hx4 : (k : Int) < a.Disk.Containers.length := by have := Ke hx3; omega
   simp only [go_sem, K7 hx, hx2, h0]
   apply K0 (Cw x.Captures (by omega))
   by_cases hf : flat (x.Captures.map GCapture.enc) = true
   all_goals
    simp only [go_sem, hw, hf, K21 hx, List.length_append]
    simp only [roomB]
    exact ⟨by omega, fun _ => by rw [List.map_append]⟩
  ·intro _
   simp only [go_sem, List.take_length, Int.lt_irrefl]
   rw [Ky, K92 h]
def M3u : MC :=
(Zs [.box 1 0 (.s 0), .nilo 2 1 9] [1] (Zs [fS 6 1 2, fS 7 6 0, lF 8 1 7, nS 9 8, mS 3 9] [1,3] (.seq (.seq (.reg [Za (fS 10 1 2), Za (lT 11 3 10), Za (.call 12 [] (.f N6g) [.s 11]), Za (.un 13 .not (.s 12)), Za (mS 14 13), Zb 14 true (mS 15 3), Zb 14 true (bC 16 .gtr 15 0), Za (.pick 17 (.s 14) (.s 16) cF)] [1,3,17])
(.cond (.s 17) (pr [mS 18 3, bC 19 .sub 18 1, mS 3 19] [1,3]) .skip))
(Zs [.lit 20 1 9 88 [], mS 4 20] [1,3,4] (.seq (Zs [.mv 5 (ci 0)] [1,3,4,5] (.block 0 (.loop ([1,3,4,5], [2]) (.seq (Zs [mS 21 5, mS 22 3, bS 23 .lss 21 22] [1,3,4,5,23] (cX 23 0))
(.seq (.block 1 (pr [mS 26 4, fS 27 1 2, fS 28 27 0, lF 29 1 28, mS 30 5, xS 31 4 29 30, fS 32 31 2, lF 33 1 32, .call 34 [2] (.f N1g) [.s 33], .app 35 1 9 88 (.s 26) (.s 34), mS 4 35] [1,3,4,5]))
(pr [mS 24 5, bC 25 .add 24 1, mS 5 25] [1,3,4,5]))))))
(Zs [mS 36 4, mS 2 36] [2] .ret))))))
theorem C8q (a : GArchive) (hs : a.size ≤ 1073741824) : Ctr Tryz.prog N36 [aS a.enc] [rL 9 ((Ky a).map GCapture.enc)] := by
 refine cA M3u 3 37 [(.tmp 2, [true])] Tryz.func114 rfl rfl ?_; unfold M3u
 intro hb
 clear hb
 have hsd : a.Disk.size ≤ 1073741824 := by simp only [GArchive.size] at hs; omega
 have hsz : a.Disk.Containers.length + (a.Disk.Containers.map GContainer.size).sum ≤ 1073741824 := by simp only [GDisk.size] at hsd; omega
 have hsz2 := take_sz (n := a.Disk.Containers.length - 1) hsz
 have hw1 : (a.Disk.Containers.length : Int) > 0 → IntKind.i64.wrap ((a.Disk.Containers.length : Int) - 1) = ((a.Disk.Containers.length - 1 : Nat) : Int) := fun h => by rw [wI (by omega) (by omega)]; omega
 simp only [go_sem]
 apply K0 (Ca2 a.Disk hsd)
 simp only [go_sem]
 repeat' first
  | (refine And.intro ?_ ?_ <;> intro h)
 ·rename_i hN
  have eL : (a.Disk.Containers.take (a.Disk.Containers.length - 1)).length = a.Disk.Containers.length - 1 := by rw [List.length_take]; omega
  rw [hw1 h]
  refine K5 (a.Disk.Containers.take (a.Disk.Containers.length - 1)) (fun k => [(4, .val false [.ref 1 0 9 0 (K12 ((a.Disk.Containers.take (a.Disk.Containers.length - 1)).take k)).length]), (5, vI k)]) (fun k => [(1, ⟨0, .row true 9 ((K12 ((a.Disk.Containers.take (a.Disk.Containers.length - 1)).take k)).map GCapture.enc)⟩)]) (fun _ => True) (by simp only [roomB]; omega) ?_
  simp only [go_sem]
  refine ⟨?_, trivial, ?_, ?_⟩
  ·simp only [go_sem, List.take_zero]
   exact ⟨rfl, rfl⟩
  ·intro k x hx _ h0 h1 hw
   have hq := K30 hx
   have hq2 := K2z hx
   have hx3 : a.Disk.Containers[k]? = some x := at_take hx
   have hx2 : (k : Int) < ((a.Disk.Containers.length - 1 : Nat) : Int) := by have := Ke hx; rw [List.length_take] at this; omega
   have hx4 : (k : Int) < a.Disk.Containers.length := by have := Ke hx3; omega
   simp only [go_sem, K7 hx3, hx2, hx4, h0]
   apply K0 (C11 x.Captures (by omega))
   by_cases hf : flat (x.Captures.map GCapture.enc) = true
   all_goals
    simp only [go_sem, hw, hf, K21 hx, List.length_append]
    simp only [roomB]
    exact ⟨by omega, fun _ => by rw [List.map_append]⟩
  ·intro _
   simp only [go_sem, eL, Int.lt_irrefl, List.take_take, Nat.min_self]
   rw [Ky, K61 hN]
 ·rename_i hN
  have eL : True := trivial
  have hC0 : a.Disk.Containers = [] := List.length_eq_zero_iff.1 (by omega)
  refine K5 (a.Disk.Containers) (fun k => [(4, .val false [.ref 1 0 9 0 (K12 ((a.Disk.Containers).take k)).length]), (5, vI k)]) (fun k => [(1, ⟨0, .row true 9 ((K12 ((a.Disk.Containers).take k)).map GCapture.enc)⟩)]) (fun _ => True) (by simp only [roomB]; omega) ?_
  simp only [go_sem]
  refine ⟨?_, trivial, ?_, ?_⟩
  ·simp only [go_sem, List.take_zero]
   exact ⟨rfl, rfl⟩
  ·intro k x hx _ h0 h1 hw
   have hq := K30 hx
   have hq2 := K2z hx
   have hx3 : a.Disk.Containers[k]? = some x := hx
   have hx2 : (k : Int) < (a.Disk.Containers.length : Int) := by have := Ke hx; omega
   have hx4 : (k : Int) < a.Disk.Containers.length := by have := Ke hx3; omega
   simp only [go_sem, K7 hx3, hx2, h0]
   apply K0 (C11 x.Captures (by omega))
   by_cases hf : flat (x.Captures.map GCapture.enc) = true
   all_goals
    simp only [go_sem, hw, hf, K21 hx, List.length_append]
    simp only [roomB]
    exact ⟨by omega, fun _ => by rw [List.map_append]⟩
  ·intro _
   simp only [go_sem, List.take_length, Int.lt_irrefl]
   rw [Ky, K61 hN, hC0]
   rfl
 ·have eL : True := trivial
  refine K5 (a.Disk.Containers) (fun k => [(4, .val false [.ref 1 0 9 0 (K12 ((a.Disk.Containers).take k)).length]), (5, vI k)]) (fun k => [(1, ⟨0, .row true 9 ((K12 ((a.Disk.Containers).take k)).map GCapture.enc)⟩)]) (fun _ => True) (by simp only [roomB]; omega) ?_
  simp only [go_sem]
  refine ⟨?_, trivial, ?_, ?_⟩
  ·simp only [go_sem, List.take_zero]
   exact ⟨rfl, rfl⟩
  ·intro k x hx _ h0 h1 hw
   have hq := K30 hx
   have hq2 := K2z hx
   have hx3 : a.Disk.Containers[k]? = some x := hx
   have hx2 : (k : Int) < (a.Disk.Containers.length : Int) := by have := Ke hx; omega
   have hx4 : (k : Int) < a.Disk.Containers.length := by have := Ke hx3; omega
   simp only [go_sem, K7 hx3, hx2, h0]
   apply K0 (C11 x.Captures (by omega))
   by_cases hf : flat (x.Captures.map GCapture.enc) = true
   all_goals
    simp only [go_sem, hw, hf, K21 hx, List.length_append]
    simp only [roomB]
    exact ⟨by omega, fun _ => by rw [List.map_append]⟩
  ·intro _
   simp only [go_sem, List.take_length, Int.lt_irrefl]
   rw [Ky, K92 h]
theorem K41 (a : GArchive) : (Ky a).length + ((Ky a).map GCapture.size).sum ≤ a.size := by
 have h : (Ky a).length + ((Ky a).map GCapture.size).sum ≤ (a.Disk.Containers.map GContainer.size).sum := by
  unfold Ky told
  split
  ·exact K4a
  ·rw [List.dropLast_eq_take]
   exact Nat.le_trans K4a (K1g _ _)
 simp only [GArchive.size, GDisk.size]
 omega
def seen (a : GArchive) : List GCapture := visible (Ky a) a.Exclusions a.Now
def served (a : GArchive) : List GCapture := (seen a).drop ((seen a).length - 20)
theorem K5q (a : GArchive) : (seen a).length + ((seen a).map GCapture.size).sum ≤ a.size := by
 have h := K41 a
 have h1 := K3g (Ky a) a.Exclusions a.Now
 have h2 := K3o (p := fun c => !K2k c a.Exclusions a.Now) (f := GCapture.size) (Ky a)
 unfold seen
 unfold visible at *
 omega
theorem K9l {α : Type} {f : α → Nat} (l : List α) (k : Nat) : ((l.drop k).map f).sum ≤ (l.map f).sum := by
 conv => rhs; rw [← List.take_append_drop k l]
 rw [List.map_append, List.sum_append]
 omega
theorem K3e (a : GArchive) : (served a).length + ((served a).map GCapture.size).sum ≤ a.size := by
 have h := K5q a
 have h2 := K9l (f := GCapture.size) (seen a) ((seen a).length - 20)
 unfold served
 rw [List.length_drop]
 omega
def M1w : MC :=
(Zs [.box 1 0 (.s 0), .nilo 2 1 9] [1] (.seq (.dreg [Zc [6,7,8,9] (lT 4 10 1), { o := .call 5 [2] (.f N37) [.s 4], hs := [6,7,8,9], ws := [2], bf := [0] }, Zf [4,5,8,9] [2] (fS 6 1 5), Zg [4,5,8,9] [2] [2] (lF 7 1 6), Zf [4,5,6,7] [2] (fS 8 1 9), Zg [4,5,6,7] [2] [4] (lF 9 1 8), { o := .call 10 [1] (.f N5n) [.s 5, .s 7, .s 9], ws := [1], bf := (.range 6) }, Ze (.range 7) (mS 3 10)] [3])
(Zs [mS 11 3, mS 12 3, nS 13 12, bC 14 .sub 13 20, .mm 15 true (ci 0) (.s 14), .slc 16 9 (.s 11) (some (.s 15)) none none, mS 2 16] [2] .ret)))
theorem C7f (a : GArchive) (hs : a.size ≤ 1073741824) : Ctr Tryz.prog N1p [aS a.enc] [rL 9 ((served a).map GCapture.enc)] := by
 refine cA M1w 3 17 [(.tmp 2, [true])] Tryz.func80 rfl rfl ?_; unfold M1w
 intro hb
 clear hb
 have hz := K41 a
 have hz2 := K5q a
 have hw1 : IntKind.i64.wrap (((seen a).length : Int) - 20) = ((seen a).length : Int) - 20 := wI (by omega) (by omega)
 simp only [go_sem]
 apply K0 (C8p a hs)
 simp only [go_sem]
 intros
 apply K0 (C9p (Ky a) a.Exclusions a.Now (by omega))
 simp only [go_sem]
 intros
 rw [show visible (Ky a) a.Exclusions a.Now = seen a from rfl, hw1]
 by_cases hc : (seen a).length ≤ 20
 ·have e1 : (((seen a).length : Int) - 0).toNat = (seen a).length := by omega
  rw [if_neg (by omega), e1, show Int.toNat 0 = 0 from rfl]
  simp only [go_sem]
  refine ⟨⟨by omega, by omega⟩, ?_⟩
  rw [served, show (seen a).length - 20 = 0 by omega, List.drop_zero]
 ·obtain ⟨m, hm⟩ : ∃ m, (seen a).length = m + 21 := ⟨(seen a).length - 21, by omega⟩
  have e2 : (((seen a).length : Int) - 20).toNat = m + 1 := by omega
  have e3 : (((seen a).length : Int) - (((seen a).length : Int) - 20)).toNat = 20 := by omega
  rw [if_pos (by omega), e2, e3]
  simp only [go_sem]
  refine ⟨⟨by omega, by omega⟩, ?_⟩
  refine ⟨by omega, ?_⟩
  rw [if_neg (by simp), served, show (seen a).length - 20 = m + 1 by omega, ← List.map_drop, List.take_of_length_le (by rw [List.length_map, List.length_drop]; omega)]
def M1x : MC :=
(Zs [.box 1 0 (.s 0), .nilo 2 1 9] [1] (.seq (.dreg [Zc [6,7,8,9] (lT 4 10 1), { o := .call 5 [2] (.f N36) [.s 4], hs := [6,7,8,9], ws := [2], bf := [0] }, Zf [4,5,8,9] [2] (fS 6 1 5), Zg [4,5,8,9] [2] [2] (lF 7 1 6), Zf [4,5,6,7] [2] (fS 8 1 9), Zg [4,5,6,7] [2] [4] (lF 9 1 8), { o := .call 10 [3] (.f N5m) [.s 5, .s 7, .s 9], ws := [3], bf := (.range 6) }, Ze (.range 7) (mS 3 10)] [3])
(Zs [mS 11 3, mS 12 3, nS 13 12, bC 14 .sub 13 20, .call 15 [] (.f N9t) [.c (.int .i64 0), .s 14], .slc 16 9 (.s 11) (some (.s 15)) none none, .call 17 [1] (.f N1g) [.s 16], mS 2 17] [2] .ret)))
theorem C7g (a : GArchive) (hs : a.size ≤ 1073741824) : Ctr Tryz.prog N1o [aS a.enc] [rL 9 ((served a).map GCapture.enc)] := by
 refine cA M1x 4 18 [(.tmp 2, [true])] Tryz.func77 rfl rfl ?_; unfold M1x
 intro hb
 clear hb
 have hz := K41 a
 have hz2 := K5q a
 have hz3 := K3e a
 have hw1 : IntKind.i64.wrap (((seen a).length : Int) - 20) = ((seen a).length : Int) - 20 := wI (by omega) (by omega)
 simp only [go_sem]
 apply K0 (C8q a hs)
 simp only [go_sem]
 intros
 apply K0 (C9r (Ky a) a.Exclusions a.Now (by omega))
 simp only [go_sem]
 intros
 rw [show visible (Ky a) a.Exclusions a.Now = seen a from rfl, hw1]
 apply K0 (Cak _ _)
 simp only [go_sem]
 have hm : (if ((seen a).length : Int) - 20 > 0 then ((seen a).length : Int) - 20 else 0) = (((seen a).length - 20 : Nat) : Int) := by split <;> omega
 rw [hm]
 simp only [Int.toNat_natCast]
 rw [cutB (by omega)]
 refine ⟨by omega, by omega, ?_⟩
 apply K0 (C11 (served a) (by omega))
 simp only [go_sem]
 try intros
 try trivial
end Go.Proofs.YtgkeplbnnjogiaaGreatR
namespace Go.Proofs.YtgkeplbnnjogiaaGreatR
open Go Go.RowKit Go.Proofs
open Nat (reduceEqDiff reduceLT reduceLeDiff reduceAdd reduceMul)
open List (reduceReplicate)
def M8r : MC :=
(Zs [.box 3 0 (.s 1), .mv 4 cF] [0,3] (.seq (Zs [.mv 5 (ci 0)] [0,3,5] (.block 0 (.loop ([0,3,5], []) (.seq (Zs [mS 6 5, mS 7 0, nS 8 7, bS 9 .lss 6 8] [0,3,5,9] (cX 9 0))
(.seq (.block 1 (.seq (.dreg [Zc [13,16] (mS 12 0), Zc [12,16] (mS 13 5), Zd [16] [0,1] (xS 14 3 12 13), Zd [16] [0,1,2] (lT 15 3 14), Zc [12,13,14,15] (lT 16 3 3), Ze (.range 5) (.eqA 17 false [.i .i64, .i .i64, .i .i64] (.s 15) (.s 16))] [0,3,5,17])
(.cond (.s 17) (Zs [.mv 4 cT] [4] .ret) .skip)))
(pr [mS 10 5, bC 11 .add 10 1, mS 5 11] [0,3,5]))))))
(Zs [.mv 4 cF] [4] .ret)))
theorem Cag (xs : List GAddress) (a : GAddress) : Ctr Tryz.prog N86 [aL 3 (xs.map GAddress.enc), aS a.enc] [rB (decide (a ∈ xs))] := by
 refine cA M8r 1 18 [(.tmp 4, [false])] Tryz.func78 rfl rfl ?_; unfold M8r
 intro hb
 simp only [bdA, bdL, bdT, Kj, roomB, and_true, List.length_map] at hb
 have hl := hb.1
 clear hb
 simp only [go_sem]
 refine K5 xs (fun k => [(5, vI k)]) (fun k => []) (fun k => ¬ a ∈ xs.take k) hl.1 ?_
 simp only [go_sem]
 refine ⟨?_, by simp, ?_, ?_⟩
 ·simp only [go_sem]
 ·intro k x hx h h0 h1 hw
  simp only [go_sem, K7 hx, h0, h1, hw, addrB]
  refine ⟨fun hy => ?_, fun hn => ?_⟩
  ·have e : x = a := by simpa using hy
   exact (decide_eq_true (e ▸ K1y hx)).symm
  ·have e : ¬ x = a := by simpa using hn
   rw [Ks hx, List.mem_append, List.mem_singleton]
   rintro (hm | hm)
   ·exact h hm
   ·exact e hm.symm
 ·intro h
  rw [List.take_length] at h
  simp only [go_sem]
  exact (decide_eq_false h).symm
end Go.Proofs.YtgkeplbnnjogiaaGreatR
namespace Go.Proofs
open Go.Shelf
end Go.Proofs
namespace Go.Proofs.YtgkeplbnnjogiaaGreatR
open Go Go.RowKit Go.Proofs
open Nat (reduceEqDiff reduceLT reduceLeDiff reduceAdd reduceMul)
open List (reduceReplicate)
theorem holds_int {w : World} {b off : Nat} {zs : List Int} {row : Array Value} {ty : TypeId} (hh : w.heap[b]? = some (.cells row ty (0, 0))) (h : ∀ (j : Nat) (x : Int), zs[j]? = some x → w.cell? ⟨b, off + j, none⟩ = some (.int .i64 x) ∧ oneW (.int .i64 x) = true) : Go.Sort.Holds (Value.int .i64) w b off zs.toArray := by
 intro j hj
 obtain ⟨x, hx⟩ := Ki (l := zs) (k := j) (by simpa using hj)
 have e : zs.toArray[j]! = x := by
  rw [getElem!_pos _ j hj]
  simpa using (List.getElem?_eq_some_iff.1 hx).2
 rw [e]
 exact ⟨(h j x hx).1, by simp [World.frozen?, hh]⟩
theorem bel_put {w : World} {b off : Nat} {zs : List Int} {G : List Nat} (n : Nat) (os : Array Obj) (hb : b ∈ G) (hlt : b < w.heap.size) : Bel (fun k => k < w.heap.size ∧ k ∉ G) w (Go.Sort.grow (Go.Sort.putRow (Value.int .i64) (Go.Sort.ahead w n) b off zs.toArray) os) := by
 have hsz : (Go.Sort.putRow (Value.int .i64) (Go.Sort.ahead w n) b off zs.toArray).heap.size = w.heap.size := by simp [Go.Sort.putRow, Go.Sort.mapBlock, Go.Sort.ahead]
 refine ⟨rfl, rfl, rfl, ?_, fun k hk => ?_⟩
 ·show _ ≤ ((Go.Sort.putRow (Value.int .i64) (Go.Sort.ahead w n) b off zs.toArray).heap ++ os).size
  rw [Array.size_append, hsz]; omega
 ·show ((Go.Sort.putRow (Value.int .i64) (Go.Sort.ahead w n) b off zs.toArray).heap ++ os)[k]? = _
  rw [Array.getElem?_append_left (by rw [hsz]; exact hk.1)]
  have hne : k ≠ b := fun hh => hk.2 (hh ▸ hb)
  simp [Go.Sort.putRow, Go.Sort.mapBlock, Go.Sort.ahead, Array.getElem?_modify, hne.symm]
end Go.Proofs.YtgkeplbnnjogiaaGreatR
namespace Go.Proofs.YtgkeplbnnjogiaaGreatR
open Go Go.RowKit Go.Proofs
open Nat (reduceEqDiff reduceLT reduceLeDiff reduceAdd reduceMul)
open List (reduceReplicate)
def put : List Int → Int → List Int
 | [], n => [n]
 | x :: l, n => if x < n then x :: put l n else if x = n then x :: l else n :: x :: l
def puts (zs : List Int) : List Int := zs.foldl put []
end Go.Proofs.YtgkeplbnnjogiaaGreatR
namespace Go.Proofs.YtgkeplbnnjogiaaGreatR
open Go Go.RowKit Go.Proofs
open Nat (reduceEqDiff reduceLT reduceLeDiff reduceAdd reduceMul)
open List (reduceReplicate)
end Go.Proofs.YtgkeplbnnjogiaaGreatR
namespace Go.Proofs.YtgkeplbnnjogiaaGreatR
open Go Go.RowKit Go.Proofs
open Nat (reduceEqDiff reduceLT reduceLeDiff reduceAdd reduceMul)
open List (reduceReplicate)
end Go.Proofs.YtgkeplbnnjogiaaGreatR
namespace Go.Proofs.YtgkeplbnnjogiaaGreatR
open Go Go.RowKit Go.Proofs
open Nat (reduceEqDiff reduceLT reduceLeDiff reduceAdd reduceMul)
open List (reduceReplicate)
theorem c2 : ¬ (2 : Int) = 0 := by decide
end Go.Proofs.YtgkeplbnnjogiaaGreatR
namespace Go.Proofs.YtgkeplbnnjogiaaGreatR
open Go Go.RowKit Go.Proofs
open Nat (reduceEqDiff reduceLT reduceLeDiff reduceAdd reduceMul)
open List (reduceReplicate)
def rP (p : GPlayed) : RV := ⟨true, [(false, tI p.Code), (false, tI p.At), (false, tI p.State.Pc), (false, .sl 1 (p.State.Regs.map encI)), (false, .sl 1 (p.State.Slots.map encI)), (false, .sl 1 (p.State.Nodes.map encI))]⟩
def rT (tr : List GState) : RV := ⟨false, [(false, .sl 4 (tr.map GState.enc))]⟩
attribute [go_sem] rP rT
end Go.Proofs.YtgkeplbnnjogiaaGreatR
namespace Go.Proofs.YtgkeplbnnjogiaaGreatR
open Go Go.RowKit Go.Proofs
open Nat (reduceEqDiff reduceLT reduceLeDiff reduceAdd reduceMul)
open List (reduceReplicate)
end Go.Proofs.YtgkeplbnnjogiaaGreatR
namespace Go.Proofs.YtgkeplbnnjogiaaGreatR
open Go Go.RowKit Go.Proofs
open Nat (reduceEqDiff reduceLT reduceLeDiff reduceAdd reduceMul)
open List (reduceReplicate)
end Go.Proofs.YtgkeplbnnjogiaaGreatR
namespace Go.Proofs.YtgkeplbnnjogiaaGreatR
open Go Go.RowKit Go.Proofs
open Nat (reduceEqDiff reduceLT reduceLeDiff reduceAdd reduceMul)
open List (reduceReplicate)
def ticks (l : List GCapture) (a : GAddress) : List Int := (l.filter fun c => decide (c.Address = a)).map (·.Tick)
def lo (a : GArchive) (x : GAddress) : List Int := puts (ticks (served a) x)
end Go.Proofs.YtgkeplbnnjogiaaGreatR
namespace Go.Proofs
open Go.Shelf
def Tryz.laysSrtF6_ren : Go.Shelf.Ren := ⟨fun | 6 => 82 | 15 => 170 | 14 => 169 | 28 => 288 | 29 => 289 | 20 => 280 | 21 => 281 | 22 => 282 | 23 => 283 | 24 => 284 | 25 => 285 | 26 => 286 | 27 => 287 | 46 => 377 | 47 => 378 | 48 => 379 | 49 => 380 | 50 => 381 | 57 => 421 | n => n, fun | 22 => 52 | 24 => 108 | 25 => 116 | 3 => 3 | 39 => 200 | 0 => 0 | 53 => 289 | 55 => 291 | 4 => 4 | 46 => 282 | 45 => 281 | 50 => 286 | 5 => 5 | 9 => 9 | 66 => 345 | 70 => 314 | 76 => 377 | 77 => 104 | n => n, fun | n => n⟩
theorem Tryz.laysSrtF6 : Go.Proofs.SlLaysF0.n6 Tryz.prog Tryz.laysSrtF6_ren := {
 mixed := by kernel_rfl
 f6 := ⟨Tryz.f82.name, by decide, Tryz.func82.trans (congrArg some (by kernel_rfl))⟩
 f14 := ⟨Tryz.f169.name, by decide, Tryz.func169.trans (congrArg some (by kernel_rfl))⟩
 f15 := Tryz.func170.trans (congrArg some (by kernel_rfl))
 f20 := ⟨Tryz.f280.name, by decide, Tryz.func280.trans (congrArg some (by kernel_rfl))⟩
 f21 := ⟨Tryz.f281.name, by decide, Tryz.func281.trans (congrArg some (by kernel_rfl))⟩
 f22 := ⟨Tryz.f282.name, by decide, Tryz.func282.trans (congrArg some (by kernel_rfl))⟩
 f23 := ⟨Tryz.f283.name, by decide, Tryz.func283.trans (congrArg some (by kernel_rfl))⟩
 f24 := ⟨Tryz.f284.name, by decide, Tryz.func284.trans (congrArg some (by kernel_rfl))⟩
 f25 := ⟨Tryz.f285.name, by decide, Tryz.func285.trans (congrArg some (by kernel_rfl))⟩
 f26 := ⟨Tryz.f286.name, by decide, Tryz.func286.trans (congrArg some (by kernel_rfl))⟩
 f27 := ⟨Tryz.f287.name, by decide, Tryz.func287.trans (congrArg some (by kernel_rfl))⟩
 f28 := Tryz.func288.trans (congrArg some (by kernel_rfl))
 f29 := Tryz.func289.trans (congrArg some (by kernel_rfl))
 f46 := ⟨Tryz.f377.name, by decide, Tryz.func377.trans (congrArg some (by kernel_rfl))⟩
 f47 := Tryz.func378.trans (congrArg some (by kernel_rfl))
 f48 := Tryz.func379.trans (congrArg some (by kernel_rfl))
 f49 := ⟨Tryz.f380.name, by decide, Tryz.func380.trans (congrArg some (by kernel_rfl))⟩
 f50 := ⟨Tryz.f381.name, by decide, Tryz.func381.trans (congrArg some (by kernel_rfl))⟩
 f57 := ⟨Tryz.f421.name, by decide, Tryz.func421.trans (congrArg some (by kernel_rfl))⟩
 t0 := Tryz.underlying0
 a0 := Tryz.isAgg0
 z0 := Tryz.sizeOf0
 v0 := Tryz.zeroValue0
 t3 := Tryz.underlying3
 a3 := Tryz.isAgg3
 z3 := Tryz.sizeOf3
 v3 := Tryz.zeroValue3
 t4 := Tryz.underlying4
 a4 := Tryz.isAgg4
 z4 := Tryz.sizeOf4
 v4 := Tryz.zeroValue4
 t5 := Tryz.underlying5
 a5 := Tryz.isAgg5
 z5 := Tryz.sizeOf5
 v5 := Tryz.zeroValue5
 t9 := Tryz.underlying9
 a9 := Tryz.isAgg9
 z9 := Tryz.sizeOf9
 v9 := Tryz.zeroValue9
 t22 := Tryz.underlying52
 a22 := Tryz.isAgg52
 z22 := Tryz.sizeOf52
 v22 := Tryz.zeroValue52
 t25 := Tryz.underlying116
 a25 := Tryz.isAgg116
 z25 := Tryz.sizeOf116
 v25 := Tryz.zeroValue116
 t39 := Tryz.underlying200
 a39 := Tryz.isAgg200
 z39 := Tryz.sizeOf200
 v39 := Tryz.zeroValue200
 t45 := Tryz.underlying281
 a45 := Tryz.isAgg281
 z45 := Tryz.sizeOf281
 v45 := Tryz.zeroValue281
 t46 := Tryz.underlying282
 a46 := Tryz.isAgg282
 z46 := Tryz.sizeOf282
 v46 := Tryz.zeroValue282
 t50 := Tryz.underlying286
 a50 := Tryz.isAgg286
 z50 := Tryz.sizeOf286
 v50 := Tryz.zeroValue286
 t53 := Tryz.underlying289
 a53 := Tryz.isAgg289
 z53 := Tryz.sizeOf289
 v53 := Tryz.zeroValue289
 t55 := Tryz.underlying291
 a55 := Tryz.isAgg291
 z55 := Tryz.sizeOf291
 v55 := Tryz.zeroValue291
 t66 := Tryz.underlying345
 a66 := Tryz.isAgg345
 z66 := Tryz.sizeOf345
 v66 := Tryz.zeroValue345
 t70 := Tryz.underlying314
 a70 := Tryz.isAgg314
 z70 := Tryz.sizeOf314
 v70 := Tryz.zeroValue314
 t76 := Tryz.underlying377
 a76 := Tryz.isAgg377
 z76 := Tryz.sizeOf377
 v76 := Tryz.zeroValue377
 t77 := Tryz.underlying104
 a77 := Tryz.isAgg104
 z77 := Tryz.sizeOf104
 v77 := Tryz.zeroValue104 }
end Go.Proofs
namespace Go.Proofs.YtgkeplbnnjogiaaGreatR
open Go Go.RowKit Go.Proofs Go.Sort
open Nat (reduceEqDiff reduceLT reduceLeDiff reduceAdd reduceMul)
open List (reduceReplicate)
set_option maxHeartbeats 1000000 in
theorem K8q (x y : GAddress) (W : World) : Calls Tryz.prog 84 #[.agg #[.int .i64 x.Host, .int .i64 x.Path, .int .i64 x.Query], .agg #[.int .i64 y.Host, .int .i64 y.Path, .int .i64 y.Query]] W fun e w' => e = .returned (.bool (Kg x y)) ∧ ∃ q os', w' = grow (W.drewN q) os' := by
 go_enter Tryz.func84, Tryz.ntmps84
 go_wp2
 all_goals
  go_ret
  refine ⟨?_, 0, _, by rw [alloc_eq_grow, alloc_eq_grow, grow_grow]; rfl⟩
  simp only [bne_iff_ne, bne_eq_false_iff_eq, ne_eq] at *
  refine Eq.trans (b := Ending.returned (Value.bool (decide _))) rfl (congrArg (fun b => Ending.returned (Value.bool b)) ?_)
  unfold Kg
  rw [decide_eq_decide]
  omega
def cfA (x y : GAddress) : Int := if Kg x y then -1 else 1
set_option maxHeartbeats 1000000 in
theorem cmp_calls (x y : GAddress) (W : World) : Calls Tryz.prog 83 #[.agg #[.int .i64 x.Host, .int .i64 x.Path, .int .i64 x.Query], .agg #[.int .i64 y.Host, .int .i64 y.Path, .int .i64 y.Query]] W fun e w' => e = .returned (.int .i64 (cfA x y)) ∧ ∃ q os', w' = grow (W.drewN q) os' := by
 have hcon := fun W' => K8q x y W'
 have hcf : cfA x y = if Kg x y then -1 else 1 := rfl
 generalize cfA x y = c at *
 generalize Kg x y = r at *
 go_enter Tryz.func83, Tryz.ntmps83
 go_wp2_with (go_at_call 84; refine (hcon _).mono ?_; rintro e w' ⟨rfl, q, os', rfl⟩)
 all_goals
  rename_i hr
  rw [hr] at hcf
  simp only [if_true, if_false, Bool.false_eq_true] at hcf
  subst hcf
  go_ret
  exact ⟨rfl, q, _, by rw [alloc_eq_grow, alloc_eq_grow, grow_grow]; exact grow_grow (W.drewN q) _ _⟩
theorem ltA (x y : GAddress) : ltOf cfA x y = Kg x y := by
 unfold ltOf cfA
 cases Kg x y <;> simp
theorem swoA : SWO (ltOf cfA) where
 irrefl x := by rw [ltA]; simp [Kg]
 trans x y z h1 h2 := by rw [ltA] at *; simp only [Kg, decide_eq_true_eq] at *; omega
 ntrans x y z h1 h2 := by rw [ltA] at *; simp only [Kg, decide_eq_false_iff_not] at *; omega
theorem totA (x y : GAddress) (h1 : ltOf cfA x y = false) (h2 : ltOf cfA y x = false) : x = y := by
 rw [ltA] at *
 simp only [Kg, decide_eq_false_iff_not] at *
 obtain ⟨a, b, c⟩ := x
 obtain ⟨d, e, f⟩ := y
 simp only [GAddress.mk.injEq]
 simp only at h1 h2
 omega
instance : Inhabited GAddress := ⟨⟨0, 0, 0⟩⟩
def encA (x : GAddress) : List Value := [.int .i64 x.Host, .int .i64 x.Path, .int .i64 x.Query]
def flatA : List GAddress → List Int
 | [] => []
 | x :: xs => x.Host :: x.Path :: x.Query :: flatA xs
theorem K48 : ∀ {xs : List GAddress}, (flatA xs).length = 3 * xs.length
 | [] => rfl
 | x :: xs => by simp only [flatA, List.length_cons, K48]; omega
theorem K8o : ∀ {xs : List GAddress} {t : Nat}, t < xs.length * 3 → (flatA xs)[t]? = ((encA xs.toArray[t / 3]!)[t % 3]?).bind fun v => match v with | .int _ n => some n | _ => none
 | [], t, h => by simp at h
 | x :: xs, t, h => by
  match t, h with
  | 0, _ => rfl
  | 1, _ => rfl
  | 2, _ => rfl
  | t + 3, h =>
   have e1 : (t + 3) / 3 = t / 3 + 1 := by omega
   have e2 : (t + 3) % 3 = t % 3 := by omega
   rw [e1, e2]
   simp only [flatA, List.getElem?_cons_succ]
   rw [K8o (by simp only [List.length_cons] at h; omega)]
   have : ((x :: xs).toArray)[t / 3 + 1]! = xs.toArray[t / 3]! := by simp
   rw [this]
theorem flatK_A (xs : List GAddress) : Go.Sort.flatK encA 3 xs.toArray = ((flatA xs).map (Value.int .i64)).toArray := by
 refine ext_get! (by simp [K48]; omega) fun t ht => ?_
 have ht' : t < xs.length * 3 := by simpa using ht
 rw [get_flatK _ _ _ t (by simpa using ht')]
 have h := K8o ht'
 have hl : t < (flatA xs).length := by rw [K48]; omega
 generalize xs.toArray[t / 3]! = x at *
 have h3 : t % 3 = 0 ∨ t % 3 = 1 ∨ t % 3 = 2 := by omega
 rw [getElem!_pos _ t (by simpa using hl)]
 simp only [List.getElem_toArray, List.getElem_map]
 rw [List.getElem?_eq_getElem hl] at h
 rcases h3 with e | e | e <;> rw [e] at h ⊢ <;> simp only [encA] at h ⊢ <;> simp at h ⊢ <;> exact h.symm
theorem K7z {w : World} {b : Nat} : ∀ {xs : List GAddress} {off : Nat} {G : List Nat}, OwRow w 3 b off (xs.map GAddress.enc) G → G = [] ∧ ∀ (j : Nat) (x : Int), (flatA xs)[j]? = some x → w.cell? ⟨b, off + j, none⟩ = some (.int .i64 x) ∧ oneW (.int .i64 x) = true
 | [], off, G, h => ⟨h, fun j x hx => by simp [flatA] at hx⟩
 | z :: xs, off, G, h => by
  obtain ⟨_, G1, G2, h1, h2, rfl⟩ := h
  obtain ⟨v0, Ga, Gb, hc0, ⟨rfl, hw0, rfl⟩, h1, rfl⟩ := h1
  obtain ⟨v1, Gc, Gd, hc1, ⟨rfl, hw1, rfl⟩, h1, rfl⟩ := h1
  obtain ⟨v2, Ge, Gf, hc2, ⟨rfl, hw2, rfl⟩, rfl, rfl⟩ := h1
  obtain ⟨rfl, ih⟩ := K7z h2
  refine ⟨rfl, fun j x hx => ?_⟩
  match j, hx with
  | 0, hx => simp only [flatA, List.getElem?_cons_zero, Option.some.injEq] at hx; subst hx; exact ⟨hc0, hw0⟩
  | 1, hx => simp only [flatA, List.getElem?_cons_succ, List.getElem?_cons_zero, Option.some.injEq] at hx; subst hx; exact ⟨hc1, hw1⟩
  | 2, hx => simp only [flatA, List.getElem?_cons_succ, List.getElem?_cons_zero, Option.some.injEq] at hx; subst hx; exact ⟨hc2, hw2⟩
  | j + 3, hx =>
   have := ih j x (by simpa [flatA] using hx)
   rw [show off + (j + 3) = off + 3 + j by omega]
   exact this
theorem owRow_adr' {w : World} {b : Nat} : ∀ {xs : List GAddress} {off : Nat}, (∀ (j : Nat) (x : Int), (flatA xs)[j]? = some x → w.cell? ⟨b, off + j, none⟩ = some (.int .i64 x) ∧ oneW (.int .i64 x) = true) → OwRow w 3 b off (xs.map GAddress.enc) []
 | [], off, h => rfl
 | z :: xs, off, h => by
  have h0 := h 0 z.Host rfl
  have h1 := h 1 z.Path rfl
  have h2 := h 2 z.Query rfl
  refine ⟨rfl, [], [], ⟨_, [], [], h0.1, ⟨rfl, h0.2, rfl⟩, ⟨_, [], [], h1.1, ⟨rfl, h1.2, rfl⟩, ⟨_, [], [], h2.1, ⟨rfl, h2.2, rfl⟩, rfl, rfl⟩, rfl⟩, rfl⟩, owRow_adr' fun j x hx => ?_, rfl⟩
  have := h (j + 3) x (by simpa [flatA] using hx)
  rw [show off + 3 + j = off + (j + 3) by omega]
  exact this
theorem putRow_id (w : World) (b off : Nat) (zs : List Int) : putRow id w b off (zs.map (Value.int .i64)).toArray = putRow (Value.int .i64) w b off zs.toArray := by
 unfold putRow
 congr 1
 funext c
 unfold putCells
 refine Array.ext (by simp) fun t h1 h2 => ?_
 simp only [Array.getElem_mapIdx, List.size_toArray, List.length_map, id]
 split
 ·rename_i hc
  rw [getElem!_pos _ (t - off) (by simp; omega), getElem!_pos _ (t - off) (by simp; omega)]
  simp
 ·rfl
theorem holds_adr {w : World} {b off : Nat} {xs : List GAddress} {row : Array Value} {ty : TypeId} (hh : w.heap[b]? = some (.cells row ty (0, 0))) (h : ∀ (j : Nat) (x : Int), (flatA xs)[j]? = some x → w.cell? ⟨b, off + j, none⟩ = some (.int .i64 x) ∧ oneW (.int .i64 x) = true) : HoldsK encA 3 w b off xs.toArray := by
 unfold HoldsK
 rw [flatK_A]
 intro j hj
 obtain ⟨x, hx⟩ := Ki (l := flatA xs) (k := j) (by simpa using hj)
 have e : ((flatA xs).map (Value.int .i64)).toArray[j]! = .int .i64 x := by
  rw [getElem!_pos _ j hj]
  simpa using (List.getElem?_eq_some_iff.1 hx).2
 rw [e]
 exact ⟨(h j x hx).1, by simp [World.frozen?, hh]⟩
theorem ow_putA {w : World} {b off cap n : Nat} {zs ds : List GAddress} {row : Array Value} {ty : TypeId} {os : Array Obj} (hb : b < w.heap.size) (hh : w.heap[b]? = some (.cells row ty (0, 0))) (hc : off + cap * 3 ≤ row.size) (hln : Ln zs.length cap)
  (hz : ∀ (j : Nat) (x : Int), (flatA zs)[j]? = some x → w.cell? ⟨b, off + j, none⟩ = some (.int .i64 x) ∧ oneW (.int .i64 x) = true) (hd : ds.length = zs.length) (hin : ∀ x ∈ flatA ds, oneW (.int .i64 x) = true) :
  Ow (grow (putRow (Value.int .i64) (Sort.ahead w n) b off (flatA ds).toArray) os) (.sl 3 (ds.map GAddress.enc)) (.slice (some ⟨b, off, none⟩) zs.length cap) [b] := by
 have hH := holds_int hh hz
 have hsz : (putRow (Value.int .i64) (Sort.ahead w n) b off (flatA ds).toArray).heap.size = w.heap.size := by simp [putRow, mapBlock, Sort.ahead]
 have hheap : (grow (putRow (Value.int .i64) (Sort.ahead w n) b off (flatA ds).toArray) os).heap[b]? = some (.cells (putCells (Value.int .i64) off (flatA ds).toArray row) ty (0, 0)) := by
  show ((putRow (Value.int .i64) (Sort.ahead w n) b off (flatA ds).toArray).heap ++ os)[b]? = _
  rw [Array.getElem?_append_left (by rw [hsz]; exact hb)]
  simp [putRow, mapBlock, Sort.ahead, Array.getElem?_modify, hh, onCells]
 refine ⟨some ⟨b, off, none⟩, cap, by rw [List.length_map, hd], by rw [List.length_map, hd]; exact hln, .inr ⟨b, off, putCells (Value.int .i64) off (flatA ds).toArray row, ty, [], rfl, hheap, by simpa [putCells] using hc, ?_, rfl⟩⟩
 refine owRow_adr' fun j x hx => ?_
 have hj : j < (flatA ds).toArray.size := by simpa using (List.getElem?_eq_some_iff.1 hx).1
 have e : (flatA ds).toArray[j]! = x := by
  rw [getElem!_pos _ j hj]
  simpa using (List.getElem?_eq_some_iff.1 hx).2
 have h1 := cell?_putRow (Value.int .i64) (Sort.ahead w n) b off (flatA zs).toArray (flatA ds).toArray (holds_ahead _ _ _ _ _ _ hH) (by simp [K48, hd]) j hj
 rw [e] at h1
 refine ⟨?_, hin x (K1y hx)⟩
 rw [← h1]
 exact cell?_grow _ _ _ (by rw [hsz]; exact hb)
def sortA (xs : List GAddress) : List GAddress := xs.mergeSort fun x y => !(ltOf cfA) y x
theorem K5i (xs : List GAddress) : (sortA xs).length = xs.length := (List.mergeSort_perm _ _).length_eq
theorem K85 {n : Int} : ∀ {xs : List GAddress}, n ∈ flatA xs ↔ ∃ x ∈ xs, n = x.Host ∨ n = x.Path ∨ n = x.Query
 | [] => by simp [flatA]
 | x :: xs => by
  simp only [flatA, List.mem_cons, K85]
  constructor
  ·rintro (h | h | h | ⟨y, hy, h⟩)
   ·exact ⟨x, .inl rfl, .inl h⟩
   ·exact ⟨x, .inl rfl, .inr (.inl h)⟩
   ·exact ⟨x, .inl rfl, .inr (.inr h)⟩
   ·exact ⟨y, .inr hy, h⟩
  ·rintro ⟨y, rfl | hy, h⟩
   ·rcases h with h | h | h
    ·exact .inl h
    ·exact .inr (.inl h)
    ·exact .inr (.inr (.inl h))
   ·exact .inr (.inr (.inr ⟨y, hy, h⟩))
theorem sortA_mem {xs : List GAddress} {n : Int} (h : n ∈ flatA (sortA xs)) : n ∈ flatA xs := by
 rw [K85] at *
 obtain ⟨x, hx, h⟩ := h
 exact ⟨x, (List.mergeSort_perm _ _).mem_iff.1 hx, h⟩
theorem argsI_two {w : World} {X : Nat → Prop} {es : List (List T)} {sz : Nat} {f : FuncId} {vs : List Value} {G : List Nat} (h : ResVs w X [oL sz es, fI f] vs G) : ∃ v, vs = [v, .func (.func f) #[] #[]] ∧ Ow w (.sl sz es) v G := by
 match vs, h with
 | [v, v2], ⟨G1, G2, h1, h2, e⟩ =>
  obtain ⟨_, Ga, Gb, h3, h4, e2⟩ := h1
  obtain ⟨G3, G4, ⟨_, hf, h6⟩, h7, e3⟩ := h2
  simp only [ResVs] at h7
  simp only [ResC] at h4 h6
  obtain ⟨cvs, rfl, hl⟩ := hf
  cases cvs with
  | nil =>
   subst h4 h6 h7 e3 e2 e
   exact ⟨v, rfl, by simpa using h3⟩
  | cons c cs => exact hl.elim
 | [], h => exact h.elim
 | [_], ⟨_, _, _, h, _⟩ => exact h.elim
 | _ :: _ :: _ :: _, ⟨_, _, _, ⟨_, _, _, h, _⟩, _⟩ => exact h.elim
theorem C5a (xs : List GAddress) : CtrI Tryz.prog Nb [oL 3 (xs.map GAddress.enc), fI N13] [some (3, (sortA xs).map GAddress.enc)] [] := by
 refine ⟨⟨Tryz.f82, Tryz.func82, by kernel_rfl, by kernel_rfl⟩, fun w X vs G ht h hG hGb => ?_⟩
 obtain ⟨v, rfl, hr⟩ := argsI_two h
 obtain ⟨A, cap, rfl, hln, hr⟩ := hr
 rw [List.length_map] at hln ⊢
 rcases hr with ⟨rfl, hz, rfl⟩ | ⟨b, off, row, ty, G1, rfl, hh, hc, hrow, rfl⟩
 ·obtain rfl : xs = [] := by simpa using hz
  have hcon := AnyF.slices_SortFunc_none Tryz.laysSrtF6 A 0 (.func (.func N13) #[] #[]) w
  refine Calls.mono (show Calls Tryz.prog 82 _ _ _ from hcon) ?_
  rintro e w' ⟨rfl, rfl⟩
  exact ⟨Bel.refl _ _, [], [], [], rfl, ⟨[], [], by simp [sortA]; exact ⟨A, 0, rfl, hln, .inl ⟨rfl, rfl, rfl⟩⟩, rfl, rfl⟩, rfl, by simp, by simp⟩
 ·obtain ⟨rfl, hz⟩ := K7z hrow
  have hb : b < w.heap.size := (hGb b (by simp)).1
  have hin : ∀ x ∈ flatA (sortA xs), oneW (.int .i64 x) = true := fun x hx => by
   obtain ⟨j, hj⟩ := List.getElem?_of_mem (sortA_mem hx)
   exact (hz j x hj).2
  have eg : ∀ args w, (callFunc 83 args).run Tryz.prog w = .ok (.enter 83 args) w := enters_of Tryz.func83 (by kernel_rfl) rfl
  have hcon := AnyQ.slices_SortFunc_total Tryz.laysSrtF6 3 Tryz.isAgg108 Tryz.sizeOf108 encA (fun _ => rfl) (fun x v hv => by simp [encA] at hv; rcases hv with rfl | rfl | rfl <;> rfl) cfA swoA 83 #[] b off cap xs.toArray w eg (fun _ _ _ _ x y => cmp_calls x y _) (holds_adr hh hz) hb (by have := hln.2; simp only [roomB] at this; simp only [List.size_toArray]; omega) totA
  refine Calls.mono (show Calls Tryz.prog 82 _ _ _ from hcon) ?_
  rintro e w' ⟨rfl, n, os, rfl⟩
  have hW : sortWorldK encA 3 w b off n (xs.toArray.toList.mergeSort fun x y => !(ltOf cfA) y x).toArray os = grow (putRow (Value.int .i64) (Sort.ahead w n) b off (flatA (sortA xs)).toArray) os := by
   unfold sortWorldK putRowK
   rw [flatK_A, putRow_id]
   rfl
  rw [hW]
  have hB := bel_put (zs := flatA (sortA xs)) (b := b) (off := off) (G := [b]) n os (by simp) hb
  have hO := ow_putA (n := n) (os := os) (ds := sortA xs) hb hh hc hln hz (K5i xs) hin
  refine ⟨hB, [], [b], [], rfl, ⟨[b], [], hO, rfl, rfl⟩, rfl, by simp, fun b' hb' => ⟨.inl (by simpa using hb'), ?_⟩⟩
  rw [show b' = b by simpa using hb']
  exact Nat.lt_of_lt_of_le hb hB.size
theorem K8h {x y : GAddress} (h : x ≠ y) (h1 : Kg x y = false) : Kg y x = true := by
 cases h2 : Kg y x
 ·exact (h (totA x y (by rw [ltA]; exact h1) (by rw [ltA]; exact h2))).elim
 ·rfl
theorem K49 : Srt.Swo Kg := ⟨fun x y h => by simp only [Kg, decide_eq_true_eq, decide_eq_false_iff_not] at *; omega, fun x y z h1 => by simp only [Kg, decide_eq_true_eq] at *; omega⟩
def strictA (l : List GAddress) : Prop := l.Pairwise fun x y => Kg x y = true
theorem K67 {x : GAddress} : ∀ {l : List GAddress}, strictA l → x ∉ l → strictA (Srt.ins Kg x l)
 | [], _, _ => by simp [Srt.ins, strictA]
 | z :: zs, h, hx => by
  unfold strictA at h ⊢
  rw [List.pairwise_cons] at h
  have hne : x ≠ z := fun e => hx (by simp [e])
  simp only [Srt.ins]
  split
  ·rename_i k
   rw [List.pairwise_cons, List.pairwise_cons]
   refine ⟨fun y hy => ?_, h⟩
   rcases List.mem_cons.1 hy with rfl | hy
   ·exact k
   ·exact K49.tr k (h.1 y hy)
  ·rename_i k
   rw [List.pairwise_cons]
   refine ⟨fun y hy => ?_, K67 h.2 fun e => hx (by simp [e])⟩
   rcases Srt.mem_ins.1 hy with rfl | hy
   ·exact K8h hne (by simpa using k)
   ·exact h.1 y hy
theorem K71 : ∀ {l m : List GAddress}, strictA l → strictA m → (∀ x, x ∈ l ↔ x ∈ m) → l = m
 | [], [], _, _, _ => rfl
 | [], b :: m, _, _, h => by have := (h b).2 (by simp); simp at this
 | a :: l, [], _, _, h => by have := (h a).1 (by simp); simp at this
 | a :: l, b :: m, h1, h2, h => by
  unfold strictA at h1 h2
  rw [List.pairwise_cons] at h1 h2
  have hir : ∀ x, Kg x x = true → False := fun x hx => by have := K49.asy x x hx; simp_all
  have hab : a = b := by
   rcases List.mem_cons.1 ((h a).1 (by simp)) with e | e
   ·exact e
   ·rcases List.mem_cons.1 ((h b).2 (by simp)) with e2 | e2
    ·exact e2.symm
    ·exact (hir a (K49.tr (h1.1 b e2) (h2.1 a e))).elim
  subst hab
  congr 1
  refine K71 h1.2 h2.2 fun x => ⟨fun hx => ?_, fun hx => ?_⟩
  ·rcases List.mem_cons.1 ((h x).1 (by simp [hx])) with e | e
   ·subst e; exact (hir x (h1.1 x hx)).elim
   ·exact e
  ·rcases List.mem_cons.1 ((h x).2 (by simp [hx])) with e | e
   ·subst e; exact (hir x (h2.1 x hx)).elim
   ·exact e
def addA (out : List GAddress) (c : GCapture) : List GAddress := if c.Address ∈ out then out else Srt.ins Kg c.Address out
def uniA (out : List GAddress) (c : GCapture) : List GAddress := if c.Address ∈ out then out else out ++ [c.Address]
def addrsS (l : List GCapture) : List GAddress := l.foldl addA []
def addrsU (l : List GCapture) : List GAddress := l.foldl uniA []
theorem K4j : ∀ (l : List GCapture) (out : List GAddress), strictA out → strictA (l.foldl addA out) ∧ ∀ x, x ∈ l.foldl addA out ↔ x ∈ out ∨ x ∈ l.map fun c => c.Address
 | [], out, h => ⟨h, by simp⟩
 | c :: l, out, h => by
  have hz : strictA (addA out c) ∧ ∀ x, x ∈ addA out c ↔ x ∈ out ∨ x = c.Address := by
   unfold addA
   split
   ·rename_i k
    refine ⟨h, fun x => ⟨.inl, ?_⟩⟩
    rintro (k2 | rfl)
    ·exact k2
    ·exact k
   ·rename_i k
    refine ⟨K67 h k, fun x => ?_⟩
    rw [Srt.mem_ins]
    constructor <;> rintro (k | k) <;> simp [k]
  obtain ⟨h1, h2⟩ := K4j l (addA out c) hz.1
  refine ⟨h1, fun x => ?_⟩
  rw [List.foldl_cons, h2, hz.2, List.map_cons, List.mem_cons]
  constructor
  ·rintro ((k | k) | k) <;> simp [k]
  ·rintro (k | k | k) <;> simp [k]
theorem K5a : ∀ (l : List GCapture) (out : List GAddress), out.Nodup → (l.foldl uniA out).Nodup ∧ (∀ x, x ∈ l.foldl uniA out ↔ x ∈ out ∨ x ∈ l.map fun c => c.Address) ∧ (l.foldl uniA out).length ≤ out.length + l.length
 | [], out, h => ⟨h, by simp, by simp⟩
 | c :: l, out, h => by
  have hz : (uniA out c).Nodup ∧ (∀ x, x ∈ uniA out c ↔ x ∈ out ∨ x = c.Address) ∧ (uniA out c).length ≤ out.length + 1 := by
   unfold uniA
   split
   ·rename_i k
    refine ⟨h, fun x => ⟨.inl, ?_⟩, by omega⟩
    rintro (k2 | rfl)
    ·exact k2
    ·exact k
   ·rename_i k
    refine ⟨?_, fun x => by simp, by simp⟩
    rw [List.nodup_append]
    refine ⟨h, by simp, fun a ha b hb => ?_⟩
    rw [List.mem_singleton] at hb
    subst hb
    exact fun e => k (e ▸ ha)
  obtain ⟨h1, h2, h3⟩ := K5a l (uniA out c) hz.1
  refine ⟨h1, fun x => ?_, by simp only [List.foldl_cons, List.length_cons]; omega⟩
  rw [List.foldl_cons, h2, hz.2.1, List.map_cons, List.mem_cons]
  constructor
  ·rintro ((k | k) | k) <;> simp [k]
  ·rintro (k | k | k) <;> simp [k]
theorem K96 {l : List GAddress} (h : l.Nodup) : strictA (sortA l) := by
 have h1 := List.pairwise_mergeSort (le := fun x y : GAddress => !(ltOf cfA) y x) (fun a b c h1 h2 => by
  simp only [ltA, Bool.not_eq_true'] at *
  cases h3 : Kg c a
  ·rfl
  ·have := K49.ntr h2 h1
   simp_all) (fun a b => by
  simp only [ltA, Bool.or_eq_true, Bool.not_eq_true']
  cases h3 : Kg b a
  ·exact .inl rfl
  ·exact .inr (K49.asy _ _ h3)) l
 have h2 : (sortA l).Nodup := (List.mergeSort_perm _ _).nodup_iff.2 h
 unfold strictA
 refine (List.Pairwise.and h1 h2).imp fun {a b} hab => ?_
 refine K8h (fun e => hab.2 e.symm) ?_
 have := hab.1
 simpa [ltA] using this
theorem K9b (l : List GCapture) : sortA (addrsU l) = addrsS l := by
 obtain ⟨h1, h2, _⟩ := K5a l [] List.nodup_nil
 obtain ⟨h3, h4⟩ := K4j l [] List.Pairwise.nil
 refine K71 (K96 h1) h3 fun x => ?_
 exact (List.mergeSort_perm _ _).mem_iff.trans ((h2 x).trans (h4 x).symm)
theorem K9k {l : List GCapture} {k : Nat} {c : GCapture} (h : l[k]? = some c) : addrsS (l.take (k + 1)) = addA (addrsS (l.take k)) c := by
 rw [Ks h, addrsS, List.foldl_append]; rfl
theorem K9r {l : List GCapture} {k : Nat} {c : GCapture} (h : l[k]? = some c) : addrsU (l.take (k + 1)) = uniA (addrsU (l.take k)) c := by
 rw [Ks h, addrsU, List.foldl_append]; rfl
theorem K6w (l : List GCapture) : (addrsU l).length ≤ l.length := by
 have := (K5a l [] List.nodup_nil).2.2
 simpa [addrsU] using this
theorem K6z (l : List GCapture) : (addrsS l).length ≤ l.length := by
 rw [← K9b, K5i]; exact K6w l
end Go.Proofs.YtgkeplbnnjogiaaGreatR
namespace Go.Proofs.YtgkeplbnnjogiaaGreatR
open Go Go.RowKit Go.Proofs
open Nat (reduceEqDiff reduceLT reduceLeDiff reduceAdd reduceMul)
open List (reduceReplicate)
def K14 (a : GArchive) : List GAddress := addrsS (served a)
theorem K8u (a : GArchive) : (K14 a).length ≤ a.size := by
 have := K3e a
 have := K6z (served a)
 unfold K14
 omega
def M3v : MC :=
(Zs [.box 1 0 (.s 0), .nilo 2 1 3] [1] (Zs [.nilo 3 1 3] [1,3] (.seq (Zs [lT 6 10 1, .call 7 [2] (.f N1p) [.s 6], nS 8 7, .mv 9 (ci 0)] [3,7,8,9] (.block 0 (.loop ([3,7,8,9], [0,3,4]) (Zs [bS 10 .lss 9 8] [3,7,8,9,10] (.seq (cX 10 0)
(.seq (.block 1 (Zs [xS 11 9 7 9, lT 12 9 11, .alloc 5 3 [pz, pz, pz, pz, pz, .emp 1, pz, pz, pz], sS 9 5 12] [3,5,7,8,9] (Zs [mS 13 3, fS 14 5 0, lT 15 3 14, .call 16 [] (.f Na) [.s 13, .s 15], .un 17 .not (.s 16)] [3,5,7,8,9,17] (.cond (.s 17) (pr [mS 18 3, fS 19 5 0, lT 20 3 19, .lit 21 4 3 24 [.s 20], .app 22 1 3 24 (.s 18) (.s 21), mS 3 22] [3,7,8,9]) .skip))))
(pr [bC 23 .add 9 1, mS 9 23] [3,7,8,9])))))))
(Zs [mS 24 3, .callI 25 [] (.f Nb) [.s 24, .f N13] [1] []] [3] (Zs [mS 26 3, mS 2 26] [2] .ret)))))
theorem C3w (a : GArchive) (hs : a.size ≤ 268435456) : Ctr Tryz.prog N1e [aS a.enc] [rL 3 ((K14 a).map GAddress.enc)] := by
 refine cA M3v 5 27 [(.tmp 2, [true])] Tryz.func21 rfl rfl ?_; unfold M3v
 intro hb
 clear hb
 have hsv := K3e a
 simp only [go_sem]
 apply K0 (C7f a (by omega))
 simp only [go_sem]
 intros
 unfold K14
 generalize served a = l at *
 rw [← K9b]
 refine K5 l (fun k => [(3, .val false [.ref 1 0 3 0 (addrsU (l.take k)).length]), (9, vI k)]) (fun k => [(1, ⟨0, .row true 3 ((addrsU (l.take k)).map GAddress.enc)⟩)]) (fun _ => True) (by simp only [roomB]; omega) ?_
 simp only [go_sem]
 refine ⟨?_, trivial, ?_, ?_⟩
 ·simp only [go_sem, List.take_zero]
  exact ⟨rfl, rfl⟩
 ·intro k c hc _ h0 h1 hw
  have hul := K6w (l.take k)
  have hkl : (l.take k).length ≤ l.length := by rw [List.length_take]; omega
  have hst := K9r hc
  rw [hst]
  generalize addrsU (l.take k) = out at *
  simp only [go_sem, K7 hc, h0, h1]
  apply K0 (C59 out c.Address)
  simp only [go_sem, hw]
  refine ⟨fun hn => ?_, fun hy => ?_⟩
  ·have e : uniA out c = out ++ [c.Address] := by unfold uniA; rw [if_neg hn]
   rw [e]
   exact ⟨by simp only [roomB]; omega, by simp only [roomB]; omega, by simp, by simp [GAddress.enc]⟩
  ·have e : uniA out c = out := by unfold uniA; rw [if_pos hy]
   rw [e]
   exact ⟨rfl, rfl⟩
 ·intro _
  simp only [go_sem, List.take_length]
  apply K8 (C5a (addrsU l))
  simp only [go_sem]
  rw [K5i]
def M3x : MC :=
(Zs [.box 1 0 (.s 0), .nilo 2 1 3] [1] (Zs [.lit 8 1 3 24 [], mS 3 8] [1,3] (Zs [lT 9 10 1, .call 10 [2] (.f N1o) [.s 9], mS 4 10] [3,4] (.seq (Zs [.mv 5 (ci 0)] [3,4,5] (.block 0 (.loop ([3,4,5], [0,3,4,5]) (.seq (Zs [mS 11 5, mS 12 4, nS 13 12, bS 14 .lss 11 13] [3,4,5,14] (cX 14 0))
(.seq (.block 1 (Zs [mS 17 4, mS 18 5, xS 19 9 17 18, fS 20 19 0, lT 21 3 20, .alloc 6 3 [pz, pz, pz], sS 3 6 21] [3,4,5,6] (.seq (Zs [mS 22 3, lT 23 3 6, .call 24 [] (.f N86) [.s 22, .s 23]] [3,4,5,6,24] (.cond (.s 24) (.exit 1) .skip))
(Zs [mS 25 3, nS 26 25, mS 7 26] [3,4,5,6,7] (.seq (.block 2 (.loop ([3,4,5,6,7], [0,4,5]) (.seq (.seq (.dreg [Za (mS 27 7), Ze [0] (bC 28 .gtr 27 0), Ze [0,1] (mS 29 28), { o := lT 30 3 6, g := some (29, true), hs := [31,32,33,34,35], bf := [0,1,2] }, { o := mS 31 3, g := some (29, true), hs := [30,32,33], bf := [0,1,2] }, { o := mS 32 7, g := some (29, true), hs := [30,31], bf := [0,1,2] }, { o := bC 33 .sub 32 1, g := some (29, true), hs := [30,31], bf := [0,1,2,5] }, { o := xS 34 3 31 33, g := some (29, true), hs := [30], bf := [0,1,2,4,5,6] }, { o := lT 35 3 34, g := some (29, true), hs := [30], bf := [0,1,2,4,5,6,7] }, { o := .call 36 [] (.f N12) [.s 30, .s 35], g := some (29, true), bf := (.range 9) }, Ze (.range 10) (.pick 37 (.s 29) (.s 36) cF)] [3,4,5,6,7,37])
(cX 37 2))
(.block 3 (pr [mS 38 7, bC 39 .sub 38 1, mS 7 39] [3,4,5,6,7])))))
(.dreg [{ o := .lit 40 4 3 24 [], hs := [41,42,43,45,46,48,49,50], ho := [5], ws := [4] }, Zf [40,42,45,46,48,49,50] [4,5] (mS 41 3), Zf [40,41,45,46,48,49,50] [4,5] (mS 42 7), Zg [40,45,46,48,49,50] [4,5] [1,2] (.slc 43 3 (.s 41) none (some (.s 42)) none), { o := .app 44 4 3 24 (.s 40) (.s 43), hs := [45,46,48,49,50], ho := [5], ws := [4], bf := (.range 4) }, Zf [40,41,42,43,44,48,49,50] [4] (lT 45 3 6), { o := .lit 46 5 3 24 [.s 45], hs := [40,41,42,43,44,48,49,50], ho := [4], ws := [5], bf := [5] }, { o := .app 47 4 3 24 (.s 44) (.s 46), hs := [48,49,50], ws := [4], bf := (.range 7) }, Zf [40,41,42,43,44,45,46,47,49] [4,5] (mS 48 3), Zf [40,41,42,43,44,45,46,47,48] [4,5] (mS 49 7), Zg [40,41,42,43,44,45,46,47] [4,5] [8,9] (.slc 50 3 (.s 48) (some (.s 49)) none none), { o := .app 51 1 3 24 (.s 47) (.s 50), ws := [1,4], bf := (.range 11) }, Ze (.range 12) (mS 3 51)] [3,4,5]))))))
(pr [mS 15 5, bC 16 .add 15 1, mS 5 16] [3,4,5]))))))
(Zs [mS 52 3, mS 2 52] [2] .ret)))))
theorem C8s (a : GArchive) (hs : a.size ≤ 268435456) : Ctr Tryz.prog N34 [aS a.enc] [rL 3 ((K14 a).map GAddress.enc)] := by
 refine cA M3x 6 53 [(.tmp 2, [true])] Tryz.func20 rfl rfl ?_; unfold M3x
 intro hb
 clear hb
 have hsv := K3e a
 simp only [go_sem]
 apply K0 (C7g a (by omega))
 simp only [go_sem]
 intros
 unfold K14
 generalize served a = l at *
 refine K5 l (fun k => [(3, .val false [.ref 1 0 3 0 (addrsS (l.take k)).length]), (5, vI k)]) (fun k => [(1, ⟨0, .row true 3 ((addrsS (l.take k)).map GAddress.enc)⟩)]) (fun _ => True) (by simp only [roomB]; omega) ?_
 simp only [go_sem]
 refine ⟨?_, trivial, ?_, ?_⟩
 ·simp only [go_sem, List.take_zero]
  exact ⟨rfl, rfl⟩
 ·intro i c hx _ h0 h1 hw
  have hi := Ke hx
  have hol : (addrsS (l.take i)).length ≤ l.length := Nat.le_trans (K6z _) (by rw [List.length_take]; omega)
  have hsr : Srt.srt Kg (addrsS (l.take i)) := (K4j (l.take i) [] List.Pairwise.nil).1.imp fun {a b} h => K49.asy a b h
  have hst := K9k hx
  rw [hst]
  generalize addrsS (l.take i) = out at *
  clear hst
  obtain ⟨y, hy⟩ : ∃ y, y = c.Address := ⟨_, rfl⟩
  simp only [go_sem, K7 hx, h0, h1]
  apply K0 (Cag out c.Address)
  simp only [go_sem, hw]
  refine ⟨fun hc => ?_, fun hc => ?_⟩
  ·have e : addA out c = out := by unfold addA; rw [if_pos (by simpa using hc)]
   rw [e]
   exact ⟨rfl, rfl⟩
  ·have e : addA out c = Srt.ins Kg c.Address out := by unfold addA; rw [if_neg (by simpa using hc)]
   rw [e]
   refine K1c (fun n : Nat => [(7, vI n)]) (fun n => []) (fun n => n ≤ out.length ∧ ∀ z ∈ out.drop n, Kg c.Address z = true) (fun n => n) out.length ?_
   simp only [go_sem]
   refine ⟨?_, ⟨Nat.le_refl _, by simp⟩, ?_⟩
   ·simp only [go_sem]
   ·rintro n ⟨hn1, hn2⟩
    simp only [go_sem]
    refine ⟨fun hpos => ?_, fun hzero => ?_⟩
    ·obtain ⟨m, hm⟩ : ∃ m, m = n - 1 := ⟨_, rfl⟩
     obtain ⟨z, hz⟩ := Ki (show m < out.length by omega)
     have e1 : IntKind.i64.wrap ((n : Int) - 1) = (m : Int) := by rw [wI (by omega) (by omega)]; omega
     rw [e1]
     simp only [go_sem, K7 hz]
     refine ⟨⟨by omega, by omega⟩, ?_⟩
     apply K0 (C22 c.Address z)
     simp only [go_sem]
     rw [e1]
     refine ⟨fun ht => ⟨m, rfl, ⟨by omega, ?_⟩, by omega⟩, fun hf => ?_⟩
     ·rw [hm]
      exact Srt.drop_step (by omega) (hm ▸ hz) hn2 ht
     ·have hstop : n = 0 ∨ ∃ y', out[n - 1]? = some y' ∧ Kg c.Address y' = false := .inr ⟨z, hm ▸ hz, hf⟩
      rw [cutA hn1]
      refine ⟨by omega, by omega, ?_⟩
      have hA : (out.take n).length = n := by rw [List.length_take]; omega
      have hB : out.length = n + (out.drop n).length := by rw [List.length_drop]; omega
      have eC := cutB (f := GAddress.enc) hn1
      have e5 : List.map GAddress.enc (out.take n) ++ [[T.sc (Value.int IntKind.i64 c.Address.Host), T.sc (Value.int IntKind.i64 c.Address.Path), T.sc (Value.int IntKind.i64 c.Address.Query)]] = (out.take n ++ [c.Address]).map GAddress.enc := by simp [GAddress.enc]
      have e6 : ((out.take n ++ [c.Address]).map GAddress.enc).length = (out.take n).length + 1 := by simp
      simp only [go_sem, ↓K2h (f := GAddress.enc) (fun _ => rfl) (out.take n), ↓eC, ↓e5, ↓e6, ↓K2h (f := GAddress.enc) (fun _ => rfl) (out.drop n)]
      rw [Srt.ins_at K49 hsr hn2 hstop]
      simp only [roomB]
      exact ⟨by omega, by omega, by omega, ⟨by omega, by omega, by omega⟩, by omega, by omega, ⟨by simp only [List.length_append, List.length_cons, List.length_nil], hw⟩, by rw [← List.map_append]⟩
    ·have hstop : n = 0 ∨ ∃ y', out[n - 1]? = some y' ∧ Kg c.Address y' = false := .inl (by omega)
     rw [cutA hn1]
     refine ⟨by omega, by omega, ?_⟩
     have hA : (out.take n).length = n := by rw [List.length_take]; omega
     have hB : out.length = n + (out.drop n).length := by rw [List.length_drop]; omega
     have eC := cutB (f := GAddress.enc) hn1
     have e5 : List.map GAddress.enc (out.take n) ++ [[T.sc (Value.int IntKind.i64 c.Address.Host), T.sc (Value.int IntKind.i64 c.Address.Path), T.sc (Value.int IntKind.i64 c.Address.Query)]] = (out.take n ++ [c.Address]).map GAddress.enc := by simp [GAddress.enc]
     have e6 : ((out.take n ++ [c.Address]).map GAddress.enc).length = (out.take n).length + 1 := by simp
     simp only [go_sem, ↓K2h (f := GAddress.enc) (fun _ => rfl) (out.take n), ↓eC, ↓e5, ↓e6, ↓K2h (f := GAddress.enc) (fun _ => rfl) (out.drop n)]
     rw [Srt.ins_at K49 hsr hn2 hstop]
     simp only [roomB]
     exact ⟨by omega, by omega, by omega, ⟨by omega, by omega, by omega⟩, by omega, by omega, ⟨by simp only [List.length_append, List.length_cons, List.length_nil], hw⟩, by rw [← List.map_append]⟩
 ·intro _
  simp only [go_sem, List.take_length]
end Go.Proofs.YtgkeplbnnjogiaaGreatR
namespace Go.Proofs.YtgkeplbnnjogiaaGreatR
open Go Go.RowKit Go.Proofs
open Nat (reduceEqDiff reduceLT reduceLeDiff reduceAdd reduceMul)
open List (reduceReplicate)
def M1d : MC :=
(Zs [.box 1 0 (.s 0), .mv 2 cF] [1] (Zs [.mv 3 (ci 1048576)] [1,3] (Zs [lT 11 10 1, mS 12 3, .call 13 [] (.f N5b) [.s 11, .s 12], mS 3 13] [1,3] (.seq (Zs [mS 14 3, bC 15 .lss 14 0] [1,15] (.cond (.s 15) (Zs [.mv 2 cT] [2] .ret) .skip))
(Zs [lT 16 10 1, .call 17 [1, 2, 3, 4, 5, 6, 7, 8, 9] (.f Nt) [.s 16], .call 18 [10] (.f N34) [.s 17], mS 4 18] [1,4] (Zs [lT 19 10 1, .call 20 [11, 12, 13, 14, 15, 16, 17, 18, 19] (.f Nt) [.s 19], .alloc 5 20 [.emp 9, .emp 4, .emp 4, .emp 6, .emp 4, .emp 5, .emp 4, .emp 1, .emp 4, pz], sS 10 5 20] [1,4,5] (Zs [lT 21 10 5, .call 22 [21] (.f N1e) [.s 21], mS 6 22] [1,4,5,6] (.seq (Zs [mS 23 6, mS 24 4, .call 25 [] (.f Nz) [.s 23, .s 24], .un 26 .not (.s 25)] [1,4,5,6,26] (.cond (.s 26) (Zs [.mv 2 cF] [2] .ret) .skip))
(.seq (.seq (.dreg [Zf [28,29] [22,23,24,25,26,27,28,29,30] (lT 27 10 5), Zc [27] (lT 28 10 1), { o := .call 29 [22, 23, 24, 25, 26, 27, 28, 29, 30] (.f Nt) [.s 28], hs := [27], ws := [22,23,24,25,26,27,28,29,30], bf := [1] }, Ze [0,1,2] (.call 30 [] (.f N5c) [.s 27, .s 29]), Ze (.range 4) (.un 31 .not (.s 30))] [1,4,5,6,31])
(.cond (.s 31) (Zs [.mv 2 cF] [2] .ret) .skip))
(Zs [.mv 7 (ci 1)] [1,4,5,6,7] (Zs [lT 32 10 5, mS 33 7, .callI 34 [] (.f N35) [.s 32, .s 33] [11,12,13,14,15,16,17,18,19] [], mS 7 34] [1,4,6,7] (.seq (.seq (.reg [Za (mS 35 7), Za (bC 36 .lss 35 0), Za (mS 37 36), Zb 37 false (mS 38 6), Zb 37 false (mS 39 4), Zb 37 false (.call 40 [] (.f Nz) [.s 38, .s 39]), Zb 37 false (.un 41 .not (.s 40)), Za (.pick 42 (.s 37) cT (.s 41))] [1,4,6,42])
(.cond (.s 42) (Zs [.mv 2 cF] [2] .ret) .skip))
(Zs [.mv 8 (ci 1)] [1,4,6,8] (Zs [mS 43 6, mS 44 8, .callI 45 [] (.f N23) [.s 43, .s 44] [21] [], mS 8 45] [1,4,6,8] (Zs [.mv 9 (ci 1)] [1,4,6,8,9] (Zs [mS 46 6, mS 47 9, .call 48 [] (.f N16) [.s 46, .s 47], mS 9 48] [1,4,6,8,9] (.seq (Zs [mS 49 9, bC 50 .lss 49 0] [1,4,6,8,9,50] (.cond (.s 50) (Zs [.mv 2 cF] [2] .ret) .skip))
(.seq (Zs [mS 51 9, mS 52 8, bS 53 .neq 51 52] [1,4,6,8,53] (.cond (.s 53) (Zs [.mv 2 cF] [2] .ret) .skip))
(Zs [lT 54 10 1, .call 55 [31, 32, 33, 34, 35, 36, 37, 38, 39] (.f Nt) [.s 54], .call 56 [40] (.f N1e) [.s 55], mS 10 56] [4,6,8,10] (.seq (Zs [mS 57 10, mS 58 4, .call 59 [] (.f Nz) [.s 57, .s 58], .un 60 .not (.s 59)] [6,8,60] (.cond (.s 60) (Zs [.mv 2 cF] [2] .ret) .skip))
(Zs [.mv 9 (ci 1)] [6,8,9] (Zs [mS 61 6, mS 62 9, .call 63 [] (.f N16) [.s 61, .s 62], mS 9 63] [8,9] (.seq (Zs [mS 64 9, bC 65 .lss 64 0] [8,9,65] (.cond (.s 65) (Zs [.mv 2 cF] [2] .ret) .skip))
(.seq (Zs [mS 66 9, mS 67 8, bS 68 .neq 66 67] [68] (.cond (.s 68) (Zs [.mv 2 cF] [2] .ret) .skip))
(Zs [.mv 2 cT] [2] .ret)))))))))))))))))))))))))
theorem c_laws_FnExactAddressesOf (a : GArchive) : Ctr Tryz.prog N58 [aS a.enc] [rB true] := by
 refine cA M1d 41 69 [(.tmp 2, [false])] Tryz.func5 rfl rfl ?_; unfold M1d
 intro hb
 clear hb
 simp only [go_sem]
 apply K0 (C9n a _ (by omega))
 simp only [go_sem]
 intro _ hz
 have hs := szr_ok hz
 have hc_a := GArchive.cts_le a
 have hr0 := ctL_le' (c := GAddress.ct) (fun y => by simp only [GAddress.ct]; omega) (K14 a)
 have hl_addrsOf_size := K8u a
 apply K0 (C15 a (by omega))
 simp only [go_sem]
 try intros
 apply K0 (C8s a (by omega))
 simp only [go_sem]
 try intros
 apply K0 (C15 a (by omega))
 simp only [go_sem]
 try intros
 apply K0 (C3w a (by omega))
 simp only [go_sem]
 try intros
 apply K0 (C1h (K14 a) (K14 a))
 simp only [go_sem]
 try intros
 apply K0 (C15 a (by omega))
 simp only [go_sem]
 try intros
 apply K0 (C9o a a)
 simp only [go_sem]
 try intros
 apply K8 (C8k a (1) (by omega) (by omega))
 simp only [go_sem]
 try intros
 have hk : ¬ ((1 + ((a).cts : Nat) : Int)) < 0 := by omega
 simp only [go_sem, hk]
 try intros
 apply K0 (C1h (K14 a) (K14 a))
 simp only [go_sem]
 try intros
 apply K8 (C80 (K14 a) (1) (by omega) (by omega))
 simp only [go_sem]
 try intros
 apply K0 (C2u (K14 a) (1) (by omega) (by omega))
 simp only [go_sem]
 have hq0 : ¬ ((1 + (ctL GAddress.ct (K14 a) : Nat) : Int)) < 0 := by omega
 try simp only [go_sem, hq0]
 try intros
 apply K0 (C15 a (by omega))
 simp only [go_sem]
 try intros
 apply K0 (C3w a (by omega))
 simp only [go_sem]
 try intros
 apply K0 (C1h (K14 a) (K14 a))
 simp only [go_sem]
 try intros
 apply K0 (C2u (K14 a) (1) (by omega) (by omega))
 simp only [go_sem]
 have hq0 : ¬ ((1 + (ctL GAddress.ct (K14 a) : Nat) : Int)) < 0 := by omega
 try simp only [go_sem, hq0]
 try intros
end Go.Proofs.YtgkeplbnnjogiaaGreatR
