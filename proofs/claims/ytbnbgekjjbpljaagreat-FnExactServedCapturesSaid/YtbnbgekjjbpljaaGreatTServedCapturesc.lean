/- What the functions compute that the law of ServedCaptures reaches: contracts, function by function. Conditions stand in each theorem. -/
import Derived.Test.YtbnbgekjjbpljaaGreatTServedCapturesb
namespace Go.Proofs.YtbnbgekjjbpljaaGreatR
open Go Go.RowKit Go.Proofs
set_option linter.unusedSimpArgs false
set_option linter.unusedVariables false
namespace Srt
variable {α : Type} {lt : α → α → Bool}
/-- k blocks of s elements, each sorted; the rest as it was. -/
def blks (lt : α → α → Bool) (s : Nat) : Nat → List α → List α
  | 0, l => l
  | k + 1, l => isort lt (l.take s) ++ blks lt s k (l.drop s)
theorem len_blks {s : Nat} : ∀ {k : Nat} {l : List α}, (blks lt s k l).length = l.length
  | 0, l => rfl
  | k + 1, l => by
    simp only [blks, List.length_append, len_isort, len_blks, List.length_take, List.length_drop]; omega
/-- Blocks that are sorted, and the rest. -/
theorem blks_split {s : Nat} : ∀ {k : Nat} {l : List α}, k * s ≤ l.length → blks lt s k l = (blks lt s k (l.take (k * s))) ++ l.drop (k * s)
  | 0, l, _ => by simp [blks]
  | k + 1, l, h => by
    rw [Nat.succ_mul] at h
    simp only [blks]
    rw [blks_split (k := k) (l := l.drop s) (by simp; omega), List.append_assoc]
    congr 1
    · rw [List.take_take, Nat.min_eq_left (by rw [Nat.succ_mul]; omega)]
    · rw [List.drop_drop, List.drop_take, show (k + 1) * s - s = k * s by rw [Nat.succ_mul]; omega, show s + k * s = (k + 1) * s by rw [Nat.succ_mul]; omega]
/-- One block more. -/
theorem blks_snoc {s : Nat} : ∀ {k : Nat} {l : List α}, (k + 1) * s ≤ l.length → ∃ A, A.length = k * s ∧ blks lt s k l = A ++ ((l.drop (k * s)).take s ++ l.drop ((k + 1) * s)) ∧ blks lt s (k + 1) l = A ++ (isort lt ((l.drop (k * s)).take s) ++ l.drop ((k + 1) * s))
  | 0, l, h => ⟨[], by simp, by simp [blks], by simp [blks]⟩
  | k + 1, l, h => by
    have h' : (k + 1) * s ≤ (l.drop s).length := by
      rw [Nat.succ_mul] at h
      simp only [List.length_drop]; omega
    obtain ⟨A, hA, e1, e2⟩ := blks_snoc (k := k) (l := l.drop s) h'
    have d1 : s + k * s = (k + 1) * s := by rw [Nat.succ_mul]; omega
    have d2 : s + (k + 1) * s = (k + 1 + 1) * s := by rw [Nat.succ_mul (k + 1)]; omega
    have hs : s ≤ l.length := by rw [Nat.succ_mul] at h; omega
    refine ⟨isort lt (l.take s) ++ A, ?_, ?_, ?_⟩
    · rw [List.length_append, len_isort, List.length_take, Nat.min_eq_left hs, hA, d1]
    · rw [blks, e1, List.drop_drop, List.drop_drop, d1, d2, List.append_assoc]
    · rw [blks, e2, List.drop_drop, List.drop_drop, d1, d2, List.append_assoc]
/-- The last block, shorter than s. -/
theorem blks_last {s : Nat} : ∀ {k : Nat} {l : List α}, k * s ≤ l.length → l.length < (k + 1) * s → ∃ A, A.length = k * s ∧ blks lt s k l = A ++ l.drop (k * s) ∧ blks lt s (k + 1) l = A ++ isort lt (l.drop (k * s))
  | 0, l, _, h => by
    have h' : l.length ≤ s := by omega
    exact ⟨[], by simp, by simp [blks], by simp [blks, List.take_of_length_le h', List.drop_of_length_le h']⟩
  | k + 1, l, h0, h => by
    have d1 : s + k * s = (k + 1) * s := by rw [Nat.succ_mul]; omega
    have d2 : s + (k + 1) * s = (k + 1 + 1) * s := by rw [Nat.succ_mul (k + 1)]; omega
    have h1 : k * s + s ≤ l.length := by rw [← Nat.succ_mul]; exact h0
    have h2 : l.length < k * s + s + s := by rw [← Nat.succ_mul, ← Nat.succ_mul]; exact h
    obtain ⟨A, hA, e1, e2⟩ := blks_last (k := k) (l := l.drop s) (Nat.le_trans (Nat.le_sub_of_add_le h1) (by rw [List.length_drop]; exact Nat.le_refl _)) (by rw [List.length_drop, Nat.succ_mul]; exact Nat.sub_lt_right_of_lt_add (Nat.le_trans (Nat.le_add_left _ _) h1) h2)
    have hs : s ≤ l.length := Nat.le_trans (Nat.le_add_left _ _) h1
    refine ⟨isort lt (l.take s) ++ A, ?_, ?_, ?_⟩
    · rw [List.length_append, len_isort, List.length_take, Nat.min_eq_left hs, hA, d1]
    · rw [blks, e1, List.drop_drop, d1, List.append_assoc]
    · rw [blks, e2, List.drop_drop, d1, List.append_assoc]
theorem blk_le {s : Nat} {l : List α} (h : l.length ≤ s) : blk lt s l = isort lt l := by
  rw [blk, dif_pos (.inr h)]
theorem blk_eq {s : Nat} {l : List α} : blk lt s l = isort lt (l.take s) ++ blk lt s (l.drop s) := by
  by_cases h : s = 0 ∨ l.length ≤ s
  · rcases h with rfl | h
    · simp [isort, mrg]
    · rw [blk_le h, List.take_of_length_le h, List.drop_of_length_le h, blk_le (by simp)]
      simp [isort, mrg]
  · rw [blk, dif_neg h]
theorem len_blk {s : Nat} : ∀ {n : Nat} {l : List α}, l.length ≤ n → (blk lt s l).length = l.length
  | 0, l, h => by rw [blk_le (by omega), len_isort]
  | n + 1, l, h => by
    by_cases h2 : s = 0 ∨ l.length ≤ s
    · rw [blk, dif_pos h2, len_isort]
    · rw [blk_eq, List.length_append, len_isort, len_blk (n := n) (by simp only [List.length_drop]; omega), List.length_take, List.length_drop]
      omega
theorem blks_blk {s : Nat} : ∀ {k : Nat} {l : List α}, k * s ≤ l.length → l.length < (k + 1) * s → blks lt s (k + 1) l = blk lt s l
  | 0, l, _, h => by
    have h' : l.length ≤ s := by omega
    rw [blk_le h']
    simp [blks, List.take_of_length_le h', List.drop_of_length_le h']
  | k + 1, l, h0, h => by
    rw [Nat.succ_mul] at h0 h
    rw [blks, blk_eq, blks_blk (k := k) (l := l.drop s) (by rw [List.length_drop]; omega) (by rw [List.length_drop]; omega)]
/-- k double blocks sorted, the rest in blocks. -/
def mix (lt : α → α → Bool) (s : Nat) : Nat → List α → List α
  | 0, l => blk lt s l
  | k + 1, l => isort lt (l.take (2 * s)) ++ mix lt s k (l.drop (2 * s))
theorem len_mix {s : Nat} : ∀ {k : Nat} {l : List α}, (mix lt s k l).length = l.length
  | 0, l => len_blk (Nat.le_refl _)
  | k + 1, l => by
    rw [mix, List.length_append, len_isort, len_mix, List.length_take, List.length_drop]; omega
theorem mix_step (hw : Swo lt) {s : Nat} : ∀ {k : Nat} {l : List α}, k * (2 * s) + 2 * s ≤ l.length → ∃ P X Y Q, P.length = k * (2 * s) ∧ X.length = s ∧ Y.length = s ∧ srt lt X ∧ srt lt Y ∧ mix lt s k l = P ++ X ++ Y ++ Q ∧ mix lt s (k + 1) l = P ++ mrg lt X Y ++ Q
  | 0, l, h => by
    refine ⟨[], isort lt (l.take s), isort lt ((l.drop s).take s), blk lt s (l.drop (2 * s)), by simp, ?_, ?_, srt_isort hw _, srt_isort hw _, ?_, ?_⟩
    · rw [len_isort, List.length_take]; omega
    · rw [len_isort, List.length_take, List.length_drop]; omega
    · rw [mix, blk_eq, blk_eq (l := l.drop s), List.drop_drop, show s + s = 2 * s by omega]
      simp
    · rw [← isort_append hw, mix, mix, List.nil_append, ← List.take_add, show s + s = 2 * s by omega]
  | k + 1, l, h => by
    have e : (k + 1) * (2 * s) = k * (2 * s) + 2 * s := Nat.succ_mul ..
    rw [e] at h
    obtain ⟨P, X, Y, Q, h1, h2, h3, h4, h5, h6, h7⟩ := mix_step hw (s := s) (k := k) (l := l.drop (2 * s)) (by rw [List.length_drop]; omega)
    refine ⟨isort lt (l.take (2 * s)) ++ P, X, Y, Q, ?_, h2, h3, h4, h5, ?_, ?_⟩
    · rw [List.length_append, len_isort, h1, List.length_take, e]; omega
    · rw [mix, h6]; simp
    · rw [mix, h7]; simp
theorem mix_end (hw : Swo lt) {s : Nat} : ∀ {k : Nat} {l : List α}, k * (2 * s) ≤ l.length → l.length < k * (2 * s) + 2 * s →
    (k * (2 * s) + s < l.length → ∃ P X Y, P.length = k * (2 * s) ∧ X.length = s ∧ k * (2 * s) + s + Y.length = l.length ∧ srt lt X ∧ srt lt Y ∧ mix lt s k l = P ++ X ++ Y ∧ blk lt (2 * s) l = P ++ mrg lt X Y) ∧
    (l.length ≤ k * (2 * s) + s → mix lt s k l = blk lt (2 * s) l)
  | 0, l, h0, h => by
    refine ⟨fun h1 => ⟨[], isort lt (l.take s), isort lt (l.drop s), by simp, ?_, ?_, srt_isort hw _, srt_isort hw _, ?_, ?_⟩, fun h1 => ?_⟩
    · rw [len_isort, List.length_take]; omega
    · rw [len_isort, List.length_drop]; omega
    · rw [mix, blk_eq, blk_le (l := l.drop s) (by rw [List.length_drop]; omega), List.nil_append]
    · rw [← isort_append hw, List.take_append_drop, blk_le (by omega), List.nil_append]
    · rw [mix, blk_le (by omega), blk_le (by omega)]
  | k + 1, l, h0, h => by
    have e : (k + 1) * (2 * s) = k * (2 * s) + 2 * s := Nat.succ_mul ..
    rw [e] at h h0
    obtain ⟨i1, i2⟩ := mix_end hw (s := s) (k := k) (l := l.drop (2 * s)) (by rw [List.length_drop]; omega) (by rw [List.length_drop]; omega)
    rw [List.length_drop] at i1 i2
    rw [e]
    refine ⟨fun h1 => ?_, fun h1 => ?_⟩
    · obtain ⟨P, X, Y, h1, h2, h3, h4, h5, h6, h7⟩ := i1 (by omega)
      refine ⟨isort lt (l.take (2 * s)) ++ P, X, Y, ?_, h2, by omega, h4, h5, ?_, ?_⟩
      · rw [List.length_append, len_isort, h1, List.length_take]; omega
      · rw [mix, h6]; simp
      · rw [blk_eq, h7]; simp
    · rw [mix, i2 (by omega), ← blk_eq]
end Srt
def m_slices_stableCmpFunc_impl_Found : MC :=
(.seq (pr [.mv 6 (.c (.int .i64 20))] [0,1,2,6])
(.seq (pr [.mv 10 (.s 6), .mv 7 (.c (.int .i64 0)), .mv 8 (.s 10)] [0,1,2,6,7,8])
(.seq (.block 0 (.loop ([0,1,2,6,7,8], []) (.seq (.seq (pr [.mv 11 (.s 8), .mv 12 (.s 1), .bin 13 false .leq (.s 11) (.s 12)] [0,1,2,6,7,8,13])
(.cond (.s 13) .skip (.exit 0)))
(.block 1 (.seq (pr [.mv 14 (.s 0), .mv 15 (.s 7), .mv 16 (.s 8), .mv 17 (.s 2), .callI 18 [] (.f n_slices_insertionSortCmpFunc_impl_Found) [.s 14, .s 15, .s 16, .s 17] [0] []] [0,1,2,6,8])
(.seq (pr [.mv 19 (.s 8), .mv 7 (.s 19)] [0,1,2,6,7,8])
(pr [.mv 20 (.s 8), .mv 21 (.s 6), .bin 22 false .add (.s 20) (.s 21), .mv 8 (.s 22)] [0,1,2,6,7,8])))))))
(.seq (pr [.mv 23 (.s 0), .mv 24 (.s 7), .mv 25 (.s 1), .mv 26 (.s 2), .callI 27 [] (.f n_slices_insertionSortCmpFunc_impl_Found) [.s 23, .s 24, .s 25, .s 26] [0] []] [0,1,2,6])
(.block 2 (.loop ([0,1,2,6], []) (.seq (.seq (pr [.mv 28 (.s 6), .mv 29 (.s 1), .bin 30 false .lss (.s 28) (.s 29)] [0,1,2,6,30])
(.cond (.s 30) .skip (.exit 2)))
(.block 3 (.seq (pr [.mv 31 (.s 6), .bin 32 false .mul (.c (.int .i64 2)) (.s 31), .mv 7 (.c (.int .i64 0)), .mv 8 (.s 32)] [0,1,2,6,7,8])
(.seq (.block 4 (.loop ([0,1,2,6,7,8], []) (.seq (.seq (pr [.mv 33 (.s 8), .mv 34 (.s 1), .bin 35 false .leq (.s 33) (.s 34)] [0,1,2,6,7,8,35])
(.cond (.s 35) .skip (.exit 4)))
(.block 5 (.seq (pr [.mv 36 (.s 0), .mv 37 (.s 7), .mv 38 (.s 7), .mv 39 (.s 6), .bin 40 false .add (.s 38) (.s 39), .mv 41 (.s 8), .mv 42 (.s 2), .callI 43 [] (.f n_slices_symMergeCmpFunc_impl_Found) [.s 36, .s 37, .s 40, .s 41, .s 42] [0] []] [0,1,2,6,8])
(.seq (pr [.mv 44 (.s 8), .mv 7 (.s 44)] [0,1,2,6,7,8])
(pr [.mv 45 (.s 8), .mv 46 (.s 6), .bin 47 false .mul (.c (.int .i64 2)) (.s 46), .bin 48 false .add (.s 45) (.s 47), .mv 8 (.s 48)] [0,1,2,6,7,8])))))))
(.seq (.seq (pr [.mv 49 (.s 7), .mv 50 (.s 6), .bin 51 false .add (.s 49) (.s 50), .mv 9 (.s 51)] [0,1,2,6,7,9])
(.seq (pr [.mv 52 (.s 9), .mv 53 (.s 1), .bin 54 false .lss (.s 52) (.s 53)] [0,1,2,6,7,9,54])
(.cond (.s 54) (pr [.mv 55 (.s 0), .mv 56 (.s 7), .mv 57 (.s 9), .mv 58 (.s 1), .mv 59 (.s 2), .callI 60 [] (.f n_slices_symMergeCmpFunc_impl_Found) [.s 55, .s 56, .s 57, .s 58, .s 59] [0] []] [0,1,2,6]) .skip)))
(pr [.mv 61 (.s 6), .bin 62 false .mul (.s 61) (.c (.int .i64 2)), .mv 6 (.s 62)] [0,1,2,6]))))))))))))
set_option maxHeartbeats 4000000 in
theorem c_slices_stableCmpFunc (X : List GFound) (f : FuncId) (c : GFound → GFound → Int) (hc : ∀ x y, Ctr Tryz.prog f [aS x.enc, aS y.enc] [rI (c x y)]) (hw : Srt.Swo (ltc c)) : CtrI Tryz.prog n_slices_stableCmpFunc_impl_Found [oL 6 (X.map GFound.enc), iI X.length, fI f] [some (6, (Srt.isort (ltc c) X).map GFound.enc)] [] := by
  refine ctrI_at (M := m_slices_stableCmpFunc_impl_Found) (m := 0) (n := 63) (res := []) hmix Tryz.func196 rfl (by kernel_rfl) rfl (by kernel_rfl) (by kernel_rfl) (Nat.le_of_ble_eq_true rfl) rfl rfl ?_; unfold m_slices_stableCmpFunc_impl_Found
  intro hbd
  have hl := len_of_bd hbd
  clear hbd
  simp only [roomB] at hl
  simp only [↓bk_bind, ↓bk_map, ↓bk_ite, ↓bk_some, ↓reduceIte, Nat.reduceEqDiff, Nat.reduceLT, Nat.reduceLeDiff, Nat.reduceAdd, Nat.reduceMul, reduceCtorEq, List.reduceReplicate, go_sem]
  refine loopK_up (fun k : Nat => [(7, vI ((k * 20 : Nat) : Int)), (8, vI (((k + 1) * 20 : Nat) : Int))]) (fun k => [(0, ⟨1, .row true 6 ((Srt.blks (ltc c) 20 k X).map GFound.enc)⟩)]) (fun k => k * 20 ≤ X.length) (fun k => X.length - k * 20) 0 ?_
  simp only [↓bk_bind, ↓bk_map, ↓bk_ite, ↓bk_some, ↓reduceIte, Nat.reduceEqDiff, Nat.reduceLT, Nat.reduceLeDiff, Nat.reduceAdd, Nat.reduceMul, reduceCtorEq, List.reduceReplicate, go_sem, Srt.len_blks]
  refine ⟨?_, by omega, ?_⟩
  · simp only [↓bk_bind, ↓bk_map, ↓bk_ite, ↓bk_some, ↓reduceIte, Nat.reduceEqDiff, Nat.reduceLT, Nat.reduceLeDiff, Nat.reduceAdd, Nat.reduceMul, reduceCtorEq, List.reduceReplicate, go_sem]
    exact ⟨rfl, rfl⟩
  · intro k hk
    simp only [↓bk_bind, ↓bk_map, ↓bk_ite, ↓bk_some, ↓reduceIte, Nat.reduceEqDiff, Nat.reduceLT, Nat.reduceLeDiff, Nat.reduceAdd, Nat.reduceMul, reduceCtorEq, List.reduceReplicate, go_sem, Srt.len_blks]
    refine ⟨fun hlt => ?_, fun hge => ?_⟩
    · obtain ⟨A, hA, e1, e2⟩ := Srt.blks_snoc (lt := ltc c) (s := 20) (k := k) (l := X) (by omega)
      have g1 := congrArg List.length e1
      have g2 := congrArg List.length e2
      rw [Srt.len_blks] at g1 g2
      rw [← List.append_assoc] at e1 e2 g1 g2
      rw [e1]
      apply callIK_of (c_slices_insertionSortCmpFunc A _ _ f c hc hw hA (by simp [hA]; omega))
      have w1 : IntKind.i64.wrap ((((k + 1) * 20 : Nat) : Int) + 20) = (((k + 1 + 1) * 20 : Nat) : Int) := by
        rw [wI (by omega) (by omega)]; omega
      simp only [↓bk_bind, ↓bk_map, ↓bk_ite, ↓bk_some, ↓reduceIte, Nat.reduceEqDiff, Nat.reduceLT, Nat.reduceLeDiff, Nat.reduceAdd, Nat.reduceMul, reduceCtorEq, List.reduceReplicate, go_sem, g1.symm, g2.symm, w1]
      exact ⟨k + 1, ⟨⟨rfl, rfl⟩, by rw [e2]⟩, by omega, by omega⟩
    · obtain ⟨A, hA, e1, e2⟩ := Srt.blks_last (lt := ltc c) (s := 20) (k := k) (l := X) (by omega) (by omega)
      have g1 := congrArg List.length e1
      have g2 := congrArg List.length e2
      rw [Srt.len_blks] at g1 g2
      have e1' : A ++ X.drop (k * 20) = A ++ X.drop (k * 20) ++ [] := by simp
      rw [e1, e1']
      apply callIK_of (c_slices_insertionSortCmpFunc A _ [] f c hc hw hA (by simp [hA]; omega))
      rw [List.append_nil, ← e2]
      rw [Srt.blks_blk (by omega) (by omega)]
      simp only [↓bk_bind, ↓bk_map, ↓bk_ite, ↓bk_some, ↓reduceIte, Nat.reduceEqDiff, Nat.reduceLT, Nat.reduceLeDiff, Nat.reduceAdd, Nat.reduceMul, reduceCtorEq, List.reduceReplicate, go_sem, g1.symm, g2.symm, Srt.len_blk (Nat.le_refl X.length)]
      refine loopK_up (fun s : Nat => [(6, vI (s : Int))]) (fun s => [(0, ⟨1, .row true 6 ((Srt.blk (ltc c) s X).map GFound.enc)⟩)]) (fun s => 0 < s ∧ s ≤ 2 * X.length + 20) (fun s => X.length - s) 20 ?_
      simp only [↓bk_bind, ↓bk_map, ↓bk_ite, ↓bk_some, ↓reduceIte, Nat.reduceEqDiff, Nat.reduceLT, Nat.reduceLeDiff, Nat.reduceAdd, Nat.reduceMul, reduceCtorEq, List.reduceReplicate, go_sem, Srt.len_blk (Nat.le_refl X.length)]
      refine ⟨?_, ⟨by omega, by omega⟩, ?_⟩
      · simp only [↓bk_bind, ↓bk_map, ↓bk_ite, ↓bk_some, ↓reduceIte, Nat.reduceEqDiff, Nat.reduceLT, Nat.reduceLeDiff, Nat.reduceAdd, Nat.reduceMul, reduceCtorEq, List.reduceReplicate, go_sem]
        first | rfl | exact ⟨rfl, rfl⟩
      · rintro s ⟨hs0, hs1⟩
        clear e1' e1 e2 g1 g2 hA A hge hk
        have w2 : IntKind.i64.wrap (2 * (s : Int)) = ((2 * s : Nat) : Int) := by rw [wI (by omega) (by omega)]; omega
        have w3 : IntKind.i64.wrap ((s : Int) * 2) = ((2 * s : Nat) : Int) := by rw [wI (by omega) (by omega)]; omega
        simp only [↓bk_bind, ↓bk_map, ↓bk_ite, ↓bk_some, ↓reduceIte, Nat.reduceEqDiff, Nat.reduceLT, Nat.reduceLeDiff, Nat.reduceAdd, Nat.reduceMul, reduceCtorEq, List.reduceReplicate, go_sem, Srt.len_blk (Nat.le_refl X.length), w2, w3]
        refine ⟨fun hlt => ?_, fun hge => ?_⟩
        · refine loopK_up (fun k : Nat => [(7, vI ((k * (2 * s) : Nat) : Int)), (8, vI ((k * (2 * s) + 2 * s : Nat) : Int))]) (fun k => [(0, ⟨1, .row true 6 ((Srt.mix (ltc c) s k X).map GFound.enc)⟩)]) (fun k => k * (2 * s) ≤ X.length) (fun k => X.length - k * (2 * s)) 0 ?_
          simp only [↓bk_bind, ↓bk_map, ↓bk_ite, ↓bk_some, ↓reduceIte, Nat.reduceEqDiff, Nat.reduceLT, Nat.reduceLeDiff, Nat.reduceAdd, Nat.reduceMul, reduceCtorEq, List.reduceReplicate, go_sem, Srt.len_mix, w2, w3]
          refine ⟨?_, by omega, ?_⟩
          · simp only [↓bk_bind, ↓bk_map, ↓bk_ite, ↓bk_some, ↓reduceIte, Nat.reduceEqDiff, Nat.reduceLT, Nat.reduceLeDiff, Nat.reduceAdd, Nat.reduceMul, reduceCtorEq, List.reduceReplicate, go_sem]
            refine ⟨⟨?_, ?_⟩, rfl⟩
            · rw [Nat.zero_mul]; rfl
            · rw [Nat.zero_mul, Nat.zero_add]
          · intro k hk
            simp only [↓bk_bind, ↓bk_map, ↓bk_ite, ↓bk_some, ↓reduceIte, Nat.reduceEqDiff, Nat.reduceLT, Nat.reduceLeDiff, Nat.reduceAdd, Nat.reduceMul, reduceCtorEq, List.reduceReplicate, go_sem, Srt.len_mix, w2, w3]
            refine ⟨fun hle => ?_, fun hgt => ?_⟩
            · obtain ⟨P, A, B, Q, m1, m2, m3, m4, m5, m6, m7⟩ := Srt.mix_step hw (s := s) (k := k) (l := X) (by omega)
              have g1 : (P ++ A ++ B ++ Q).length = X.length := by rw [← m6, Srt.len_mix]
              have g2 : (P ++ Srt.mrg (ltc c) A B ++ Q).length = X.length := by rw [← m7, Srt.len_mix]
              have wa : IntKind.i64.wrap (((k * (2 * s) : Nat) : Int) + (s : Int)) = ((k * (2 * s) + s : Nat) : Int) := wN (by omega)
              have wb : IntKind.i64.wrap (((k * (2 * s) + 2 * s : Nat) : Int) + ((2 * s : Nat) : Int)) = (((k + 1) * (2 * s) + 2 * s : Nat) : Int) := by
                rw [wN (by omega), Nat.succ_mul k (2 * s)]
              rw [m6]
              simp only [↓bk_bind, ↓bk_map, ↓bk_ite, ↓bk_some, ↓reduceIte, Nat.reduceEqDiff, Nat.reduceLT, Nat.reduceLeDiff, Nat.reduceAdd, Nat.reduceMul, reduceCtorEq, List.reduceReplicate, go_sem, g1, g2, wa, wb]
              apply callIK_of (c_slices_symMergeCmpFunc f c hc hw _ P A B Q (Nat.le_refl _) m1 (m := k * (2 * s) + s) (b := k * (2 * s) + 2 * s) (by rw [List.length_append]; omega) (by rw [List.length_append, List.length_append]; omega) (by omega) (by omega) m4 m5)
              simp only [↓bk_bind, ↓bk_map, ↓bk_ite, ↓bk_some, ↓reduceIte, Nat.reduceEqDiff, Nat.reduceLT, Nat.reduceLeDiff, Nat.reduceAdd, Nat.reduceMul, reduceCtorEq, List.reduceReplicate, go_sem, g1, g2, wa, wb]
              have hj : (k + 1) * (2 * s) = k * (2 * s) + 2 * s := Nat.succ_mul k (2 * s)
              exact ⟨k + 1, ⟨⟨by rw [hj], by rw [w2, wb]⟩, by rw [m7]⟩, by omega, by omega⟩
            · obtain ⟨i1, i2⟩ := Srt.mix_end hw (s := s) (k := k) (l := X) hk (by omega)
              have wa : IntKind.i64.wrap (((k * (2 * s) : Nat) : Int) + (s : Int)) = ((k * (2 * s) + s : Nat) : Int) := wN (by omega)
              simp only [↓bk_bind, ↓bk_map, ↓bk_ite, ↓bk_some, ↓reduceIte, Nat.reduceEqDiff, Nat.reduceLT, Nat.reduceLeDiff, Nat.reduceAdd, Nat.reduceMul, reduceCtorEq, List.reduceReplicate, go_sem, Srt.len_mix, wa, w3]
              refine ⟨fun hlt2 => ?_, fun hge2 => ?_⟩
              · obtain ⟨P, A, B, m1, m2, m3, m4, m5, m6, m7⟩ := i1 (by omega)
                have g1 : (P ++ A ++ B ++ []).length = X.length := by rw [List.append_nil, ← m6, Srt.len_mix]
                have g2 : (P ++ Srt.mrg (ltc c) A B ++ []).length = X.length := by rw [List.append_nil, ← m7, Srt.len_blk (Nat.le_refl _)]
                rw [m6, ← List.append_nil (P ++ A ++ B)]
                apply callIK_of (c_slices_symMergeCmpFunc f c hc hw _ P A B [] (Nat.le_refl _) m1 (m := k * (2 * s) + s) (b := X.length) (by rw [List.length_append]; omega) (by rw [List.length_append, List.length_append]; omega) (by omega) (by omega) m4 m5)
                simp only [↓bk_bind, ↓bk_map, ↓bk_ite, ↓bk_some, ↓reduceIte, Nat.reduceEqDiff, Nat.reduceLT, Nat.reduceLeDiff, Nat.reduceAdd, Nat.reduceMul, reduceCtorEq, List.reduceReplicate, go_sem, g1, g2, wa, w3]
                exact ⟨2 * s, ⟨rfl, by rw [m7]⟩, ⟨by omega, by omega⟩, by omega⟩
              · exact ⟨2 * s, ⟨rfl, by rw [i2 (by omega)]⟩, ⟨by omega, by omega⟩, by omega⟩
        · rw [Srt.blk_le (by omega)]
end Go.Proofs.YtbnbgekjjbpljaaGreatR
namespace Go.Proofs.YtbnbgekjjbpljaaGreatR
open Go Go.RowKit Go.Proofs
set_option linter.unusedSimpArgs false
set_option linter.unusedVariables false
def m_slices_SortStableFunc_impl_Found_impl_Found : MC :=
(pr [.mv 4 (.s 0), .mv 5 (.s 0), .len 6 false (.s 5), .mv 7 (.s 1), .callI 8 [] (.f n_slices_stableCmpFunc_impl_Found) [.s 4, .s 6, .s 7] [0] []] [])
theorem c_slices_SortStableFunc (X : List GFound) (f : FuncId) (c : GFound → GFound → Int) (hc : ∀ x y, Ctr Tryz.prog f [aS x.enc, aS y.enc] [rI (c x y)]) (hw : Srt.Swo (ltc c)) : CtrI Tryz.prog n_slices_SortStableFunc_impl_Found_impl_Found [oL 6 (X.map GFound.enc), fI f] [some (6, (Srt.isort (ltc c) X).map GFound.enc)] [] := by
  refine ctrI_at (M := m_slices_SortStableFunc_impl_Found_impl_Found) (m := 0) (n := 9) (res := []) hmix Tryz.func135 rfl (by kernel_rfl) rfl (by kernel_rfl) (by kernel_rfl) (Nat.le_of_ble_eq_true rfl) rfl rfl ?_; unfold m_slices_SortStableFunc_impl_Found_impl_Found
  intro hbd
  have hl := len_of_bd hbd
  clear hbd
  simp only [roomB] at hl
  simp only [↓bk_bind, ↓bk_map, ↓bk_ite, ↓bk_some, ↓reduceIte, Nat.reduceEqDiff, Nat.reduceLT, Nat.reduceLeDiff, Nat.reduceAdd, Nat.reduceMul, reduceCtorEq, List.reduceReplicate, go_sem]
  apply callIK_of (c_slices_stableCmpFunc X f c hc hw)
  simp only [↓bk_bind, ↓bk_map, ↓bk_ite, ↓bk_some, ↓reduceIte, Nat.reduceEqDiff, Nat.reduceLT, Nat.reduceLeDiff, Nat.reduceAdd, Nat.reduceMul, reduceCtorEq, List.reduceReplicate, go_sem]
  try intros
  try trivial
end Go.Proofs.YtbnbgekjjbpljaaGreatR
namespace Go.Proofs.YtbnbgekjjbpljaaGreatR
open Go Go.RowKit Go.Proofs
set_option linter.unusedSimpArgs false
set_option linter.unusedVariables false
attribute [go_sem] eqB
def addrLt (a b : GAddress) : Bool := decide (a.Host < b.Host ∨ a.Host = b.Host ∧ (a.Path < b.Path ∨ a.Path = b.Path ∧ a.Query < b.Query))
def cmpI (x y : Int) : Int := if x < y then -1 else if y < x then 1 else 0
def fndCmp (a b : GFound) : Int := if addrLt a.Address b.Address = true then -1 else if addrLt b.Address a.Address = true then 1 else cmpI a.Tick b.Tick
def fndLt (a b : GFound) : Bool := decide (a.Address.Host < b.Address.Host ∨ a.Address.Host = b.Address.Host ∧ (a.Address.Path < b.Address.Path ∨ a.Address.Path = b.Address.Path ∧ (a.Address.Query < b.Address.Query ∨ a.Address.Query = b.Address.Query ∧ a.Tick < b.Tick)))
theorem fndLt_eq : ltc fndCmp = fndLt := by
  funext a b
  unfold ltc fndCmp fndLt addrLt cmpI
  rw [Bool.eq_iff_iff]
  simp only [decide_eq_true_eq]
  split
  · simp; omega
  · split
    · simp; omega
    · split
      · simp; omega
      · split <;> simp <;> omega
theorem fndSwo : Srt.Swo (ltc fndCmp) := by
  rw [fndLt_eq]
  constructor
  · intro x y h
    simp only [fndLt, decide_eq_true_eq, decide_eq_false_iff_not] at *
    omega
  · intro x y z h
    simp only [fndLt, decide_eq_true_eq] at *
    omega
def fnd1 (i : Nat) : Nat → List GCapture → List GFound
  | _, [] => []
  | k, c :: cs => ⟨c.Address, c.Tick, i, k⟩ :: fnd1 i (k + 1) cs
def fnds : Nat → List GContainer → List GFound
  | _, [] => []
  | i, x :: xs => fnd1 i 0 x.Captures ++ fnds (i + 1) xs
theorem fnd1_snoc {i : Nat} : ∀ {cs : List GCapture} {k m : Nat} {c : GCapture}, cs[k]? = some c → fnd1 i m (cs.take (k + 1)) = fnd1 i m (cs.take k) ++ [⟨c.Address, c.Tick, i, (m + k : Nat)⟩]
  | [], _, _, _, h => by simp at h
  | c :: cs, 0, m, d, h => by
    simp only [List.getElem?_cons_zero, Option.some.injEq] at h
    subst h
    simp [fnd1]
  | c :: cs, k + 1, m, d, h => by
    simp only [List.getElem?_cons_succ] at h
    rw [List.take_succ_cons, List.take_succ_cons, fnd1, fnd1, fnd1_snoc h, List.cons_append, show m + 1 + k = m + (k + 1) by omega]
theorem fnds_snoc : ∀ {l : List GContainer} {k m : Nat} {x : GContainer}, l[k]? = some x → fnds m (l.take (k + 1)) = fnds m (l.take k) ++ fnd1 (m + k) 0 x.Captures
  | [], _, _, _, h => by simp at h
  | c :: cs, 0, m, d, h => by
    simp only [List.getElem?_cons_zero, Option.some.injEq] at h
    subst h
    simp [fnds]
  | c :: cs, k + 1, m, d, h => by
    simp only [List.getElem?_cons_succ] at h
    rw [List.take_succ_cons, List.take_succ_cons, fnds, fnds, fnds_snoc h, List.append_assoc, show m + 1 + k = m + (k + 1) by omega]
theorem len_fnd1 {i : Nat} : ∀ {cs : List GCapture} {k : Nat}, (fnd1 i k cs).length = cs.length
  | [], _ => rfl
  | c :: cs, k => by rw [fnd1, List.length_cons, len_fnd1, List.length_cons]
theorem len_fnds : ∀ {l : List GContainer} {m : Nat}, (fnds m l).length = (l.map fun x => x.Captures.length).sum
  | [], _ => rfl
  | x :: l, m => by rw [fnds, List.length_append, len_fnd1, len_fnds, List.map_cons, List.sum_cons]
/-- The index of a list of containers. -/
def index (l : List GContainer) : List GFound := Srt.isort fndLt (fnds 0 l)
theorem fndSwo' : Srt.Swo fndLt := fndLt_eq ▸ fndSwo
theorem len_fnds_le {m : Nat} : ∀ {l : List GContainer}, (fnds m l).length ≤ (l.map GContainer.size).sum := by
  intro l
  rw [len_fnds]
  induction l with
  | nil => simp
  | cons x l ih => simp only [List.map_cons, List.sum_cons, GContainer.size]; omega
theorem len_fnds_at {l : List GContainer} {i k : Nat} {x : GContainer} (hx : l[i]? = some x) : (fnds 0 (l.take i) ++ fnd1 i 0 (x.Captures.take k)).length ≤ (l.map GContainer.size).sum := by
  have h1 : (fnds 0 (l.take (i + 1))).length ≤ (l.map GContainer.size).sum := Nat.le_trans len_fnds_le (sum_take_le l (i + 1))
  rw [fnds_snoc hx, List.length_append, len_fnd1] at h1
  rw [List.length_append, len_fnd1, List.length_take]
  omega
theorem fnds_step {l : List GContainer} {i k : Nat} {x : GContainer} {c : GCapture} (hc : x.Captures[k]? = some c) : fnds 0 (l.take i) ++ fnd1 i 0 (x.Captures.take (k + 1)) = fnds 0 (l.take i) ++ fnd1 i 0 (x.Captures.take k) ++ [⟨c.Address, c.Tick, i, k⟩] := by
  rw [fnd1_snoc hc, List.append_assoc, Nat.zero_add]
theorem cutA {α : Type} {f : α → List T} {l : List α} {m : Nat} (h : m ≤ l.length) : (if ((m : Int) - 0).toNat = l.length then l.map f else List.take ((m : Int) - 0).toNat (l.map f)) = (l.take m).map f := by
  rw [show ((m : Int) - 0).toNat = m by omega]
  split
  · rename_i e; rw [List.take_of_length_le (by omega)]
  · rw [List.map_take]
theorem cutB {α : Type} {f : α → List T} {l : List α} {m : Nat} (h : m ≤ l.length) : (if m = 0 ∧ ((l.length : Int) - (m : Int)).toNat = l.length then l.map f else List.take ((l.length : Int) - (m : Int)).toNat (List.drop m (l.map f))) = (l.drop m).map f := by
  rw [show ((l.length : Int) - (m : Int)).toNat = l.length - m by omega]
  split
  · rename_i e; rw [e.1]; rfl
  · rw [List.take_of_length_le (by simp), List.map_drop]
namespace Srt
variable {α : Type} {lt : α → α → Bool}
/-- Insertion from the right end. -/
theorem ins_at {l : List α} (hw : Swo lt) (hs : srt lt l) {x : α} {n : Nat} (h1 : ∀ z ∈ l.drop n, lt x z = true) (h2 : n = 0 ∨ ∃ y, l[n - 1]? = some y ∧ lt x y = false) : ins lt x l = l.take n ++ [x] ++ l.drop n := by
  have e : ins lt x (l.take n ++ l.drop n) = l.take n ++ x :: l.drop n := by
    refine ins_mid ?_ (fun a ha => h1 a (List.mem_of_mem_head? ha))
    intro a ha
    rcases h2 with rfl | ⟨y, hy, h⟩
    · simp at ha
    · obtain ⟨i, hi⟩ := List.mem_iff_getElem?.1 ha
      rw [List.getElem?_take] at hi
      split at hi
      · rename_i hlt
        by_cases hin : i = n - 1
        · subst hin
          obtain rfl := Option.some.inj (hi.symm.trans hy)
          exact h
        · obtain ⟨h1, rfl⟩ := List.getElem?_eq_some_iff.1 hi
          obtain ⟨h2, rfl⟩ := List.getElem?_eq_some_iff.1 hy
          exact hw.ntr h ((List.pairwise_iff_getElem.1 hs) i (n - 1) h1 h2 (by omega))
      · cases hi
  rw [List.take_append_drop] at e
  rw [e]; simp
theorem drop_step {l : List α} {x : α} {n : Nat} {y : α} (hn : 0 < n) (hy : l[n - 1]? = some y) (h : ∀ z ∈ l.drop n, lt x z = true) (hx : lt x y = true) : ∀ z ∈ l.drop (n - 1), lt x z = true := by
  obtain ⟨h1, rfl⟩ := List.getElem?_eq_some_iff.1 hy
  rw [List.drop_eq_getElem_cons h1, show n - 1 + 1 = n by omega]
  intro z hz
  rcases List.mem_cons.1 hz with rfl | hz
  · exact hx
  · exact h z hz
end Srt
def m_impl_BeforeAddress : MC :=
(.seq (pr [.box 2 0 (.s 0), .box 3 1 (.s 1), .mv 4 (.c (.bool false))] [2,3])
(.seq (.block 0 (.seq (pr [.fld 6 (.s 2) 0, .load 7 false 1 (.s 6), .fld 8 (.s 3) 0, .load 9 false 1 (.s 8), .bin 10 false .neq (.s 7) (.s 9), .mv 5 (.s 10)] [2,3,5])
(.cond (.s 5) (.seq (pr [.fld 11 (.s 2) 0, .load 12 false 1 (.s 11), .fld 13 (.s 3) 0, .load 14 false 1 (.s 13), .bin 15 false .lss (.s 12) (.s 14), .mv 4 (.s 15)] [4])
.ret) (.seq (pr [.fld 17 (.s 2) 1, .load 18 false 1 (.s 17), .fld 19 (.s 3) 1, .load 20 false 1 (.s 19), .bin 21 false .neq (.s 18) (.s 20), .mv 16 (.s 21)] [2,3,16])
(.cond (.s 16) (.seq (pr [.fld 22 (.s 2) 1, .load 23 false 1 (.s 22), .fld 24 (.s 3) 1, .load 25 false 1 (.s 24), .bin 26 false .lss (.s 23) (.s 25), .mv 4 (.s 26)] [4])
.ret) .skip)))))
(.seq (pr [.fld 27 (.s 2) 2, .load 28 false 1 (.s 27), .fld 29 (.s 3) 2, .load 30 false 1 (.s 29), .bin 31 false .lss (.s 28) (.s 30), .mv 4 (.s 31)] [4])
.ret)))
theorem c_impl_BeforeAddress (a b : GAddress) : Ctr Tryz.prog n_impl_BeforeAddress [aS a.enc, aS b.enc] [rB (addrLt a b)] := by
  refine ctr_at (M := m_impl_BeforeAddress) (m := 2) (n := 32) (res := [(.tmp 4, [false])]) hmix Tryz.func137 rfl (by kernel_rfl) rfl (by kernel_rfl) (by kernel_rfl) (Nat.le_of_ble_eq_true rfl) ?_; unfold m_impl_BeforeAddress
  intro hb
  clear hb
  simp only [↓bk_bind, ↓bk_map, ↓bk_ite, ↓bk_some, ↓reduceIte, Nat.reduceEqDiff, Nat.reduceLT, Nat.reduceLeDiff, Nat.reduceAdd, Nat.reduceMul, reduceCtorEq, List.reduceReplicate, go_sem]
  repeat' first
    | (refine And.intro ?_ ?_ <;> intro h)
  all_goals (unfold addrLt; first | (symm; rw [decide_eq_false_iff_not]; omega) | (rw [Bool.eq_iff_iff]; simp only [decide_eq_true_eq]; omega))
def m_spec_BeforeAddress : MC :=
(.seq (pr [.box 2 0 (.s 0), .box 3 1 (.s 1), .mv 4 (.c (.bool false))] [2,3])
(.seq (.seq (pr [.fld 5 (.s 2) 0, .load 6 false 1 (.s 5), .fld 7 (.s 3) 0, .load 8 false 1 (.s 7), .bin 9 false .neq (.s 6) (.s 8)] [2,3,9])
(.cond (.s 9) (.seq (pr [.fld 10 (.s 2) 0, .load 11 false 1 (.s 10), .fld 12 (.s 3) 0, .load 13 false 1 (.s 12), .bin 14 false .lss (.s 11) (.s 13), .mv 4 (.s 14)] [4])
.ret) .skip))
(.seq (.seq (pr [.fld 15 (.s 2) 1, .load 16 false 1 (.s 15), .fld 17 (.s 3) 1, .load 18 false 1 (.s 17), .bin 19 false .neq (.s 16) (.s 18)] [2,3,19])
(.cond (.s 19) (.seq (pr [.fld 20 (.s 2) 1, .load 21 false 1 (.s 20), .fld 22 (.s 3) 1, .load 23 false 1 (.s 22), .bin 24 false .lss (.s 21) (.s 23), .mv 4 (.s 24)] [4])
.ret) .skip))
(.seq (pr [.fld 25 (.s 2) 2, .load 26 false 1 (.s 25), .fld 27 (.s 3) 2, .load 28 false 1 (.s 27), .bin 29 false .lss (.s 26) (.s 28), .mv 4 (.s 29)] [4])
.ret))))
theorem c_spec_BeforeAddress (a b : GAddress) : Ctr Tryz.prog n_spec_BeforeAddress [aS a.enc, aS b.enc] [rB (addrLt a b)] := by
  refine ctr_at (M := m_spec_BeforeAddress) (m := 2) (n := 30) (res := [(.tmp 4, [false])]) hmix Tryz.func195 rfl (by kernel_rfl) rfl (by kernel_rfl) (by kernel_rfl) (Nat.le_of_ble_eq_true rfl) ?_; unfold m_spec_BeforeAddress
  intro hb
  clear hb
  simp only [↓bk_bind, ↓bk_map, ↓bk_ite, ↓bk_some, ↓reduceIte, Nat.reduceEqDiff, Nat.reduceLT, Nat.reduceLeDiff, Nat.reduceAdd, Nat.reduceMul, reduceCtorEq, List.reduceReplicate, go_sem]
  repeat' first
    | (refine And.intro ?_ ?_ <;> intro h)
  all_goals (unfold addrLt; first | (symm; rw [decide_eq_false_iff_not]; omega) | (rw [Bool.eq_iff_iff]; simp only [decide_eq_true_eq]; omega))
def m_spec_l31Before : MC :=
(.seq (pr [.box 2 0 (.s 0), .box 3 1 (.s 1), .mv 4 (.c (.bool false))] [2,3])
(.seq (.seq (pr [.fld 5 (.s 2) 0, .load 6 true 3 (.s 5), .fld 7 (.s 3) 0, .load 8 true 3 (.s 7), .eqA 9 true [.i .i64, .i .i64, .i .i64] (.s 6) (.s 8)] [2,3,9])
(.cond (.s 9) (.seq (pr [.fld 10 (.s 2) 0, .load 11 true 3 (.s 10), .fld 12 (.s 3) 0, .load 13 true 3 (.s 12), .call 14 [] (.f n_spec_BeforeAddress) [.s 11, .s 13], .mv 4 (.s 14)] [4])
.ret) .skip))
(.seq (pr [.fld 15 (.s 2) 3, .load 16 false 1 (.s 15), .fld 17 (.s 3) 3, .load 18 false 1 (.s 17), .bin 19 false .lss (.s 16) (.s 18), .mv 4 (.s 19)] [4])
.ret)))
theorem c_spec_l31Before (a b : GFound) : Ctr Tryz.prog n_spec_l31Before [aS a.enc, aS b.enc] [rB (fndLt a b)] := by
  refine ctr_at (M := m_spec_l31Before) (m := 2) (n := 20) (res := [(.tmp 4, [false])]) hmix Tryz.func132 rfl (by kernel_rfl) rfl (by kernel_rfl) (by kernel_rfl) (Nat.le_of_ble_eq_true rfl) ?_; unfold m_spec_l31Before
  intro hb
  clear hb
  simp only [↓bk_bind, ↓bk_map, ↓bk_ite, ↓bk_some, ↓reduceIte, Nat.reduceEqDiff, Nat.reduceLT, Nat.reduceLeDiff, Nat.reduceAdd, Nat.reduceMul, reduceCtorEq, List.reduceReplicate, go_sem]
  repeat' first
    | (refine And.intro ?_ ?_ <;> intro h)
    | (apply callK_of (c_spec_BeforeAddress _ _); simp only [↓bk_bind, ↓bk_map, ↓bk_ite, ↓bk_some, ↓reduceIte, Nat.reduceEqDiff, Nat.reduceLT, Nat.reduceLeDiff, Nat.reduceAdd, Nat.reduceMul, reduceCtorEq, List.reduceReplicate, go_sem])
  all_goals (simp only [fndLt, addrLt]; rw [Bool.eq_iff_iff]; simp only [decide_eq_true_eq]; simp at h; omega)
def m_cmp_isNaN_int : MC :=
(.seq (pr [.mv 2 (.c (.bool false))] [0])
(.seq (pr [.mv 3 (.s 0), .mv 4 (.s 0), .bin 5 false .neq (.s 3) (.s 4), .mv 2 (.s 5)] [2])
.ret))
theorem c_cmp_isNaN (x : Int) : Ctr Tryz.prog n_cmp_isNaN_int [aI x] [rB false] := by
  refine ctr_at (M := m_cmp_isNaN_int) (m := 0) (n := 6) (res := [(.tmp 2, [false])]) hmix Tryz.func197 rfl (by kernel_rfl) rfl (by kernel_rfl) (by kernel_rfl) (Nat.le_of_ble_eq_true rfl) ?_; unfold m_cmp_isNaN_int
  intro hb
  clear hb
  simp only [↓bk_bind, ↓bk_map, ↓bk_ite, ↓bk_some, ↓reduceIte, Nat.reduceEqDiff, Nat.reduceLT, Nat.reduceLeDiff, Nat.reduceAdd, Nat.reduceMul, reduceCtorEq, List.reduceReplicate, go_sem]
def m_cmp_Compare_int : MC :=
(.seq (pr [.mv 4 (.c (.int .i64 0))] [0,1])
(.seq (pr [.mv 7 (.s 0), .call 8 [] (.f n_cmp_isNaN_int) [.s 7], .mv 5 (.s 8)] [0,1,5])
(.seq (pr [.mv 9 (.s 1), .call 10 [] (.f n_cmp_isNaN_int) [.s 9], .mv 6 (.s 10)] [0,1,5,6])
(.seq (.seq (pr [.mv 11 (.s 5)] [0,1,6,11])
(.cond (.s 11) (.seq (.seq (pr [.mv 12 (.s 6)] [12])
(.cond (.s 12) (.seq (pr [.mv 4 (.c (.int .i64 0))] [4])
.ret) .skip))
(.seq (pr [.mv 4 (.c (.int .i64 (-1)))] [4])
.ret)) .skip))
(.seq (.seq (pr [.mv 13 (.s 6)] [0,1,13])
(.cond (.s 13) (.seq (pr [.mv 4 (.c (.int .i64 1))] [4])
.ret) .skip))
(.seq (.seq (pr [.mv 14 (.s 0), .mv 15 (.s 1), .bin 16 false .lss (.s 14) (.s 15)] [0,1,16])
(.cond (.s 16) (.seq (pr [.mv 4 (.c (.int .i64 (-1)))] [4])
.ret) .skip))
(.seq (.seq (pr [.mv 17 (.s 0), .mv 18 (.s 1), .bin 19 false .gtr (.s 17) (.s 18)] [19])
(.cond (.s 19) (.seq (pr [.mv 4 (.c (.int .i64 1))] [4])
.ret) .skip))
(.seq (pr [.mv 4 (.c (.int .i64 0))] [4])
.ret))))))))
theorem c_cmp_Compare (x y : Int) : Ctr Tryz.prog n_cmp_Compare_int [aI x, aI y] [rI (cmpI x y)] := by
  refine ctr_at (M := m_cmp_Compare_int) (m := 0) (n := 20) (res := [(.tmp 4, [false])]) hmix Tryz.func138 rfl (by kernel_rfl) rfl (by kernel_rfl) (by kernel_rfl) (Nat.le_of_ble_eq_true rfl) ?_; unfold m_cmp_Compare_int
  intro hb
  clear hb
  simp only [↓bk_bind, ↓bk_map, ↓bk_ite, ↓bk_some, ↓reduceIte, Nat.reduceEqDiff, Nat.reduceLT, Nat.reduceLeDiff, Nat.reduceAdd, Nat.reduceMul, reduceCtorEq, List.reduceReplicate, go_sem]
  repeat' first
    | (refine And.intro ?_ ?_ <;> intro h)
    | (apply callK_of (c_cmp_isNaN _); simp only [↓bk_bind, ↓bk_map, ↓bk_ite, ↓bk_some, ↓reduceIte, Nat.reduceEqDiff, Nat.reduceLT, Nat.reduceLeDiff, Nat.reduceAdd, Nat.reduceMul, reduceCtorEq, List.reduceReplicate, go_sem])
  all_goals (unfold cmpI; first | rfl | (repeat' split) <;> first | rfl | omega)
def m_impl_BuildIndex_1 : MC :=
(.seq (pr [.box 2 0 (.s 0), .box 3 1 (.s 1), .mv 4 (.c (.int .i64 0))] [2,3])
(.seq (.block 0 (.seq (pr [.fld 6 (.s 2) 0, .load 7 true 3 (.s 6), .fld 8 (.s 3) 0, .load 9 true 3 (.s 8), .call 10 [] (.f n_impl_BeforeAddress) [.s 7, .s 9], .mv 5 (.s 10)] [2,3,5])
(.cond (.s 5) (.seq (pr [.mv 4 (.c (.int .i64 (-1)))] [4])
.ret) (.seq (pr [.fld 12 (.s 3) 0, .load 13 true 3 (.s 12), .fld 14 (.s 2) 0, .load 15 true 3 (.s 14), .call 16 [] (.f n_impl_BeforeAddress) [.s 13, .s 15], .mv 11 (.s 16)] [2,3,11])
(.cond (.s 11) (.seq (pr [.mv 4 (.c (.int .i64 1))] [4])
.ret) .skip)))))
(.seq (pr [.fld 17 (.s 2) 3, .load 18 false 1 (.s 17), .fld 19 (.s 3) 3, .load 20 false 1 (.s 19), .call 21 [] (.f n_cmp_Compare_int) [.s 18, .s 20], .mv 4 (.s 21)] [4])
.ret)))
theorem c_impl_BuildIndex_1 (a b : GFound) : Ctr Tryz.prog n_impl_BuildIndex_1 [aS a.enc, aS b.enc] [rI (fndCmp a b)] := by
  refine ctr_at (M := m_impl_BuildIndex_1) (m := 2) (n := 22) (res := [(.tmp 4, [false])]) hmix Tryz.func136 rfl (by kernel_rfl) rfl (by kernel_rfl) (by kernel_rfl) (Nat.le_of_ble_eq_true rfl) ?_; unfold m_impl_BuildIndex_1
  intro hb
  clear hb
  simp only [↓bk_bind, ↓bk_map, ↓bk_ite, ↓bk_some, ↓reduceIte, Nat.reduceEqDiff, Nat.reduceLT, Nat.reduceLeDiff, Nat.reduceAdd, Nat.reduceMul, reduceCtorEq, List.reduceReplicate, go_sem]
  repeat' first
    | (refine And.intro ?_ ?_ <;> intro h)
    | (apply callK_of (c_impl_BeforeAddress _ _); simp only [↓bk_bind, ↓bk_map, ↓bk_ite, ↓bk_some, ↓reduceIte, Nat.reduceEqDiff, Nat.reduceLT, Nat.reduceLeDiff, Nat.reduceAdd, Nat.reduceMul, reduceCtorEq, List.reduceReplicate, go_sem])
    | (apply callK_of (c_cmp_Compare _ _); simp only [↓bk_bind, ↓bk_map, ↓bk_ite, ↓bk_some, ↓reduceIte, Nat.reduceEqDiff, Nat.reduceLT, Nat.reduceLeDiff, Nat.reduceAdd, Nat.reduceMul, reduceCtorEq, List.reduceReplicate, go_sem])
  all_goals (unfold fndCmp; simp_all)
def m_impl_BuildIndex : MC :=
(.seq (pr [.nilo 2 0 6] [0])
(.seq (pr [.nilo 3 0 6] [0,3])
(.seq (.seq (pr [.mv 8 (.s 0), .len 9 false (.s 8), .mv 10 (.c (.int .i64 0))] [3,8,9,10])
(.block 0 (.loop ([3,8,9,10], [1,2,3]) (.seq (pr [.bin 11 false .lss (.s 10) (.s 9)] [3,8,9,10,11])
(.seq (.cond (.s 11) .skip (.exit 0))
(.seq (.block 1 (.seq (pr [.mv 12 (.s 10), .idx 13 4 (.s 8) (.s 10), .load 14 true 4 (.s 13), .alloc 5 1 [.emp 4, .emp 5, .emp 9, .pl (.sc (.int .i64 0))], .mv 4 (.s 12), .store 4 (.s 5) (.s 14)] [3,4,5,8,9,10])
(.seq (pr [.fld 15 (.s 5) 2, .load 16 false 1 (.s 15), .len 17 false (.s 16), .mv 18 (.c (.int .i64 0))] [3,4,8,9,10,16,17,18])
(.block 2 (.loop ([3,4,8,9,10,16,17,18], [1,2,3]) (.seq (pr [.bin 19 false .lss (.s 18) (.s 17)] [3,4,8,9,10,16,17,18,19])
(.seq (.cond (.s 19) .skip (.exit 2))
(.seq (.block 3 (.seq (pr [.mv 20 (.s 18), .idx 21 9 (.s 16) (.s 18), .load 22 true 9 (.s 21), .alloc 7 2 [.pl (.sc (.int .i64 0)), .pl (.sc (.int .i64 0)), .pl (.sc (.int .i64 0)), .pl (.sc (.int .i64 0)), .pl (.sc (.int .i64 0)), .emp 1, .pl (.sc (.int .i64 0)), .pl (.sc (.int .i64 0)), .pl (.sc (.int .i64 0))], .mv 6 (.s 20), .store 9 (.s 7) (.s 22)] [3,4,6,7,8,9,10,16,17,18])
(pr [.mv 23 (.s 3), .fld 24 (.s 7) 0, .load 25 true 3 (.s 24), .fld 26 (.s 7) 3, .load 27 false 1 (.s 26), .mv 28 (.s 4), .mv 29 (.s 6), .build 30 [.pl (.sc (.int .i64 0)), .pl (.sc (.int .i64 0)), .pl (.sc (.int .i64 0)), .pl (.sc (.int .i64 0)), .pl (.sc (.int .i64 0)), .pl (.sc (.int .i64 0))] [(0, 3, .s 25), (3, 1, .s 27), (4, 1, .s 28), (5, 1, .s 29)], .lit 31 3 6 48 [.s 30], .app 32 0 6 48 (.s 23) (.s 31), .mv 3 (.s 32)] [3,4,8,9,10,16,17,18])))
(pr [.bin 33 false .add (.s 18) (.c (.int .i64 1)), .mv 18 (.s 33)] [3,4,8,9,10,16,17,18])))))))))
(pr [.bin 34 false .add (.s 10) (.c (.int .i64 1)), .mv 10 (.s 34)] [3,8,9,10])))))))
(.seq (pr [.mv 35 (.s 3), .callI 36 [] (.f n_slices_SortStableFunc_impl_Found_impl_Found) [.s 35, .f n_impl_BuildIndex_1] [0] []] [3])
(.seq (pr [.mv 37 (.s 3), .mv 2 (.s 37)] [2])
.ret)))))
theorem c_impl_BuildIndex (l : List GContainer) (hs : l.length + (l.map GContainer.size).sum ≤ 1073741824) : Ctr Tryz.prog n_impl_BuildIndex [aL 4 (l.map GContainer.enc)] [rL 6 ((index l).map GFound.enc)] := by
  refine ctr_at (M := m_impl_BuildIndex) (m := 4) (n := 38) (res := [(.tmp 2, [true])]) hmix Tryz.func65 rfl (by kernel_rfl) rfl (by kernel_rfl) (by kernel_rfl) (Nat.le_of_ble_eq_true rfl) ?_; unfold m_impl_BuildIndex
  intro hb
  clear hb
  simp only [↓bk_bind, ↓bk_map, ↓bk_ite, ↓bk_some, ↓reduceIte, Nat.reduceEqDiff, Nat.reduceLT, Nat.reduceLeDiff, Nat.reduceAdd, Nat.reduceMul, reduceCtorEq, List.reduceReplicate, go_sem]
  refine loopK_rng l (fun i => [(3, .val false [.ref 0 0 6 0 (fnds 0 (l.take i)).length]), (10, vI i)]) (fun i => [(0, ⟨0, .row true 6 ((fnds 0 (l.take i)).map GFound.enc)⟩)]) (fun _ => True) (by simp only [roomB]; omega) ?_
  simp only [↓bk_bind, ↓bk_map, ↓bk_ite, ↓bk_some, ↓reduceIte, Nat.reduceEqDiff, Nat.reduceLT, Nat.reduceLeDiff, Nat.reduceAdd, Nat.reduceMul, reduceCtorEq, List.reduceReplicate, go_sem]
  refine ⟨?_, trivial, ?_, ?_⟩
  · simp only [↓bk_bind, ↓bk_map, ↓bk_ite, ↓bk_some, ↓reduceIte, Nat.reduceEqDiff, Nat.reduceLT, Nat.reduceLeDiff, Nat.reduceAdd, Nat.reduceMul, reduceCtorEq, List.reduceReplicate, go_sem, List.take_zero]
    exact ⟨rfl, rfl⟩
  · intro i x hx _ h0 h1 hw
    have hx1 := mem_sum (f := GContainer.size) (at_mem hx)
    have hi := len_at hx
    have hxl : x.Captures.length ≤ x.size := by simp only [GContainer.size]; omega
    simp only [↓bk_bind, ↓bk_map, ↓bk_ite, ↓bk_some, ↓reduceIte, Nat.reduceEqDiff, Nat.reduceLT, Nat.reduceLeDiff, Nat.reduceAdd, Nat.reduceMul, reduceCtorEq, List.reduceReplicate, go_sem, bk_eq hx, h0, h1, hw]
    refine loopK_rng x.Captures (fun k => [(3, .val false [.ref 0 0 6 0 (fnds 0 (l.take i) ++ fnd1 i 0 (x.Captures.take k)).length]), (18, vI k)]) (fun k => [(0, ⟨0, .row true 6 ((fnds 0 (l.take i) ++ fnd1 i 0 (x.Captures.take k)).map GFound.enc)⟩)]) (fun _ => True) (by simp only [roomB]; omega) ?_
    simp only [↓bk_bind, ↓bk_map, ↓bk_ite, ↓bk_some, ↓reduceIte, Nat.reduceEqDiff, Nat.reduceLT, Nat.reduceLeDiff, Nat.reduceAdd, Nat.reduceMul, reduceCtorEq, List.reduceReplicate, go_sem]
    refine ⟨?_, trivial, ?_, ?_⟩
    · simp only [↓bk_bind, ↓bk_map, ↓bk_ite, ↓bk_some, ↓reduceIte, Nat.reduceEqDiff, Nat.reduceLT, Nat.reduceLeDiff, Nat.reduceAdd, Nat.reduceMul, reduceCtorEq, List.reduceReplicate, go_sem, List.take_zero]
      exact ⟨by simp [fnd1], by simp [fnd1]⟩
    · intro k c hc _ h2 h3 hw2
      have hn := len_fnds_at (k := k) hx
      simp only [↓bk_bind, ↓bk_map, ↓bk_ite, ↓bk_some, ↓reduceIte, Nat.reduceEqDiff, Nat.reduceLT, Nat.reduceLeDiff, Nat.reduceAdd, Nat.reduceMul, reduceCtorEq, List.reduceReplicate, go_sem, bk_eq hc, h2, h3, hw2, hw, fnds_step hc]
      exact ⟨by simp only [roomB]; omega, by simp only [roomB]; omega, by simp only [List.length_append, List.length_cons, List.length_nil], by simp [GFound.enc, GAddress.enc]⟩
    · intro _
      simp only [↓bk_bind, ↓bk_map, ↓bk_ite, ↓bk_some, ↓reduceIte, Nat.reduceEqDiff, Nat.reduceLT, Nat.reduceLeDiff, Nat.reduceAdd, Nat.reduceMul, reduceCtorEq, List.reduceReplicate, go_sem, List.take_length, h0, h1, hw]
      exact ⟨by rw [fnds_snoc hx, Nat.zero_add], by rw [fnds_snoc hx, Nat.zero_add]⟩
  · intro _
    simp only [↓bk_bind, ↓bk_map, ↓bk_ite, ↓bk_some, ↓reduceIte, Nat.reduceEqDiff, Nat.reduceLT, Nat.reduceLeDiff, Nat.reduceAdd, Nat.reduceMul, reduceCtorEq, List.reduceReplicate, go_sem, List.take_length]
    apply callIK_of (c_slices_SortStableFunc (fnds 0 l) _ fndCmp c_impl_BuildIndex_1 fndSwo)
    simp only [↓bk_bind, ↓bk_map, ↓bk_ite, ↓bk_some, ↓reduceIte, Nat.reduceEqDiff, Nat.reduceLT, Nat.reduceLeDiff, Nat.reduceAdd, Nat.reduceMul, reduceCtorEq, List.reduceReplicate, go_sem]
    exact ⟨Srt.len_isort.symm, by rw [index, fndLt_eq]⟩
def m_spec_BuildIndex : MC :=
(.seq (pr [.nilo 2 0 6] [0])
(.seq (pr [.lit 8 0 6 48 [], .mv 3 (.s 8)] [0,3])
(.seq (.seq (pr [.mv 4 (.c (.int .i64 0))] [0,3,4])
(.block 0 (.loop ([0,3,4], [1,2,3]) (.seq (.seq (pr [.mv 9 (.s 4), .mv 10 (.s 0), .len 11 false (.s 10), .bin 12 false .lss (.s 9) (.s 11)] [0,3,4,12])
(.cond (.s 12) .skip (.exit 0)))
(.seq (.block 1 (.seq (pr [.mv 5 (.c (.int .i64 0))] [0,3,4,5])
(.block 2 (.loop ([0,3,4,5], [1,2,3]) (.seq (.seq (pr [.mv 15 (.s 5), .mv 16 (.s 0), .mv 17 (.s 4), .idx 18 4 (.s 16) (.s 17), .fld 19 (.s 18) 2, .load 20 false 1 (.s 19), .len 21 false (.s 20), .bin 22 false .lss (.s 15) (.s 21)] [0,3,4,5,22])
(.cond (.s 22) .skip (.exit 2)))
(.seq (.block 3 (.seq (.dreg [{ o := .mv 25 (.s 0), hs := [6,26,30,34,35,36,37,38,39,40,41,42,43,44], ho := [1] }, { o := .mv 26 (.s 4), hs := [6,25,30,34,35,36,37,38,39,40,41,42,43,44], ho := [1] }, { o := .idx 27 4 (.s 25) (.s 26), hs := [6,30,34,35,36,37,38,39,40,41,42,43,44], ho := [1], bf := [0,1] }, { o := .fld 28 (.s 27) 2, hs := [6,30,34,35,36,37,38,39,40,41,42,43,44], ho := [1], bf := [0,1,2] }, { o := .load 29 false 1 (.s 28), hs := [6,30,34,35,36,37,38,39,40,41,42,43,44], ho := [1], bf := [0,1,2,3] }, { o := .mv 30 (.s 5), hs := [6,25,26,27,28,29,34,35,36,37,38,39,40,41,42,43,44], ho := [1] }, { o := .idx 31 9 (.s 29) (.s 30), hs := [6,34,35,36,37,38,39,40,41,42,43,44], ho := [1], bf := [0,1,2,3,4,5] }, { o := .fld 32 (.s 31) 0, hs := [6,34,35,36,37,38,39,40,41,42,43,44], ho := [1], bf := [0,1,2,3,4,5,6] }, { o := .load 33 true 3 (.s 32), hs := [6,34,35,36,37,38,39,40,41,42,43,44], ho := [1], bf := [0,1,2,3,4,5,6,7] }, { o := .mv 34 (.s 0), hs := [6,25,26,27,28,29,30,31,32,33,35,39,43,44], ho := [1] }, { o := .mv 35 (.s 4), hs := [6,25,26,27,28,29,30,31,32,33,34,39,43,44], ho := [1] }, { o := .idx 36 4 (.s 34) (.s 35), hs := [6,25,26,27,28,29,30,31,32,33,39,43,44], ho := [1], bf := [9,10] }, { o := .fld 37 (.s 36) 2, hs := [6,25,26,27,28,29,30,31,32,33,39,43,44], ho := [1], bf := [9,10,11] }, { o := .load 38 false 1 (.s 37), hs := [6,25,26,27,28,29,30,31,32,33,39,43,44], ho := [1], bf := [9,10,11,12] }, { o := .mv 39 (.s 5), hs := [6,25,26,27,28,29,30,31,32,33,34,35,36,37,38,43,44], ho := [1] }, { o := .idx 40 9 (.s 38) (.s 39), hs := [6,25,26,27,28,29,30,31,32,33,43,44], ho := [1], bf := [9,10,11,12,13,14] }, { o := .fld 41 (.s 40) 3, hs := [6,25,26,27,28,29,30,31,32,33,43,44], ho := [1], bf := [9,10,11,12,13,14,15] }, { o := .load 42 false 1 (.s 41), hs := [6,25,26,27,28,29,30,31,32,33,43,44], ho := [1], bf := [9,10,11,12,13,14,15,16] }, { o := .mv 43 (.s 4), hs := [6,25,26,27,28,29,30,31,32,33,34,35,36,37,38,39,40,41,42,44], ho := [1] }, { o := .mv 44 (.s 5), hs := [6,25,26,27,28,29,30,31,32,33,34,35,36,37,38,39,40,41,42,43], ho := [1] }, { o := .build 45 [.pl (.sc (.int .i64 0)), .pl (.sc (.int .i64 0)), .pl (.sc (.int .i64 0)), .pl (.sc (.int .i64 0)), .pl (.sc (.int .i64 0)), .pl (.sc (.int .i64 0))] [(0, 3, .s 33), (3, 1, .s 42), (4, 1, .s 43), (5, 1, .s 44)], hs := [6], ho := [1], bf := [0,1,2,3,4,5,6,7,8,9,10,11,12,13,14,15,16,17,18,19] }, { o := .alloc 6 1 [.pl (.sc (.int .i64 0)), .pl (.sc (.int .i64 0)), .pl (.sc (.int .i64 0)), .pl (.sc (.int .i64 0)), .pl (.sc (.int .i64 0)), .pl (.sc (.int .i64 0))], hs := [25,26,27,28,29,30,31,32,33,34,35,36,37,38,39,40,41,42,43,44,45], ws := [1] }, { o := .store 6 (.s 6) (.s 45), ws := [1], bf := [0,1,2,3,4,5,6,7,8,9,10,11,12,13,14,15,16,17,18,19,20,21] }] [0,3,4,5,6])
(.seq (pr [.mv 46 (.s 3), .len 47 false (.s 46), .mv 7 (.s 47)] [0,3,4,5,6,7])
(.seq (.block 4 (.loop ([0,3,4,5,6,7], [2,3]) (.seq (.seq (.dreg [{ o := .mv 48 (.s 7) }, { o := .bin 49 false .gtr (.s 48) (.c (.int .i64 0)), bf := [0] }, { o := .mv 50 (.s 49), bf := [0,1] }, { o := .load 51 true 6 (.s 6), g := some (50, true), hs := [52,53,54,55,56], bf := [0,1,2] }, { o := .mv 52 (.s 3), g := some (50, true), hs := [51,53,54], bf := [0,1,2] }, { o := .mv 53 (.s 7), g := some (50, true), hs := [51,52], bf := [0,1,2] }, { o := .bin 54 false .sub (.s 53) (.c (.int .i64 1)), g := some (50, true), hs := [51,52], bf := [0,1,2,5] }, { o := .idx 55 6 (.s 52) (.s 54), g := some (50, true), hs := [51], bf := [0,1,2,4,5,6] }, { o := .load 56 true 6 (.s 55), g := some (50, true), hs := [51], bf := [0,1,2,4,5,6,7] }, { o := .call 57 [] (.f n_spec_l31Before) [.s 51, .s 56], g := some (50, true), bf := [0,1,2,3,4,5,6,7,8] }, { o := .pick 58 (.s 50) (.s 57) (.c (.bool false)), bf := [0,1,2,3,4,5,6,7,8,9] }] [0,3,4,5,6,7,58])
(.cond (.s 58) .skip (.exit 4)))
(.block 5 (pr [.mv 59 (.s 7), .bin 60 false .sub (.s 59) (.c (.int .i64 1)), .mv 7 (.s 60)] [0,3,4,5,6,7])))))
(.dreg [{ o := .lit 61 2 6 48 [], hs := [62,63,64,66,67,69,70,71], ho := [3], ws := [2] }, { o := .mv 62 (.s 3), hs := [61,63,66,67,69,70,71], ho := [2,3] }, { o := .mv 63 (.s 7), hs := [61,62,66,67,69,70,71], ho := [2,3] }, { o := .slc 64 6 (.s 62) none (some (.s 63)) none, hs := [61,66,67,69,70,71], ho := [2,3], bf := [1,2] }, { o := .app 65 2 6 48 (.s 61) (.s 64), hs := [66,67,69,70,71], ho := [3], ws := [2], bf := [0,1,2,3] }, { o := .load 66 true 6 (.s 6), hs := [61,62,63,64,65,69,70,71], ho := [2] }, { o := .lit 67 3 6 48 [.s 66], hs := [61,62,63,64,65,69,70,71], ho := [2], ws := [3], bf := [5] }, { o := .app 68 2 6 48 (.s 65) (.s 67), hs := [69,70,71], ws := [2], bf := [0,1,2,3,4,5,6] }, { o := .mv 69 (.s 3), hs := [61,62,63,64,65,66,67,68,70], ho := [2,3] }, { o := .mv 70 (.s 7), hs := [61,62,63,64,65,66,67,68,69], ho := [2,3] }, { o := .slc 71 6 (.s 69) (some (.s 70)) none none, hs := [61,62,63,64,65,66,67,68], ho := [2,3], bf := [8,9] }, { o := .app 72 0 6 48 (.s 68) (.s 71), ws := [0,2], bf := [0,1,2,3,4,5,6,7,8,9,10] }, { o := .mv 3 (.s 72), bf := [0,1,2,3,4,5,6,7,8,9,10,11] }] [0,3,4,5])))))
(pr [.mv 23 (.s 5), .bin 24 false .add (.s 23) (.c (.int .i64 1)), .mv 5 (.s 24)] [0,3,4,5])))))))
(pr [.mv 13 (.s 4), .bin 14 false .add (.s 13) (.c (.int .i64 1)), .mv 4 (.s 14)] [0,3,4]))))))
(.seq (pr [.mv 73 (.s 3), .mv 2 (.s 73)] [2])
.ret))))
theorem c_spec_BuildIndex (l : List GContainer) (hs : l.length + (l.map GContainer.size).sum ≤ 1073741824) : Ctr Tryz.prog n_spec_BuildIndex [aL 4 (l.map GContainer.enc)] [rL 6 ((index l).map GFound.enc)] := by
  refine ctr_at (M := m_spec_BuildIndex) (m := 4) (n := 74) (res := [(.tmp 2, [true])]) hmix Tryz.func58 rfl (by kernel_rfl) rfl (by kernel_rfl) (by kernel_rfl) (Nat.le_of_ble_eq_true rfl) ?_; unfold m_spec_BuildIndex
  intro hb
  clear hb
  simp only [↓bk_bind, ↓bk_map, ↓bk_ite, ↓bk_some, ↓reduceIte, Nat.reduceEqDiff, Nat.reduceLT, Nat.reduceLeDiff, Nat.reduceAdd, Nat.reduceMul, reduceCtorEq, List.reduceReplicate, go_sem]
  refine loopK_rng l (fun i => [(3, .val false [.ref 0 0 6 0 (Srt.isort fndLt (fnds 0 (l.take i))).length]), (4, vI i)]) (fun i => [(0, ⟨0, .row true 6 ((Srt.isort fndLt (fnds 0 (l.take i))).map GFound.enc)⟩)]) (fun _ => True) (by simp only [roomB]; omega) ?_
  simp only [↓bk_bind, ↓bk_map, ↓bk_ite, ↓bk_some, ↓reduceIte, Nat.reduceEqDiff, Nat.reduceLT, Nat.reduceLeDiff, Nat.reduceAdd, Nat.reduceMul, reduceCtorEq, List.reduceReplicate, go_sem]
  refine ⟨?_, trivial, ?_, ?_⟩
  · simp only [↓bk_bind, ↓bk_map, ↓bk_ite, ↓bk_some, ↓reduceIte, Nat.reduceEqDiff, Nat.reduceLT, Nat.reduceLeDiff, Nat.reduceAdd, Nat.reduceMul, reduceCtorEq, List.reduceReplicate, go_sem, List.take_zero]
    exact ⟨rfl, rfl⟩
  · intro i x hx _ h0 h1 hw
    have hx1 := mem_sum (f := GContainer.size) (at_mem hx)
    have hi := len_at hx
    have hxl : x.Captures.length ≤ x.size := by simp only [GContainer.size]; omega
    simp only [↓bk_bind, ↓bk_map, ↓bk_ite, ↓bk_some, ↓reduceIte, Nat.reduceEqDiff, Nat.reduceLT, Nat.reduceLeDiff, Nat.reduceAdd, Nat.reduceMul, reduceCtorEq, List.reduceReplicate, go_sem, bk_eq hx, h0, h1, hw]
    refine loopK_rng x.Captures (fun k => [(3, .val false [.ref 0 0 6 0 (Srt.isort fndLt (fnds 0 (l.take i) ++ fnd1 i 0 (x.Captures.take k))).length]), (5, vI k)]) (fun k => [(0, ⟨0, .row true 6 ((Srt.isort fndLt (fnds 0 (l.take i) ++ fnd1 i 0 (x.Captures.take k))).map GFound.enc)⟩)]) (fun _ => True) (by simp only [roomB]; omega) ?_
    simp only [↓bk_bind, ↓bk_map, ↓bk_ite, ↓bk_some, ↓reduceIte, Nat.reduceEqDiff, Nat.reduceLT, Nat.reduceLeDiff, Nat.reduceAdd, Nat.reduceMul, reduceCtorEq, List.reduceReplicate, go_sem, bk_eq hx]
    refine ⟨?_, trivial, ?_, ?_⟩
    · simp only [↓bk_bind, ↓bk_map, ↓bk_ite, ↓bk_some, ↓reduceIte, Nat.reduceEqDiff, Nat.reduceLT, Nat.reduceLeDiff, Nat.reduceAdd, Nat.reduceMul, reduceCtorEq, List.reduceReplicate, go_sem, List.take_zero]
      exact ⟨by simp [fnd1], by simp [fnd1]⟩
    · intro k c hc _ h2 h3 hw2
      have hn := len_fnds_at (k := k) hx
      obtain ⟨y, hy⟩ : ∃ y : GFound, y = ⟨c.Address, c.Tick, i, k⟩ := ⟨_, rfl⟩
      obtain ⟨out, hout⟩ : ∃ out, out = Srt.isort fndLt (fnds 0 (l.take i) ++ fnd1 i 0 (x.Captures.take k)) := ⟨_, rfl⟩
      have hsr : Srt.srt fndLt out := hout ▸ Srt.srt_isort fndSwo' _
      have hol : out.length ≤ (l.map GContainer.size).sum := by rw [hout, Srt.len_isort]; exact hn
      have hst : Srt.isort fndLt (fnds 0 (l.take i) ++ fnd1 i 0 (x.Captures.take (k + 1))) = Srt.ins fndLt y out := by
        rw [fnds_step hc, Srt.isort_snoc, ← hout, ← hy]
      have hye : ([tI c.Address.Host, tI c.Address.Path, tI c.Address.Query, tI c.Tick, tI (i : Int), tI (k : Int)] : List T) = y.enc := by rw [hy]; rfl
      rw [hst, ← hout]
      simp only [↓bk_bind, ↓bk_map, ↓bk_ite, ↓bk_some, ↓reduceIte, Nat.reduceEqDiff, Nat.reduceLT, Nat.reduceLeDiff, Nat.reduceAdd, Nat.reduceMul, reduceCtorEq, List.reduceReplicate, go_sem, bk_eq hx, bk_eq hc, h0, h1, h2, h3, hw2, hw]
      refine loopK_up (fun n : Nat => [(7, vI n)]) (fun n => []) (fun n => n ≤ out.length ∧ ∀ z ∈ out.drop n, fndLt y z = true) (fun n => n) out.length ?_
      simp only [↓bk_bind, ↓bk_map, ↓bk_ite, ↓bk_some, ↓reduceIte, Nat.reduceEqDiff, Nat.reduceLT, Nat.reduceLeDiff, Nat.reduceAdd, Nat.reduceMul, reduceCtorEq, List.reduceReplicate, go_sem]
      refine ⟨?_, ⟨Nat.le_refl _, by simp⟩, ?_⟩
      · simp only [↓bk_bind, ↓bk_map, ↓bk_ite, ↓bk_some, ↓reduceIte, Nat.reduceEqDiff, Nat.reduceLT, Nat.reduceLeDiff, Nat.reduceAdd, Nat.reduceMul, reduceCtorEq, List.reduceReplicate, go_sem]
      · rintro n ⟨hn1, hn2⟩
        simp only [↓bk_bind, ↓bk_map, ↓bk_ite, ↓bk_some, ↓reduceIte, Nat.reduceEqDiff, Nat.reduceLT, Nat.reduceLeDiff, Nat.reduceAdd, Nat.reduceMul, reduceCtorEq, List.reduceReplicate, go_sem]
        refine ⟨fun hpos => ?_, fun hzero => ?_⟩
        · obtain ⟨m, hm⟩ : ∃ m, m = n - 1 := ⟨_, rfl⟩
          obtain ⟨z, hz⟩ := at_some (show m < out.length by omega)
          have e1 : IntKind.i64.wrap ((n : Int) - 1) = (m : Int) := by rw [wI (by omega) (by omega)]; omega
          rw [e1]
          simp only [↓bk_bind, ↓bk_map, ↓bk_ite, ↓bk_some, ↓reduceIte, Nat.reduceEqDiff, Nat.reduceLT, Nat.reduceLeDiff, Nat.reduceAdd, Nat.reduceMul, reduceCtorEq, List.reduceReplicate, go_sem, bk_eq hz, e1]
          refine ⟨⟨by omega, by omega⟩, ?_⟩
          apply callK_of (c_spec_l31Before ⟨c.Address, c.Tick, (i : Int), (k : Int)⟩ z)
          simp only [↓bk_bind, ↓bk_map, ↓bk_ite, ↓bk_some, ↓reduceIte, Nat.reduceEqDiff, Nat.reduceLT, Nat.reduceLeDiff, Nat.reduceAdd, Nat.reduceMul, reduceCtorEq, List.reduceReplicate, go_sem]
          rw [e1]
          refine ⟨fun ht => ⟨m, rfl, ⟨by omega, ?_⟩, by omega⟩, fun hf => ?_⟩
          · rw [hm]
            exact Srt.drop_step (by omega) (hm ▸ hz) hn2 (hy ▸ ht)
          · have hstop : n = 0 ∨ ∃ y', out[n - 1]? = some y' ∧ fndLt y y' = false := .inr ⟨z, hm ▸ hz, hy ▸ hf⟩
            rw [cutA hn1]
            refine ⟨by omega, by omega, ?_⟩
            have hA : (out.take n).length = n := by rw [List.length_take]; omega
            have hB : out.length = n + (out.drop n).length := by rw [List.length_drop]; omega
            have eC := cutB (f := GFound.enc) hn1
            have e5 : List.map GFound.enc (out.take n) ++ [[T.sc (Value.int IntKind.i64 c.Address.Host), T.sc (Value.int IntKind.i64 c.Address.Path), T.sc (Value.int IntKind.i64 c.Address.Query), T.sc (Value.int IntKind.i64 c.Tick), T.sc (Value.int IntKind.i64 (i : Int)), T.sc (Value.int IntKind.i64 (k : Int))]] = (out.take n ++ [y]).map GFound.enc := by rw [hy]; simp [GFound.enc, GAddress.enc]
            have e6 : ((out.take n ++ [y]).map GFound.enc).length = (out.take n).length + 1 := by simp
            simp only [↓bk_bind, ↓bk_map, ↓bk_ite, ↓bk_some, ↓reduceIte, Nat.reduceEqDiff, Nat.reduceLT, Nat.reduceLeDiff, Nat.reduceAdd, Nat.reduceMul, reduceCtorEq, List.reduceReplicate, go_sem, ↓flat_of (f := GFound.enc) (fun _ => rfl) (out.take n), ↓eC, ↓e5, ↓e6, ↓flat_of (f := GFound.enc) (fun _ => rfl) (out.drop n)]
            rw [Srt.ins_at fndSwo' hsr hn2 hstop]
            simp only [roomB]
            exact ⟨by omega, by omega, by omega, ⟨by omega, by omega, by omega⟩, by omega, by omega, ⟨by simp only [List.length_append, List.length_cons, List.length_nil], hw2⟩, by rw [← List.map_append]⟩
        · have hstop : n = 0 ∨ ∃ y', out[n - 1]? = some y' ∧ fndLt y y' = false := .inl (by omega)
          rw [cutA hn1]
          refine ⟨by omega, by omega, ?_⟩
          have hA : (out.take n).length = n := by rw [List.length_take]; omega
          have hB : out.length = n + (out.drop n).length := by rw [List.length_drop]; omega
          have eC := cutB (f := GFound.enc) hn1
          have e5 : List.map GFound.enc (out.take n) ++ [[T.sc (Value.int IntKind.i64 c.Address.Host), T.sc (Value.int IntKind.i64 c.Address.Path), T.sc (Value.int IntKind.i64 c.Address.Query), T.sc (Value.int IntKind.i64 c.Tick), T.sc (Value.int IntKind.i64 (i : Int)), T.sc (Value.int IntKind.i64 (k : Int))]] = (out.take n ++ [y]).map GFound.enc := by rw [hy]; simp [GFound.enc, GAddress.enc]
          have e6 : ((out.take n ++ [y]).map GFound.enc).length = (out.take n).length + 1 := by simp
          simp only [↓bk_bind, ↓bk_map, ↓bk_ite, ↓bk_some, ↓reduceIte, Nat.reduceEqDiff, Nat.reduceLT, Nat.reduceLeDiff, Nat.reduceAdd, Nat.reduceMul, reduceCtorEq, List.reduceReplicate, go_sem, ↓flat_of (f := GFound.enc) (fun _ => rfl) (out.take n), ↓eC, ↓e5, ↓e6, ↓flat_of (f := GFound.enc) (fun _ => rfl) (out.drop n)]
          rw [Srt.ins_at fndSwo' hsr hn2 hstop]
          simp only [roomB]
          exact ⟨by omega, by omega, by omega, ⟨by omega, by omega, by omega⟩, by omega, by omega, ⟨by simp only [List.length_append, List.length_cons, List.length_nil], hw2⟩, by rw [← List.map_append]⟩
    · intro _
      simp only [↓bk_bind, ↓bk_map, ↓bk_ite, ↓bk_some, ↓reduceIte, Nat.reduceEqDiff, Nat.reduceLT, Nat.reduceLeDiff, Nat.reduceAdd, Nat.reduceMul, reduceCtorEq, List.reduceReplicate, go_sem, List.take_length, bk_eq hx, h0, h1, hw, Int.lt_irrefl]
      exact ⟨by rw [fnds_snoc hx, Nat.zero_add], by rw [fnds_snoc hx, Nat.zero_add]⟩
  · intro _
    simp only [↓bk_bind, ↓bk_map, ↓bk_ite, ↓bk_some, ↓reduceIte, Nat.reduceEqDiff, Nat.reduceLT, Nat.reduceLeDiff, Nat.reduceAdd, Nat.reduceMul, reduceCtorEq, List.reduceReplicate, go_sem, List.take_length]
    rfl
end Go.Proofs.YtbnbgekjjbpljaaGreatR
namespace Go.Proofs.YtbnbgekjjbpljaaGreatR
open Go Go.RowKit Go.Proofs
set_option linter.unusedSimpArgs false
set_option linter.unusedVariables false
theorem any_nots {α : Type} {p : α → Bool} {l : List α} : (l.any fun x => !p x) = !l.all p := by
  induction l with
  | nil => rfl
  | cons x l ih => rw [List.any_cons, List.all_cons, ih]; cases p x <;> rfl
/-- All elements are so, and there are not too many. -/
def fewAll {α : Type} (n : Nat) (p : α → Bool) (l : List α) : Bool := decide (l.length ≤ n) && l.all p
theorem fewAll_no {α : Type} {n : Nat} {p : α → Bool} {l : List α} (h : ¬ l.length ≤ n) : false = fewAll n p l := by
  unfold fewAll; rw [decide_eq_false h]; rfl
theorem fewAll_yes {α : Type} {n : Nat} {p : α → Bool} {l : List α} (h : l.length ≤ n) : (!l.any fun x => !p x) = fewAll n p l := by
  unfold fewAll; rw [decide_eq_true h, any_nots, Bool.not_not]; rfl
theorem fewAll_at {α : Type} {n : Nat} {p : α → Bool} {l : List α} {k : Nat} {x : α} (hx : l[k]? = some x) (h : p x = false) : false = fewAll n p l := by
  unfold fewAll; rw [← all_not hx h, Bool.and_false]
theorem fewAll_end {α : Type} {n : Nat} {p : α → Bool} {l : List α} (h : l.all p = true) : decide (l.length ≤ n) = fewAll n p l := by
  unfold fewAll; rw [h, Bool.and_true]
theorem le_cast {n m : Nat} : decide ((n : Int) ≤ (m : Int)) = decide (n ≤ m) := by
  rw [Bool.eq_iff_iff]; simp only [decide_eq_true_eq]; omega
def opOk (o : GOp) : Bool := decide ((0 ≤ o.A ∧ o.A < 4) ∧ (
  (o.Kind = 1 ∧ (1 ≤ o.B ∧ o.B ≤ 9) ∧ (0 ≤ o.C ∧ o.C ≤ 99)) ∨
  ((o.Kind = 2 ∨ o.Kind = 3 ∨ o.Kind = 4) ∧ o.B = 0 ∧ o.C = 0) ∨
  (o.Kind = 5 ∧ (0 ≤ o.B ∧ o.B < 4) ∧ (0 ≤ o.C ∧ o.C < 4)) ∨
  (o.Kind = 6 ∧ (0 ≤ o.B ∧ o.B < 4) ∧ o.C = 0) ∨
  (o.Kind = 7 ∧ (1 ≤ o.B ∧ o.B ≤ 3) ∧ o.C = 0) ∨
  ((o.Kind = 8 ∨ o.Kind = 9) ∧ (0 ≤ o.B ∧ o.B < 3) ∧ o.C = 0)))
def scriptOk (l : List GOp) : Bool := fewAll 16 opOk l
def asks (k : Int) : Bool := decide (1 ≤ k ∧ k ≤ 4)
def entOk (e : GEntry) : Bool := asks e.Kind && (decide (0 ≤ e.Value ∧ e.Value ≤ 999) && (if e.Kind = 1 then isAddr e.Address else noAddr e.Address))
def entsOk (l : List GEntry) : Bool := fewAll 16 entOk l
def capOk (c : GCapture) : Bool := isAddr c.Address && (decide (0 ≤ c.Tick ∧ c.Tick ≤ 2000) && isRes c.Resource)
def capsOk (l : List GCapture) : Bool := fewAll 20 capOk l
end Go.Proofs.YtbnbgekjjbpljaaGreatR
namespace Go.Proofs.YtbnbgekjjbpljaaGreatR
open Go Go.RowKit Go.Proofs
set_option linter.unusedSimpArgs false
set_option linter.unusedVariables false
def contOk (x : GContainer) : Bool := scriptOk x.Script && (entsOk x.Entries && (capsOk x.Captures && (sealRoot x.Script x.Entries x.Captures == x.Root)))
/-- The index is that of all containers. -/
def whole (d : GDisk) : Bool := decide (d.Index = index d.Containers)
def diskOk (d : GDisk) : Bool := fewAll 6 contOk d.Containers && (fewAll 1 contOk d.Wanted && (whole d || (decide (0 < d.Containers.length) && decide (d.Index = index d.Containers.dropLast))))
theorem diskOk_no1 {d : GDisk} {k : Nat} {x : GContainer} (hx : d.Containers[k]? = some x) (h : contOk x = false) : false = diskOk d := by
  unfold diskOk; rw [← fewAll_at (n := 6) hx h, Bool.false_and]
theorem diskOk_no2 {d : GDisk} {k : Nat} {x : GContainer} (hx : d.Wanted[k]? = some x) (h : contOk x = false) : false = diskOk d := by
  unfold diskOk; rw [← fewAll_at (n := 1) hx h, Bool.false_and, Bool.and_false]
def m_impl_Disk_follows : MC :=
(.seq (pr [.box 1 0 (.s 0), .mv 2 (.c (.bool false))] [1])
(.seq (.dreg [{ o := .fld 3 (.s 1) 1, hs := [5,6,7], ho := [1] }, { o := .load 4 false 1 (.s 3), hs := [5,6,7], ho := [1], bf := [0] }, { o := .fld 5 (.s 1) 0, hs := [3,4] }, { o := .load 6 false 1 (.s 5), hs := [3,4], bf := [2] }, { o := .call 7 [1] (.f n_impl_BuildIndex) [.s 6], hs := [3,4], ws := [1], bf := [2,3] }, { o := .call 8 [] (.f n_slices_Equal_impl_Found_impl_Found) [.s 4, .s 7], bf := [0,1,2,3,4] }, { o := .mv 2 (.s 8), bf := [0,1,2,3,4,5] }] [2])
.ret))
theorem c_impl_follows (d : GDisk) (hs : d.size ≤ 1073741824) : Ctr Tryz.prog n_impl_Disk_follows [aS d.enc] [rB (whole d)] := by
  refine ctr_at (M := m_impl_Disk_follows) (m := 2) (n := 9) (res := [(.tmp 2, [false])]) hmix Tryz.func63 rfl (by kernel_rfl) rfl (by kernel_rfl) (by kernel_rfl) (Nat.le_of_ble_eq_true rfl) ?_; unfold m_impl_Disk_follows
  intro hb
  clear hb
  simp only [GDisk.size] at hs
  simp only [↓bk_bind, ↓bk_map, ↓bk_ite, ↓bk_some, ↓reduceIte, Nat.reduceEqDiff, Nat.reduceLT, Nat.reduceLeDiff, Nat.reduceAdd, Nat.reduceMul, reduceCtorEq, List.reduceReplicate, go_sem]
  apply callK_of (c_impl_BuildIndex d.Containers (by omega))
  simp only [↓bk_bind, ↓bk_map, ↓bk_ite, ↓bk_some, ↓reduceIte, Nat.reduceEqDiff, Nat.reduceLT, Nat.reduceLeDiff, Nat.reduceAdd, Nat.reduceMul, reduceCtorEq, List.reduceReplicate, go_sem]
  intros
  apply callK_of (c_slices_Equal_Found _ _)
  simp only [↓bk_bind, ↓bk_map, ↓bk_ite, ↓bk_some, ↓reduceIte, Nat.reduceEqDiff, Nat.reduceLT, Nat.reduceLeDiff, Nat.reduceAdd, Nat.reduceMul, reduceCtorEq, List.reduceReplicate, go_sem]
  intros
  rfl
def m_spec_l31Whole : MC :=
(.seq (pr [.box 1 0 (.s 0), .mv 2 (.c (.bool false))] [1])
(.seq (.dreg [{ o := .fld 3 (.s 1) 1, hs := [5,6,7], ho := [1] }, { o := .load 4 false 1 (.s 3), hs := [5,6,7], ho := [1], bf := [0] }, { o := .fld 5 (.s 1) 0, hs := [3,4] }, { o := .load 6 false 1 (.s 5), hs := [3,4], bf := [2] }, { o := .call 7 [1] (.f n_spec_BuildIndex) [.s 6], hs := [3,4], ws := [1], bf := [2,3] }, { o := .call 8 [] (.f n_spec_l31Same) [.s 4, .s 7], bf := [0,1,2,3,4] }, { o := .mv 2 (.s 8), bf := [0,1,2,3,4,5] }] [2])
.ret))
theorem c_spec_l31Whole (d : GDisk) (hs : d.size ≤ 1073741824) : Ctr Tryz.prog n_spec_l31Whole [aS d.enc] [rB (whole d)] := by
  refine ctr_at (M := m_spec_l31Whole) (m := 2) (n := 9) (res := [(.tmp 2, [false])]) hmix Tryz.func56 rfl (by kernel_rfl) rfl (by kernel_rfl) (by kernel_rfl) (Nat.le_of_ble_eq_true rfl) ?_; unfold m_spec_l31Whole
  intro hb
  clear hb
  simp only [GDisk.size] at hs
  simp only [↓bk_bind, ↓bk_map, ↓bk_ite, ↓bk_some, ↓reduceIte, Nat.reduceEqDiff, Nat.reduceLT, Nat.reduceLeDiff, Nat.reduceAdd, Nat.reduceMul, reduceCtorEq, List.reduceReplicate, go_sem]
  apply callK_of (c_spec_BuildIndex d.Containers (by omega))
  simp only [↓bk_bind, ↓bk_map, ↓bk_ite, ↓bk_some, ↓reduceIte, Nat.reduceEqDiff, Nat.reduceLT, Nat.reduceLeDiff, Nat.reduceAdd, Nat.reduceMul, reduceCtorEq, List.reduceReplicate, go_sem]
  intros
  apply callK_of (c_spec_l31Same _ _)
  simp only [↓bk_bind, ↓bk_map, ↓bk_ite, ↓bk_some, ↓reduceIte, Nat.reduceEqDiff, Nat.reduceLT, Nat.reduceLeDiff, Nat.reduceAdd, Nat.reduceMul, reduceCtorEq, List.reduceReplicate, go_sem]
  intros
  rfl
theorem take_sz {l : List GContainer} {n N : Nat} (h : l.length + (l.map GContainer.size).sum ≤ N) : (l.take n).length + ((l.take n).map GContainer.size).sum ≤ N := by
  have h1 := List.length_take_le n l
  have h2 := sum_take_le (f := GContainer.size) l n
  have h3 : (l.take n).length ≤ l.length := by rw [List.length_take]; omega
  omega
end Go.Proofs.YtbnbgekjjbpljaaGreatR
namespace Go.Proofs.YtbnbgekjjbpljaaGreatR
open Go Go.RowKit Go.Proofs
set_option linter.unusedSimpArgs false
set_option linter.unusedVariables false
def m_spec_Max : MC :=
(.seq (pr [.mv 4 (.c (.int .i64 0))] [0,1])
(.seq (.seq (pr [.mv 5 (.s 1), .mv 6 (.s 0), .bin 7 false .gtr (.s 5) (.s 6)] [0,1,7])
(.cond (.s 7) (.seq (pr [.mv 8 (.s 1), .mv 4 (.s 8)] [4])
.ret) .skip))
(.seq (pr [.mv 9 (.s 0), .mv 4 (.s 9)] [4])
.ret)))
theorem c_spec_Max (x y : Int) : Ctr Tryz.prog n_spec_Max [aI x, aI y] [rI (if y > x then y else x)] := by
  refine ctr_at (M := m_spec_Max) (m := 0) (n := 10) (res := [(.tmp 4, [false])]) hmix Tryz.func121 rfl (by kernel_rfl) rfl (by kernel_rfl) (by kernel_rfl) (Nat.le_of_ble_eq_true rfl) ?_; unfold m_spec_Max
  intro hb
  clear hb
  simp only [↓bk_bind, ↓bk_map, ↓bk_ite, ↓bk_some, ↓reduceIte, Nat.reduceEqDiff, Nat.reduceLT, Nat.reduceLeDiff, Nat.reduceAdd, Nat.reduceMul, reduceCtorEq, List.reduceReplicate, go_sem]
  refine ⟨fun h => ?_, fun h => ?_⟩
  · rw [if_pos (by omega)]
  · rw [if_neg (by omega)]
end Go.Proofs.YtbnbgekjjbpljaaGreatR
namespace Go.Proofs.YtbnbgekjjbpljaaGreatR
open Go Go.RowKit Go.Proofs
set_option linter.unusedSimpArgs false
set_option linter.unusedVariables false
def capsOf (l : List GContainer) : List GCapture := l.flatMap fun x => x.Captures
theorem capsOf_snoc {l : List GContainer} {k : Nat} {x : GContainer} (h : l[k]? = some x) : capsOf (l.take (k + 1)) = capsOf (l.take k) ++ x.Captures := by
  rw [take_snoc h, capsOf, List.flatMap_append]; simp [capsOf]
theorem capsOf_le : ∀ {l : List GContainer}, (capsOf l).length + ((capsOf l).map GCapture.size).sum ≤ (l.map GContainer.size).sum
  | [] => by simp [capsOf]
  | x :: l => by
    have := capsOf_le (l := l)
    simp only [capsOf, List.flatMap_cons, List.length_append, List.map_append, List.sum_append, List.map_cons, List.sum_cons, GContainer.size] at *
    omega
theorem capsOf_at {l : List GContainer} {k : Nat} {x : GContainer} (h : l[k]? = some x) : (capsOf (l.take k)).length + x.Captures.length ≤ (l.map GContainer.size).sum := by
  have h1 := capsOf_le (l := l.take (k + 1))
  have h2 := sum_take_le (f := GContainer.size) l (k + 1)
  rw [capsOf_snoc h, List.length_append] at h1
  omega
theorem capsOf_sz {l : List GContainer} {k : Nat} {x : GContainer} (h : l[k]? = some x) : x.Captures.length + (x.Captures.map GCapture.size).sum ≤ (l.map GContainer.size).sum := by
  have h1 := mem_sum (f := GContainer.size) (at_mem h)
  simp only [GContainer.size] at h1 ⊢
  omega
/-- The containers that the index tells of. -/
def told (d : GDisk) : List GContainer := if whole d then d.Containers else d.Containers.dropLast
def allCaps (a : GArchive) : List GCapture := capsOf (told a.Disk)
theorem told_yes {d : GDisk} (h : whole d = true) : told d = d.Containers := by unfold told; rw [h]; rfl
theorem told_no {d : GDisk} (h : whole d = false) : told d = d.Containers.take (d.Containers.length - 1) := by unfold told; rw [h, List.dropLast_eq_take]; rfl
theorem at_take {α : Type} {l : List α} {n k : Nat} {x : α} (h : (l.take n)[k]? = some x) : l[k]? = some x := by
  rw [List.getElem?_take] at h
  split at h
  · exact h
  · cases h
def m_impl_AllCaptures : MC :=
(.seq (pr [.box 1 0 (.s 0), .nilo 2 1 9] [1])
(.seq (pr [.fld 7 (.s 1) 2, .fld 8 (.s 7) 0, .load 9 false 1 (.s 8), .mv 3 (.s 9)] [1,3])
(.seq (.seq (.reg [{ o := .fld 10 (.s 1) 2 }, { o := .load 11 true 3 (.s 10) }, { o := .call 12 [] (.f n_impl_Disk_follows) [.s 11] }, { o := .un 13 .not (.s 12) }, { o := .mv 14 (.s 13) }, { o := .mv 15 (.s 3), g := some (14, true) }, { o := .len 16 false (.s 15), g := some (14, true) }, { o := .bin 17 false .gtr (.s 16) (.c (.int .i64 0)), g := some (14, true) }, { o := .pick 18 (.s 14) (.s 17) (.c (.bool false)) }] [3,18])
(.cond (.s 18) (pr [.mv 19 (.s 3), .mv 20 (.s 3), .len 21 false (.s 20), .bin 22 false .sub (.s 21) (.c (.int .i64 1)), .slc 23 4 (.s 19) none (some (.s 22)) none, .mv 3 (.s 23)] [3]) .skip))
(.seq (pr [.nilo 4 1 9] [3,4])
(.seq (.seq (pr [.mv 24 (.s 3), .len 25 false (.s 24), .mv 26 (.c (.int .i64 0))] [4,24,25,26])
(.block 0 (.loop ([4,24,25,26], [0,2,3]) (.seq (pr [.bin 27 false .lss (.s 26) (.s 25)] [4,24,25,26,27])
(.seq (.cond (.s 27) .skip (.exit 0))
(.seq (.block 1 (.seq (pr [.idx 28 4 (.s 24) (.s 26), .load 29 true 4 (.s 28), .alloc 6 2 [.emp 4, .emp 5, .emp 9, .pl (.sc (.int .i64 0))], .store 4 (.s 6) (.s 29)] [4,6,24,25,26])
(pr [.mv 30 (.s 4), .fld 31 (.s 6) 2, .load 32 false 1 (.s 31), .call 33 [3] (.f n_impl_copyCaptures) [.s 32], .app 34 1 9 88 (.s 30) (.s 33), .mv 4 (.s 34)] [4,24,25,26])))
(pr [.bin 35 false .add (.s 26) (.c (.int .i64 1)), .mv 26 (.s 35)] [4,24,25,26])))))))
(.seq (pr [.mv 36 (.s 4), .mv 2 (.s 36)] [2])
.ret))))))
theorem c_impl_AllCaptures (a : GArchive) (hs : a.size ≤ 1073741824) : Ctr Tryz.prog n_impl_AllCaptures [aS a.enc] [rL 9 ((allCaps a).map GCapture.enc)] := by
  refine ctr_at (M := m_impl_AllCaptures) (m := 4) (n := 37) (res := [(.tmp 2, [true])]) hmix Tryz.func29 rfl (by kernel_rfl) rfl (by kernel_rfl) (by kernel_rfl) (Nat.le_of_ble_eq_true rfl) ?_; unfold m_impl_AllCaptures
  intro hb
  clear hb
  have hsd : a.Disk.size ≤ 1073741824 := by simp only [GArchive.size] at hs; omega
  have hsz : a.Disk.Containers.length + (a.Disk.Containers.map GContainer.size).sum ≤ 1073741824 := by simp only [GDisk.size] at hsd; omega
  have hsz2 := take_sz (n := a.Disk.Containers.length - 1) hsz
  have hw1 : (a.Disk.Containers.length : Int) > 0 → IntKind.i64.wrap ((a.Disk.Containers.length : Int) - 1) = ((a.Disk.Containers.length - 1 : Nat) : Int) := fun h => by rw [wI (by omega) (by omega)]; omega
  simp only [↓bk_bind, ↓bk_map, ↓bk_ite, ↓bk_some, ↓reduceIte, Nat.reduceEqDiff, Nat.reduceLT, Nat.reduceLeDiff, Nat.reduceAdd, Nat.reduceMul, reduceCtorEq, List.reduceReplicate, go_sem]
  apply callK_of (c_impl_follows a.Disk hsd)
  simp only [↓bk_bind, ↓bk_map, ↓bk_ite, ↓bk_some, ↓reduceIte, Nat.reduceEqDiff, Nat.reduceLT, Nat.reduceLeDiff, Nat.reduceAdd, Nat.reduceMul, reduceCtorEq, List.reduceReplicate, go_sem]
  repeat' first
    | (refine And.intro ?_ ?_ <;> intro h)
  · rename_i hN
    have eL : (a.Disk.Containers.take (a.Disk.Containers.length - 1)).length = a.Disk.Containers.length - 1 := by rw [List.length_take]; omega
    rw [hw1 h, cutA (by omega)]
    refine ⟨⟨by omega, by omega, by omega⟩, ?_⟩
    try simp only [↓bk_bind, ↓bk_map, ↓bk_ite, ↓bk_some, ↓reduceIte, Nat.reduceEqDiff, Nat.reduceLT, Nat.reduceLeDiff, Nat.reduceAdd, Nat.reduceMul, reduceCtorEq, List.reduceReplicate, go_sem, eL]
    refine loopK_rng (a.Disk.Containers.take (a.Disk.Containers.length - 1)) (fun k => [(4, .val false [.ref 1 0 9 0 (capsOf ((a.Disk.Containers.take (a.Disk.Containers.length - 1)).take k)).length]), (26, vI k)]) (fun k => [(1, ⟨0, .row true 9 ((capsOf ((a.Disk.Containers.take (a.Disk.Containers.length - 1)).take k)).map GCapture.enc)⟩)]) (fun _ => True) (by simp only [roomB]; omega) ?_
    simp only [↓bk_bind, ↓bk_map, ↓bk_ite, ↓bk_some, ↓reduceIte, Nat.reduceEqDiff, Nat.reduceLT, Nat.reduceLeDiff, Nat.reduceAdd, Nat.reduceMul, reduceCtorEq, List.reduceReplicate, go_sem, eL]
    refine ⟨?_, trivial, ?_, ?_⟩
    · simp only [↓bk_bind, ↓bk_map, ↓bk_ite, ↓bk_some, ↓reduceIte, Nat.reduceEqDiff, Nat.reduceLT, Nat.reduceLeDiff, Nat.reduceAdd, Nat.reduceMul, reduceCtorEq, List.reduceReplicate, go_sem, List.take_zero]
      exact ⟨rfl, rfl⟩
    · intro k x hx _ h0 h1 hw
      have hq := capsOf_at hx
      have hq2 := capsOf_sz hx
      have hx3 : a.Disk.Containers[k]? = some x := at_take hx
      have hx2 : (k : Int) < ((a.Disk.Containers.length - 1 : Nat) : Int) := by have := len_at hx; rw [List.length_take] at this; omega
      have hx4 : (k : Int) < a.Disk.Containers.length := by have := len_at hx3; omega
      simp only [↓bk_bind, ↓bk_map, ↓bk_ite, ↓bk_some, ↓reduceIte, Nat.reduceEqDiff, Nat.reduceLT, Nat.reduceLeDiff, Nat.reduceAdd, Nat.reduceMul, reduceCtorEq, List.reduceReplicate, go_sem, bk_eq hx, hx2, h0, h1, hw]
      apply callK_of (c_impl_copyCaptures x.Captures (by omega))
      by_cases hf : flat (x.Captures.map GCapture.enc) = true
      all_goals
        simp only [↓bk_bind, ↓bk_map, ↓bk_ite, ↓bk_some, ↓reduceIte, Nat.reduceEqDiff, Nat.reduceLT, Nat.reduceLeDiff, Nat.reduceAdd, Nat.reduceMul, reduceCtorEq, List.reduceReplicate, go_sem, hw, hf, capsOf_snoc hx, List.length_append]
        simp only [roomB]
        exact ⟨by omega, fun _ => by rw [List.map_append]⟩
    · intro _
      simp only [↓bk_bind, ↓bk_map, ↓bk_ite, ↓bk_some, ↓reduceIte, Nat.reduceEqDiff, Nat.reduceLT, Nat.reduceLeDiff, Nat.reduceAdd, Nat.reduceMul, reduceCtorEq, List.reduceReplicate, go_sem, List.take_length, eL, Int.lt_irrefl, List.take_take, Nat.min_self]
      rw [allCaps, told_no hN]
  · rename_i hN
    have eL : True := trivial
    have hC0 : a.Disk.Containers = [] := List.length_eq_zero_iff.1 (by omega)
    refine loopK_rng (a.Disk.Containers) (fun k => [(4, .val false [.ref 1 0 9 0 (capsOf ((a.Disk.Containers).take k)).length]), (26, vI k)]) (fun k => [(1, ⟨0, .row true 9 ((capsOf ((a.Disk.Containers).take k)).map GCapture.enc)⟩)]) (fun _ => True) (by simp only [roomB]; omega) ?_
    simp only [↓bk_bind, ↓bk_map, ↓bk_ite, ↓bk_some, ↓reduceIte, Nat.reduceEqDiff, Nat.reduceLT, Nat.reduceLeDiff, Nat.reduceAdd, Nat.reduceMul, reduceCtorEq, List.reduceReplicate, go_sem, eL]
    refine ⟨?_, trivial, ?_, ?_⟩
    · simp only [↓bk_bind, ↓bk_map, ↓bk_ite, ↓bk_some, ↓reduceIte, Nat.reduceEqDiff, Nat.reduceLT, Nat.reduceLeDiff, Nat.reduceAdd, Nat.reduceMul, reduceCtorEq, List.reduceReplicate, go_sem, List.take_zero]
      exact ⟨rfl, rfl⟩
    · intro k x hx _ h0 h1 hw
      have hq := capsOf_at hx
      have hq2 := capsOf_sz hx
      have hx3 : a.Disk.Containers[k]? = some x := hx
      have hx2 : (k : Int) < (a.Disk.Containers.length : Int) := by have := len_at hx; omega
      have hx4 : (k : Int) < a.Disk.Containers.length := by have := len_at hx3; omega
      simp only [↓bk_bind, ↓bk_map, ↓bk_ite, ↓bk_some, ↓reduceIte, Nat.reduceEqDiff, Nat.reduceLT, Nat.reduceLeDiff, Nat.reduceAdd, Nat.reduceMul, reduceCtorEq, List.reduceReplicate, go_sem, bk_eq hx, hx2, h0, h1, hw]
      apply callK_of (c_impl_copyCaptures x.Captures (by omega))
      by_cases hf : flat (x.Captures.map GCapture.enc) = true
      all_goals
        simp only [↓bk_bind, ↓bk_map, ↓bk_ite, ↓bk_some, ↓reduceIte, Nat.reduceEqDiff, Nat.reduceLT, Nat.reduceLeDiff, Nat.reduceAdd, Nat.reduceMul, reduceCtorEq, List.reduceReplicate, go_sem, hw, hf, capsOf_snoc hx, List.length_append]
        simp only [roomB]
        exact ⟨by omega, fun _ => by rw [List.map_append]⟩
    · intro _
      simp only [↓bk_bind, ↓bk_map, ↓bk_ite, ↓bk_some, ↓reduceIte, Nat.reduceEqDiff, Nat.reduceLT, Nat.reduceLeDiff, Nat.reduceAdd, Nat.reduceMul, reduceCtorEq, List.reduceReplicate, go_sem, List.take_length, eL, Int.lt_irrefl, List.take_take, Nat.min_self]
      rw [allCaps, told_no hN, hC0]
      rfl
  · have eL : True := trivial
    refine loopK_rng (a.Disk.Containers) (fun k => [(4, .val false [.ref 1 0 9 0 (capsOf ((a.Disk.Containers).take k)).length]), (26, vI k)]) (fun k => [(1, ⟨0, .row true 9 ((capsOf ((a.Disk.Containers).take k)).map GCapture.enc)⟩)]) (fun _ => True) (by simp only [roomB]; omega) ?_
    simp only [↓bk_bind, ↓bk_map, ↓bk_ite, ↓bk_some, ↓reduceIte, Nat.reduceEqDiff, Nat.reduceLT, Nat.reduceLeDiff, Nat.reduceAdd, Nat.reduceMul, reduceCtorEq, List.reduceReplicate, go_sem, eL]
    refine ⟨?_, trivial, ?_, ?_⟩
    · simp only [↓bk_bind, ↓bk_map, ↓bk_ite, ↓bk_some, ↓reduceIte, Nat.reduceEqDiff, Nat.reduceLT, Nat.reduceLeDiff, Nat.reduceAdd, Nat.reduceMul, reduceCtorEq, List.reduceReplicate, go_sem, List.take_zero]
      exact ⟨rfl, rfl⟩
    · intro k x hx _ h0 h1 hw
      have hq := capsOf_at hx
      have hq2 := capsOf_sz hx
      have hx3 : a.Disk.Containers[k]? = some x := hx
      have hx2 : (k : Int) < (a.Disk.Containers.length : Int) := by have := len_at hx; omega
      have hx4 : (k : Int) < a.Disk.Containers.length := by have := len_at hx3; omega
      simp only [↓bk_bind, ↓bk_map, ↓bk_ite, ↓bk_some, ↓reduceIte, Nat.reduceEqDiff, Nat.reduceLT, Nat.reduceLeDiff, Nat.reduceAdd, Nat.reduceMul, reduceCtorEq, List.reduceReplicate, go_sem, bk_eq hx, hx2, h0, h1, hw]
      apply callK_of (c_impl_copyCaptures x.Captures (by omega))
      by_cases hf : flat (x.Captures.map GCapture.enc) = true
      all_goals
        simp only [↓bk_bind, ↓bk_map, ↓bk_ite, ↓bk_some, ↓reduceIte, Nat.reduceEqDiff, Nat.reduceLT, Nat.reduceLeDiff, Nat.reduceAdd, Nat.reduceMul, reduceCtorEq, List.reduceReplicate, go_sem, hw, hf, capsOf_snoc hx, List.length_append]
        simp only [roomB]
        exact ⟨by omega, fun _ => by rw [List.map_append]⟩
    · intro _
      simp only [↓bk_bind, ↓bk_map, ↓bk_ite, ↓bk_some, ↓reduceIte, Nat.reduceEqDiff, Nat.reduceLT, Nat.reduceLeDiff, Nat.reduceAdd, Nat.reduceMul, reduceCtorEq, List.reduceReplicate, go_sem, List.take_length, eL, Int.lt_irrefl, List.take_take, Nat.min_self]
      rw [allCaps, told_yes h]
def m_spec_AllCaptures : MC :=
(.seq (pr [.box 1 0 (.s 0), .nilo 2 1 9] [1])
(.seq (pr [.fld 6 (.s 1) 2, .fld 7 (.s 6) 0, .load 8 false 1 (.s 7), .len 9 false (.s 8), .mv 3 (.s 9)] [1,3])
(.seq (.seq (.reg [{ o := .fld 10 (.s 1) 2 }, { o := .load 11 true 3 (.s 10) }, { o := .call 12 [] (.f n_spec_l31Whole) [.s 11] }, { o := .un 13 .not (.s 12) }, { o := .mv 14 (.s 13) }, { o := .mv 15 (.s 3), g := some (14, true) }, { o := .bin 16 false .gtr (.s 15) (.c (.int .i64 0)), g := some (14, true) }, { o := .pick 17 (.s 14) (.s 16) (.c (.bool false)) }] [1,3,17])
(.cond (.s 17) (pr [.mv 18 (.s 3), .bin 19 false .sub (.s 18) (.c (.int .i64 1)), .mv 3 (.s 19)] [1,3]) .skip))
(.seq (pr [.lit 20 1 9 88 [], .mv 4 (.s 20)] [1,3,4])
(.seq (.seq (pr [.mv 5 (.c (.int .i64 0))] [1,3,4,5])
(.block 0 (.loop ([1,3,4,5], [2]) (.seq (.seq (pr [.mv 21 (.s 5), .mv 22 (.s 3), .bin 23 false .lss (.s 21) (.s 22)] [1,3,4,5,23])
(.cond (.s 23) .skip (.exit 0)))
(.seq (.block 1 (pr [.mv 26 (.s 4), .fld 27 (.s 1) 2, .fld 28 (.s 27) 0, .load 29 false 1 (.s 28), .mv 30 (.s 5), .idx 31 4 (.s 29) (.s 30), .fld 32 (.s 31) 2, .load 33 false 1 (.s 32), .call 34 [2] (.f n_spec_l15Copy) [.s 33], .app 35 1 9 88 (.s 26) (.s 34), .mv 4 (.s 35)] [1,3,4,5]))
(pr [.mv 24 (.s 5), .bin 25 false .add (.s 24) (.c (.int .i64 1)), .mv 5 (.s 25)] [1,3,4,5]))))))
(.seq (pr [.mv 36 (.s 4), .mv 2 (.s 36)] [2])
.ret))))))
theorem c_spec_AllCaptures (a : GArchive) (hs : a.size ≤ 1073741824) : Ctr Tryz.prog n_spec_AllCaptures [aS a.enc] [rL 9 ((allCaps a).map GCapture.enc)] := by
  refine ctr_at (M := m_spec_AllCaptures) (m := 3) (n := 37) (res := [(.tmp 2, [true])]) hmix Tryz.func28 rfl (by kernel_rfl) rfl (by kernel_rfl) (by kernel_rfl) (Nat.le_of_ble_eq_true rfl) ?_; unfold m_spec_AllCaptures
  intro hb
  clear hb
  have hsd : a.Disk.size ≤ 1073741824 := by simp only [GArchive.size] at hs; omega
  have hsz : a.Disk.Containers.length + (a.Disk.Containers.map GContainer.size).sum ≤ 1073741824 := by simp only [GDisk.size] at hsd; omega
  have hsz2 := take_sz (n := a.Disk.Containers.length - 1) hsz
  have hw1 : (a.Disk.Containers.length : Int) > 0 → IntKind.i64.wrap ((a.Disk.Containers.length : Int) - 1) = ((a.Disk.Containers.length - 1 : Nat) : Int) := fun h => by rw [wI (by omega) (by omega)]; omega
  simp only [↓bk_bind, ↓bk_map, ↓bk_ite, ↓bk_some, ↓reduceIte, Nat.reduceEqDiff, Nat.reduceLT, Nat.reduceLeDiff, Nat.reduceAdd, Nat.reduceMul, reduceCtorEq, List.reduceReplicate, go_sem]
  apply callK_of (c_spec_l31Whole a.Disk hsd)
  simp only [↓bk_bind, ↓bk_map, ↓bk_ite, ↓bk_some, ↓reduceIte, Nat.reduceEqDiff, Nat.reduceLT, Nat.reduceLeDiff, Nat.reduceAdd, Nat.reduceMul, reduceCtorEq, List.reduceReplicate, go_sem]
  repeat' first
    | (refine And.intro ?_ ?_ <;> intro h)
  · rename_i hN
    have eL : (a.Disk.Containers.take (a.Disk.Containers.length - 1)).length = a.Disk.Containers.length - 1 := by rw [List.length_take]; omega
    rw [hw1 h]
    refine loopK_rng (a.Disk.Containers.take (a.Disk.Containers.length - 1)) (fun k => [(4, .val false [.ref 1 0 9 0 (capsOf ((a.Disk.Containers.take (a.Disk.Containers.length - 1)).take k)).length]), (5, vI k)]) (fun k => [(1, ⟨0, .row true 9 ((capsOf ((a.Disk.Containers.take (a.Disk.Containers.length - 1)).take k)).map GCapture.enc)⟩)]) (fun _ => True) (by simp only [roomB]; omega) ?_
    simp only [↓bk_bind, ↓bk_map, ↓bk_ite, ↓bk_some, ↓reduceIte, Nat.reduceEqDiff, Nat.reduceLT, Nat.reduceLeDiff, Nat.reduceAdd, Nat.reduceMul, reduceCtorEq, List.reduceReplicate, go_sem, eL]
    refine ⟨?_, trivial, ?_, ?_⟩
    · simp only [↓bk_bind, ↓bk_map, ↓bk_ite, ↓bk_some, ↓reduceIte, Nat.reduceEqDiff, Nat.reduceLT, Nat.reduceLeDiff, Nat.reduceAdd, Nat.reduceMul, reduceCtorEq, List.reduceReplicate, go_sem, List.take_zero]
      exact ⟨rfl, rfl⟩
    · intro k x hx _ h0 h1 hw
      have hq := capsOf_at hx
      have hq2 := capsOf_sz hx
      have hx3 : a.Disk.Containers[k]? = some x := at_take hx
      have hx2 : (k : Int) < ((a.Disk.Containers.length - 1 : Nat) : Int) := by have := len_at hx; rw [List.length_take] at this; omega
      have hx4 : (k : Int) < a.Disk.Containers.length := by have := len_at hx3; omega
      simp only [↓bk_bind, ↓bk_map, ↓bk_ite, ↓bk_some, ↓reduceIte, Nat.reduceEqDiff, Nat.reduceLT, Nat.reduceLeDiff, Nat.reduceAdd, Nat.reduceMul, reduceCtorEq, List.reduceReplicate, go_sem, bk_eq hx3, hx2, hx4, h0, h1, hw]
      apply callK_of (c_spec_l15Copy x.Captures (by omega))
      by_cases hf : flat (x.Captures.map GCapture.enc) = true
      all_goals
        simp only [↓bk_bind, ↓bk_map, ↓bk_ite, ↓bk_some, ↓reduceIte, Nat.reduceEqDiff, Nat.reduceLT, Nat.reduceLeDiff, Nat.reduceAdd, Nat.reduceMul, reduceCtorEq, List.reduceReplicate, go_sem, hw, hf, capsOf_snoc hx, List.length_append]
        simp only [roomB]
        exact ⟨by omega, fun _ => by rw [List.map_append]⟩
    · intro _
      simp only [↓bk_bind, ↓bk_map, ↓bk_ite, ↓bk_some, ↓reduceIte, Nat.reduceEqDiff, Nat.reduceLT, Nat.reduceLeDiff, Nat.reduceAdd, Nat.reduceMul, reduceCtorEq, List.reduceReplicate, go_sem, List.take_length, eL, Int.lt_irrefl, List.take_take, Nat.min_self]
      rw [allCaps, told_no hN]
  · rename_i hN
    have eL : True := trivial
    have hC0 : a.Disk.Containers = [] := List.length_eq_zero_iff.1 (by omega)
    refine loopK_rng (a.Disk.Containers) (fun k => [(4, .val false [.ref 1 0 9 0 (capsOf ((a.Disk.Containers).take k)).length]), (5, vI k)]) (fun k => [(1, ⟨0, .row true 9 ((capsOf ((a.Disk.Containers).take k)).map GCapture.enc)⟩)]) (fun _ => True) (by simp only [roomB]; omega) ?_
    simp only [↓bk_bind, ↓bk_map, ↓bk_ite, ↓bk_some, ↓reduceIte, Nat.reduceEqDiff, Nat.reduceLT, Nat.reduceLeDiff, Nat.reduceAdd, Nat.reduceMul, reduceCtorEq, List.reduceReplicate, go_sem, eL]
    refine ⟨?_, trivial, ?_, ?_⟩
    · simp only [↓bk_bind, ↓bk_map, ↓bk_ite, ↓bk_some, ↓reduceIte, Nat.reduceEqDiff, Nat.reduceLT, Nat.reduceLeDiff, Nat.reduceAdd, Nat.reduceMul, reduceCtorEq, List.reduceReplicate, go_sem, List.take_zero]
      exact ⟨rfl, rfl⟩
    · intro k x hx _ h0 h1 hw
      have hq := capsOf_at hx
      have hq2 := capsOf_sz hx
      have hx3 : a.Disk.Containers[k]? = some x := hx
      have hx2 : (k : Int) < (a.Disk.Containers.length : Int) := by have := len_at hx; omega
      have hx4 : (k : Int) < a.Disk.Containers.length := by have := len_at hx3; omega
      simp only [↓bk_bind, ↓bk_map, ↓bk_ite, ↓bk_some, ↓reduceIte, Nat.reduceEqDiff, Nat.reduceLT, Nat.reduceLeDiff, Nat.reduceAdd, Nat.reduceMul, reduceCtorEq, List.reduceReplicate, go_sem, bk_eq hx3, hx2, hx4, h0, h1, hw]
      apply callK_of (c_spec_l15Copy x.Captures (by omega))
      by_cases hf : flat (x.Captures.map GCapture.enc) = true
      all_goals
        simp only [↓bk_bind, ↓bk_map, ↓bk_ite, ↓bk_some, ↓reduceIte, Nat.reduceEqDiff, Nat.reduceLT, Nat.reduceLeDiff, Nat.reduceAdd, Nat.reduceMul, reduceCtorEq, List.reduceReplicate, go_sem, hw, hf, capsOf_snoc hx, List.length_append]
        simp only [roomB]
        exact ⟨by omega, fun _ => by rw [List.map_append]⟩
    · intro _
      simp only [↓bk_bind, ↓bk_map, ↓bk_ite, ↓bk_some, ↓reduceIte, Nat.reduceEqDiff, Nat.reduceLT, Nat.reduceLeDiff, Nat.reduceAdd, Nat.reduceMul, reduceCtorEq, List.reduceReplicate, go_sem, List.take_length, eL, Int.lt_irrefl, List.take_take, Nat.min_self]
      rw [allCaps, told_no hN, hC0]
      rfl
  · have eL : True := trivial
    refine loopK_rng (a.Disk.Containers) (fun k => [(4, .val false [.ref 1 0 9 0 (capsOf ((a.Disk.Containers).take k)).length]), (5, vI k)]) (fun k => [(1, ⟨0, .row true 9 ((capsOf ((a.Disk.Containers).take k)).map GCapture.enc)⟩)]) (fun _ => True) (by simp only [roomB]; omega) ?_
    simp only [↓bk_bind, ↓bk_map, ↓bk_ite, ↓bk_some, ↓reduceIte, Nat.reduceEqDiff, Nat.reduceLT, Nat.reduceLeDiff, Nat.reduceAdd, Nat.reduceMul, reduceCtorEq, List.reduceReplicate, go_sem, eL]
    refine ⟨?_, trivial, ?_, ?_⟩
    · simp only [↓bk_bind, ↓bk_map, ↓bk_ite, ↓bk_some, ↓reduceIte, Nat.reduceEqDiff, Nat.reduceLT, Nat.reduceLeDiff, Nat.reduceAdd, Nat.reduceMul, reduceCtorEq, List.reduceReplicate, go_sem, List.take_zero]
      exact ⟨rfl, rfl⟩
    · intro k x hx _ h0 h1 hw
      have hq := capsOf_at hx
      have hq2 := capsOf_sz hx
      have hx3 : a.Disk.Containers[k]? = some x := hx
      have hx2 : (k : Int) < (a.Disk.Containers.length : Int) := by have := len_at hx; omega
      have hx4 : (k : Int) < a.Disk.Containers.length := by have := len_at hx3; omega
      simp only [↓bk_bind, ↓bk_map, ↓bk_ite, ↓bk_some, ↓reduceIte, Nat.reduceEqDiff, Nat.reduceLT, Nat.reduceLeDiff, Nat.reduceAdd, Nat.reduceMul, reduceCtorEq, List.reduceReplicate, go_sem, bk_eq hx3, hx2, hx4, h0, h1, hw]
      apply callK_of (c_spec_l15Copy x.Captures (by omega))
      by_cases hf : flat (x.Captures.map GCapture.enc) = true
      all_goals
        simp only [↓bk_bind, ↓bk_map, ↓bk_ite, ↓bk_some, ↓reduceIte, Nat.reduceEqDiff, Nat.reduceLT, Nat.reduceLeDiff, Nat.reduceAdd, Nat.reduceMul, reduceCtorEq, List.reduceReplicate, go_sem, hw, hf, capsOf_snoc hx, List.length_append]
        simp only [roomB]
        exact ⟨by omega, fun _ => by rw [List.map_append]⟩
    · intro _
      simp only [↓bk_bind, ↓bk_map, ↓bk_ite, ↓bk_some, ↓reduceIte, Nat.reduceEqDiff, Nat.reduceLT, Nat.reduceLeDiff, Nat.reduceAdd, Nat.reduceMul, reduceCtorEq, List.reduceReplicate, go_sem, List.take_length, eL, Int.lt_irrefl, List.take_take, Nat.min_self]
      rw [allCaps, told_yes h]
theorem allCaps_size (a : GArchive) : (allCaps a).length + ((allCaps a).map GCapture.size).sum ≤ a.size := by
  have h : (allCaps a).length + ((allCaps a).map GCapture.size).sum ≤ (a.Disk.Containers.map GContainer.size).sum := by
    unfold allCaps told
    split
    · exact capsOf_le
    · rw [List.dropLast_eq_take]
      exact Nat.le_trans capsOf_le (sum_take_le _ _)
  simp only [GArchive.size, GDisk.size]
  omega
/-- The captures that are served. -/
def seen (a : GArchive) : List GCapture := visible (allCaps a) a.Exclusions a.Now
def served (a : GArchive) : List GCapture := (seen a).drop ((seen a).length - 20)
theorem seen_size (a : GArchive) : (seen a).length + ((seen a).map GCapture.size).sum ≤ a.size := by
  have h := allCaps_size a
  have h1 := visible_len (allCaps a) a.Exclusions a.Now
  have h2 := sum_filter_le (p := fun c => !hiddenIn c a.Exclusions a.Now) (f := GCapture.size) (allCaps a)
  unfold seen
  unfold visible at *
  omega
theorem sum_drop_le {α : Type} {f : α → Nat} (l : List α) (k : Nat) : ((l.drop k).map f).sum ≤ (l.map f).sum := by
  conv => rhs; rw [← List.take_append_drop k l]
  rw [List.map_append, List.sum_append]
  omega
theorem served_size (a : GArchive) : (served a).length + ((served a).map GCapture.size).sum ≤ a.size := by
  have h := seen_size a
  have h2 := sum_drop_le (f := GCapture.size) (seen a) ((seen a).length - 20)
  unfold served
  rw [List.length_drop]
  omega
def m_impl_ServedCaptures : MC :=
(.seq (pr [.box 1 0 (.s 0), .nilo 2 1 9] [1])
(.seq (.dreg [{ o := .load 4 true 10 (.s 1), hs := [6,7,8,9] }, { o := .call 5 [2] (.f n_impl_AllCaptures) [.s 4], hs := [6,7,8,9], ws := [2], bf := [0] }, { o := .fld 6 (.s 1) 5, hs := [4,5,8,9], ho := [2] }, { o := .load 7 false 1 (.s 6), hs := [4,5,8,9], ho := [2], bf := [2] }, { o := .fld 8 (.s 1) 9, hs := [4,5,6,7], ho := [2] }, { o := .load 9 false 1 (.s 8), hs := [4,5,6,7], ho := [2], bf := [4] }, { o := .call 10 [1] (.f n_impl_VisibleAt) [.s 5, .s 7, .s 9], ws := [1], bf := [0,1,2,3,4,5] }, { o := .mv 3 (.s 10), bf := [0,1,2,3,4,5,6] }] [3])
(.seq (pr [.mv 11 (.s 3), .mv 12 (.s 3), .len 13 false (.s 12), .bin 14 false .sub (.s 13) (.c (.int .i64 20)), .mm 15 true (.c (.int .i64 0)) (.s 14), .slc 16 9 (.s 11) (some (.s 15)) none none, .mv 2 (.s 16)] [2])
.ret)))
theorem c_impl_ServedCaptures (a : GArchive) (hs : a.size ≤ 1073741824) : Ctr Tryz.prog n_impl_ServedCaptures [aS a.enc] [rL 9 ((served a).map GCapture.enc)] := by
  refine ctr_at (M := m_impl_ServedCaptures) (m := 3) (n := 17) (res := [(.tmp 2, [true])]) hmix Tryz.func47 rfl (by kernel_rfl) rfl (by kernel_rfl) (by kernel_rfl) (Nat.le_of_ble_eq_true rfl) ?_; unfold m_impl_ServedCaptures
  intro hb
  clear hb
  have hz := allCaps_size a
  have hz2 := seen_size a
  have hw1 : IntKind.i64.wrap (((seen a).length : Int) - 20) = ((seen a).length : Int) - 20 := wI (by omega) (by omega)
  simp only [↓bk_bind, ↓bk_map, ↓bk_ite, ↓bk_some, ↓reduceIte, Nat.reduceEqDiff, Nat.reduceLT, Nat.reduceLeDiff, Nat.reduceAdd, Nat.reduceMul, reduceCtorEq, List.reduceReplicate, go_sem]
  apply callK_of (c_impl_AllCaptures a hs)
  simp only [↓bk_bind, ↓bk_map, ↓bk_ite, ↓bk_some, ↓reduceIte, Nat.reduceEqDiff, Nat.reduceLT, Nat.reduceLeDiff, Nat.reduceAdd, Nat.reduceMul, reduceCtorEq, List.reduceReplicate, go_sem]
  intros
  apply callK_of (c_impl_VisibleAt (allCaps a) a.Exclusions a.Now (by omega))
  simp only [↓bk_bind, ↓bk_map, ↓bk_ite, ↓bk_some, ↓reduceIte, Nat.reduceEqDiff, Nat.reduceLT, Nat.reduceLeDiff, Nat.reduceAdd, Nat.reduceMul, reduceCtorEq, List.reduceReplicate, go_sem]
  intros
  rw [show visible (allCaps a) a.Exclusions a.Now = seen a from rfl, hw1]
  by_cases hc : (seen a).length ≤ 20
  · have e1 : (((seen a).length : Int) - 0).toNat = (seen a).length := by omega
    rw [if_neg (by omega), e1, show Int.toNat 0 = 0 from rfl]
    simp only [↓bk_bind, ↓bk_map, ↓bk_ite, ↓bk_some, ↓reduceIte, Nat.reduceEqDiff, Nat.reduceLT, Nat.reduceLeDiff, Nat.reduceAdd, Nat.reduceMul, reduceCtorEq, List.reduceReplicate, go_sem]
    refine ⟨⟨by omega, by omega⟩, ?_⟩
    rw [served, show (seen a).length - 20 = 0 by omega, List.drop_zero]
  · obtain ⟨m, hm⟩ : ∃ m, (seen a).length = m + 21 := ⟨(seen a).length - 21, by omega⟩
    have e2 : (((seen a).length : Int) - 20).toNat = m + 1 := by omega
    have e3 : (((seen a).length : Int) - (((seen a).length : Int) - 20)).toNat = 20 := by omega
    rw [if_pos (by omega), e2, e3]
    simp only [↓bk_bind, ↓bk_map, ↓bk_ite, ↓bk_some, ↓reduceIte, Nat.reduceEqDiff, Nat.reduceLT, Nat.reduceLeDiff, Nat.reduceAdd, Nat.reduceMul, reduceCtorEq, List.reduceReplicate, go_sem]
    refine ⟨⟨by omega, by omega⟩, ?_⟩
    refine ⟨by omega, ?_⟩
    rw [if_neg (by simp), served, show (seen a).length - 20 = m + 1 by omega, ← List.map_drop, List.take_of_length_le (by rw [List.length_map, List.length_drop]; omega)]
def m_spec_ServedCaptures : MC :=
(.seq (pr [.box 1 0 (.s 0), .nilo 2 1 9] [1])
(.seq (.dreg [{ o := .load 4 true 10 (.s 1), hs := [6,7,8,9] }, { o := .call 5 [2] (.f n_spec_AllCaptures) [.s 4], hs := [6,7,8,9], ws := [2], bf := [0] }, { o := .fld 6 (.s 1) 5, hs := [4,5,8,9], ho := [2] }, { o := .load 7 false 1 (.s 6), hs := [4,5,8,9], ho := [2], bf := [2] }, { o := .fld 8 (.s 1) 9, hs := [4,5,6,7], ho := [2] }, { o := .load 9 false 1 (.s 8), hs := [4,5,6,7], ho := [2], bf := [4] }, { o := .call 10 [3] (.f n_spec_VisibleAt) [.s 5, .s 7, .s 9], ws := [3], bf := [0,1,2,3,4,5] }, { o := .mv 3 (.s 10), bf := [0,1,2,3,4,5,6] }] [3])
(.seq (pr [.mv 11 (.s 3), .mv 12 (.s 3), .len 13 false (.s 12), .bin 14 false .sub (.s 13) (.c (.int .i64 20)), .call 15 [] (.f n_spec_Max) [.c (.int .i64 0), .s 14], .slc 16 9 (.s 11) (some (.s 15)) none none, .call 17 [1] (.f n_spec_l15Copy) [.s 16], .mv 2 (.s 17)] [2])
.ret)))
theorem c_spec_ServedCaptures (a : GArchive) (hs : a.size ≤ 1073741824) : Ctr Tryz.prog n_spec_ServedCaptures [aS a.enc] [rL 9 ((served a).map GCapture.enc)] := by
  refine ctr_at (M := m_spec_ServedCaptures) (m := 4) (n := 18) (res := [(.tmp 2, [true])]) hmix Tryz.func46 rfl (by kernel_rfl) rfl (by kernel_rfl) (by kernel_rfl) (Nat.le_of_ble_eq_true rfl) ?_; unfold m_spec_ServedCaptures
  intro hb
  clear hb
  have hz := allCaps_size a
  have hz2 := seen_size a
  have hz3 := served_size a
  have hw1 : IntKind.i64.wrap (((seen a).length : Int) - 20) = ((seen a).length : Int) - 20 := wI (by omega) (by omega)
  simp only [↓bk_bind, ↓bk_map, ↓bk_ite, ↓bk_some, ↓reduceIte, Nat.reduceEqDiff, Nat.reduceLT, Nat.reduceLeDiff, Nat.reduceAdd, Nat.reduceMul, reduceCtorEq, List.reduceReplicate, go_sem]
  apply callK_of (c_spec_AllCaptures a hs)
  simp only [↓bk_bind, ↓bk_map, ↓bk_ite, ↓bk_some, ↓reduceIte, Nat.reduceEqDiff, Nat.reduceLT, Nat.reduceLeDiff, Nat.reduceAdd, Nat.reduceMul, reduceCtorEq, List.reduceReplicate, go_sem]
  intros
  apply callK_of (c_spec_VisibleAt (allCaps a) a.Exclusions a.Now (by omega))
  simp only [↓bk_bind, ↓bk_map, ↓bk_ite, ↓bk_some, ↓reduceIte, Nat.reduceEqDiff, Nat.reduceLT, Nat.reduceLeDiff, Nat.reduceAdd, Nat.reduceMul, reduceCtorEq, List.reduceReplicate, go_sem]
  intros
  rw [show visible (allCaps a) a.Exclusions a.Now = seen a from rfl, hw1]
  apply callK_of (c_spec_Max _ _)
  simp only [↓bk_bind, ↓bk_map, ↓bk_ite, ↓bk_some, ↓reduceIte, Nat.reduceEqDiff, Nat.reduceLT, Nat.reduceLeDiff, Nat.reduceAdd, Nat.reduceMul, reduceCtorEq, List.reduceReplicate, go_sem]
  have hm : (if ((seen a).length : Int) - 20 > 0 then ((seen a).length : Int) - 20 else 0) = (((seen a).length - 20 : Nat) : Int) := by split <;> omega
  rw [hm]
  simp only [Int.toNat_natCast]
  rw [cutB (by omega)]
  refine ⟨by omega, by omega, ?_⟩
  apply callK_of (c_spec_l15Copy (served a) (by omega))
  simp only [↓bk_bind, ↓bk_map, ↓bk_ite, ↓bk_some, ↓reduceIte, Nat.reduceEqDiff, Nat.reduceLT, Nat.reduceLeDiff, Nat.reduceAdd, Nat.reduceMul, reduceCtorEq, List.reduceReplicate, go_sem]
  try intros
  try trivial
end Go.Proofs.YtbnbgekjjbpljaaGreatR
namespace Go.Proofs.YtbnbgekjjbpljaaGreatR
open Go Go.RowKit Go.Proofs
set_option linter.unusedSimpArgs false
set_option linter.unusedVariables false
def m_laws_FnExactServedCaptures : MC :=
(.seq (pr [.box 1 0 (.s 0), .mv 2 (.c (.bool false))] [1])
(.seq (pr [.mv 3 (.c (.int .i64 1048576))] [1,3])
(.seq (pr [.load 11 true 10 (.s 1), .mv 12 (.s 3), .call 13 [] (.f n_laws_szArchive) [.s 11, .s 12], .mv 3 (.s 13)] [1,3])
(.seq (.seq (pr [.mv 14 (.s 3), .bin 15 false .lss (.s 14) (.c (.int .i64 0))] [1,15])
(.cond (.s 15) (.seq (pr [.mv 2 (.c (.bool true))] [2])
.ret) .skip))
(.seq (pr [.load 16 true 10 (.s 1), .call 17 [1, 2, 3, 4, 5, 6, 7, 8, 9] (.f n_laws_toArchive) [.s 16], .call 18 [10] (.f n_spec_ServedCaptures) [.s 17], .mv 4 (.s 18)] [1,4])
(.seq (pr [.load 19 true 10 (.s 1), .call 20 [11, 12, 13, 14, 15, 16, 17, 18, 19] (.f n_laws_toArchive) [.s 19], .alloc 5 20 [.emp 9, .emp 4, .emp 4, .emp 6, .emp 4, .emp 5, .emp 4, .emp 1, .emp 4, .pl (.sc (.int .i64 0))], .store 10 (.s 5) (.s 20)] [1,4,5])
(.seq (pr [.load 21 true 10 (.s 5), .call 22 [21] (.f n_impl_ServedCaptures) [.s 21], .mv 6 (.s 22)] [1,4,5,6])
(.seq (.seq (pr [.mv 23 (.s 6), .mv 24 (.s 4), .call 25 [] (.f n_laws_eqCaptureS) [.s 23, .s 24], .un 26 .not (.s 25)] [1,4,5,6,26])
(.cond (.s 26) (.seq (pr [.mv 2 (.c (.bool false))] [2])
.ret) .skip))
(.seq (.seq (.dreg [{ o := .load 27 true 10 (.s 5), hs := [28,29], ho := [22,23,24,25,26,27,28,29,30] }, { o := .load 28 true 10 (.s 1), hs := [27] }, { o := .call 29 [22, 23, 24, 25, 26, 27, 28, 29, 30] (.f n_laws_toArchive) [.s 28], hs := [27], ws := [22,23,24,25,26,27,28,29,30], bf := [1] }, { o := .call 30 [] (.f n_laws_eqArchive) [.s 27, .s 29], bf := [0,1,2] }, { o := .un 31 .not (.s 30), bf := [0,1,2,3] }] [1,4,5,6,31])
(.cond (.s 31) (.seq (pr [.mv 2 (.c (.bool false))] [2])
.ret) .skip))
(.seq (pr [.mv 7 (.c (.int .i64 1))] [1,4,5,6,7])
(.seq (pr [.load 32 true 10 (.s 5), .mv 33 (.s 7), .callI 34 [] (.f n_laws_markArchive) [.s 32, .s 33] [11,12,13,14,15,16,17,18,19] [], .mv 7 (.s 34)] [1,4,6,7])
(.seq (.seq (.reg [{ o := .mv 35 (.s 7) }, { o := .bin 36 false .lss (.s 35) (.c (.int .i64 0)) }, { o := .mv 37 (.s 36) }, { o := .mv 38 (.s 6), g := some (37, false) }, { o := .mv 39 (.s 4), g := some (37, false) }, { o := .call 40 [] (.f n_laws_eqCaptureS) [.s 38, .s 39], g := some (37, false) }, { o := .un 41 .not (.s 40), g := some (37, false) }, { o := .pick 42 (.s 37) (.c (.bool true)) (.s 41) }] [1,4,6,42])
(.cond (.s 42) (.seq (pr [.mv 2 (.c (.bool false))] [2])
.ret) .skip))
(.seq (pr [.mv 8 (.c (.int .i64 1))] [1,4,6,8])
(.seq (pr [.mv 43 (.s 6), .mv 44 (.s 8), .callI 45 [] (.f n_laws_markCaptureS) [.s 43, .s 44] [21] [], .mv 8 (.s 45)] [1,4,6,8])
(.seq (pr [.mv 9 (.c (.int .i64 1))] [1,4,6,8,9])
(.seq (pr [.mv 46 (.s 6), .mv 47 (.s 9), .call 48 [] (.f n_laws_heldCaptureS) [.s 46, .s 47], .mv 9 (.s 48)] [1,4,6,8,9])
(.seq (.seq (pr [.mv 49 (.s 9), .bin 50 false .lss (.s 49) (.c (.int .i64 0))] [1,4,6,8,9,50])
(.cond (.s 50) (.seq (pr [.mv 2 (.c (.bool false))] [2])
.ret) .skip))
(.seq (.seq (pr [.mv 51 (.s 9), .mv 52 (.s 8), .bin 53 false .neq (.s 51) (.s 52)] [1,4,6,8,53])
(.cond (.s 53) (.seq (pr [.mv 2 (.c (.bool false))] [2])
.ret) .skip))
(.seq (pr [.load 54 true 10 (.s 1), .call 55 [31, 32, 33, 34, 35, 36, 37, 38, 39] (.f n_laws_toArchive) [.s 54], .call 56 [40] (.f n_impl_ServedCaptures) [.s 55], .mv 10 (.s 56)] [4,6,8,10])
(.seq (.seq (pr [.mv 57 (.s 10), .mv 58 (.s 4), .call 59 [] (.f n_laws_eqCaptureS) [.s 57, .s 58], .un 60 .not (.s 59)] [6,8,60])
(.cond (.s 60) (.seq (pr [.mv 2 (.c (.bool false))] [2])
.ret) .skip))
(.seq (pr [.mv 9 (.c (.int .i64 1))] [6,8,9])
(.seq (pr [.mv 61 (.s 6), .mv 62 (.s 9), .call 63 [] (.f n_laws_heldCaptureS) [.s 61, .s 62], .mv 9 (.s 63)] [8,9])
(.seq (.seq (pr [.mv 64 (.s 9), .bin 65 false .lss (.s 64) (.c (.int .i64 0))] [8,9,65])
(.cond (.s 65) (.seq (pr [.mv 2 (.c (.bool false))] [2])
.ret) .skip))
(.seq (.seq (pr [.mv 66 (.s 9), .mv 67 (.s 8), .bin 68 false .neq (.s 66) (.s 67)] [68])
(.cond (.s 68) (.seq (pr [.mv 2 (.c (.bool false))] [2])
.ret) .skip))
(.seq (pr [.mv 2 (.c (.bool true))] [2])
.ret)))))))))))))))))))))))))
theorem c_laws_FnExactServedCaptures (a : GArchive) : Ctr Tryz.prog n_laws_FnExactServedCaptures [aS a.enc] [rB true] := by
  refine ctr_at (M := m_laws_FnExactServedCaptures) (m := 41) (n := 69) (res := [(.tmp 2, [false])]) hmix Tryz.func11 rfl (by kernel_rfl) rfl (by kernel_rfl) (by kernel_rfl) (Nat.le_of_ble_eq_true rfl) ?_; unfold m_laws_FnExactServedCaptures
  intro hb
  clear hb
  simp only [↓bk_bind, ↓bk_map, ↓bk_ite, ↓bk_some, ↓reduceIte, Nat.reduceEqDiff, Nat.reduceLT, Nat.reduceLeDiff, Nat.reduceAdd, Nat.reduceMul, reduceCtorEq, List.reduceReplicate, go_sem]
  apply callK_of (c_laws_szArchive a _ (by omega))
  simp only [↓bk_bind, ↓bk_map, ↓bk_ite, ↓bk_some, ↓reduceIte, Nat.reduceEqDiff, Nat.reduceLT, Nat.reduceLeDiff, Nat.reduceAdd, Nat.reduceMul, reduceCtorEq, List.reduceReplicate, go_sem]
  intro _ hz
  have hs := szr_ok hz
  have hc_a := GArchive.cts_le a
  have hr0 := ctL_le (c := GCapture.ct) (s := GCapture.size) GCapture.ct_le (served a)
  have hl_served_size := served_size a
  apply callK_of (c_laws_toArchive a (by omega))
  simp only [↓bk_bind, ↓bk_map, ↓bk_ite, ↓bk_some, ↓reduceIte, Nat.reduceEqDiff, Nat.reduceLT, Nat.reduceLeDiff, Nat.reduceAdd, Nat.reduceMul, reduceCtorEq, List.reduceReplicate, go_sem]
  try intros
  apply callK_of (c_spec_ServedCaptures a (by omega))
  simp only [↓bk_bind, ↓bk_map, ↓bk_ite, ↓bk_some, ↓reduceIte, Nat.reduceEqDiff, Nat.reduceLT, Nat.reduceLeDiff, Nat.reduceAdd, Nat.reduceMul, reduceCtorEq, List.reduceReplicate, go_sem]
  try intros
  apply callK_of (c_laws_toArchive a (by omega))
  simp only [↓bk_bind, ↓bk_map, ↓bk_ite, ↓bk_some, ↓reduceIte, Nat.reduceEqDiff, Nat.reduceLT, Nat.reduceLeDiff, Nat.reduceAdd, Nat.reduceMul, reduceCtorEq, List.reduceReplicate, go_sem]
  try intros
  apply callK_of (c_impl_ServedCaptures a (by omega))
  simp only [↓bk_bind, ↓bk_map, ↓bk_ite, ↓bk_some, ↓reduceIte, Nat.reduceEqDiff, Nat.reduceLT, Nat.reduceLeDiff, Nat.reduceAdd, Nat.reduceMul, reduceCtorEq, List.reduceReplicate, go_sem]
  try intros
  apply callK_of (c_laws_eqCaptureS (served a) (served a))
  simp only [↓bk_bind, ↓bk_map, ↓bk_ite, ↓bk_some, ↓reduceIte, Nat.reduceEqDiff, Nat.reduceLT, Nat.reduceLeDiff, Nat.reduceAdd, Nat.reduceMul, reduceCtorEq, List.reduceReplicate, go_sem]
  try intros
  apply callK_of (c_laws_toArchive a (by omega))
  simp only [↓bk_bind, ↓bk_map, ↓bk_ite, ↓bk_some, ↓reduceIte, Nat.reduceEqDiff, Nat.reduceLT, Nat.reduceLeDiff, Nat.reduceAdd, Nat.reduceMul, reduceCtorEq, List.reduceReplicate, go_sem]
  try intros
  apply callK_of (c_laws_eqArchive a a)
  simp only [↓bk_bind, ↓bk_map, ↓bk_ite, ↓bk_some, ↓reduceIte, Nat.reduceEqDiff, Nat.reduceLT, Nat.reduceLeDiff, Nat.reduceAdd, Nat.reduceMul, reduceCtorEq, List.reduceReplicate, go_sem]
  try intros
  apply callIK_of (c_laws_markArchive a (1) (by omega) (by omega))
  simp only [↓bk_bind, ↓bk_map, ↓bk_ite, ↓bk_some, ↓reduceIte, Nat.reduceEqDiff, Nat.reduceLT, Nat.reduceLeDiff, Nat.reduceAdd, Nat.reduceMul, reduceCtorEq, List.reduceReplicate, go_sem]
  try intros
  have hk : ¬ ((1 + ((a).cts : Nat) : Int)) < 0 := by omega
  simp only [↓bk_bind, ↓bk_map, ↓bk_ite, ↓bk_some, ↓reduceIte, Nat.reduceEqDiff, Nat.reduceLT, Nat.reduceLeDiff, Nat.reduceAdd, Nat.reduceMul, reduceCtorEq, List.reduceReplicate, go_sem, hk]
  try intros
  apply callK_of (c_laws_eqCaptureS (served a) (served a))
  simp only [↓bk_bind, ↓bk_map, ↓bk_ite, ↓bk_some, ↓reduceIte, Nat.reduceEqDiff, Nat.reduceLT, Nat.reduceLeDiff, Nat.reduceAdd, Nat.reduceMul, reduceCtorEq, List.reduceReplicate, go_sem]
  try intros
  apply callIK_of (c_laws_markCaptureS (served a) (1) (by omega) (by omega))
  simp only [↓bk_bind, ↓bk_map, ↓bk_ite, ↓bk_some, ↓reduceIte, Nat.reduceEqDiff, Nat.reduceLT, Nat.reduceLeDiff, Nat.reduceAdd, Nat.reduceMul, reduceCtorEq, List.reduceReplicate, go_sem]
  try intros
  apply callK_of (c_laws_heldCaptureS (served a) (1) (by omega) (by omega))
  simp only [↓bk_bind, ↓bk_map, ↓bk_ite, ↓bk_some, ↓reduceIte, Nat.reduceEqDiff, Nat.reduceLT, Nat.reduceLeDiff, Nat.reduceAdd, Nat.reduceMul, reduceCtorEq, List.reduceReplicate, go_sem]
  have hq0 : ¬ ((1 + (ctL GCapture.ct (served a) : Nat) : Int)) < 0 := by omega
  try simp only [↓bk_bind, ↓bk_map, ↓bk_ite, ↓bk_some, ↓reduceIte, Nat.reduceEqDiff, Nat.reduceLT, Nat.reduceLeDiff, Nat.reduceAdd, Nat.reduceMul, reduceCtorEq, List.reduceReplicate, go_sem, hq0]
  try intros
  apply callK_of (c_laws_toArchive a (by omega))
  simp only [↓bk_bind, ↓bk_map, ↓bk_ite, ↓bk_some, ↓reduceIte, Nat.reduceEqDiff, Nat.reduceLT, Nat.reduceLeDiff, Nat.reduceAdd, Nat.reduceMul, reduceCtorEq, List.reduceReplicate, go_sem]
  try intros
  apply callK_of (c_impl_ServedCaptures a (by omega))
  simp only [↓bk_bind, ↓bk_map, ↓bk_ite, ↓bk_some, ↓reduceIte, Nat.reduceEqDiff, Nat.reduceLT, Nat.reduceLeDiff, Nat.reduceAdd, Nat.reduceMul, reduceCtorEq, List.reduceReplicate, go_sem]
  try intros
  apply callK_of (c_laws_eqCaptureS (served a) (served a))
  simp only [↓bk_bind, ↓bk_map, ↓bk_ite, ↓bk_some, ↓reduceIte, Nat.reduceEqDiff, Nat.reduceLT, Nat.reduceLeDiff, Nat.reduceAdd, Nat.reduceMul, reduceCtorEq, List.reduceReplicate, go_sem]
  try intros
  apply callK_of (c_laws_heldCaptureS (served a) (1) (by omega) (by omega))
  simp only [↓bk_bind, ↓bk_map, ↓bk_ite, ↓bk_some, ↓reduceIte, Nat.reduceEqDiff, Nat.reduceLT, Nat.reduceLeDiff, Nat.reduceAdd, Nat.reduceMul, reduceCtorEq, List.reduceReplicate, go_sem]
  have hq0 : ¬ ((1 + (ctL GCapture.ct (served a) : Nat) : Int)) < 0 := by omega
  try simp only [↓bk_bind, ↓bk_map, ↓bk_ite, ↓bk_some, ↓reduceIte, Nat.reduceEqDiff, Nat.reduceLT, Nat.reduceLeDiff, Nat.reduceAdd, Nat.reduceMul, reduceCtorEq, List.reduceReplicate, go_sem, hq0]
  try intros
end Go.Proofs.YtbnbgekjjbpljaaGreatR
