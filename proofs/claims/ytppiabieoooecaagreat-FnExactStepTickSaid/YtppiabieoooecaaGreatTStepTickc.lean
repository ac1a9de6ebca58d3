/- What the functions compute that the law of StepTick reaches: contracts, function by function. Conditions stand in each theorem. -/
import Derived.Test.YtppiabieoooecaaGreatTStepTickb
namespace Go.Proofs.YtppiabieoooecaaGreatR
open Go Go.RowKit Go.Proofs
set_option linter.unusedSimpArgs false
set_option linter.unusedVariables false
def tickOk (a : GArchive) (n : Int) : Bool := decide ((1 ≤ n ∧ n ≤ 100) ∧ 0 ≤ a.Now ∧ a.Now ≤ 1000 - n)
def tickTo (a : GArchive) (n : Int) : GArchive := if tickOk a n then { a with Now := a.Now + n } else a
def m_impl_StepTick : MC :=
(.seq (pr [.box 2 0 (.s 0), .alloc 4 1 [.emp 9, .emp 4, .emp 4, .emp 6, .emp 4, .emp 5, .emp 4, .emp 1, .emp 4, .pl (.sc (.int .i64 0))], .mv 5 (.c (.bool false))] [1,2,4])
(.seq (pr [.load 7 true 10 (.s 2), .call 8 [2, 3, 4, 5, 6, 7, 8, 9, 10] (.f n_impl_copyArchive) [.s 7], .alloc 6 11 [.emp 9, .emp 4, .emp 4, .emp 6, .emp 4, .emp 5, .emp 4, .emp 1, .emp 4, .pl (.sc (.int .i64 0))], .store 10 (.s 6) (.s 8)] [1,2,4,6])
(.seq (.seq (.reg [{ o := .mv 9 (.s 1) }, { o := .call 10 [] (.f n_impl_InRange) [.s 9, .c (.int .i64 1), .c (.int .i64 100)] }, { o := .un 11 .not (.s 10) }, { o := .mv 12 (.s 11) }, { o := .fld 13 (.s 2) 9, g := some (12, false) }, { o := .load 14 false 1 (.s 13), g := some (12, false) }, { o := .bin 15 false .lss (.s 14) (.c (.int .i64 0)), g := some (12, false) }, { o := .pick 16 (.s 12) (.c (.bool true)) (.s 15) }, { o := .mv 17 (.s 16) }, { o := .fld 18 (.s 2) 9, g := some (17, false) }, { o := .load 19 false 1 (.s 18), g := some (17, false) }, { o := .mv 20 (.s 1), g := some (17, false) }, { o := .bin 21 false .sub (.c (.int .i64 1000)) (.s 20), g := some (17, false) }, { o := .bin 22 false .gtr (.s 19) (.s 21), g := some (17, false) }, { o := .pick 23 (.s 17) (.c (.bool true)) (.s 22) }] [1,4,6,23])
(.cond (.s 23) (.seq (pr [.load 24 true 10 (.s 6), .store 10 (.s 4) (.s 24), .mv 5 (.c (.bool false))] [4,5])
.ret) .skip))
(.seq (pr [.fld 25 (.s 6) 9, .load 26 false 1 (.s 25), .mv 27 (.s 1), .bin 28 false .add (.s 26) (.s 27), .fld 29 (.s 6) 9, .store 1 (.s 29) (.s 28)] [4,6])
(.seq (pr [.load 30 true 10 (.s 6), .store 10 (.s 4) (.s 30), .mv 5 (.c (.bool true))] [4,5])
.ret)))))
theorem c_impl_StepTick (a : GArchive) (n : Int) (hs : a.size ≤ 1073741824) : Ctr Tryz.prog n_impl_StepTick [aS a.enc, aI n] [rS (tickTo a n).enc, rB (tickOk a n)] := by
  refine ctr_at (M := m_impl_StepTick) (m := 12) (n := 31) (res := [(.cell 4 true 10, [true, true, true, true, true, true, true, true, true, false]), (.tmp 5, [false])]) hmix Tryz.func63 rfl (by kernel_rfl) rfl (by kernel_rfl) (by kernel_rfl) (Nat.le_of_ble_eq_true rfl) ?_; unfold m_impl_StepTick
  intro hb
  clear hb
  have hW : (1 ≤ n ∧ n ≤ 100) → IntKind.i64.wrap (1000 - n) = 1000 - n := fun h => wI (by omega) (by omega)
  simp only [↓bk_bind, ↓bk_map, ↓bk_ite, ↓bk_some, ↓reduceIte, Nat.reduceEqDiff, Nat.reduceLT, Nat.reduceLeDiff, Nat.reduceAdd, Nat.reduceMul, reduceCtorEq, List.reduceReplicate, go_sem]
  apply callK_of (c_impl_copyArchive a hs)
  simp only [↓bk_bind, ↓bk_map, ↓bk_ite, ↓bk_some, ↓reduceIte, Nat.reduceEqDiff, Nat.reduceLT, Nat.reduceLeDiff, Nat.reduceAdd, Nat.reduceMul, reduceCtorEq, List.reduceReplicate, go_sem]
  intros
  apply callK_of (c_impl_InRange _ _ _)
  simp only [↓bk_bind, ↓bk_map, ↓bk_ite, ↓bk_some, ↓reduceIte, Nat.reduceEqDiff, Nat.reduceLT, Nat.reduceLeDiff, Nat.reduceAdd, Nat.reduceMul, reduceCtorEq, List.reduceReplicate, go_sem]
  repeat' first
    | (refine And.intro ?_ ?_ <;> intro h)
  all_goals
    first
      | (have hT : tickOk a n = false := by
          unfold tickOk
          rw [decide_eq_false_iff_not]
          rintro ⟨h1, h2, h3⟩
          have := hW h1
          omega
         simp [tickTo, hT]
         done)
      | (have hT : tickOk a n = true := by
          unfold tickOk
          rw [decide_eq_true_eq]
          have := hW (by assumption)
          omega
         have hN : IntKind.i64.wrap (a.Now + n) = a.Now + n := by
          unfold tickOk at hT
          rw [decide_eq_true_eq] at hT
          exact wI (by omega) (by omega)
         simp [tickTo, hT, hN])
def m_spec_StepTick : MC :=
(.seq (pr [.box 2 0 (.s 0), .alloc 4 1 [.emp 9, .emp 4, .emp 4, .emp 6, .emp 4, .emp 5, .emp 4, .emp 1, .emp 4, .pl (.sc (.int .i64 0))], .mv 5 (.c (.bool false))] [1,2,4])
(.seq (pr [.load 7 true 10 (.s 2), .call 8 [2, 3, 4, 5, 6, 7, 8, 9, 10] (.f n_spec_l32Copy) [.s 7], .alloc 6 11 [.emp 9, .emp 4, .emp 4, .emp 6, .emp 4, .emp 5, .emp 4, .emp 1, .emp 4, .pl (.sc (.int .i64 0))], .store 10 (.s 6) (.s 8)] [1,2,4,6])
(.seq (.seq (.reg [{ o := .mv 9 (.s 1) }, { o := .call 10 [] (.f n_spec_l1In) [.s 9, .c (.int .i64 1), .c (.int .i64 100)] }, { o := .un 11 .not (.s 10) }, { o := .mv 12 (.s 11) }, { o := .fld 13 (.s 2) 9, g := some (12, false) }, { o := .load 14 false 1 (.s 13), g := some (12, false) }, { o := .mv 15 (.s 1), g := some (12, false) }, { o := .bin 16 false .sub (.c (.int .i64 1000)) (.s 15), g := some (12, false) }, { o := .call 17 [] (.f n_spec_l1In) [.s 14, .c (.int .i64 0), .s 16], g := some (12, false) }, { o := .un 18 .not (.s 17), g := some (12, false) }, { o := .pick 19 (.s 12) (.c (.bool true)) (.s 18) }] [1,2,4,6,19])
(.cond (.s 19) (.seq (pr [.load 20 true 10 (.s 6), .store 10 (.s 4) (.s 20), .mv 5 (.c (.bool false))] [4,5])
.ret) .skip))
(.seq (pr [.fld 21 (.s 2) 9, .load 22 false 1 (.s 21), .mv 23 (.s 1), .bin 24 false .add (.s 22) (.s 23), .fld 25 (.s 6) 9, .store 1 (.s 25) (.s 24)] [4,6])
(.seq (pr [.load 26 true 10 (.s 6), .store 10 (.s 4) (.s 26), .mv 5 (.c (.bool true))] [4,5])
.ret)))))
theorem c_spec_StepTick (a : GArchive) (n : Int) (hs : a.size ≤ 1073741824) : Ctr Tryz.prog n_spec_StepTick [aS a.enc, aI n] [rS (tickTo a n).enc, rB (tickOk a n)] := by
  refine ctr_at (M := m_spec_StepTick) (m := 12) (n := 27) (res := [(.cell 4 true 10, [true, true, true, true, true, true, true, true, true, false]), (.tmp 5, [false])]) hmix Tryz.func62 rfl (by kernel_rfl) rfl (by kernel_rfl) (by kernel_rfl) (Nat.le_of_ble_eq_true rfl) ?_; unfold m_spec_StepTick
  intro hb
  clear hb
  have hW : (1 ≤ n ∧ n ≤ 100) → IntKind.i64.wrap (1000 - n) = 1000 - n := fun h => wI (by omega) (by omega)
  simp only [↓bk_bind, ↓bk_map, ↓bk_ite, ↓bk_some, ↓reduceIte, Nat.reduceEqDiff, Nat.reduceLT, Nat.reduceLeDiff, Nat.reduceAdd, Nat.reduceMul, reduceCtorEq, List.reduceReplicate, go_sem]
  apply callK_of (c_spec_l32Copy a hs)
  simp only [↓bk_bind, ↓bk_map, ↓bk_ite, ↓bk_some, ↓reduceIte, Nat.reduceEqDiff, Nat.reduceLT, Nat.reduceLeDiff, Nat.reduceAdd, Nat.reduceMul, reduceCtorEq, List.reduceReplicate, go_sem]
  intros
  apply callK_of (c_spec_l1In _ _ _)
  simp only [↓bk_bind, ↓bk_map, ↓bk_ite, ↓bk_some, ↓reduceIte, Nat.reduceEqDiff, Nat.reduceLT, Nat.reduceLeDiff, Nat.reduceAdd, Nat.reduceMul, reduceCtorEq, List.reduceReplicate, go_sem]
  repeat' first
    | (refine And.intro ?_ ?_ <;> intro h)
    | (apply callK_of (c_spec_l1In _ _ _); simp only [↓bk_bind, ↓bk_map, ↓bk_ite, ↓bk_some, ↓reduceIte, Nat.reduceEqDiff, Nat.reduceLT, Nat.reduceLeDiff, Nat.reduceAdd, Nat.reduceMul, reduceCtorEq, List.reduceReplicate, go_sem])
  all_goals
    first
      | (have hT : tickOk a n = false := by
          unfold tickOk
          rw [decide_eq_false_iff_not]
          rintro ⟨h1, h2, h3⟩
          have := hW h1
          omega
         simp [tickTo, hT]
         done)
      | (have hT : tickOk a n = true := by
          unfold tickOk
          rw [decide_eq_true_eq]
          have := hW (by assumption)
          omega
         have hN : IntKind.i64.wrap (a.Now + n) = a.Now + n := by
          unfold tickOk at hT
          rw [decide_eq_true_eq] at hT
          exact wI (by omega) (by omega)
         simp [tickTo, hT, hN])
theorem tick_size (a : GArchive) (n : Int) : (tickTo a n).size = a.size := by unfold tickTo; split <;> rfl
def m_laws_FnExactStepTick : MC :=
(.seq (pr [.box 2 0 (.s 0), .mv 4 (.c (.bool false))] [1,2])
(.seq (pr [.mv 5 (.c (.int .i64 1048576))] [1,2,5])
(.seq (pr [.load 16 true 10 (.s 2), .mv 17 (.s 5), .call 18 [] (.f n_laws_szArchive) [.s 16, .s 17], .mv 5 (.s 18)] [1,2,5])
(.seq (.seq (pr [.mv 19 (.s 5), .bin 20 false .lss (.s 19) (.c (.int .i64 0))] [1,2,20])
(.cond (.s 20) (.seq (pr [.mv 4 (.c (.bool true))] [4])
.ret) .skip))
(.seq (pr [.load 22 true 10 (.s 2), .call 23 [1, 2, 3, 4, 5, 6, 7, 8, 9] (.f n_laws_toArchive) [.s 22], .mv 24 (.s 1), .call 25 [10, 11, 12, 13, 14, 15, 16, 17, 18] (.f n_spec_StepTick) [.s 23, .s 24], .mv 21 (.s 25), .ext 26 (.s 21) 0, .ext 27 (.s 21) 1, .alloc 6 19 [.emp 9, .emp 4, .emp 4, .emp 6, .emp 4, .emp 5, .emp 4, .emp 1, .emp 4, .pl (.sc (.int .i64 0))], .store 10 (.s 6) (.s 26), .mv 7 (.s 27)] [1,2,6,7])
(.seq (pr [.load 28 true 10 (.s 2), .call 29 [20, 21, 22, 23, 24, 25, 26, 27, 28] (.f n_laws_toArchive) [.s 28], .alloc 8 29 [.emp 9, .emp 4, .emp 4, .emp 6, .emp 4, .emp 5, .emp 4, .emp 1, .emp 4, .pl (.sc (.int .i64 0))], .store 10 (.s 8) (.s 29)] [1,2,6,7,8])
(.seq (pr [.load 31 true 10 (.s 8), .mv 32 (.s 1), .call 33 [30, 31, 32, 33, 34, 35, 36, 37, 38] (.f n_impl_StepTick) [.s 31, .s 32], .mv 30 (.s 33), .ext 34 (.s 30) 0, .ext 35 (.s 30) 1, .alloc 9 39 [.emp 9, .emp 4, .emp 4, .emp 6, .emp 4, .emp 5, .emp 4, .emp 1, .emp 4, .pl (.sc (.int .i64 0))], .store 10 (.s 9) (.s 34), .mv 10 (.s 35)] [1,2,6,7,8,9,10])
(.seq (.seq (.reg [{ o := .load 36 true 10 (.s 9) }, { o := .load 37 true 10 (.s 6) }, { o := .call 38 [] (.f n_laws_eqArchive) [.s 36, .s 37] }, { o := .un 39 .not (.s 38) }, { o := .mv 40 (.s 39) }, { o := .mv 41 (.s 10), g := some (40, false) }, { o := .mv 42 (.s 7), g := some (40, false) }, { o := .bin 43 true .neq (.s 41) (.s 42), g := some (40, false) }, { o := .pick 44 (.s 40) (.c (.bool true)) (.s 43) }] [1,2,6,7,8,9,10,44])
(.cond (.s 44) (.seq (pr [.mv 4 (.c (.bool false))] [4])
.ret) .skip))
(.seq (.seq (.dreg [{ o := .load 45 true 10 (.s 8), hs := [46,47], ho := [40,41,42,43,44,45,46,47,48] }, { o := .load 46 true 10 (.s 2), hs := [45] }, { o := .call 47 [40, 41, 42, 43, 44, 45, 46, 47, 48] (.f n_laws_toArchive) [.s 46], hs := [45], ws := [40,41,42,43,44,45,46,47,48], bf := [1] }, { o := .call 48 [] (.f n_laws_eqArchive) [.s 45, .s 47], bf := [0,1,2] }, { o := .un 49 .not (.s 48), bf := [0,1,2,3] }] [1,2,6,7,8,9,10,49])
(.cond (.s 49) (.seq (pr [.mv 4 (.c (.bool false))] [4])
.ret) .skip))
(.seq (pr [.mv 11 (.c (.int .i64 1))] [1,2,6,7,8,9,10,11])
(.seq (pr [.load 50 true 10 (.s 8), .mv 51 (.s 11), .callI 52 [] (.f n_laws_markArchive) [.s 50, .s 51] [20,21,22,23,24,25,26,27,28] [], .mv 11 (.s 52)] [1,2,6,7,9,10,11])
(.seq (.seq (.reg [{ o := .mv 53 (.s 11) }, { o := .bin 54 false .lss (.s 53) (.c (.int .i64 0)) }, { o := .mv 55 (.s 54) }, { o := .load 56 true 10 (.s 9), g := some (55, false) }, { o := .load 57 true 10 (.s 6), g := some (55, false) }, { o := .call 58 [] (.f n_laws_eqArchive) [.s 56, .s 57], g := some (55, false) }, { o := .un 59 .not (.s 58), g := some (55, false) }, { o := .pick 60 (.s 55) (.c (.bool true)) (.s 59) }, { o := .mv 61 (.s 60) }, { o := .mv 62 (.s 10), g := some (61, false) }, { o := .mv 63 (.s 7), g := some (61, false) }, { o := .bin 64 true .neq (.s 62) (.s 63), g := some (61, false) }, { o := .pick 65 (.s 61) (.c (.bool true)) (.s 64) }] [1,2,6,7,9,65])
(.cond (.s 65) (.seq (pr [.mv 4 (.c (.bool false))] [4])
.ret) .skip))
(.seq (pr [.mv 12 (.c (.int .i64 1))] [1,2,6,7,9,12])
(.seq (pr [.load 66 true 10 (.s 9), .mv 67 (.s 12), .callI 68 [] (.f n_laws_markArchive) [.s 66, .s 67] [30,31,32,33,34,35,36,37,38] [], .mv 12 (.s 68)] [1,2,6,7,9,12])
(.seq (pr [.mv 13 (.c (.int .i64 1))] [1,2,6,7,9,12,13])
(.seq (pr [.load 69 true 10 (.s 9), .mv 70 (.s 13), .call 71 [] (.f n_laws_heldArchive) [.s 69, .s 70], .mv 13 (.s 71)] [1,2,6,7,9,12,13])
(.seq (.seq (pr [.mv 72 (.s 13), .bin 73 false .lss (.s 72) (.c (.int .i64 0))] [1,2,6,7,9,12,13,73])
(.cond (.s 73) (.seq (pr [.mv 4 (.c (.bool false))] [4])
.ret) .skip))
(.seq (.seq (pr [.mv 74 (.s 13), .mv 75 (.s 12), .bin 76 false .neq (.s 74) (.s 75)] [1,2,6,7,9,12,76])
(.cond (.s 76) (.seq (pr [.mv 4 (.c (.bool false))] [4])
.ret) .skip))
(.seq (pr [.load 78 true 10 (.s 2), .call 79 [49, 50, 51, 52, 53, 54, 55, 56, 57] (.f n_laws_toArchive) [.s 78], .mv 80 (.s 1), .call 81 [58, 59, 60, 61, 62, 63, 64, 65, 66] (.f n_impl_StepTick) [.s 79, .s 80], .mv 77 (.s 81), .ext 82 (.s 77) 0, .ext 83 (.s 77) 1, .alloc 14 67 [.emp 9, .emp 4, .emp 4, .emp 6, .emp 4, .emp 5, .emp 4, .emp 1, .emp 4, .pl (.sc (.int .i64 0))], .store 10 (.s 14) (.s 82), .mv 15 (.s 83)] [6,7,9,12,14,15])
(.seq (.seq (.reg [{ o := .load 84 true 10 (.s 14) }, { o := .load 85 true 10 (.s 6) }, { o := .call 86 [] (.f n_laws_eqArchive) [.s 84, .s 85] }, { o := .un 87 .not (.s 86) }, { o := .mv 88 (.s 87) }, { o := .mv 89 (.s 15), g := some (88, false) }, { o := .mv 90 (.s 7), g := some (88, false) }, { o := .bin 91 true .neq (.s 89) (.s 90), g := some (88, false) }, { o := .pick 92 (.s 88) (.c (.bool true)) (.s 91) }] [9,12,92])
(.cond (.s 92) (.seq (pr [.mv 4 (.c (.bool false))] [4])
.ret) .skip))
(.seq (pr [.mv 13 (.c (.int .i64 1))] [9,12,13])
(.seq (pr [.load 93 true 10 (.s 9), .mv 94 (.s 13), .call 95 [] (.f n_laws_heldArchive) [.s 93, .s 94], .mv 13 (.s 95)] [12,13])
(.seq (.seq (pr [.mv 96 (.s 13), .bin 97 false .lss (.s 96) (.c (.int .i64 0))] [12,13,97])
(.cond (.s 97) (.seq (pr [.mv 4 (.c (.bool false))] [4])
.ret) .skip))
(.seq (.seq (pr [.mv 98 (.s 13), .mv 99 (.s 12), .bin 100 false .neq (.s 98) (.s 99)] [100])
(.cond (.s 100) (.seq (pr [.mv 4 (.c (.bool false))] [4])
.ret) .skip))
(.seq (pr [.mv 4 (.c (.bool true))] [4])
.ret)))))))))))))))))))))))))
theorem c_laws_FnExactStepTick (a : GArchive) (n : Int) : Ctr Tryz.prog n_laws_FnExactStepTick [aS a.enc, aI n] [rB true] := by
  refine ctr_at (M := m_laws_FnExactStepTick) (m := 68) (n := 101) (res := [(.tmp 4, [false])]) hmix Tryz.func15 rfl (by kernel_rfl) rfl (by kernel_rfl) (by kernel_rfl) (Nat.le_of_ble_eq_true rfl) ?_; unfold m_laws_FnExactStepTick
  intro hb
  clear hb
  simp only [↓bk_bind, ↓bk_map, ↓bk_ite, ↓bk_some, ↓reduceIte, Nat.reduceEqDiff, Nat.reduceLT, Nat.reduceLeDiff, Nat.reduceAdd, Nat.reduceMul, reduceCtorEq, List.reduceReplicate, go_sem]
  apply callK_of (c_laws_szArchive a _ (by omega))
  simp only [↓bk_bind, ↓bk_map, ↓bk_ite, ↓bk_some, ↓reduceIte, Nat.reduceEqDiff, Nat.reduceLT, Nat.reduceLeDiff, Nat.reduceAdd, Nat.reduceMul, reduceCtorEq, List.reduceReplicate, go_sem]
  intro _ hz
  have hs := szr_ok hz
  have hc := GArchive.cts_le a
  have hc2 := GArchive.cts_le (tickTo a n)
  rw [tick_size] at hc2
  apply callK_of (c_laws_toArchive a (by omega))
  simp only [↓bk_bind, ↓bk_map, ↓bk_ite, ↓bk_some, ↓reduceIte, Nat.reduceEqDiff, Nat.reduceLT, Nat.reduceLeDiff, Nat.reduceAdd, Nat.reduceMul, reduceCtorEq, List.reduceReplicate, go_sem]
  apply callK_of (c_spec_StepTick a n (by omega))
  simp only [↓bk_bind, ↓bk_map, ↓bk_ite, ↓bk_some, ↓reduceIte, Nat.reduceEqDiff, Nat.reduceLT, Nat.reduceLeDiff, Nat.reduceAdd, Nat.reduceMul, reduceCtorEq, List.reduceReplicate, go_sem]
  intros
  apply callK_of (c_laws_toArchive a (by omega))
  simp only [↓bk_bind, ↓bk_map, ↓bk_ite, ↓bk_some, ↓reduceIte, Nat.reduceEqDiff, Nat.reduceLT, Nat.reduceLeDiff, Nat.reduceAdd, Nat.reduceMul, reduceCtorEq, List.reduceReplicate, go_sem]
  intros
  apply callK_of (c_impl_StepTick a n (by omega))
  simp only [↓bk_bind, ↓bk_map, ↓bk_ite, ↓bk_some, ↓reduceIte, Nat.reduceEqDiff, Nat.reduceLT, Nat.reduceLeDiff, Nat.reduceAdd, Nat.reduceMul, reduceCtorEq, List.reduceReplicate, go_sem]
  intros
  apply callK_of (c_laws_eqArchive (tickTo a n) (tickTo a n))
  simp only [↓bk_bind, ↓bk_map, ↓bk_ite, ↓bk_some, ↓reduceIte, Nat.reduceEqDiff, Nat.reduceLT, Nat.reduceLeDiff, Nat.reduceAdd, Nat.reduceMul, reduceCtorEq, List.reduceReplicate, go_sem]
  apply callK_of (c_laws_toArchive a (by omega))
  simp only [↓bk_bind, ↓bk_map, ↓bk_ite, ↓bk_some, ↓reduceIte, Nat.reduceEqDiff, Nat.reduceLT, Nat.reduceLeDiff, Nat.reduceAdd, Nat.reduceMul, reduceCtorEq, List.reduceReplicate, go_sem]
  intros
  apply callK_of (c_laws_eqArchive a a)
  simp only [↓bk_bind, ↓bk_map, ↓bk_ite, ↓bk_some, ↓reduceIte, Nat.reduceEqDiff, Nat.reduceLT, Nat.reduceLeDiff, Nat.reduceAdd, Nat.reduceMul, reduceCtorEq, List.reduceReplicate, go_sem]
  intros
  apply callIK_of (c_laws_markArchive a 1 (by omega) (by omega))
  simp only [↓bk_bind, ↓bk_map, ↓bk_ite, ↓bk_some, ↓reduceIte, Nat.reduceEqDiff, Nat.reduceLT, Nat.reduceLeDiff, Nat.reduceAdd, Nat.reduceMul, reduceCtorEq, List.reduceReplicate, go_sem]
  have hk : ¬ (1 + (a.cts : Int)) < 0 := by omega
  simp only [↓bk_bind, ↓bk_map, ↓bk_ite, ↓bk_some, ↓reduceIte, Nat.reduceEqDiff, Nat.reduceLT, Nat.reduceLeDiff, Nat.reduceAdd, Nat.reduceMul, reduceCtorEq, List.reduceReplicate, go_sem, hk]
  apply callK_of (c_laws_eqArchive (tickTo a n) (tickTo a n))
  simp only [↓bk_bind, ↓bk_map, ↓bk_ite, ↓bk_some, ↓reduceIte, Nat.reduceEqDiff, Nat.reduceLT, Nat.reduceLeDiff, Nat.reduceAdd, Nat.reduceMul, reduceCtorEq, List.reduceReplicate, go_sem]
  apply callIK_of (c_laws_markArchive (tickTo a n) 1 (by omega) (by omega))
  simp only [↓bk_bind, ↓bk_map, ↓bk_ite, ↓bk_some, ↓reduceIte, Nat.reduceEqDiff, Nat.reduceLT, Nat.reduceLeDiff, Nat.reduceAdd, Nat.reduceMul, reduceCtorEq, List.reduceReplicate, go_sem]
  apply callK_of (c_laws_heldArchive (tickTo a n) 1 (by omega) (by omega))
  simp only [↓bk_bind, ↓bk_map, ↓bk_ite, ↓bk_some, ↓reduceIte, Nat.reduceEqDiff, Nat.reduceLT, Nat.reduceLeDiff, Nat.reduceAdd, Nat.reduceMul, reduceCtorEq, List.reduceReplicate, go_sem]
  have hk2 : ¬ (1 + ((tickTo a n).cts : Int)) < 0 := by omega
  simp only [↓bk_bind, ↓bk_map, ↓bk_ite, ↓bk_some, ↓reduceIte, Nat.reduceEqDiff, Nat.reduceLT, Nat.reduceLeDiff, Nat.reduceAdd, Nat.reduceMul, reduceCtorEq, List.reduceReplicate, go_sem, hk2]
  intros
  apply callK_of (c_laws_toArchive a (by omega))
  simp only [↓bk_bind, ↓bk_map, ↓bk_ite, ↓bk_some, ↓reduceIte, Nat.reduceEqDiff, Nat.reduceLT, Nat.reduceLeDiff, Nat.reduceAdd, Nat.reduceMul, reduceCtorEq, List.reduceReplicate, go_sem]
  apply callK_of (c_impl_StepTick a n (by omega))
  simp only [↓bk_bind, ↓bk_map, ↓bk_ite, ↓bk_some, ↓reduceIte, Nat.reduceEqDiff, Nat.reduceLT, Nat.reduceLeDiff, Nat.reduceAdd, Nat.reduceMul, reduceCtorEq, List.reduceReplicate, go_sem]
  intros
  apply callK_of (c_laws_eqArchive (tickTo a n) (tickTo a n))
  simp only [↓bk_bind, ↓bk_map, ↓bk_ite, ↓bk_some, ↓reduceIte, Nat.reduceEqDiff, Nat.reduceLT, Nat.reduceLeDiff, Nat.reduceAdd, Nat.reduceMul, reduceCtorEq, List.reduceReplicate, go_sem]
  apply callK_of (c_laws_heldArchive (tickTo a n) 1 (by omega) (by omega))
  simp only [↓bk_bind, ↓bk_map, ↓bk_ite, ↓bk_some, ↓reduceIte, Nat.reduceEqDiff, Nat.reduceLT, Nat.reduceLeDiff, Nat.reduceAdd, Nat.reduceMul, reduceCtorEq, List.reduceReplicate, go_sem, hk2]
  try intros
end Go.Proofs.YtppiabieoooecaaGreatR
