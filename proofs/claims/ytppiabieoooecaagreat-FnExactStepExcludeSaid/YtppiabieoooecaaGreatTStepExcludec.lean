/- What the functions compute that the law of StepExclude reaches: contracts, function by function. Conditions stand in each theorem. -/
import Derived.Test.YtppiabieoooecaaGreatTStepExcludeb
namespace Go.Proofs.YtppiabieoooecaaGreatR
open Go Go.RowKit Go.Proofs
set_option linter.unusedSimpArgs false
set_option linter.unusedVariables false
def exclOk (a : GArchive) (x : GExclusion) : Bool := isExcl { x with Asked := a.Now } && decide (a.Exclusions.length < 8)
def exclTo (a : GArchive) (x : GExclusion) : GArchive := if exclOk a x then { a with Exclusions := a.Exclusions ++ [{ x with Asked := a.Now }] } else a
def m_impl_StepExclude : MC :=
(.seq (pr [.box 2 0 (.s 0), .box 3 1 (.s 1), .alloc 4 2 [.emp 9, .emp 4, .emp 4, .emp 6, .emp 4, .emp 5, .emp 4, .emp 1, .emp 4, .pl (.sc (.int .i64 0))], .mv 5 (.c (.bool false))] [2,3,4])
(.seq (pr [.load 7 true 10 (.s 2), .call 8 [3, 4, 5, 6, 7, 8, 9, 10, 11] (.f n_impl_copyArchive) [.s 7], .alloc 6 12 [.emp 9, .emp 4, .emp 4, .emp 6, .emp 4, .emp 5, .emp 4, .emp 1, .emp 4, .pl (.sc (.int .i64 0))], .store 10 (.s 6) (.s 8)] [2,3,4,6])
(.seq (pr [.fld 9 (.s 2) 9, .load 10 false 1 (.s 9), .fld 11 (.s 3) 4, .store 1 (.s 11) (.s 10)] [2,3,4,6])
(.seq (.seq (.reg [{ o := .load 12 true 5 (.s 3) }, { o := .call 13 [] (.f n_impl_IsExclusion) [.s 12] }, { o := .un 14 .not (.s 13) }, { o := .mv 15 (.s 14) }, { o := .fld 16 (.s 2) 5, g := some (15, false) }, { o := .load 17 false 1 (.s 16), g := some (15, false) }, { o := .len 18 false (.s 17), g := some (15, false) }, { o := .bin 19 false .geq (.s 18) (.c (.int .i64 8)), g := some (15, false) }, { o := .pick 20 (.s 15) (.c (.bool true)) (.s 19) }] [3,4,6,20])
(.cond (.s 20) (.seq (pr [.load 21 true 10 (.s 6), .store 10 (.s 4) (.s 21), .mv 5 (.c (.bool false))] [4,5])
.ret) .skip))
(.seq (pr [.fld 22 (.s 6) 5, .load 23 false 1 (.s 22), .load 24 true 5 (.s 3), .lit 25 13 5 40 [.s 24], .app 26 8 5 40 (.s 23) (.s 25), .fld 27 (.s 6) 5, .store 1 (.s 27) (.s 26)] [4,6])
(.seq (pr [.load 28 true 10 (.s 6), .store 10 (.s 4) (.s 28), .mv 5 (.c (.bool true))] [4,5])
.ret))))))
theorem c_impl_StepExclude (a : GArchive) (x : GExclusion) (hs : a.size ≤ 1073741824) : Ctr Tryz.prog n_impl_StepExclude [aS a.enc, aS x.enc] [rS (exclTo a x).enc, rB (exclOk a x)] := by
  refine ctr_at (M := m_impl_StepExclude) (m := 14) (n := 29) (res := [(.cell 4 true 10, [true, true, true, true, true, true, true, true, true, false]), (.tmp 5, [false])]) hmix Tryz.func67 rfl (by kernel_rfl) rfl (by kernel_rfl) (by kernel_rfl) (Nat.le_of_ble_eq_true rfl) ?_; unfold m_impl_StepExclude
  intro hb
  clear hb
  have hx : a.Exclusions.length ≤ a.size := by simp only [GArchive.size]; omega
  simp only [↓bk_bind, ↓bk_map, ↓bk_ite, ↓bk_some, ↓reduceIte, Nat.reduceEqDiff, Nat.reduceLT, Nat.reduceLeDiff, Nat.reduceAdd, Nat.reduceMul, reduceCtorEq, List.reduceReplicate, go_sem]
  apply callK_of (c_impl_copyArchive a hs)
  simp only [↓bk_bind, ↓bk_map, ↓bk_ite, ↓bk_some, ↓reduceIte, Nat.reduceEqDiff, Nat.reduceLT, Nat.reduceLeDiff, Nat.reduceAdd, Nat.reduceMul, reduceCtorEq, List.reduceReplicate, go_sem]
  intros
  apply callK_of (c_impl_IsExclusion { x with Asked := a.Now })
  simp only [↓bk_bind, ↓bk_map, ↓bk_ite, ↓bk_some, ↓reduceIte, Nat.reduceEqDiff, Nat.reduceLT, Nat.reduceLeDiff, Nat.reduceAdd, Nat.reduceMul, reduceCtorEq, List.reduceReplicate, go_sem]
  repeat' first
    | (refine And.intro ?_ ?_ <;> intro h)
  all_goals
    first
      | (have hT : exclOk a x = false := by unfold exclOk; simp_all
         simp [exclTo, hT]
         done)
      | (have hT : exclOk a x = false := by unfold exclOk; rw [decide_eq_false (by omega), Bool.and_false]
         simp [exclTo, hT]
         done)
      | (have hT : exclOk a x = true := by
          unfold exclOk
          rw [decide_eq_true (show a.Exclusions.length < 8 by omega), Bool.and_true]
          assumption
         simp [exclTo, hT, roomB, GExclusion.enc]
         omega)
def m_spec_StepExclude : MC :=
(.seq (pr [.box 2 0 (.s 0), .box 3 1 (.s 1), .alloc 4 2 [.emp 9, .emp 4, .emp 4, .emp 6, .emp 4, .emp 5, .emp 4, .emp 1, .emp 4, .pl (.sc (.int .i64 0))], .mv 5 (.c (.bool false))] [2,3,4])
(.seq (pr [.load 7 true 10 (.s 2), .call 8 [3, 4, 5, 6, 7, 8, 9, 10, 11] (.f n_spec_l32Copy) [.s 7], .alloc 6 12 [.emp 9, .emp 4, .emp 4, .emp 6, .emp 4, .emp 5, .emp 4, .emp 1, .emp 4, .pl (.sc (.int .i64 0))], .store 10 (.s 6) (.s 8)] [2,3,4,6])
(.seq (pr [.fld 9 (.s 2) 9, .load 10 false 1 (.s 9), .fld 11 (.s 3) 4, .store 1 (.s 11) (.s 10)] [2,3,4,6])
(.seq (.seq (.reg [{ o := .load 12 true 5 (.s 3) }, { o := .call 13 [] (.f n_spec_IsExclusion) [.s 12] }, { o := .un 14 .not (.s 13) }, { o := .mv 15 (.s 14) }, { o := .fld 16 (.s 2) 5, g := some (15, false) }, { o := .load 17 false 1 (.s 16), g := some (15, false) }, { o := .len 18 false (.s 17), g := some (15, false) }, { o := .bin 19 false .geq (.s 18) (.c (.int .i64 8)), g := some (15, false) }, { o := .pick 20 (.s 15) (.c (.bool true)) (.s 19) }] [3,4,6,20])
(.cond (.s 20) (.seq (pr [.load 21 true 10 (.s 6), .store 10 (.s 4) (.s 21), .mv 5 (.c (.bool false))] [4,5])
.ret) .skip))
(.seq (pr [.fld 22 (.s 6) 5, .load 23 false 1 (.s 22), .load 24 true 5 (.s 3), .lit 25 13 5 40 [.s 24], .app 26 8 5 40 (.s 23) (.s 25), .fld 27 (.s 6) 5, .store 1 (.s 27) (.s 26)] [4,6])
(.seq (pr [.load 28 true 10 (.s 6), .store 10 (.s 4) (.s 28), .mv 5 (.c (.bool true))] [4,5])
.ret))))))
theorem c_spec_StepExclude (a : GArchive) (x : GExclusion) (hs : a.size ≤ 1073741824) : Ctr Tryz.prog n_spec_StepExclude [aS a.enc, aS x.enc] [rS (exclTo a x).enc, rB (exclOk a x)] := by
  refine ctr_at (M := m_spec_StepExclude) (m := 14) (n := 29) (res := [(.cell 4 true 10, [true, true, true, true, true, true, true, true, true, false]), (.tmp 5, [false])]) hmix Tryz.func65 rfl (by kernel_rfl) rfl (by kernel_rfl) (by kernel_rfl) (Nat.le_of_ble_eq_true rfl) ?_; unfold m_spec_StepExclude
  intro hb
  clear hb
  have hx : a.Exclusions.length ≤ a.size := by simp only [GArchive.size]; omega
  simp only [↓bk_bind, ↓bk_map, ↓bk_ite, ↓bk_some, ↓reduceIte, Nat.reduceEqDiff, Nat.reduceLT, Nat.reduceLeDiff, Nat.reduceAdd, Nat.reduceMul, reduceCtorEq, List.reduceReplicate, go_sem]
  apply callK_of (c_spec_l32Copy a hs)
  simp only [↓bk_bind, ↓bk_map, ↓bk_ite, ↓bk_some, ↓reduceIte, Nat.reduceEqDiff, Nat.reduceLT, Nat.reduceLeDiff, Nat.reduceAdd, Nat.reduceMul, reduceCtorEq, List.reduceReplicate, go_sem]
  intros
  apply callK_of (c_spec_IsExclusion { x with Asked := a.Now })
  simp only [↓bk_bind, ↓bk_map, ↓bk_ite, ↓bk_some, ↓reduceIte, Nat.reduceEqDiff, Nat.reduceLT, Nat.reduceLeDiff, Nat.reduceAdd, Nat.reduceMul, reduceCtorEq, List.reduceReplicate, go_sem]
  repeat' first
    | (refine And.intro ?_ ?_ <;> intro h)
  all_goals
    first
      | (have hT : exclOk a x = false := by unfold exclOk; simp_all
         simp [exclTo, hT]
         done)
      | (have hT : exclOk a x = false := by unfold exclOk; rw [decide_eq_false (by omega), Bool.and_false]
         simp [exclTo, hT]
         done)
      | (have hT : exclOk a x = true := by
          unfold exclOk
          rw [decide_eq_true (show a.Exclusions.length < 8 by omega), Bool.and_true]
          assumption
         simp [exclTo, hT, roomB, GExclusion.enc]
         omega)
theorem excl_size (a : GArchive) (x : GExclusion) : (exclTo a x).size ≤ a.size + 1 := by
  unfold exclTo
  split
  · simp only [GArchive.size, List.length_append, List.length_cons, List.length_nil]; omega
  · omega
def m_laws_FnExactStepExclude : MC :=
(.seq (pr [.box 2 0 (.s 0), .box 3 1 (.s 1), .mv 4 (.c (.bool false))] [2,3])
(.seq (pr [.mv 5 (.c (.int .i64 1048576))] [2,3,5])
(.seq (pr [.load 16 true 10 (.s 2), .mv 17 (.s 5), .call 18 [] (.f n_laws_szArchive) [.s 16, .s 17], .mv 5 (.s 18)] [2,3,5])
(.seq (.seq (pr [.mv 19 (.s 5), .bin 20 false .lss (.s 19) (.c (.int .i64 0))] [2,3,20])
(.cond (.s 20) (.seq (pr [.mv 4 (.c (.bool true))] [4])
.ret) .skip))
(.seq (.dreg [{ o := .load 22 true 10 (.s 2), hs := [6,24], ho := [20] }, { o := .call 23 [2, 3, 4, 5, 6, 7, 8, 9, 10] (.f n_laws_toArchive) [.s 22], hs := [6,24], ho := [20], ws := [2,3,4,5,6,7,8,9,10], bf := [0] }, { o := .load 24 true 5 (.s 3), hs := [6,22,23], ho := [2,3,4,5,6,7,8,9,10,20] }, { o := .call 25 [] (.f n_laws_toExclusion) [.s 24], hs := [6], ho := [20], bf := [0,1,2] }, { o := .call 26 [11, 12, 13, 14, 15, 16, 17, 18, 19] (.f n_spec_StepExclude) [.s 23, .s 25], hs := [6], ho := [20], ws := [11,12,13,14,15,16,17,18,19], bf := [0,1,2,3] }, { o := .mv 21 (.s 26), hs := [6], ho := [20], bf := [0,1,2,3,4] }, { o := .ext 27 (.s 21) 0, hs := [6,28], ho := [20], bf := [0,1,2,3,4,5] }, { o := .ext 28 (.s 21) 1, hs := [6,27], ho := [11,12,13,14,15,16,17,18,19,20], bf := [0,1,2,3,4,5] }, { o := .alloc 6 20 [.emp 9, .emp 4, .emp 4, .emp 6, .emp 4, .emp 5, .emp 4, .emp 1, .emp 4, .pl (.sc (.int .i64 0))], hs := [21,22,23,24,25,26,27,28], ho := [2,3,4,5,6,7,8,9,10,11,12,13,14,15,16,17,18,19], ws := [20] }, { o := .store 10 (.s 6) (.s 27), hs := [28], ws := [11,12,13,14,15,16,17,18,19,20], bf := [0,1,2,3,4,5,6,8] }, { o := .mv 7 (.s 28), bf := [0,1,2,3,4,5,6,7,8,9] }] [2,3,6,7])
(.seq (pr [.load 29 true 10 (.s 2), .call 30 [21, 22, 23, 24, 25, 26, 27, 28, 29] (.f n_laws_toArchive) [.s 29], .alloc 8 30 [.emp 9, .emp 4, .emp 4, .emp 6, .emp 4, .emp 5, .emp 4, .emp 1, .emp 4, .pl (.sc (.int .i64 0))], .store 10 (.s 8) (.s 30)] [2,3,6,7,8])
(.seq (.dreg [{ o := .load 32 true 10 (.s 8), hs := [9,33,34], ho := [40] }, { o := .load 33 true 5 (.s 3), hs := [9,32], ho := [40] }, { o := .call 34 [] (.f n_laws_toExclusion) [.s 33], hs := [9,32], ho := [40], bf := [1] }, { o := .call 35 [31, 32, 33, 34, 35, 36, 37, 38, 39] (.f n_impl_StepExclude) [.s 32, .s 34], hs := [9], ho := [40], ws := [31,32,33,34,35,36,37,38,39], bf := [0,1,2] }, { o := .mv 31 (.s 35), hs := [9], ho := [40], bf := [0,1,2,3] }, { o := .ext 36 (.s 31) 0, hs := [9,37], ho := [40], bf := [0,1,2,3,4] }, { o := .ext 37 (.s 31) 1, hs := [9,36], ho := [31,32,33,34,35,36,37,38,39,40], bf := [0,1,2,3,4] }, { o := .alloc 9 40 [.emp 9, .emp 4, .emp 4, .emp 6, .emp 4, .emp 5, .emp 4, .emp 1, .emp 4, .pl (.sc (.int .i64 0))], hs := [31,32,33,34,35,36,37], ho := [31,32,33,34,35,36,37,38,39], ws := [40] }, { o := .store 10 (.s 9) (.s 36), hs := [37], ws := [31,32,33,34,35,36,37,38,39,40], bf := [0,1,2,3,4,5,7] }, { o := .mv 10 (.s 37), bf := [0,1,2,3,4,5,6,7,8] }] [2,3,6,7,8,9,10])
(.seq (.seq (.reg [{ o := .load 38 true 10 (.s 9) }, { o := .load 39 true 10 (.s 6) }, { o := .call 40 [] (.f n_laws_eqArchive) [.s 38, .s 39] }, { o := .un 41 .not (.s 40) }, { o := .mv 42 (.s 41) }, { o := .mv 43 (.s 10), g := some (42, false) }, { o := .mv 44 (.s 7), g := some (42, false) }, { o := .bin 45 true .neq (.s 43) (.s 44), g := some (42, false) }, { o := .pick 46 (.s 42) (.c (.bool true)) (.s 45) }] [2,3,6,7,8,9,10,46])
(.cond (.s 46) (.seq (pr [.mv 4 (.c (.bool false))] [4])
.ret) .skip))
(.seq (.seq (.dreg [{ o := .load 47 true 10 (.s 8), hs := [48,49], ho := [41,42,43,44,45,46,47,48,49] }, { o := .load 48 true 10 (.s 2), hs := [47] }, { o := .call 49 [41, 42, 43, 44, 45, 46, 47, 48, 49] (.f n_laws_toArchive) [.s 48], hs := [47], ws := [41,42,43,44,45,46,47,48,49], bf := [1] }, { o := .call 50 [] (.f n_laws_eqArchive) [.s 47, .s 49], bf := [0,1,2] }, { o := .un 51 .not (.s 50), bf := [0,1,2,3] }] [2,3,6,7,8,9,10,51])
(.cond (.s 51) (.seq (pr [.mv 4 (.c (.bool false))] [4])
.ret) .skip))
(.seq (pr [.mv 11 (.c (.int .i64 1))] [2,3,6,7,8,9,10,11])
(.seq (pr [.load 52 true 10 (.s 8), .mv 53 (.s 11), .callI 54 [] (.f n_laws_markArchive) [.s 52, .s 53] [21,22,23,24,25,26,27,28,29] [], .mv 11 (.s 54)] [2,3,6,7,9,10,11])
(.seq (.seq (.reg [{ o := .mv 55 (.s 11) }, { o := .bin 56 false .lss (.s 55) (.c (.int .i64 0)) }, { o := .mv 57 (.s 56) }, { o := .load 58 true 10 (.s 9), g := some (57, false) }, { o := .load 59 true 10 (.s 6), g := some (57, false) }, { o := .call 60 [] (.f n_laws_eqArchive) [.s 58, .s 59], g := some (57, false) }, { o := .un 61 .not (.s 60), g := some (57, false) }, { o := .pick 62 (.s 57) (.c (.bool true)) (.s 61) }, { o := .mv 63 (.s 62) }, { o := .mv 64 (.s 10), g := some (63, false) }, { o := .mv 65 (.s 7), g := some (63, false) }, { o := .bin 66 true .neq (.s 64) (.s 65), g := some (63, false) }, { o := .pick 67 (.s 63) (.c (.bool true)) (.s 66) }] [2,3,6,7,9,67])
(.cond (.s 67) (.seq (pr [.mv 4 (.c (.bool false))] [4])
.ret) .skip))
(.seq (pr [.mv 12 (.c (.int .i64 1))] [2,3,6,7,9,12])
(.seq (pr [.load 68 true 10 (.s 9), .mv 69 (.s 12), .callI 70 [] (.f n_laws_markArchive) [.s 68, .s 69] [31,32,33,34,35,36,37,38,39] [], .mv 12 (.s 70)] [2,3,6,7,9,12])
(.seq (pr [.mv 13 (.c (.int .i64 1))] [2,3,6,7,9,12,13])
(.seq (pr [.load 71 true 10 (.s 9), .mv 72 (.s 13), .call 73 [] (.f n_laws_heldArchive) [.s 71, .s 72], .mv 13 (.s 73)] [2,3,6,7,9,12,13])
(.seq (.seq (pr [.mv 74 (.s 13), .bin 75 false .lss (.s 74) (.c (.int .i64 0))] [2,3,6,7,9,12,13,75])
(.cond (.s 75) (.seq (pr [.mv 4 (.c (.bool false))] [4])
.ret) .skip))
(.seq (.seq (pr [.mv 76 (.s 13), .mv 77 (.s 12), .bin 78 false .neq (.s 76) (.s 77)] [2,3,6,7,9,12,78])
(.cond (.s 78) (.seq (pr [.mv 4 (.c (.bool false))] [4])
.ret) .skip))
(.seq (.dreg [{ o := .load 80 true 10 (.s 2), hs := [14,82], ho := [68] }, { o := .call 81 [50, 51, 52, 53, 54, 55, 56, 57, 58] (.f n_laws_toArchive) [.s 80], hs := [14,82], ho := [68], ws := [50,51,52,53,54,55,56,57,58], bf := [0] }, { o := .load 82 true 5 (.s 3), hs := [14,80,81], ho := [50,51,52,53,54,55,56,57,58,68] }, { o := .call 83 [] (.f n_laws_toExclusion) [.s 82], hs := [14], ho := [68], bf := [0,1,2] }, { o := .call 84 [59, 60, 61, 62, 63, 64, 65, 66, 67] (.f n_impl_StepExclude) [.s 81, .s 83], hs := [14], ho := [68], ws := [59,60,61,62,63,64,65,66,67], bf := [0,1,2,3] }, { o := .mv 79 (.s 84), hs := [14], ho := [68], bf := [0,1,2,3,4] }, { o := .ext 85 (.s 79) 0, hs := [14,86], ho := [68], bf := [0,1,2,3,4,5] }, { o := .ext 86 (.s 79) 1, hs := [14,85], ho := [59,60,61,62,63,64,65,66,67,68], bf := [0,1,2,3,4,5] }, { o := .alloc 14 68 [.emp 9, .emp 4, .emp 4, .emp 6, .emp 4, .emp 5, .emp 4, .emp 1, .emp 4, .pl (.sc (.int .i64 0))], hs := [79,80,81,82,83,84,85,86], ho := [50,51,52,53,54,55,56,57,58,59,60,61,62,63,64,65,66,67], ws := [68] }, { o := .store 10 (.s 14) (.s 85), hs := [86], ws := [59,60,61,62,63,64,65,66,67,68], bf := [0,1,2,3,4,5,6,8] }, { o := .mv 15 (.s 86), bf := [0,1,2,3,4,5,6,7,8,9] }] [6,7,9,12,14,15])
(.seq (.seq (.reg [{ o := .load 87 true 10 (.s 14) }, { o := .load 88 true 10 (.s 6) }, { o := .call 89 [] (.f n_laws_eqArchive) [.s 87, .s 88] }, { o := .un 90 .not (.s 89) }, { o := .mv 91 (.s 90) }, { o := .mv 92 (.s 15), g := some (91, false) }, { o := .mv 93 (.s 7), g := some (91, false) }, { o := .bin 94 true .neq (.s 92) (.s 93), g := some (91, false) }, { o := .pick 95 (.s 91) (.c (.bool true)) (.s 94) }] [9,12,95])
(.cond (.s 95) (.seq (pr [.mv 4 (.c (.bool false))] [4])
.ret) .skip))
(.seq (pr [.mv 13 (.c (.int .i64 1))] [9,12,13])
(.seq (pr [.load 96 true 10 (.s 9), .mv 97 (.s 13), .call 98 [] (.f n_laws_heldArchive) [.s 96, .s 97], .mv 13 (.s 98)] [12,13])
(.seq (.seq (pr [.mv 99 (.s 13), .bin 100 false .lss (.s 99) (.c (.int .i64 0))] [12,13,100])
(.cond (.s 100) (.seq (pr [.mv 4 (.c (.bool false))] [4])
.ret) .skip))
(.seq (.seq (pr [.mv 101 (.s 13), .mv 102 (.s 12), .bin 103 false .neq (.s 101) (.s 102)] [103])
(.cond (.s 103) (.seq (pr [.mv 4 (.c (.bool false))] [4])
.ret) .skip))
(.seq (pr [.mv 4 (.c (.bool true))] [4])
.ret)))))))))))))))))))))))))
theorem c_laws_FnExactStepExclude (a : GArchive) (x : GExclusion) : Ctr Tryz.prog n_laws_FnExactStepExclude [aS a.enc, aS x.enc] [rB true] := by
  refine ctr_at (M := m_laws_FnExactStepExclude) (m := 69) (n := 104) (res := [(.tmp 4, [false])]) hmix Tryz.func16 rfl (by kernel_rfl) rfl (by kernel_rfl) (by kernel_rfl) (Nat.le_of_ble_eq_true rfl) ?_; unfold m_laws_FnExactStepExclude
  intro hb
  clear hb
  simp only [↓bk_bind, ↓bk_map, ↓bk_ite, ↓bk_some, ↓reduceIte, Nat.reduceEqDiff, Nat.reduceLT, Nat.reduceLeDiff, Nat.reduceAdd, Nat.reduceMul, reduceCtorEq, List.reduceReplicate, go_sem]
  apply callK_of (c_laws_szArchive a _ (by omega))
  simp only [↓bk_bind, ↓bk_map, ↓bk_ite, ↓bk_some, ↓reduceIte, Nat.reduceEqDiff, Nat.reduceLT, Nat.reduceLeDiff, Nat.reduceAdd, Nat.reduceMul, reduceCtorEq, List.reduceReplicate, go_sem]
  intro _ hz
  have hs := szr_ok hz
  have hc_a := GArchive.cts_le a
  have hr0 := GArchive.cts_le (exclTo a x)
  have hl_excl_size := excl_size a x
  apply callK_of (c_laws_toArchive a (by omega))
  simp only [↓bk_bind, ↓bk_map, ↓bk_ite, ↓bk_some, ↓reduceIte, Nat.reduceEqDiff, Nat.reduceLT, Nat.reduceLeDiff, Nat.reduceAdd, Nat.reduceMul, reduceCtorEq, List.reduceReplicate, go_sem]
  intros
  apply callK_of (c_laws_toExclusion x)
  simp only [↓bk_bind, ↓bk_map, ↓bk_ite, ↓bk_some, ↓reduceIte, Nat.reduceEqDiff, Nat.reduceLT, Nat.reduceLeDiff, Nat.reduceAdd, Nat.reduceMul, reduceCtorEq, List.reduceReplicate, go_sem]
  intros
  apply callK_of (c_spec_StepExclude a x (by omega))
  simp only [↓bk_bind, ↓bk_map, ↓bk_ite, ↓bk_some, ↓reduceIte, Nat.reduceEqDiff, Nat.reduceLT, Nat.reduceLeDiff, Nat.reduceAdd, Nat.reduceMul, reduceCtorEq, List.reduceReplicate, go_sem]
  intros
  apply callK_of (c_laws_toArchive a (by omega))
  simp only [↓bk_bind, ↓bk_map, ↓bk_ite, ↓bk_some, ↓reduceIte, Nat.reduceEqDiff, Nat.reduceLT, Nat.reduceLeDiff, Nat.reduceAdd, Nat.reduceMul, reduceCtorEq, List.reduceReplicate, go_sem]
  intros
  apply callK_of (c_laws_toExclusion x)
  simp only [↓bk_bind, ↓bk_map, ↓bk_ite, ↓bk_some, ↓reduceIte, Nat.reduceEqDiff, Nat.reduceLT, Nat.reduceLeDiff, Nat.reduceAdd, Nat.reduceMul, reduceCtorEq, List.reduceReplicate, go_sem]
  intros
  apply callK_of (c_impl_StepExclude a x (by omega))
  simp only [↓bk_bind, ↓bk_map, ↓bk_ite, ↓bk_some, ↓reduceIte, Nat.reduceEqDiff, Nat.reduceLT, Nat.reduceLeDiff, Nat.reduceAdd, Nat.reduceMul, reduceCtorEq, List.reduceReplicate, go_sem]
  intros
  apply callK_of (c_laws_eqArchive (exclTo a x) (exclTo a x))
  simp only [↓bk_bind, ↓bk_map, ↓bk_ite, ↓bk_some, ↓reduceIte, Nat.reduceEqDiff, Nat.reduceLT, Nat.reduceLeDiff, Nat.reduceAdd, Nat.reduceMul, reduceCtorEq, List.reduceReplicate, go_sem]
  intros
  apply callK_of (c_laws_toArchive a (by omega))
  simp only [↓bk_bind, ↓bk_map, ↓bk_ite, ↓bk_some, ↓reduceIte, Nat.reduceEqDiff, Nat.reduceLT, Nat.reduceLeDiff, Nat.reduceAdd, Nat.reduceMul, reduceCtorEq, List.reduceReplicate, go_sem]
  intros
  apply callK_of (c_laws_eqArchive a a)
  simp only [↓bk_bind, ↓bk_map, ↓bk_ite, ↓bk_some, ↓reduceIte, Nat.reduceEqDiff, Nat.reduceLT, Nat.reduceLeDiff, Nat.reduceAdd, Nat.reduceMul, reduceCtorEq, List.reduceReplicate, go_sem]
  intros
  apply callIK_of (c_laws_markArchive a (1) (by omega) (by omega))
  simp only [↓bk_bind, ↓bk_map, ↓bk_ite, ↓bk_some, ↓reduceIte, Nat.reduceEqDiff, Nat.reduceLT, Nat.reduceLeDiff, Nat.reduceAdd, Nat.reduceMul, reduceCtorEq, List.reduceReplicate, go_sem]
  intros
  have hk : ¬ ((1 + ((a).cts : Nat) : Int)) < 0 := by omega
  simp only [↓bk_bind, ↓bk_map, ↓bk_ite, ↓bk_some, ↓reduceIte, Nat.reduceEqDiff, Nat.reduceLT, Nat.reduceLeDiff, Nat.reduceAdd, Nat.reduceMul, reduceCtorEq, List.reduceReplicate, go_sem, hk]
  try intros
  apply callK_of (c_laws_eqArchive (exclTo a x) (exclTo a x))
  simp only [↓bk_bind, ↓bk_map, ↓bk_ite, ↓bk_some, ↓reduceIte, Nat.reduceEqDiff, Nat.reduceLT, Nat.reduceLeDiff, Nat.reduceAdd, Nat.reduceMul, reduceCtorEq, List.reduceReplicate, go_sem]
  intros
  apply callIK_of (c_laws_markArchive (exclTo a x) (1) (by omega) (by omega))
  simp only [↓bk_bind, ↓bk_map, ↓bk_ite, ↓bk_some, ↓reduceIte, Nat.reduceEqDiff, Nat.reduceLT, Nat.reduceLeDiff, Nat.reduceAdd, Nat.reduceMul, reduceCtorEq, List.reduceReplicate, go_sem]
  intros
  apply callK_of (c_laws_heldArchive (exclTo a x) (1) (by omega) (by omega))
  simp only [↓bk_bind, ↓bk_map, ↓bk_ite, ↓bk_some, ↓reduceIte, Nat.reduceEqDiff, Nat.reduceLT, Nat.reduceLeDiff, Nat.reduceAdd, Nat.reduceMul, reduceCtorEq, List.reduceReplicate, go_sem]
  have hq0 : ¬ ((1 + ((exclTo a x).cts : Nat) : Int)) < 0 := by omega
  try simp only [↓bk_bind, ↓bk_map, ↓bk_ite, ↓bk_some, ↓reduceIte, Nat.reduceEqDiff, Nat.reduceLT, Nat.reduceLeDiff, Nat.reduceAdd, Nat.reduceMul, reduceCtorEq, List.reduceReplicate, go_sem, hq0]
  try intros
  apply callK_of (c_laws_toArchive a (by omega))
  simp only [↓bk_bind, ↓bk_map, ↓bk_ite, ↓bk_some, ↓reduceIte, Nat.reduceEqDiff, Nat.reduceLT, Nat.reduceLeDiff, Nat.reduceAdd, Nat.reduceMul, reduceCtorEq, List.reduceReplicate, go_sem]
  intros
  apply callK_of (c_laws_toExclusion x)
  simp only [↓bk_bind, ↓bk_map, ↓bk_ite, ↓bk_some, ↓reduceIte, Nat.reduceEqDiff, Nat.reduceLT, Nat.reduceLeDiff, Nat.reduceAdd, Nat.reduceMul, reduceCtorEq, List.reduceReplicate, go_sem]
  intros
  apply callK_of (c_impl_StepExclude a x (by omega))
  simp only [↓bk_bind, ↓bk_map, ↓bk_ite, ↓bk_some, ↓reduceIte, Nat.reduceEqDiff, Nat.reduceLT, Nat.reduceLeDiff, Nat.reduceAdd, Nat.reduceMul, reduceCtorEq, List.reduceReplicate, go_sem]
  intros
  apply callK_of (c_laws_eqArchive (exclTo a x) (exclTo a x))
  simp only [↓bk_bind, ↓bk_map, ↓bk_ite, ↓bk_some, ↓reduceIte, Nat.reduceEqDiff, Nat.reduceLT, Nat.reduceLeDiff, Nat.reduceAdd, Nat.reduceMul, reduceCtorEq, List.reduceReplicate, go_sem]
  intros
  apply callK_of (c_laws_heldArchive (exclTo a x) (1) (by omega) (by omega))
  simp only [↓bk_bind, ↓bk_map, ↓bk_ite, ↓bk_some, ↓reduceIte, Nat.reduceEqDiff, Nat.reduceLT, Nat.reduceLeDiff, Nat.reduceAdd, Nat.reduceMul, reduceCtorEq, List.reduceReplicate, go_sem]
  have hq0 : ¬ ((1 + ((exclTo a x).cts : Nat) : Int)) < 0 := by omega
  try simp only [↓bk_bind, ↓bk_map, ↓bk_ite, ↓bk_some, ↓reduceIte, Nat.reduceEqDiff, Nat.reduceLT, Nat.reduceLeDiff, Nat.reduceAdd, Nat.reduceMul, reduceCtorEq, List.reduceReplicate, go_sem, hq0]
  try intros
end Go.Proofs.YtppiabieoooecaaGreatR
