/- What the functions compute that the law of StepChange reaches: contracts, function by function. Conditions stand in each theorem. -/
import Derived.Test.YtpclnmleldeleaaGreatTStepChangeb
namespace Go.Proofs.YtpclnmleldeleaaGreatR
open Go Go.RowKit Go.Proofs
set_option linter.unusedSimpArgs false
set_option linter.unusedVariables false
def m_impl_copyDisk : MC :=
(.seq (pr [.box 1 0 (.s 0), .alloc 2 1 [.emp 4, .emp 6, .emp 4]] [1,2])
(.seq (.dreg [{ o := .fld 3 (.s 1) 0, hs := [6,7,9,10] }, { o := .load 4 false 1 (.s 3), hs := [6,7,9,10], bf := [0] }, { o := .call 5 [2] (.f n_impl_copyContainers) [.s 4], hs := [6,7,9,10], ws := [2], bf := [0,1] }, { o := .fld 6 (.s 1) 1, hs := [3,4,5,9,10], ho := [2] }, { o := .load 7 false 1 (.s 6), hs := [3,4,5,9,10], ho := [2], bf := [3] }, { o := .call 8 [3] (.f n_slices_Clone_impl_Found_impl_Found) [.s 7], hs := [9,10], ws := [3], bf := [0,1,2,3,4] }, { o := .fld 9 (.s 1) 2, hs := [3,4,5,6,7,8], ho := [2,3] }, { o := .load 10 false 1 (.s 9), hs := [3,4,5,6,7,8], ho := [2,3], bf := [6] }, { o := .call 11 [4] (.f n_impl_copyContainers) [.s 10], ws := [4], bf := [0,1,2,3,4,5,6,7] }, { o := .build 12 [.emp 4, .emp 6, .emp 4] [(0, 1, .s 5), (1, 1, .s 8), (2, 1, .s 11)], bf := [0,1,2,3,4,5,6,7,8] }, { o := .store 3 (.s 2) (.s 12), ws := [1,2,3,4], bf := [0,1,2,3,4,5,6,7,8,9] }] [2])
.ret))
theorem c_impl_copyDisk (d : GDisk) (hs : d.size ≤ 1073741824) : Ctr Tryz.prog n_impl_copyDisk [aS d.enc] [rS d.enc] := by
  refine ctr_at (M := m_impl_copyDisk) (m := 5) (n := 13) (res := [(.cell 2 true 3, [true, true, true])]) hmix Tryz.func135 rfl (by kernel_rfl) rfl (by kernel_rfl) (by kernel_rfl) (Nat.le_of_ble_eq_true rfl) ?_; unfold m_impl_copyDisk
  intro hb
  clear hb
  simp only [GDisk.size] at hs
  simp only [↓bk_bind, ↓bk_map, ↓bk_ite, ↓bk_some, ↓reduceIte, Nat.reduceEqDiff, Nat.reduceLT, Nat.reduceLeDiff, Nat.reduceAdd, Nat.reduceMul, reduceCtorEq, List.reduceReplicate, go_sem]
  apply callK_of (c_impl_copyContainers d.Containers (by omega))
  simp only [↓bk_bind, ↓bk_map, ↓bk_ite, ↓bk_some, ↓reduceIte, Nat.reduceEqDiff, Nat.reduceLT, Nat.reduceLeDiff, Nat.reduceAdd, Nat.reduceMul, reduceCtorEq, List.reduceReplicate, go_sem]
  apply callK_of (c_slices_Clone_Found d.Index (by omega))
  simp only [↓bk_bind, ↓bk_map, ↓bk_ite, ↓bk_some, ↓reduceIte, Nat.reduceEqDiff, Nat.reduceLT, Nat.reduceLeDiff, Nat.reduceAdd, Nat.reduceMul, reduceCtorEq, List.reduceReplicate, go_sem]
  apply callK_of (c_impl_copyContainers d.Wanted (by omega))
  simp only [↓bk_bind, ↓bk_map, ↓bk_ite, ↓bk_some, ↓reduceIte, Nat.reduceEqDiff, Nat.reduceLT, Nat.reduceLeDiff, Nat.reduceAdd, Nat.reduceMul, reduceCtorEq, List.reduceReplicate, go_sem]
  try intros
  try trivial
def m_spec_l31Copy : MC :=
(.seq (pr [.box 1 0 (.s 0), .alloc 2 1 [.emp 4, .emp 6, .emp 4]] [1,2])
(.seq (pr [.lit 6 2 6 48 [], .fld 7 (.s 1) 1, .load 8 false 1 (.s 7), .app 9 2 6 48 (.s 6) (.s 8), .buildO 10 [.emp 4, .emp 6, .emp 4] [(1, 1, .s 9)] [some 3, none, some 4], .alloc 3 5 [.emp 4, .emp 6, .emp 4], .store 3 (.s 3) (.s 10)] [1,2,3])
(.seq (.seq (pr [.mv 4 (.c (.int .i64 0))] [1,2,3,4])
(.block 0 (.loop ([1,2,3,4], [6,7,8,9,10,11,12,13]) (.seq (.seq (pr [.mv 11 (.s 4), .fld 12 (.s 1) 0, .load 13 false 1 (.s 12), .len 14 false (.s 13), .bin 15 false .lss (.s 11) (.s 14)] [1,2,3,4,15])
(.cond (.s 15) .skip (.exit 0)))
(.seq (.block 1 (.dreg [{ o := .fld 18 (.s 3) 0, hs := [20,21,22,23,24,25,26], ho := [6,7,8,9] }, { o := .load 19 false 1 (.s 18), hs := [20,21,22,23,24,25,26], ho := [6,7,8,9], bf := [0] }, { o := .fld 20 (.s 1) 0, hs := [18,19,22] }, { o := .load 21 false 1 (.s 20), hs := [18,19,22], bf := [2] }, { o := .mv 22 (.s 4), hs := [18,19,20,21] }, { o := .idx 23 4 (.s 21) (.s 22), hs := [18,19], bf := [2,3,4] }, { o := .load 24 true 4 (.s 23), hs := [18,19], bf := [2,3,4,5] }, { o := .call 25 [6, 7, 8] (.f n_spec_l30Copy) [.s 24], hs := [18,19], ws := [6,7,8], bf := [2,3,4,5,6] }, { o := .lit 26 9 4 80 [.s 25], hs := [18,19], ws := [6,7,8,9], bf := [2,3,4,5,6,7] }, { o := .app 27 3 4 80 (.s 19) (.s 26), ws := [3,9], bf := [0,1,2,3,4,5,6,7,8] }, { o := .fld 28 (.s 3) 0, bf := [0,1,2,3,4,5,6,7,8,9] }, { o := .store 1 (.s 28) (.s 27), ws := [3,5], bf := [0,1,2,3,4,5,6,7,8,9,10] }] [1,2,3,4]))
(pr [.mv 16 (.s 4), .bin 17 false .add (.s 16) (.c (.int .i64 1)), .mv 4 (.s 17)] [1,2,3,4]))))))
(.seq (.seq (pr [.mv 5 (.c (.int .i64 0))] [1,2,3,5])
(.block 2 (.loop ([1,2,3,5], [6,7,8,9,10,11,12,13]) (.seq (.seq (pr [.mv 29 (.s 5), .fld 30 (.s 1) 2, .load 31 false 1 (.s 30), .len 32 false (.s 31), .bin 33 false .lss (.s 29) (.s 32)] [1,2,3,5,33])
(.cond (.s 33) .skip (.exit 2)))
(.seq (.block 3 (.dreg [{ o := .fld 36 (.s 3) 2, hs := [38,39,40,41,42,43,44], ho := [10,11,12,13] }, { o := .load 37 false 1 (.s 36), hs := [38,39,40,41,42,43,44], ho := [10,11,12,13], bf := [0] }, { o := .fld 38 (.s 1) 2, hs := [36,37,40] }, { o := .load 39 false 1 (.s 38), hs := [36,37,40], bf := [2] }, { o := .mv 40 (.s 5), hs := [36,37,38,39] }, { o := .idx 41 4 (.s 39) (.s 40), hs := [36,37], bf := [2,3,4] }, { o := .load 42 true 4 (.s 41), hs := [36,37], bf := [2,3,4,5] }, { o := .call 43 [10, 11, 12] (.f n_spec_l30Copy) [.s 42], hs := [36,37], ws := [10,11,12], bf := [2,3,4,5,6] }, { o := .lit 44 13 4 80 [.s 43], hs := [36,37], ws := [10,11,12,13], bf := [2,3,4,5,6,7] }, { o := .app 45 4 4 80 (.s 37) (.s 44), ws := [4,13], bf := [0,1,2,3,4,5,6,7,8] }, { o := .fld 46 (.s 3) 2, bf := [0,1,2,3,4,5,6,7,8,9] }, { o := .store 1 (.s 46) (.s 45), ws := [4,5], bf := [0,1,2,3,4,5,6,7,8,9,10] }] [1,2,3,5]))
(pr [.mv 34 (.s 5), .bin 35 false .add (.s 34) (.c (.int .i64 1)), .mv 5 (.s 35)] [1,2,3,5]))))))
(.seq (pr [.load 47 true 3 (.s 3), .store 3 (.s 2) (.s 47)] [2])
.ret)))))
theorem c_spec_l31Copy (d : GDisk) (hs : d.size ≤ 1073741824) : Ctr Tryz.prog n_spec_l31Copy [aS d.enc] [rS d.enc] := by
  refine ctr_at (M := m_spec_l31Copy) (m := 14) (n := 48) (res := [(.cell 2 true 3, [true, true, true])]) hmix Tryz.func125 rfl (by kernel_rfl) rfl (by kernel_rfl) (by kernel_rfl) (Nat.le_of_ble_eq_true rfl) ?_; unfold m_spec_l31Copy
  intro hb
  clear hb
  simp only [GDisk.size] at hs
  simp only [↓bk_bind, ↓bk_map, ↓bk_ite, ↓bk_some, ↓reduceIte, Nat.reduceEqDiff, Nat.reduceLT, Nat.reduceLeDiff, Nat.reduceAdd, Nat.reduceMul, reduceCtorEq, List.reduceReplicate, go_sem, ↓flat_of (f := GFound.enc) (fun _ => rfl) d.Index]
  simp only [roomB]
  refine ⟨by omega, ?_⟩
  refine loopK_rng d.Containers (fun k => [(4, vI k)]) (fun k => [(3, ⟨0, .row true 4 ((d.Containers.take k).map GContainer.enc)⟩), (5, ⟨0, .box [.ref 3 0 4 0 (d.Containers.take k).length, .ref 2 0 6 0 d.Index.length, .ref 4 0 4 0 0]⟩)]) (fun _ => True) (by simp only [roomB]; omega) ?_
  simp only [↓bk_bind, ↓bk_map, ↓bk_ite, ↓bk_some, ↓reduceIte, Nat.reduceEqDiff, Nat.reduceLT, Nat.reduceLeDiff, Nat.reduceAdd, Nat.reduceMul, reduceCtorEq, List.reduceReplicate, go_sem]
  refine ⟨?_, trivial, ?_, ?_⟩
  · simp only [↓bk_bind, ↓bk_map, ↓bk_ite, ↓bk_some, ↓reduceIte, Nat.reduceEqDiff, Nat.reduceLT, Nat.reduceLeDiff, Nat.reduceAdd, Nat.reduceMul, reduceCtorEq, List.reduceReplicate, go_sem, List.take_zero]
  · intro k x hx _ h0 h1 hw
    have hlt := List.length_take_le k d.Containers
    have hk : k < d.Containers.length := by omega
    have hx1 := mem_sum (f := GContainer.size) (at_mem hx)
    simp only [↓bk_bind, ↓bk_map, ↓bk_ite, ↓bk_some, ↓reduceIte, Nat.reduceEqDiff, Nat.reduceLT, Nat.reduceLeDiff, Nat.reduceAdd, Nat.reduceMul, reduceCtorEq, List.reduceReplicate, go_sem, bk_eq hx, h0, h1, hw]
    apply callK_of (c_spec_l30Copy x (by omega))
    simp only [↓bk_bind, ↓bk_map, ↓bk_ite, ↓bk_some, ↓reduceIte, Nat.reduceEqDiff, Nat.reduceLT, Nat.reduceLeDiff, Nat.reduceAdd, Nat.reduceMul, reduceCtorEq, List.reduceReplicate, go_sem, hw]
    simp only [roomB]
    exact ⟨by omega, by omega, fun _ => ⟨snoc_map hx, snoc_len hx⟩⟩
  · intro _
    simp only [↓bk_bind, ↓bk_map, ↓bk_ite, ↓bk_some, ↓reduceIte, Nat.reduceEqDiff, Nat.reduceLT, Nat.reduceLeDiff, Nat.reduceAdd, Nat.reduceMul, reduceCtorEq, List.reduceReplicate, go_sem, List.take_length]
    refine loopK_rng d.Wanted (fun k => [(5, vI k)]) (fun k => [(4, ⟨0, .row true 4 ((d.Wanted.take k).map GContainer.enc)⟩), (5, ⟨0, .box [.ref 3 0 4 0 d.Containers.length, .ref 2 0 6 0 d.Index.length, .ref 4 0 4 0 (d.Wanted.take k).length]⟩)]) (fun _ => True) (by simp only [roomB]; omega) ?_
    simp only [↓bk_bind, ↓bk_map, ↓bk_ite, ↓bk_some, ↓reduceIte, Nat.reduceEqDiff, Nat.reduceLT, Nat.reduceLeDiff, Nat.reduceAdd, Nat.reduceMul, reduceCtorEq, List.reduceReplicate, go_sem]
    refine ⟨?_, trivial, ?_, ?_⟩
    · simp only [↓bk_bind, ↓bk_map, ↓bk_ite, ↓bk_some, ↓reduceIte, Nat.reduceEqDiff, Nat.reduceLT, Nat.reduceLeDiff, Nat.reduceAdd, Nat.reduceMul, reduceCtorEq, List.reduceReplicate, go_sem, List.take_zero]
    · intro k x hx _ h0 h1 hw
      have hlt := List.length_take_le k d.Wanted
      have hk : k < d.Wanted.length := by omega
      have hx1 := mem_sum (f := GContainer.size) (at_mem hx)
      simp only [↓bk_bind, ↓bk_map, ↓bk_ite, ↓bk_some, ↓reduceIte, Nat.reduceEqDiff, Nat.reduceLT, Nat.reduceLeDiff, Nat.reduceAdd, Nat.reduceMul, reduceCtorEq, List.reduceReplicate, go_sem, bk_eq hx, h0, h1, hw]
      apply callK_of (c_spec_l30Copy x (by omega))
      simp only [↓bk_bind, ↓bk_map, ↓bk_ite, ↓bk_some, ↓reduceIte, Nat.reduceEqDiff, Nat.reduceLT, Nat.reduceLeDiff, Nat.reduceAdd, Nat.reduceMul, reduceCtorEq, List.reduceReplicate, go_sem, hw]
      simp only [roomB]
      exact ⟨by omega, by omega, fun _ => ⟨snoc_map hx, snoc_len hx⟩⟩
    · intro _
      simp only [↓bk_bind, ↓bk_map, ↓bk_ite, ↓bk_some, ↓reduceIte, Nat.reduceEqDiff, Nat.reduceLT, Nat.reduceLeDiff, Nat.reduceAdd, Nat.reduceMul, reduceCtorEq, List.reduceReplicate, go_sem, List.take_length]
def m_impl_copyArchive : MC :=
(.seq (pr [.box 1 0 (.s 0), .alloc 2 1 [.emp 9, .emp 4, .emp 4, .emp 6, .emp 4, .emp 5, .emp 4, .emp 1, .emp 4, .pl (.sc (.int .i64 0))]] [1,2])
(.seq (.dreg [{ o := .fld 3 (.s 1) 0, hs := [6,7,9,10,12,13,15,16,18,19,21,22,24,25] }, { o := .load 4 false 1 (.s 3), hs := [6,7,9,10,12,13,15,16,18,19,21,22,24,25], bf := [0] }, { o := .call 5 [2] (.f n_impl_copySite) [.s 4], hs := [6,7,9,10,12,13,15,16,18,19,21,22,24,25], ws := [2], bf := [0,1] }, { o := .fld 6 (.s 1) 1, hs := [3,4,5,9,10,12,13,15,16,18,19,21,22,24,25], ho := [2] }, { o := .load 7 false 1 (.s 6), hs := [3,4,5,9,10,12,13,15,16,18,19,21,22,24,25], ho := [2], bf := [3] }, { o := .call 8 [3] (.f n_slices_Clone_impl_Op_impl_Op) [.s 7], hs := [9,10,12,13,15,16,18,19,21,22,24,25], ws := [3], bf := [0,1,2,3,4] }, { o := .fld 9 (.s 1) 2, hs := [3,4,5,6,7,8,12,13,15,16,18,19,21,22,24,25], ho := [2,3] }, { o := .load 10 true 3 (.s 9), hs := [3,4,5,6,7,8,12,13,15,16,18,19,21,22,24,25], ho := [2,3], bf := [6] }, { o := .call 11 [4, 5, 6] (.f n_impl_copyDisk) [.s 10], hs := [12,13,15,16,18,19,21,22,24,25], ws := [4,5,6], bf := [0,1,2,3,4,5,6,7] }, { o := .fld 12 (.s 1) 5, hs := [3,4,5,6,7,8,9,10,11,15,16,18,19,21,22,24,25], ho := [2,3,4,5,6] }, { o := .load 13 false 1 (.s 12), hs := [3,4,5,6,7,8,9,10,11,15,16,18,19,21,22,24,25], ho := [2,3,4,5,6], bf := [9] }, { o := .call 14 [7] (.f n_slices_Clone_impl_Exclusion_impl_Exclusion) [.s 13], hs := [15,16,18,19,21,22,24,25], ws := [7], bf := [0,1,2,3,4,5,6,7,8,9,10] }, { o := .fld 15 (.s 1) 6, hs := [3,4,5,6,7,8,9,10,11,12,13,14,18,19,21,22,24,25], ho := [2,3,4,5,6,7] }, { o := .load 16 false 1 (.s 15), hs := [3,4,5,6,7,8,9,10,11,12,13,14,18,19,21,22,24,25], ho := [2,3,4,5,6,7], bf := [12] }, { o := .call 17 [8] (.f n_impl_copyLibraries) [.s 16], hs := [18,19,21,22,24,25], ws := [8], bf := [0,1,2,3,4,5,6,7,8,9,10,11,12,13] }, { o := .fld 18 (.s 1) 7, hs := [3,4,5,6,7,8,9,10,11,12,13,14,15,16,17,21,22,24,25], ho := [2,3,4,5,6,7,8] }, { o := .load 19 false 1 (.s 18), hs := [3,4,5,6,7,8,9,10,11,12,13,14,15,16,17,21,22,24,25], ho := [2,3,4,5,6,7,8], bf := [15] }, { o := .call 20 [9] (.f n_slices_Clone_int_int) [.s 19], hs := [21,22,24,25], ws := [9], bf := [0,1,2,3,4,5,6,7,8,9,10,11,12,13,14,15,16] }, { o := .fld 21 (.s 1) 8, hs := [3,4,5,6,7,8,9,10,11,12,13,14,15,16,17,18,19,20,24,25], ho := [2,3,4,5,6,7,8,9] }, { o := .load 22 false 1 (.s 21), hs := [3,4,5,6,7,8,9,10,11,12,13,14,15,16,17,18,19,20,24,25], ho := [2,3,4,5,6,7,8,9], bf := [18] }, { o := .call 23 [10] (.f n_slices_Clone_impl_Statement_impl_Statement) [.s 22], hs := [24,25], ws := [10], bf := [0,1,2,3,4,5,6,7,8,9,10,11,12,13,14,15,16,17,18,19] }, { o := .fld 24 (.s 1) 9, hs := [3,4,5,6,7,8,9,10,11,12,13,14,15,16,17,18,19,20,21,22,23], ho := [2,3,4,5,6,7,8,9,10] }, { o := .load 25 false 1 (.s 24), hs := [3,4,5,6,7,8,9,10,11,12,13,14,15,16,17,18,19,20,21,22,23], ho := [2,3,4,5,6,7,8,9,10], bf := [21] }, { o := .build 26 [.emp 9, .emp 4, .emp 4, .emp 6, .emp 4, .emp 5, .emp 4, .emp 1, .emp 4, .pl (.sc (.int .i64 0))] [(0, 1, .s 5), (1, 1, .s 8), (2, 3, .s 11), (5, 1, .s 14), (6, 1, .s 17), (7, 1, .s 20), (8, 1, .s 23), (9, 1, .s 25)], bf := [0,1,2,3,4,5,6,7,8,9,10,11,12,13,14,15,16,17,18,19,20,21,22] }, { o := .store 10 (.s 2) (.s 26), ws := [1,2,3,4,5,6,7,8,9,10], bf := [0,1,2,3,4,5,6,7,8,9,10,11,12,13,14,15,16,17,18,19,20,21,22,23] }] [2])
.ret))
theorem c_impl_copyArchive (a : GArchive) (hs : a.size ≤ 1073741824) : Ctr Tryz.prog n_impl_copyArchive [aS a.enc] [rS a.enc] := by
  refine ctr_at (M := m_impl_copyArchive) (m := 11) (n := 27) (res := [(.cell 2 true 10, [true, true, true, true, true, true, true, true, true, false])]) hmix Tryz.func67 rfl (by kernel_rfl) rfl (by kernel_rfl) (by kernel_rfl) (Nat.le_of_ble_eq_true rfl) ?_; unfold m_impl_copyArchive
  intro hb
  clear hb
  simp only [GArchive.size] at hs
  simp only [↓bk_bind, ↓bk_map, ↓bk_ite, ↓bk_some, ↓reduceIte, Nat.reduceEqDiff, Nat.reduceLT, Nat.reduceLeDiff, Nat.reduceAdd, Nat.reduceMul, reduceCtorEq, List.reduceReplicate, go_sem]
  apply callK_of (c_impl_copySite a.Site (by omega))
  simp only [↓bk_bind, ↓bk_map, ↓bk_ite, ↓bk_some, ↓reduceIte, Nat.reduceEqDiff, Nat.reduceLT, Nat.reduceLeDiff, Nat.reduceAdd, Nat.reduceMul, reduceCtorEq, List.reduceReplicate, go_sem]
  apply callK_of (c_slices_Clone_Op a.Script (by omega))
  simp only [↓bk_bind, ↓bk_map, ↓bk_ite, ↓bk_some, ↓reduceIte, Nat.reduceEqDiff, Nat.reduceLT, Nat.reduceLeDiff, Nat.reduceAdd, Nat.reduceMul, reduceCtorEq, List.reduceReplicate, go_sem]
  apply callK_of (c_impl_copyDisk a.Disk (by omega))
  simp only [↓bk_bind, ↓bk_map, ↓bk_ite, ↓bk_some, ↓reduceIte, Nat.reduceEqDiff, Nat.reduceLT, Nat.reduceLeDiff, Nat.reduceAdd, Nat.reduceMul, reduceCtorEq, List.reduceReplicate, go_sem]
  apply callK_of (c_slices_Clone_Exclusion a.Exclusions (by omega))
  simp only [↓bk_bind, ↓bk_map, ↓bk_ite, ↓bk_some, ↓reduceIte, Nat.reduceEqDiff, Nat.reduceLT, Nat.reduceLeDiff, Nat.reduceAdd, Nat.reduceMul, reduceCtorEq, List.reduceReplicate, go_sem]
  apply callK_of (c_impl_copyLibraries a.Libraries (by omega))
  simp only [↓bk_bind, ↓bk_map, ↓bk_ite, ↓bk_some, ↓reduceIte, Nat.reduceEqDiff, Nat.reduceLT, Nat.reduceLeDiff, Nat.reduceAdd, Nat.reduceMul, reduceCtorEq, List.reduceReplicate, go_sem]
  apply callK_of (c_slices_Clone_int a.Keys (by omega))
  simp only [↓bk_bind, ↓bk_map, ↓bk_ite, ↓bk_some, ↓reduceIte, Nat.reduceEqDiff, Nat.reduceLT, Nat.reduceLeDiff, Nat.reduceAdd, Nat.reduceMul, reduceCtorEq, List.reduceReplicate, go_sem]
  apply callK_of (c_slices_Clone_Statement a.Statements (by omega))
  simp only [↓bk_bind, ↓bk_map, ↓bk_ite, ↓bk_some, ↓reduceIte, Nat.reduceEqDiff, Nat.reduceLT, Nat.reduceLeDiff, Nat.reduceAdd, Nat.reduceMul, reduceCtorEq, List.reduceReplicate, go_sem]
  try intros
  try trivial
def m_spec_l32Copy : MC :=
(.seq (pr [.box 1 0 (.s 0), .alloc 2 1 [.emp 9, .emp 4, .emp 4, .emp 6, .emp 4, .emp 5, .emp 4, .emp 1, .emp 4, .pl (.sc (.int .i64 0))]] [1,2])
(.seq (.dreg [{ o := .fld 3 (.s 1) 0, hs := [6,7,8,10,11,13,14,15,17,18,20,21,22,24,25,26,28,29], ho := [3,7,9,10] }, { o := .load 4 false 1 (.s 3), hs := [6,7,8,10,11,13,14,15,17,18,20,21,22,24,25,26,28,29], ho := [3,7,9,10], bf := [0] }, { o := .call 5 [2] (.f n_spec_l32Site) [.s 4], hs := [6,7,8,10,11,13,14,15,17,18,20,21,22,24,25,26,28,29], ho := [3,7,9,10], ws := [2], bf := [0,1] }, { o := .lit 6 3 4 32 [], hs := [3,4,5,7,8,10,11,13,14,15,17,18,20,21,22,24,25,26,28,29], ho := [2,7,9,10], ws := [3] }, { o := .fld 7 (.s 1) 1, hs := [3,4,5,6,10,11,13,14,15,17,18,20,21,22,24,25,26,28,29], ho := [2,3,7,9,10] }, { o := .load 8 false 1 (.s 7), hs := [3,4,5,6,10,11,13,14,15,17,18,20,21,22,24,25,26,28,29], ho := [2,3,7,9,10], bf := [4] }, { o := .app 9 3 4 32 (.s 6) (.s 8), hs := [10,11,13,14,15,17,18,20,21,22,24,25,26,28,29], ho := [7,9,10], ws := [3], bf := [0,1,2,3,4,5] }, { o := .fld 10 (.s 1) 2, hs := [3,4,5,6,7,8,9,13,14,15,17,18,20,21,22,24,25,26,28,29], ho := [2,3,7,9,10] }, { o := .load 11 true 3 (.s 10), hs := [3,4,5,6,7,8,9,13,14,15,17,18,20,21,22,24,25,26,28,29], ho := [2,3,7,9,10], bf := [7] }, { o := .call 12 [4, 5, 6] (.f n_spec_l31Copy) [.s 11], hs := [13,14,15,17,18,20,21,22,24,25,26,28,29], ho := [7,9,10], ws := [4,5,6], bf := [0,1,2,3,4,5,6,7,8] }, { o := .lit 13 7 5 40 [], hs := [3,4,5,6,7,8,9,10,11,12,14,15,17,18,20,21,22,24,25,26,28,29], ho := [2,3,4,5,6,9,10], ws := [7] }, { o := .fld 14 (.s 1) 5, hs := [3,4,5,6,7,8,9,10,11,12,13,17,18,20,21,22,24,25,26,28,29], ho := [2,3,4,5,6,7,9,10] }, { o := .load 15 false 1 (.s 14), hs := [3,4,5,6,7,8,9,10,11,12,13,17,18,20,21,22,24,25,26,28,29], ho := [2,3,4,5,6,7,9,10], bf := [11] }, { o := .app 16 7 5 40 (.s 13) (.s 15), hs := [17,18,20,21,22,24,25,26,28,29], ho := [9,10], ws := [7], bf := [0,1,2,3,4,5,6,7,8,9,10,11,12] }, { o := .fld 17 (.s 1) 6, hs := [3,4,5,6,7,8,9,10,11,12,13,14,15,16,20,21,22,24,25,26,28,29], ho := [2,3,4,5,6,7,9,10] }, { o := .load 18 false 1 (.s 17), hs := [3,4,5,6,7,8,9,10,11,12,13,14,15,16,20,21,22,24,25,26,28,29], ho := [2,3,4,5,6,7,9,10], bf := [14] }, { o := .call 19 [8] (.f n_spec_l29Copy) [.s 18], hs := [20,21,22,24,25,26,28,29], ho := [9,10], ws := [8], bf := [0,1,2,3,4,5,6,7,8,9,10,11,12,13,14,15] }, { o := .lit 20 9 1 8 [], hs := [3,4,5,6,7,8,9,10,11,12,13,14,15,16,17,18,19,21,22,24,25,26,28,29], ho := [2,3,4,5,6,7,8,10], ws := [9] }, { o := .fld 21 (.s 1) 7, hs := [3,4,5,6,7,8,9,10,11,12,13,14,15,16,17,18,19,20,24,25,26,28,29], ho := [2,3,4,5,6,7,8,9,10] }, { o := .load 22 false 1 (.s 21), hs := [3,4,5,6,7,8,9,10,11,12,13,14,15,16,17,18,19,20,24,25,26,28,29], ho := [2,3,4,5,6,7,8,9,10], bf := [18] }, { o := .app 23 9 1 8 (.s 20) (.s 22), hs := [24,25,26,28,29], ho := [10], ws := [9], bf := [0,1,2,3,4,5,6,7,8,9,10,11,12,13,14,15,16,17,18,19] }, { o := .lit 24 10 4 32 [], hs := [3,4,5,6,7,8,9,10,11,12,13,14,15,16,17,18,19,20,21,22,23,25,26,28,29], ho := [2,3,4,5,6,7,8,9], ws := [10] }, { o := .fld 25 (.s 1) 8, hs := [3,4,5,6,7,8,9,10,11,12,13,14,15,16,17,18,19,20,21,22,23,24,28,29], ho := [2,3,4,5,6,7,8,9,10] }, { o := .load 26 false 1 (.s 25), hs := [3,4,5,6,7,8,9,10,11,12,13,14,15,16,17,18,19,20,21,22,23,24,28,29], ho := [2,3,4,5,6,7,8,9,10], bf := [22] }, { o := .app 27 10 4 32 (.s 24) (.s 26), hs := [28,29], ws := [10], bf := [0,1,2,3,4,5,6,7,8,9,10,11,12,13,14,15,16,17,18,19,20,21,22,23] }, { o := .fld 28 (.s 1) 9, hs := [3,4,5,6,7,8,9,10,11,12,13,14,15,16,17,18,19,20,21,22,23,24,25,26,27], ho := [2,3,4,5,6,7,8,9,10] }, { o := .load 29 false 1 (.s 28), hs := [3,4,5,6,7,8,9,10,11,12,13,14,15,16,17,18,19,20,21,22,23,24,25,26,27], ho := [2,3,4,5,6,7,8,9,10], bf := [25] }, { o := .build 30 [.emp 9, .emp 4, .emp 4, .emp 6, .emp 4, .emp 5, .emp 4, .emp 1, .emp 4, .pl (.sc (.int .i64 0))] [(0, 1, .s 5), (1, 1, .s 9), (2, 3, .s 12), (5, 1, .s 16), (6, 1, .s 19), (7, 1, .s 23), (8, 1, .s 27), (9, 1, .s 29)], bf := [0,1,2,3,4,5,6,7,8,9,10,11,12,13,14,15,16,17,18,19,20,21,22,23,24,25,26] }, { o := .store 10 (.s 2) (.s 30), ws := [1,2,3,4,5,6,7,8,9,10], bf := [0,1,2,3,4,5,6,7,8,9,10,11,12,13,14,15,16,17,18,19,20,21,22,23,24,25,26,27] }] [2])
.ret))
theorem c_spec_l32Copy (a : GArchive) (hs : a.size ≤ 1073741824) : Ctr Tryz.prog n_spec_l32Copy [aS a.enc] [rS a.enc] := by
  refine ctr_at (M := m_spec_l32Copy) (m := 11) (n := 31) (res := [(.cell 2 true 10, [true, true, true, true, true, true, true, true, true, false])]) hmix Tryz.func60 rfl (by kernel_rfl) rfl (by kernel_rfl) (by kernel_rfl) (Nat.le_of_ble_eq_true rfl) ?_; unfold m_spec_l32Copy
  intro hb
  clear hb
  simp only [GArchive.size] at hs
  simp only [↓bk_bind, ↓bk_map, ↓bk_ite, ↓bk_some, ↓reduceIte, Nat.reduceEqDiff, Nat.reduceLT, Nat.reduceLeDiff, Nat.reduceAdd, Nat.reduceMul, reduceCtorEq, List.reduceReplicate, go_sem]
  apply callK_of (c_spec_l32Site a.Site (by omega))
  simp only [↓bk_bind, ↓bk_map, ↓bk_ite, ↓bk_some, ↓reduceIte, Nat.reduceEqDiff, Nat.reduceLT, Nat.reduceLeDiff, Nat.reduceAdd, Nat.reduceMul, reduceCtorEq, List.reduceReplicate, go_sem, ↓flat_of (f := GOp.enc) (fun _ => rfl) a.Script]
  refine ⟨by simp only [roomB]; omega, ?_⟩
  apply callK_of (c_spec_l31Copy a.Disk (by omega))
  simp only [↓bk_bind, ↓bk_map, ↓bk_ite, ↓bk_some, ↓reduceIte, Nat.reduceEqDiff, Nat.reduceLT, Nat.reduceLeDiff, Nat.reduceAdd, Nat.reduceMul, reduceCtorEq, List.reduceReplicate, go_sem, ↓flat_of (f := GExclusion.enc) (fun _ => rfl) a.Exclusions]
  refine ⟨by simp only [roomB]; omega, ?_⟩
  apply callK_of (c_spec_l29Copy a.Libraries (by omega))
  simp only [↓bk_bind, ↓bk_map, ↓bk_ite, ↓bk_some, ↓reduceIte, Nat.reduceEqDiff, Nat.reduceLT, Nat.reduceLeDiff, Nat.reduceAdd, Nat.reduceMul, reduceCtorEq, List.reduceReplicate, go_sem, ↓flat_of (f := encI) (fun _ => rfl) a.Keys, ↓flat_of (f := GStatement.enc) (fun _ => rfl) a.Statements]
  simp only [roomB]
  exact ⟨by omega, by omega⟩
end Go.Proofs.YtpclnmleldeleaaGreatR
namespace Go.Proofs.YtpclnmleldeleaaGreatR
open Go Go.RowKit Go.Proofs
set_option linter.unusedSimpArgs false
set_option linter.unusedVariables false
theorem any_nots {α : Type} {p : α → Bool} {l : List α} : (l.any fun x => !p x) = !l.all p := by
  induction l with
  | nil => rfl
  | cons x l ih => rw [List.any_cons, List.all_cons, ih]; cases p x <;> rfl
/-- All elements are so, and there are not too many. -/
def fewAll {α : Type} (n : Nat) (p : α → Bool) (l : List α) : Bool := decide (l.length ≤ n) && l.all p
theorem fewAll_no {α : Type} {n : Nat} {p : α → Bool} {l : List α} (h : ¬ l.length ≤ n) : false = fewAll n p l := by
  unfold fewAll; rw [decide_eq_false h]; rfl
theorem fewAll_yes {α : Type} {n : Nat} {p : α → Bool} {l : List α} (h : l.length ≤ n) : (!l.any fun x => !p x) = fewAll n p l := by
  unfold fewAll; rw [decide_eq_true h, any_nots, Bool.not_not]; rfl
theorem fewAll_at {α : Type} {n : Nat} {p : α → Bool} {l : List α} {k : Nat} {x : α} (hx : l[k]? = some x) (h : p x = false) : false = fewAll n p l := by
  unfold fewAll; rw [← all_not hx h, Bool.and_false]
theorem fewAll_end {α : Type} {n : Nat} {p : α → Bool} {l : List α} (h : l.all p = true) : decide (l.length ≤ n) = fewAll n p l := by
  unfold fewAll; rw [h, Bool.and_true]
theorem le_cast {n m : Nat} : decide ((n : Int) ≤ (m : Int)) = decide (n ≤ m) := by
  rw [Bool.eq_iff_iff]; simp only [decide_eq_true_eq]; omega
def opOk (o : GOp) : Bool := decide ((0 ≤ o.A ∧ o.A < 4) ∧ (
  (o.Kind = 1 ∧ (1 ≤ o.B ∧ o.B ≤ 9) ∧ (0 ≤ o.C ∧ o.C ≤ 99)) ∨
  ((o.Kind = 2 ∨ o.Kind = 3 ∨ o.Kind = 4) ∧ o.B = 0 ∧ o.C = 0) ∨
  (o.Kind = 5 ∧ (0 ≤ o.B ∧ o.B < 4) ∧ (0 ≤ o.C ∧ o.C < 4)) ∨
  (o.Kind = 6 ∧ (0 ≤ o.B ∧ o.B < 4) ∧ o.C = 0) ∨
  (o.Kind = 7 ∧ (1 ≤ o.B ∧ o.B ≤ 3) ∧ o.C = 0) ∨
  ((o.Kind = 8 ∨ o.Kind = 9) ∧ (0 ≤ o.B ∧ o.B < 3) ∧ o.C = 0)))
def scriptOk (l : List GOp) : Bool := fewAll 16 opOk l
def asks (k : Int) : Bool := decide (1 ≤ k ∧ k ≤ 4)
def entOk (e : GEntry) : Bool := asks e.Kind && (decide (0 ≤ e.Value ∧ e.Value ≤ 999) && (if e.Kind = 1 then isAddr e.Address else noAddr e.Address))
def entsOk (l : List GEntry) : Bool := fewAll 16 entOk l
def capOk (c : GCapture) : Bool := isAddr c.Address && (decide (0 ≤ c.Tick ∧ c.Tick ≤ 2000) && isRes c.Resource)
def capsOk (l : List GCapture) : Bool := fewAll 20 capOk l
end Go.Proofs.YtpclnmleldeleaaGreatR
namespace Go.Proofs.YtpclnmleldeleaaGreatR
open Go Go.RowKit Go.Proofs
set_option linter.unusedSimpArgs false
set_option linter.unusedVariables false
def verOk (v : GVersion) : Bool := isAddr v.Address && (decide (0 ≤ v.From ∧ v.From ≤ 1000) && isRes v.Resource)
def siteOk (l : List GVersion) : Bool := fewAll 12 verOk l
def m_impl_IsSite_1 : MC :=
(.seq (pr [.box 1 0 (.s 0), .mv 2 (.c (.bool false))] [1])
(.seq (.reg [{ o := .fld 3 (.s 1) 0 }, { o := .load 4 true 3 (.s 3) }, { o := .call 5 [] (.f n_impl_IsAddress) [.s 4] }, { o := .un 6 .not (.s 5) }, { o := .mv 7 (.s 6) }, { o := .fld 8 (.s 1) 3, g := some (7, false) }, { o := .load 9 false 1 (.s 8), g := some (7, false) }, { o := .call 10 [] (.f n_impl_InRange) [.s 9, .c (.int .i64 0), .c (.int .i64 1000)], g := some (7, false) }, { o := .un 11 .not (.s 10), g := some (7, false) }, { o := .pick 12 (.s 7) (.c (.bool true)) (.s 11) }, { o := .mv 13 (.s 12) }, { o := .fld 14 (.s 1) 4, g := some (13, false) }, { o := .load 15 true 5 (.s 14), g := some (13, false) }, { o := .call 16 [] (.f n_impl_IsResource) [.s 15], g := some (13, false) }, { o := .un 17 .not (.s 16), g := some (13, false) }, { o := .pick 18 (.s 13) (.c (.bool true)) (.s 17) }, { o := .mv 2 (.s 18) }] [2])
.ret))
theorem c_impl_IsSite_1 (c : GVersion) : Ctr Tryz.prog n_impl_IsSite_1 [aS c.enc] [rB (!verOk c)] := by
  refine ctr_at (M := m_impl_IsSite_1) (m := 1) (n := 19) (res := [(.tmp 2, [false])]) hmix Tryz.func142 rfl (by kernel_rfl) rfl (by kernel_rfl) (by kernel_rfl) (Nat.le_of_ble_eq_true rfl) ?_; unfold m_impl_IsSite_1
  intro hb
  clear hb
  simp only [↓bk_bind, ↓bk_map, ↓bk_ite, ↓bk_some, ↓reduceIte, Nat.reduceEqDiff, Nat.reduceLT, Nat.reduceLeDiff, Nat.reduceAdd, Nat.reduceMul, reduceCtorEq, List.reduceReplicate, go_sem]
  repeat' first
    | (refine And.intro ?_ ?_ <;> intro h)
    | (apply callK_of (c_impl_IsAddress _); simp only [↓bk_bind, ↓bk_map, ↓bk_ite, ↓bk_some, ↓reduceIte, Nat.reduceEqDiff, Nat.reduceLT, Nat.reduceLeDiff, Nat.reduceAdd, Nat.reduceMul, reduceCtorEq, List.reduceReplicate, go_sem])
    | (apply callK_of (c_impl_IsResource _); simp only [↓bk_bind, ↓bk_map, ↓bk_ite, ↓bk_some, ↓reduceIte, Nat.reduceEqDiff, Nat.reduceLT, Nat.reduceLeDiff, Nat.reduceAdd, Nat.reduceMul, reduceCtorEq, List.reduceReplicate, go_sem])
    | (apply callK_of (c_impl_InRange _ _ _); simp only [↓bk_bind, ↓bk_map, ↓bk_ite, ↓bk_some, ↓reduceIte, Nat.reduceEqDiff, Nat.reduceLT, Nat.reduceLeDiff, Nat.reduceAdd, Nat.reduceMul, reduceCtorEq, List.reduceReplicate, go_sem])
  all_goals (simp_all [verOk]; try omega)
def m_impl_IsSite : MC :=
(.seq (pr [.mv 2 (.c (.bool false))] [0])
(.seq (.reg [{ o := .mv 3 (.s 0) }, { o := .len 4 false (.s 3) }, { o := .bin 5 false .leq (.s 4) (.c (.int .i64 12)) }, { o := .mv 6 (.s 5) }, { o := .mv 7 (.s 0), g := some (6, true) }, { o := .call 8 [] (.f n_slices_ContainsFunc_impl_Version_impl_Version) [.s 7, .f n_impl_IsSite_1], g := some (6, true) }, { o := .un 9 .not (.s 8), g := some (6, true) }, { o := .pick 10 (.s 6) (.s 9) (.c (.bool false)) }, { o := .mv 2 (.s 10) }] [2])
.ret))
theorem c_impl_IsSite (l : List GVersion) : Ctr Tryz.prog n_impl_IsSite [aL 9 (l.map GVersion.enc)] [rB (siteOk l)] := by
  refine ctr_at (M := m_impl_IsSite) (m := 0) (n := 11) (res := [(.tmp 2, [false])]) hmix Tryz.func69 rfl (by kernel_rfl) rfl (by kernel_rfl) (by kernel_rfl) (Nat.le_of_ble_eq_true rfl) ?_; unfold m_impl_IsSite
  intro hb
  clear hb
  simp only [↓bk_bind, ↓bk_map, ↓bk_ite, ↓bk_some, ↓reduceIte, Nat.reduceEqDiff, Nat.reduceLT, Nat.reduceLeDiff, Nat.reduceAdd, Nat.reduceMul, reduceCtorEq, List.reduceReplicate, go_sem]
  refine ⟨fun h => ?_, fun h => fewAll_no (by omega)⟩
  refine callK_of (c_slices_ContainsFunc_Version l _ [] (fun o => !verOk o) fun o _ => c_impl_IsSite_1 o) ?_
  simp only [↓bk_bind, ↓bk_map, ↓bk_ite, ↓bk_some, ↓reduceIte, Nat.reduceEqDiff, Nat.reduceLT, Nat.reduceLeDiff, Nat.reduceAdd, Nat.reduceMul, reduceCtorEq, List.reduceReplicate, go_sem]
  exact fewAll_yes (by omega)
def m_spec_IsSite : MC :=
(.seq (pr [.mv 2 (.c (.bool false))] [0])
(.seq (.seq (pr [.mv 3 (.c (.int .i64 0))] [0,3])
(.block 0 (.loop ([0,3], []) (.seq (.seq (pr [.mv 4 (.s 3), .mv 5 (.s 0), .len 6 false (.s 5), .bin 7 false .lss (.s 4) (.s 6)] [0,3,7])
(.cond (.s 7) .skip (.exit 0)))
(.seq (.block 1 (.seq (.reg [{ o := .mv 10 (.s 0) }, { o := .mv 11 (.s 3) }, { o := .idx 12 9 (.s 10) (.s 11) }, { o := .fld 13 (.s 12) 0 }, { o := .load 14 true 3 (.s 13) }, { o := .call 15 [] (.f n_spec_IsAddress) [.s 14] }, { o := .un 16 .not (.s 15) }, { o := .mv 17 (.s 16) }, { o := .mv 18 (.s 0), g := some (17, false) }, { o := .mv 19 (.s 3), g := some (17, false) }, { o := .idx 20 9 (.s 18) (.s 19), g := some (17, false) }, { o := .fld 21 (.s 20) 3, g := some (17, false) }, { o := .load 22 false 1 (.s 21), g := some (17, false) }, { o := .call 23 [] (.f n_spec_l1In) [.s 22, .c (.int .i64 0), .c (.int .i64 1000)], g := some (17, false) }, { o := .un 24 .not (.s 23), g := some (17, false) }, { o := .pick 25 (.s 17) (.c (.bool true)) (.s 24) }, { o := .mv 26 (.s 25) }, { o := .mv 27 (.s 0), g := some (26, false) }, { o := .mv 28 (.s 3), g := some (26, false) }, { o := .idx 29 9 (.s 27) (.s 28), g := some (26, false) }, { o := .fld 30 (.s 29) 4, g := some (26, false) }, { o := .load 31 true 5 (.s 30), g := some (26, false) }, { o := .call 32 [] (.f n_spec_IsResource) [.s 31], g := some (26, false) }, { o := .un 33 .not (.s 32), g := some (26, false) }, { o := .pick 34 (.s 26) (.c (.bool true)) (.s 33) }] [0,3,34])
(.cond (.s 34) (.seq (pr [.mv 2 (.c (.bool false))] [2])
.ret) .skip)))
(pr [.mv 8 (.s 3), .bin 9 false .add (.s 8) (.c (.int .i64 1)), .mv 3 (.s 9)] [0,3]))))))
(.seq (pr [.mv 35 (.s 0), .len 36 false (.s 35), .bin 37 false .leq (.s 36) (.c (.int .i64 12)), .mv 2 (.s 37)] [2])
.ret)))
theorem c_spec_IsSite (l : List GVersion) : Ctr Tryz.prog n_spec_IsSite [aL 9 (l.map GVersion.enc)] [rB (siteOk l)] := by
  refine ctr_at (M := m_spec_IsSite) (m := 0) (n := 38) (res := [(.tmp 2, [false])]) hmix Tryz.func62 rfl (by kernel_rfl) rfl (by kernel_rfl) (by kernel_rfl) (Nat.le_of_ble_eq_true rfl) ?_; unfold m_spec_IsSite
  intro hb
  simp only [bdA, bdL, bdT, bdR, bdR_map, wfB_i64, wfB_bool, wfB_str, roomB, and_true, true_and, List.length_map] at hb
  have hl := hb.1
  clear hb
  simp only [↓bk_bind, ↓bk_map, ↓bk_ite, ↓bk_some, ↓reduceIte, Nat.reduceEqDiff, Nat.reduceLT, Nat.reduceLeDiff, Nat.reduceAdd, Nat.reduceMul, reduceCtorEq, List.reduceReplicate, go_sem]
  refine loopK_rng l (fun k => [(3, vI k)]) (fun k => []) (fun k => (l.take k).all verOk = true) hl ?_
  simp only [↓bk_bind, ↓bk_map, ↓bk_ite, ↓bk_some, ↓reduceIte, Nat.reduceEqDiff, Nat.reduceLT, Nat.reduceLeDiff, Nat.reduceAdd, Nat.reduceMul, reduceCtorEq, List.reduceReplicate, go_sem]
  refine ⟨?_, by simp, ?_, ?_⟩
  · simp only [↓bk_bind, ↓bk_map, ↓bk_ite, ↓bk_some, ↓reduceIte, Nat.reduceEqDiff, Nat.reduceLT, Nat.reduceLeDiff, Nat.reduceAdd, Nat.reduceMul, reduceCtorEq, List.reduceReplicate, go_sem]
  · intro k x hx hT h0 h1 hw
    have hy : verOk x = true → (l.take (k + 1)).all verOk = true := fun hn => all_step hx hT hn
    have hn : verOk x = false → false = siteOk l := fun hn => fewAll_at hx hn
    clear hT
    simp only [↓bk_bind, ↓bk_map, ↓bk_ite, ↓bk_some, ↓reduceIte, Nat.reduceEqDiff, Nat.reduceLT, Nat.reduceLeDiff, Nat.reduceAdd, Nat.reduceMul, reduceCtorEq, List.reduceReplicate, go_sem, bk_eq hx, h0, h1, hw]
    repeat' first
      | (refine And.intro ?_ ?_ <;> intro h)
      | (apply callK_of (c_spec_IsAddress _); simp only [↓bk_bind, ↓bk_map, ↓bk_ite, ↓bk_some, ↓reduceIte, Nat.reduceEqDiff, Nat.reduceLT, Nat.reduceLeDiff, Nat.reduceAdd, Nat.reduceMul, reduceCtorEq, List.reduceReplicate, go_sem, bk_eq hx, h0, h1, hw])
      | (apply callK_of (c_spec_IsResource _); simp only [↓bk_bind, ↓bk_map, ↓bk_ite, ↓bk_some, ↓reduceIte, Nat.reduceEqDiff, Nat.reduceLT, Nat.reduceLeDiff, Nat.reduceAdd, Nat.reduceMul, reduceCtorEq, List.reduceReplicate, go_sem, bk_eq hx, h0, h1, hw])
      | (apply callK_of (c_spec_l1In _ _ _); simp only [↓bk_bind, ↓bk_map, ↓bk_ite, ↓bk_some, ↓reduceIte, Nat.reduceEqDiff, Nat.reduceLT, Nat.reduceLeDiff, Nat.reduceAdd, Nat.reduceMul, reduceCtorEq, List.reduceReplicate, go_sem, bk_eq hx, h0, h1, hw])
    all_goals first | (apply hy; clear hy hn hx hw; simp_all [verOk]; done) | (apply hn; clear hy hn hx hw; simp_all [verOk]; done) | (apply hn; clear hy hn hx hw; unfold verOk; rw [decide_eq_false (by assumption)]; simp; done) | (trace_state; sorry)
  · intro h
    simp only [↓bk_bind, ↓bk_map, ↓bk_ite, ↓bk_some, ↓reduceIte, Nat.reduceEqDiff, Nat.reduceLT, Nat.reduceLeDiff, Nat.reduceAdd, Nat.reduceMul, reduceCtorEq, List.reduceReplicate, go_sem]
    rw [List.take_length] at h
    exact le_cast.trans (fewAll_end h)
def changeOk (a : GArchive) (x : GVersion) : Bool := siteOk (a.Site ++ [x]) && decide (a.Now ≤ x.From)
def changeTo (a : GArchive) (x : GVersion) : GArchive := if changeOk a x then { a with Site := a.Site ++ [x] } else a
theorem change_size (a : GArchive) (x : GVersion) : (changeTo a x).size ≤ a.size + (x.size + 1) := by
  unfold changeTo
  split
  · simp only [GArchive.size, List.length_append, List.length_cons, List.length_nil, List.map_append, List.map_cons, List.map_nil, List.sum_append, List.sum_cons, List.sum_nil]; omega
  · omega
def m_impl_StepChange : MC :=
(.seq (pr [.box 2 0 (.s 0), .box 3 1 (.s 1), .alloc 4 2 [.emp 9, .emp 4, .emp 4, .emp 6, .emp 4, .emp 5, .emp 4, .emp 1, .emp 4, .pl (.sc (.int .i64 0))], .mv 5 (.c (.bool false))] [2,3,4])
(.seq (pr [.load 7 true 10 (.s 2), .call 8 [3, 4, 5, 6, 7, 8, 9, 10, 11] (.f n_impl_copyArchive) [.s 7], .alloc 6 12 [.emp 9, .emp 4, .emp 4, .emp 6, .emp 4, .emp 5, .emp 4, .emp 1, .emp 4, .pl (.sc (.int .i64 0))], .store 10 (.s 6) (.s 8)] [2,3,4,6])
(.seq (.dreg [{ o := .fld 9 (.s 6) 0, hs := [11,12,13], ho := [13,14] }, { o := .load 10 false 1 (.s 9), hs := [11,12,13], ho := [13,14], bf := [0] }, { o := .load 11 true 9 (.s 3), hs := [9,10] }, { o := .lit 12 13 9 88 [.s 11], hs := [9,10], ws := [13], bf := [2] }, { o := .call 13 [14] (.f n_impl_copySite) [.s 12], hs := [9,10], ws := [14], bf := [2,3] }, { o := .app 14 3 9 88 (.s 10) (.s 13), ws := [3,14], bf := [0,1,2,3,4] }, { o := .fld 15 (.s 6) 0, bf := [0,1,2,3,4,5] }, { o := .store 1 (.s 15) (.s 14), ws := [3,12], bf := [0,1,2,3,4,5,6] }] [2,3,4,6])
(.seq (.seq (.reg [{ o := .fld 16 (.s 6) 0 }, { o := .load 17 false 1 (.s 16) }, { o := .call 18 [] (.f n_impl_IsSite) [.s 17] }, { o := .un 19 .not (.s 18) }, { o := .mv 20 (.s 19) }, { o := .fld 21 (.s 3) 3, g := some (20, false) }, { o := .load 22 false 1 (.s 21), g := some (20, false) }, { o := .fld 23 (.s 2) 9, g := some (20, false) }, { o := .load 24 false 1 (.s 23), g := some (20, false) }, { o := .bin 25 false .lss (.s 22) (.s 24), g := some (20, false) }, { o := .pick 26 (.s 20) (.c (.bool true)) (.s 25) }] [2,4,6,26])
(.cond (.s 26) (.seq (pr [.load 27 true 10 (.s 2), .call 28 [15, 16, 17, 18, 19, 20, 21, 22, 23] (.f n_impl_copyArchive) [.s 27], .store 10 (.s 4) (.s 28), .mv 5 (.c (.bool false))] [4,5])
.ret) .skip))
(.seq (pr [.load 29 true 10 (.s 6), .store 10 (.s 4) (.s 29), .mv 5 (.c (.bool true))] [4,5])
.ret)))))
theorem c_impl_StepChange (a : GArchive) (x : GVersion) (hs : a.size ≤ 1073741824) (hx : x.size ≤ 1073741823) : Ctr Tryz.prog n_impl_StepChange [aS a.enc, aS x.enc] [rS (changeTo a x).enc, rB (changeOk a x)] := by
  refine ctr_at (M := m_impl_StepChange) (m := 24) (n := 30) (res := [(.cell 4 true 10, [true, true, true, true, true, true, true, true, true, false]), (.tmp 5, [false])]) hmix Tryz.func16 rfl (by kernel_rfl) rfl (by kernel_rfl) (by kernel_rfl) (Nat.le_of_ble_eq_true rfl) ?_; unfold m_impl_StepChange
  intro hb
  clear hb
  simp only [↓bk_bind, ↓bk_map, ↓bk_ite, ↓bk_some, ↓reduceIte, Nat.reduceEqDiff, Nat.reduceLT, Nat.reduceLeDiff, Nat.reduceAdd, Nat.reduceMul, reduceCtorEq, List.reduceReplicate, go_sem]
  apply callK_of (c_impl_copyArchive a hs)
  simp only [↓bk_bind, ↓bk_map, ↓bk_ite, ↓bk_some, ↓reduceIte, Nat.reduceEqDiff, Nat.reduceLT, Nat.reduceLeDiff, Nat.reduceAdd, Nat.reduceMul, reduceCtorEq, List.reduceReplicate, go_sem]
  intros
  have e1 : List.map GVersion.enc a.Site ++ [[T.sc (Value.int IntKind.i64 x.Address.Host), T.sc (Value.int IntKind.i64 x.Address.Path), T.sc (Value.int IntKind.i64 x.Address.Query), T.sc (Value.int IntKind.i64 x.From), T.sc (Value.int IntKind.i64 x.Resource.Kind), T.sl 1 (List.map encI x.Resource.Body), T.sc (Value.int IntKind.i64 x.Resource.To.Host), T.sc (Value.int IntKind.i64 x.Resource.To.Path), T.sc (Value.int IntKind.i64 x.Resource.To.Query)]] = (a.Site ++ [x]).map GVersion.enc := by rw [List.map_append]; rfl
  have e2 : a.Site.length + 1 = (a.Site ++ [x]).length := by simp
  have hsl : a.Site.length ≤ 1073741824 := by simp only [GArchive.size] at hs; omega
  refine ⟨by decide, ?_⟩
  apply callK_of (c_impl_copySite [x] (by simp only [List.length_cons, List.length_nil, List.map_cons, List.map_nil, List.sum_cons, List.sum_nil]; simp only [GVersion.size] at hx ⊢; omega))
  simp only [↓bk_bind, ↓bk_map, ↓bk_ite, ↓bk_some, ↓reduceIte, Nat.reduceEqDiff, Nat.reduceLT, Nat.reduceLeDiff, Nat.reduceAdd, Nat.reduceMul, reduceCtorEq, List.reduceReplicate, go_sem, ↓e1, e2]
  intros
  refine ⟨by simp only [roomB]; simp; omega, ?_⟩
  intros
  apply callK_of (c_impl_IsSite (a.Site ++ [x]))
  simp only [↓bk_bind, ↓bk_map, ↓bk_ite, ↓bk_some, ↓reduceIte, Nat.reduceEqDiff, Nat.reduceLT, Nat.reduceLeDiff, Nat.reduceAdd, Nat.reduceMul, reduceCtorEq, List.reduceReplicate, go_sem]
  repeat' first
    | (refine And.intro ?_ ?_ <;> intro h)
    | (apply callK_of (c_impl_copyArchive a hs); simp only [↓bk_bind, ↓bk_map, ↓bk_ite, ↓bk_some, ↓reduceIte, Nat.reduceEqDiff, Nat.reduceLT, Nat.reduceLeDiff, Nat.reduceAdd, Nat.reduceMul, reduceCtorEq, List.reduceReplicate, go_sem]; intros)
  all_goals
    first
      | (have hF : changeOk a x = false := by
          clear e1 e2 hsl hs hx
          unfold changeOk
          simp_all
          try omega
         simp [changeTo, hF]
         done)
      | (have hT : changeOk a x = true := by
          clear e1 e2 hsl hs hx
          unfold changeOk
          simp_all
          try omega
         simp [changeTo, hT]
         done)
      | (trace_state; sorry)
def m_spec_StepChange : MC :=
(.seq (pr [.box 2 0 (.s 0), .box 3 1 (.s 1), .alloc 4 2 [.emp 9, .emp 4, .emp 4, .emp 6, .emp 4, .emp 5, .emp 4, .emp 1, .emp 4, .pl (.sc (.int .i64 0))], .mv 5 (.c (.bool false))] [2,3,4])
(.seq (pr [.load 8 true 10 (.s 2), .call 9 [3, 4, 5, 6, 7, 8, 9, 10, 11] (.f n_spec_l32Copy) [.s 8], .alloc 6 12 [.emp 9, .emp 4, .emp 4, .emp 6, .emp 4, .emp 5, .emp 4, .emp 1, .emp 4, .pl (.sc (.int .i64 0))], .store 10 (.s 6) (.s 9)] [2,3,4,6])
(.seq (.dreg [{ o := .fld 10 (.s 2) 0, hs := [13,14], ho := [14] }, { o := .load 11 false 1 (.s 10), hs := [13,14], ho := [14], bf := [0] }, { o := .call 12 [13] (.f n_spec_l32Site) [.s 11], hs := [13,14], ho := [14], ws := [13], bf := [0,1] }, { o := .load 13 true 9 (.s 3), hs := [10,11,12], ho := [13] }, { o := .lit 14 14 9 88 [.s 13], hs := [10,11,12], ho := [13], ws := [14], bf := [3] }, { o := .call 15 [15] (.f n_spec_l32Site) [.s 14], ws := [15], bf := [0,1,2,3,4] }, { o := .app 16 13 9 88 (.s 12) (.s 15), ws := [13,15], bf := [0,1,2,3,4,5] }, { o := .mv 7 (.s 16), bf := [0,1,2,3,4,5,6] }] [2,3,4,6,7])
(.seq (.seq (.reg [{ o := .mv 17 (.s 7) }, { o := .call 18 [] (.f n_spec_IsSite) [.s 17] }, { o := .un 19 .not (.s 18) }, { o := .mv 20 (.s 19) }, { o := .fld 21 (.s 3) 3, g := some (20, false) }, { o := .load 22 false 1 (.s 21), g := some (20, false) }, { o := .fld 23 (.s 2) 9, g := some (20, false) }, { o := .load 24 false 1 (.s 23), g := some (20, false) }, { o := .bin 25 false .lss (.s 22) (.s 24), g := some (20, false) }, { o := .pick 26 (.s 20) (.c (.bool true)) (.s 25) }] [4,6,7,26])
(.cond (.s 26) (.seq (pr [.load 27 true 10 (.s 6), .store 10 (.s 4) (.s 27), .mv 5 (.c (.bool false))] [4,5])
.ret) .skip))
(.seq (pr [.mv 28 (.s 7), .fld 29 (.s 6) 0, .store 1 (.s 29) (.s 28)] [4,6])
(.seq (pr [.load 30 true 10 (.s 6), .store 10 (.s 4) (.s 30), .mv 5 (.c (.bool true))] [4,5])
.ret))))))
theorem c_spec_StepChange (a : GArchive) (x : GVersion) (hs : a.size ≤ 1073741824) (hx : x.size ≤ 1073741823) : Ctr Tryz.prog n_spec_StepChange [aS a.enc, aS x.enc] [rS (changeTo a x).enc, rB (changeOk a x)] := by
  refine ctr_at (M := m_spec_StepChange) (m := 16) (n := 31) (res := [(.cell 4 true 10, [true, true, true, true, true, true, true, true, true, false]), (.tmp 5, [false])]) hmix Tryz.func13 rfl (by kernel_rfl) rfl (by kernel_rfl) (by kernel_rfl) (Nat.le_of_ble_eq_true rfl) ?_; unfold m_spec_StepChange
  intro hb
  clear hb
  simp only [↓bk_bind, ↓bk_map, ↓bk_ite, ↓bk_some, ↓reduceIte, Nat.reduceEqDiff, Nat.reduceLT, Nat.reduceLeDiff, Nat.reduceAdd, Nat.reduceMul, reduceCtorEq, List.reduceReplicate, go_sem]
  apply callK_of (c_spec_l32Copy a hs)
  simp only [↓bk_bind, ↓bk_map, ↓bk_ite, ↓bk_some, ↓reduceIte, Nat.reduceEqDiff, Nat.reduceLT, Nat.reduceLeDiff, Nat.reduceAdd, Nat.reduceMul, reduceCtorEq, List.reduceReplicate, go_sem]
  intros
  have e1 : List.map GVersion.enc a.Site ++ [[T.sc (Value.int IntKind.i64 x.Address.Host), T.sc (Value.int IntKind.i64 x.Address.Path), T.sc (Value.int IntKind.i64 x.Address.Query), T.sc (Value.int IntKind.i64 x.From), T.sc (Value.int IntKind.i64 x.Resource.Kind), T.sl 1 (List.map encI x.Resource.Body), T.sc (Value.int IntKind.i64 x.Resource.To.Host), T.sc (Value.int IntKind.i64 x.Resource.To.Path), T.sc (Value.int IntKind.i64 x.Resource.To.Query)]] = (a.Site ++ [x]).map GVersion.enc := by rw [List.map_append]; rfl
  have e2 : a.Site.length + 1 = (a.Site ++ [x]).length := by simp
  have hsl : a.Site.length + (a.Site.map GVersion.size).sum ≤ 1073741824 := by simp only [GArchive.size] at hs; omega
  apply callK_of (c_spec_l32Site a.Site hsl)
  simp only [↓bk_bind, ↓bk_map, ↓bk_ite, ↓bk_some, ↓reduceIte, Nat.reduceEqDiff, Nat.reduceLT, Nat.reduceLeDiff, Nat.reduceAdd, Nat.reduceMul, reduceCtorEq, List.reduceReplicate, go_sem]
  intros
  refine ⟨by decide, ?_⟩
  apply callK_of (c_spec_l32Site [x] (by simp only [List.length_cons, List.length_nil, List.map_cons, List.map_nil, List.sum_cons, List.sum_nil]; simp only [GVersion.size] at hx ⊢; omega))
  simp only [↓bk_bind, ↓bk_map, ↓bk_ite, ↓bk_some, ↓reduceIte, Nat.reduceEqDiff, Nat.reduceLT, Nat.reduceLeDiff, Nat.reduceAdd, Nat.reduceMul, reduceCtorEq, List.reduceReplicate, go_sem, ↓e1, e2]
  intros
  refine ⟨by simp only [roomB]; simp; omega, ?_⟩
  intros
  apply callK_of (c_spec_IsSite (a.Site ++ [x]))
  simp only [↓bk_bind, ↓bk_map, ↓bk_ite, ↓bk_some, ↓reduceIte, Nat.reduceEqDiff, Nat.reduceLT, Nat.reduceLeDiff, Nat.reduceAdd, Nat.reduceMul, reduceCtorEq, List.reduceReplicate, go_sem]
  repeat' first
    | (refine And.intro ?_ ?_ <;> intro h)
  all_goals
    first
      | (have hF : changeOk a x = false := by
          clear e1 e2 hsl hs hx
          unfold changeOk
          simp_all
          try omega
         simp [changeTo, hF]
         done)
      | (have hT : changeOk a x = true := by
          clear e1 e2 hsl hs hx
          unfold changeOk
          simp_all
          try omega
         simp [changeTo, hT]
         done)
      | (trace_state; sorry)
end Go.Proofs.YtpclnmleldeleaaGreatR
namespace Go.Proofs.YtpclnmleldeleaaGreatR
open Go Go.RowKit Go.Proofs
set_option linter.unusedSimpArgs false
set_option linter.unusedVariables false
def m_laws_FnExactStepChange : MC :=
(.seq (pr [.box 2 0 (.s 0), .box 3 1 (.s 1), .mv 4 (.c (.bool false))] [2,3])
(.seq (pr [.mv 5 (.c (.int .i64 1048576))] [2,3,5])
(.seq (pr [.load 17 true 10 (.s 2), .mv 18 (.s 5), .call 19 [] (.f n_laws_szArchive) [.s 17, .s 18], .mv 5 (.s 19)] [2,3,5])
(.seq (.seq (pr [.mv 20 (.s 5), .bin 21 false .lss (.s 20) (.c (.int .i64 0))] [2,3,5,21])
(.cond (.s 21) (.seq (pr [.mv 4 (.c (.bool true))] [4])
.ret) .skip))
(.seq (pr [.load 22 true 9 (.s 3), .mv 23 (.s 5), .call 24 [] (.f n_laws_szVersion) [.s 22, .s 23], .mv 5 (.s 24)] [2,3,5])
(.seq (.seq (pr [.mv 25 (.s 5), .bin 26 false .lss (.s 25) (.c (.int .i64 0))] [2,3,26])
(.cond (.s 26) (.seq (pr [.mv 4 (.c (.bool true))] [4])
.ret) .skip))
(.seq (.dreg [{ o := .load 28 true 10 (.s 2), hs := [6,30], ho := [21] }, { o := .call 29 [2, 3, 4, 5, 6, 7, 8, 9, 10] (.f n_laws_toArchive) [.s 28], hs := [6,30], ho := [21], ws := [2,3,4,5,6,7,8,9,10], bf := [0] }, { o := .load 30 true 9 (.s 3), hs := [6,28,29], ho := [2,3,4,5,6,7,8,9,10,21] }, { o := .call 31 [11] (.f n_laws_toVersion) [.s 30], hs := [6], ho := [21], ws := [11], bf := [0,1,2] }, { o := .call 32 [12, 13, 14, 15, 16, 17, 18, 19, 20] (.f n_spec_StepChange) [.s 29, .s 31], hs := [6], ho := [21], ws := [12,13,14,15,16,17,18,19,20], bf := [0,1,2,3] }, { o := .mv 27 (.s 32), hs := [6], ho := [21], bf := [0,1,2,3,4] }, { o := .ext 33 (.s 27) 0, hs := [6,34], ho := [21], bf := [0,1,2,3,4,5] }, { o := .ext 34 (.s 27) 1, hs := [6,33], ho := [12,13,14,15,16,17,18,19,20,21], bf := [0,1,2,3,4,5] }, { o := .alloc 6 21 [.emp 9, .emp 4, .emp 4, .emp 6, .emp 4, .emp 5, .emp 4, .emp 1, .emp 4, .pl (.sc (.int .i64 0))], hs := [27,28,29,30,31,32,33,34], ho := [2,3,4,5,6,7,8,9,10,11,12,13,14,15,16,17,18,19,20], ws := [21] }, { o := .store 10 (.s 6) (.s 33), hs := [34], ws := [12,13,14,15,16,17,18,19,20,21], bf := [0,1,2,3,4,5,6,8] }, { o := .mv 7 (.s 34), bf := [0,1,2,3,4,5,6,7,8,9] }] [2,3,6,7])
(.seq (pr [.load 35 true 10 (.s 2), .call 36 [22, 23, 24, 25, 26, 27, 28, 29, 30] (.f n_laws_toArchive) [.s 35], .alloc 8 31 [.emp 9, .emp 4, .emp 4, .emp 6, .emp 4, .emp 5, .emp 4, .emp 1, .emp 4, .pl (.sc (.int .i64 0))], .store 10 (.s 8) (.s 36)] [2,3,6,7,8])
(.seq (pr [.load 37 true 9 (.s 3), .call 38 [32] (.f n_laws_toVersion) [.s 37], .alloc 9 33 [.pl (.sc (.int .i64 0)), .pl (.sc (.int .i64 0)), .pl (.sc (.int .i64 0)), .pl (.sc (.int .i64 0)), .pl (.sc (.int .i64 0)), .emp 1, .pl (.sc (.int .i64 0)), .pl (.sc (.int .i64 0)), .pl (.sc (.int .i64 0))], .store 9 (.s 9) (.s 38)] [2,3,6,7,8,9])
(.seq (pr [.load 40 true 10 (.s 8), .load 41 true 9 (.s 9), .call 42 [34, 35, 36, 37, 38, 39, 40, 41, 42] (.f n_impl_StepChange) [.s 40, .s 41], .mv 39 (.s 42), .ext 43 (.s 39) 0, .ext 44 (.s 39) 1, .alloc 10 43 [.emp 9, .emp 4, .emp 4, .emp 6, .emp 4, .emp 5, .emp 4, .emp 1, .emp 4, .pl (.sc (.int .i64 0))], .store 10 (.s 10) (.s 43), .mv 11 (.s 44)] [2,3,6,7,8,9,10,11])
(.seq (.seq (.reg [{ o := .load 45 true 10 (.s 10) }, { o := .load 46 true 10 (.s 6) }, { o := .call 47 [] (.f n_laws_eqArchive) [.s 45, .s 46] }, { o := .un 48 .not (.s 47) }, { o := .mv 49 (.s 48) }, { o := .mv 50 (.s 11), g := some (49, false) }, { o := .mv 51 (.s 7), g := some (49, false) }, { o := .bin 52 true .neq (.s 50) (.s 51), g := some (49, false) }, { o := .pick 53 (.s 49) (.c (.bool true)) (.s 52) }] [2,3,6,7,8,9,10,11,53])
(.cond (.s 53) (.seq (pr [.mv 4 (.c (.bool false))] [4])
.ret) .skip))
(.seq (.seq (.dreg [{ o := .load 54 true 10 (.s 8), hs := [55,56], ho := [44,45,46,47,48,49,50,51,52] }, { o := .load 55 true 10 (.s 2), hs := [54] }, { o := .call 56 [44, 45, 46, 47, 48, 49, 50, 51, 52] (.f n_laws_toArchive) [.s 55], hs := [54], ws := [44,45,46,47,48,49,50,51,52], bf := [1] }, { o := .call 57 [] (.f n_laws_eqArchive) [.s 54, .s 56], bf := [0,1,2] }, { o := .un 58 .not (.s 57), bf := [0,1,2,3] }] [2,3,6,7,8,9,10,11,58])
(.cond (.s 58) (.seq (pr [.mv 4 (.c (.bool false))] [4])
.ret) .skip))
(.seq (.seq (.dreg [{ o := .load 59 true 9 (.s 9), hs := [60,61], ho := [53] }, { o := .load 60 true 9 (.s 3), hs := [59] }, { o := .call 61 [53] (.f n_laws_toVersion) [.s 60], hs := [59], ws := [53], bf := [1] }, { o := .call 62 [] (.f n_laws_eqVersion) [.s 59, .s 61], bf := [0,1,2] }, { o := .un 63 .not (.s 62), bf := [0,1,2,3] }] [2,3,6,7,8,9,10,11,63])
(.cond (.s 63) (.seq (pr [.mv 4 (.c (.bool false))] [4])
.ret) .skip))
(.seq (pr [.mv 12 (.c (.int .i64 1))] [2,3,6,7,8,9,10,11,12])
(.seq (pr [.load 64 true 10 (.s 8), .mv 65 (.s 12), .callI 66 [] (.f n_laws_markArchive) [.s 64, .s 65] [22,23,24,25,26,27,28,29,30] [], .mv 12 (.s 66)] [2,3,6,7,9,10,11,12])
(.seq (pr [.load 67 true 9 (.s 9), .mv 68 (.s 12), .callI 69 [] (.f n_laws_markVersion) [.s 67, .s 68] [32] [], .mv 12 (.s 69)] [2,3,6,7,10,11,12])
(.seq (.seq (.reg [{ o := .mv 70 (.s 12) }, { o := .bin 71 false .lss (.s 70) (.c (.int .i64 0)) }, { o := .mv 72 (.s 71) }, { o := .load 73 true 10 (.s 10), g := some (72, false) }, { o := .load 74 true 10 (.s 6), g := some (72, false) }, { o := .call 75 [] (.f n_laws_eqArchive) [.s 73, .s 74], g := some (72, false) }, { o := .un 76 .not (.s 75), g := some (72, false) }, { o := .pick 77 (.s 72) (.c (.bool true)) (.s 76) }, { o := .mv 78 (.s 77) }, { o := .mv 79 (.s 11), g := some (78, false) }, { o := .mv 80 (.s 7), g := some (78, false) }, { o := .bin 81 true .neq (.s 79) (.s 80), g := some (78, false) }, { o := .pick 82 (.s 78) (.c (.bool true)) (.s 81) }] [2,3,6,7,10,82])
(.cond (.s 82) (.seq (pr [.mv 4 (.c (.bool false))] [4])
.ret) .skip))
(.seq (pr [.mv 13 (.c (.int .i64 1))] [2,3,6,7,10,13])
(.seq (pr [.load 83 true 10 (.s 10), .mv 84 (.s 13), .callI 85 [] (.f n_laws_markArchive) [.s 83, .s 84] [34,35,36,37,38,39,40,41,42] [], .mv 13 (.s 85)] [2,3,6,7,10,13])
(.seq (pr [.mv 14 (.c (.int .i64 1))] [2,3,6,7,10,13,14])
(.seq (pr [.load 86 true 10 (.s 10), .mv 87 (.s 14), .call 88 [] (.f n_laws_heldArchive) [.s 86, .s 87], .mv 14 (.s 88)] [2,3,6,7,10,13,14])
(.seq (.seq (pr [.mv 89 (.s 14), .bin 90 false .lss (.s 89) (.c (.int .i64 0))] [2,3,6,7,10,13,14,90])
(.cond (.s 90) (.seq (pr [.mv 4 (.c (.bool false))] [4])
.ret) .skip))
(.seq (.seq (pr [.mv 91 (.s 14), .mv 92 (.s 13), .bin 93 false .neq (.s 91) (.s 92)] [2,3,6,7,10,13,93])
(.cond (.s 93) (.seq (pr [.mv 4 (.c (.bool false))] [4])
.ret) .skip))
(.seq (.dreg [{ o := .load 95 true 10 (.s 2), hs := [15,97], ho := [73] }, { o := .call 96 [54, 55, 56, 57, 58, 59, 60, 61, 62] (.f n_laws_toArchive) [.s 95], hs := [15,97], ho := [73], ws := [54,55,56,57,58,59,60,61,62], bf := [0] }, { o := .load 97 true 9 (.s 3), hs := [15,95,96], ho := [54,55,56,57,58,59,60,61,62,73] }, { o := .call 98 [63] (.f n_laws_toVersion) [.s 97], hs := [15], ho := [73], ws := [63], bf := [0,1,2] }, { o := .call 99 [64, 65, 66, 67, 68, 69, 70, 71, 72] (.f n_impl_StepChange) [.s 96, .s 98], hs := [15], ho := [73], ws := [64,65,66,67,68,69,70,71,72], bf := [0,1,2,3] }, { o := .mv 94 (.s 99), hs := [15], ho := [73], bf := [0,1,2,3,4] }, { o := .ext 100 (.s 94) 0, hs := [15,101], ho := [73], bf := [0,1,2,3,4,5] }, { o := .ext 101 (.s 94) 1, hs := [15,100], ho := [64,65,66,67,68,69,70,71,72,73], bf := [0,1,2,3,4,5] }, { o := .alloc 15 73 [.emp 9, .emp 4, .emp 4, .emp 6, .emp 4, .emp 5, .emp 4, .emp 1, .emp 4, .pl (.sc (.int .i64 0))], hs := [94,95,96,97,98,99,100,101], ho := [54,55,56,57,58,59,60,61,62,63,64,65,66,67,68,69,70,71,72], ws := [73] }, { o := .store 10 (.s 15) (.s 100), hs := [101], ws := [64,65,66,67,68,69,70,71,72,73], bf := [0,1,2,3,4,5,6,8] }, { o := .mv 16 (.s 101), bf := [0,1,2,3,4,5,6,7,8,9] }] [6,7,10,13,15,16])
(.seq (.seq (.reg [{ o := .load 102 true 10 (.s 15) }, { o := .load 103 true 10 (.s 6) }, { o := .call 104 [] (.f n_laws_eqArchive) [.s 102, .s 103] }, { o := .un 105 .not (.s 104) }, { o := .mv 106 (.s 105) }, { o := .mv 107 (.s 16), g := some (106, false) }, { o := .mv 108 (.s 7), g := some (106, false) }, { o := .bin 109 true .neq (.s 107) (.s 108), g := some (106, false) }, { o := .pick 110 (.s 106) (.c (.bool true)) (.s 109) }] [10,13,110])
(.cond (.s 110) (.seq (pr [.mv 4 (.c (.bool false))] [4])
.ret) .skip))
(.seq (pr [.mv 14 (.c (.int .i64 1))] [10,13,14])
(.seq (pr [.load 111 true 10 (.s 10), .mv 112 (.s 14), .call 113 [] (.f n_laws_heldArchive) [.s 111, .s 112], .mv 14 (.s 113)] [13,14])
(.seq (.seq (pr [.mv 114 (.s 14), .bin 115 false .lss (.s 114) (.c (.int .i64 0))] [13,14,115])
(.cond (.s 115) (.seq (pr [.mv 4 (.c (.bool false))] [4])
.ret) .skip))
(.seq (.seq (pr [.mv 116 (.s 14), .mv 117 (.s 13), .bin 118 false .neq (.s 116) (.s 117)] [118])
(.cond (.s 118) (.seq (pr [.mv 4 (.c (.bool false))] [4])
.ret) .skip))
(.seq (pr [.mv 4 (.c (.bool true))] [4])
.ret))))))))))))))))))))))))))))))
theorem c_laws_FnExactStepChange (a : GArchive) (x : GVersion) : Ctr Tryz.prog n_laws_FnExactStepChange [aS a.enc, aS x.enc] [rB true] := by
  refine ctr_at (M := m_laws_FnExactStepChange) (m := 74) (n := 119) (res := [(.tmp 4, [false])]) hmix Tryz.func3 rfl (by kernel_rfl) rfl (by kernel_rfl) (by kernel_rfl) (Nat.le_of_ble_eq_true rfl) ?_; unfold m_laws_FnExactStepChange
  intro hb
  clear hb
  simp only [↓bk_bind, ↓bk_map, ↓bk_ite, ↓bk_some, ↓reduceIte, Nat.reduceEqDiff, Nat.reduceLT, Nat.reduceLeDiff, Nat.reduceAdd, Nat.reduceMul, reduceCtorEq, List.reduceReplicate, go_sem]
  apply callK_of (c_laws_szArchive a _ (by omega))
  simp only [↓bk_bind, ↓bk_map, ↓bk_ite, ↓bk_some, ↓reduceIte, Nat.reduceEqDiff, Nat.reduceLT, Nat.reduceLeDiff, Nat.reduceAdd, Nat.reduceMul, reduceCtorEq, List.reduceReplicate, go_sem]
  intro _ hz
  obtain ⟨hz1, hz2, hz3⟩ := szr_add (m := x.size) (by omega) hz
  apply callK_of (c_laws_szVersion x _ hz1)
  rw [← hz3]
  simp only [↓bk_bind, ↓bk_map, ↓bk_ite, ↓bk_some, ↓reduceIte, Nat.reduceEqDiff, Nat.reduceLT, Nat.reduceLeDiff, Nat.reduceAdd, Nat.reduceMul, reduceCtorEq, List.reduceReplicate, go_sem]
  intro _ hz
  have hs := szr_ok hz
  have hc_a := GArchive.cts_le a
  have hc_x := GVersion.cts_le x
  have hr0 := GArchive.cts_le (changeTo a x)
  have hl_change_size := change_size a x
  apply callK_of (c_laws_toArchive a (by omega))
  simp only [↓bk_bind, ↓bk_map, ↓bk_ite, ↓bk_some, ↓reduceIte, Nat.reduceEqDiff, Nat.reduceLT, Nat.reduceLeDiff, Nat.reduceAdd, Nat.reduceMul, reduceCtorEq, List.reduceReplicate, go_sem]
  try intros
  apply callK_of (c_laws_toVersion x (by omega))
  simp only [↓bk_bind, ↓bk_map, ↓bk_ite, ↓bk_some, ↓reduceIte, Nat.reduceEqDiff, Nat.reduceLT, Nat.reduceLeDiff, Nat.reduceAdd, Nat.reduceMul, reduceCtorEq, List.reduceReplicate, go_sem]
  try intros
  apply callK_of (c_spec_StepChange a x (by omega) (by omega))
  simp only [↓bk_bind, ↓bk_map, ↓bk_ite, ↓bk_some, ↓reduceIte, Nat.reduceEqDiff, Nat.reduceLT, Nat.reduceLeDiff, Nat.reduceAdd, Nat.reduceMul, reduceCtorEq, List.reduceReplicate, go_sem]
  try intros
  apply callK_of (c_laws_toArchive a (by omega))
  simp only [↓bk_bind, ↓bk_map, ↓bk_ite, ↓bk_some, ↓reduceIte, Nat.reduceEqDiff, Nat.reduceLT, Nat.reduceLeDiff, Nat.reduceAdd, Nat.reduceMul, reduceCtorEq, List.reduceReplicate, go_sem]
  try intros
  apply callK_of (c_laws_toVersion x (by omega))
  simp only [↓bk_bind, ↓bk_map, ↓bk_ite, ↓bk_some, ↓reduceIte, Nat.reduceEqDiff, Nat.reduceLT, Nat.reduceLeDiff, Nat.reduceAdd, Nat.reduceMul, reduceCtorEq, List.reduceReplicate, go_sem]
  try intros
  apply callK_of (c_impl_StepChange a x (by omega) (by omega))
  simp only [↓bk_bind, ↓bk_map, ↓bk_ite, ↓bk_some, ↓reduceIte, Nat.reduceEqDiff, Nat.reduceLT, Nat.reduceLeDiff, Nat.reduceAdd, Nat.reduceMul, reduceCtorEq, List.reduceReplicate, go_sem]
  try intros
  apply callK_of (c_laws_eqArchive (changeTo a x) (changeTo a x))
  simp only [↓bk_bind, ↓bk_map, ↓bk_ite, ↓bk_some, ↓reduceIte, Nat.reduceEqDiff, Nat.reduceLT, Nat.reduceLeDiff, Nat.reduceAdd, Nat.reduceMul, reduceCtorEq, List.reduceReplicate, go_sem]
  try intros
  apply callK_of (c_laws_toArchive a (by omega))
  simp only [↓bk_bind, ↓bk_map, ↓bk_ite, ↓bk_some, ↓reduceIte, Nat.reduceEqDiff, Nat.reduceLT, Nat.reduceLeDiff, Nat.reduceAdd, Nat.reduceMul, reduceCtorEq, List.reduceReplicate, go_sem]
  try intros
  apply callK_of (c_laws_eqArchive a a)
  simp only [↓bk_bind, ↓bk_map, ↓bk_ite, ↓bk_some, ↓reduceIte, Nat.reduceEqDiff, Nat.reduceLT, Nat.reduceLeDiff, Nat.reduceAdd, Nat.reduceMul, reduceCtorEq, List.reduceReplicate, go_sem]
  try intros
  apply callK_of (c_laws_toVersion x (by omega))
  simp only [↓bk_bind, ↓bk_map, ↓bk_ite, ↓bk_some, ↓reduceIte, Nat.reduceEqDiff, Nat.reduceLT, Nat.reduceLeDiff, Nat.reduceAdd, Nat.reduceMul, reduceCtorEq, List.reduceReplicate, go_sem]
  try intros
  apply callK_of (c_laws_eqVersion x x)
  simp only [↓bk_bind, ↓bk_map, ↓bk_ite, ↓bk_some, ↓reduceIte, Nat.reduceEqDiff, Nat.reduceLT, Nat.reduceLeDiff, Nat.reduceAdd, Nat.reduceMul, reduceCtorEq, List.reduceReplicate, go_sem]
  try intros
  apply callIK_of (c_laws_markArchive a (1) (by omega) (by omega))
  simp only [↓bk_bind, ↓bk_map, ↓bk_ite, ↓bk_some, ↓reduceIte, Nat.reduceEqDiff, Nat.reduceLT, Nat.reduceLeDiff, Nat.reduceAdd, Nat.reduceMul, reduceCtorEq, List.reduceReplicate, go_sem]
  try intros
  apply callIK_of (c_laws_markVersion x (1 + ((a).cts : Nat)) (by omega) (by omega))
  simp only [↓bk_bind, ↓bk_map, ↓bk_ite, ↓bk_some, ↓reduceIte, Nat.reduceEqDiff, Nat.reduceLT, Nat.reduceLeDiff, Nat.reduceAdd, Nat.reduceMul, reduceCtorEq, List.reduceReplicate, go_sem]
  try intros
  have hk : ¬ ((1 + ((a).cts : Nat) + ((x).cts : Nat) : Int)) < 0 := by omega
  simp only [↓bk_bind, ↓bk_map, ↓bk_ite, ↓bk_some, ↓reduceIte, Nat.reduceEqDiff, Nat.reduceLT, Nat.reduceLeDiff, Nat.reduceAdd, Nat.reduceMul, reduceCtorEq, List.reduceReplicate, go_sem, hk]
  try intros
  apply callK_of (c_laws_eqArchive (changeTo a x) (changeTo a x))
  simp only [↓bk_bind, ↓bk_map, ↓bk_ite, ↓bk_some, ↓reduceIte, Nat.reduceEqDiff, Nat.reduceLT, Nat.reduceLeDiff, Nat.reduceAdd, Nat.reduceMul, reduceCtorEq, List.reduceReplicate, go_sem]
  try intros
  apply callIK_of (c_laws_markArchive (changeTo a x) (1) (by omega) (by omega))
  simp only [↓bk_bind, ↓bk_map, ↓bk_ite, ↓bk_some, ↓reduceIte, Nat.reduceEqDiff, Nat.reduceLT, Nat.reduceLeDiff, Nat.reduceAdd, Nat.reduceMul, reduceCtorEq, List.reduceReplicate, go_sem]
  try intros
  apply callK_of (c_laws_heldArchive (changeTo a x) (1) (by omega) (by omega))
  simp only [↓bk_bind, ↓bk_map, ↓bk_ite, ↓bk_some, ↓reduceIte, Nat.reduceEqDiff, Nat.reduceLT, Nat.reduceLeDiff, Nat.reduceAdd, Nat.reduceMul, reduceCtorEq, List.reduceReplicate, go_sem]
  have hq0 : ¬ ((1 + ((changeTo a x).cts : Nat) : Int)) < 0 := by omega
  try simp only [↓bk_bind, ↓bk_map, ↓bk_ite, ↓bk_some, ↓reduceIte, Nat.reduceEqDiff, Nat.reduceLT, Nat.reduceLeDiff, Nat.reduceAdd, Nat.reduceMul, reduceCtorEq, List.reduceReplicate, go_sem, hq0]
  try intros
  apply callK_of (c_laws_toArchive a (by omega))
  simp only [↓bk_bind, ↓bk_map, ↓bk_ite, ↓bk_some, ↓reduceIte, Nat.reduceEqDiff, Nat.reduceLT, Nat.reduceLeDiff, Nat.reduceAdd, Nat.reduceMul, reduceCtorEq, List.reduceReplicate, go_sem]
  try intros
  apply callK_of (c_laws_toVersion x (by omega))
  simp only [↓bk_bind, ↓bk_map, ↓bk_ite, ↓bk_some, ↓reduceIte, Nat.reduceEqDiff, Nat.reduceLT, Nat.reduceLeDiff, Nat.reduceAdd, Nat.reduceMul, reduceCtorEq, List.reduceReplicate, go_sem]
  try intros
  apply callK_of (c_impl_StepChange a x (by omega) (by omega))
  simp only [↓bk_bind, ↓bk_map, ↓bk_ite, ↓bk_some, ↓reduceIte, Nat.reduceEqDiff, Nat.reduceLT, Nat.reduceLeDiff, Nat.reduceAdd, Nat.reduceMul, reduceCtorEq, List.reduceReplicate, go_sem]
  try intros
  apply callK_of (c_laws_eqArchive (changeTo a x) (changeTo a x))
  simp only [↓bk_bind, ↓bk_map, ↓bk_ite, ↓bk_some, ↓reduceIte, Nat.reduceEqDiff, Nat.reduceLT, Nat.reduceLeDiff, Nat.reduceAdd, Nat.reduceMul, reduceCtorEq, List.reduceReplicate, go_sem]
  try intros
  apply callK_of (c_laws_heldArchive (changeTo a x) (1) (by omega) (by omega))
  simp only [↓bk_bind, ↓bk_map, ↓bk_ite, ↓bk_some, ↓reduceIte, Nat.reduceEqDiff, Nat.reduceLT, Nat.reduceLeDiff, Nat.reduceAdd, Nat.reduceMul, reduceCtorEq, List.reduceReplicate, go_sem]
  have hq0 : ¬ ((1 + ((changeTo a x).cts : Nat) : Int)) < 0 := by omega
  try simp only [↓bk_bind, ↓bk_map, ↓bk_ite, ↓bk_some, ↓reduceIte, Nat.reduceEqDiff, Nat.reduceLT, Nat.reduceLeDiff, Nat.reduceAdd, Nat.reduceMul, reduceCtorEq, List.reduceReplicate, go_sem, hq0]
  try intros
end Go.Proofs.YtpclnmleldeleaaGreatR
