/- What the functions compute that the law of ReplayVisit reaches: contracts, function by function. Conditions stand in each theorem. -/
import Derived.Test.YtbnbgekjjbpljaaGreatTReplayVisitb
namespace Go.Proofs.YtbnbgekjjbpljaaGreatR
open Go Go.RowKit Go.Proofs
set_option linter.unusedSimpArgs false
set_option linter.unusedVariables false
def clamp (v : Int) : Int := if 999 < (if 0 > v then 0 else v) then 999 else (if 0 > v then 0 else v)
theorem clamp_eq {v : Int} : (if (if v < 999 then v else 999) > 0 then (if v < 999 then v else 999) else 0) = clamp v := by
  unfold clamp; repeat' split
  all_goals omega
def pcTo (n : Int) : Int := IntKind.i64.wrap (n + 1)
def doOp (o : GOp) (s : GState) (v : Int) : GState :=
  if o.Kind = 5 then { s with Pc := pcTo s.Pc, Regs := s.Regs.set o.A.toNat ((IntKind.i64.wrap (zAt s.Regs o.B + zAt s.Regs o.C)).tmod 1000) }
  else if o.Kind = 6 then { s with Pc := pcTo s.Pc, Nodes := s.Nodes.set o.B.toNat (zAt s.Regs o.A) }
  else if o.Kind = 7 then { s with Pc := if (zAt s.Regs o.A).tmod 2 = 0 then IntKind.i64.wrap (pcTo s.Pc + o.B) else pcTo s.Pc }
  else if o.Kind = 8 then { s with Pc := pcTo s.Pc, Regs := s.Regs.set o.A.toNat (zAt s.Slots o.B) }
  else if o.Kind = 9 then { s with Pc := pcTo s.Pc, Slots := s.Slots.set o.B.toNat (zAt s.Regs o.A) }
  else { s with Pc := pcTo s.Pc, Regs := s.Regs.set o.A.toNat (clamp v) }
def stepTo (l : List GOp) (s : GState) (v : Int) : GState := if canDo l s then doOp (opAt l s.Pc) s v else s
theorem step_no {l : List GOp} {s : GState} {v : Int} (h : canDo l s = false) : stepTo l s v = s := by unfold stepTo; rw [h]; rfl
theorem step_yes {l : List GOp} {s : GState} {v : Int} {k : Nat} {o : GOp} (h : canDo l s = true) (D : Doing l s k o) : stepTo l s v = doOp o s v := by unfold stepTo; rw [h, D.at_]; rfl
theorem c2 : ¬ (2 : Int) = 0 := by decide
def m_impl_StepState : MC :=
(.seq (pr [.box 4 0 (.s 1), .alloc 6 1 [.pl (.sc (.int .i64 0)), .emp 1, .emp 1, .emp 1]] [0,2,4,6])
(.seq (pr [.load 9 true 4 (.s 4), .call 10 [2, 3, 4] (.f n_impl_copyState) [.s 9], .alloc 7 5 [.pl (.sc (.int .i64 0)), .emp 1, .emp 1, .emp 1], .store 4 (.s 7) (.s 10)] [0,2,4,6,7])
(.seq (.seq (pr [.mv 11 (.s 0), .load 12 true 4 (.s 4), .call 13 [] (.f n_impl_canStep) [.s 11, .s 12], .un 14 .not (.s 13)] [0,2,4,6,7,14])
(.cond (.s 14) (.seq (pr [.load 15 true 4 (.s 7), .store 4 (.s 6) (.s 15)] [6])
.ret) .skip))
(.seq (pr [.mv 16 (.s 0), .fld 17 (.s 4) 0, .load 18 false 1 (.s 17), .idx 19 4 (.s 16) (.s 18), .load 20 true 4 (.s 19), .alloc 8 6 [.pl (.sc (.int .i64 0)), .pl (.sc (.int .i64 0)), .pl (.sc (.int .i64 0)), .pl (.sc (.int .i64 0))], .store 4 (.s 8) (.s 20)] [2,4,6,7,8])
(.seq (pr [.fld 21 (.s 7) 0, .load 22 false 1 (.s 21), .bin 23 false .add (.s 22) (.c (.int .i64 1)), .fld 24 (.s 7) 0, .store 1 (.s 24) (.s 23)] [2,4,6,7,8])
(.seq (.seq (pr [.fld 25 (.s 8) 0, .load 26 false 1 (.s 25)] [2,4,6,7,8,26])
(.block 0 (.seq (pr [.bin 36 false .eql (.s 26) (.c (.int .i64 5)), .mv 35 (.s 36)] [2,4,6,7,8,26,35])
(.cond (.s 35) (.dreg [{ o := .fld 37 (.s 7) 1, hs := [39,40,41,42,43,44,45,46,47,48,49,50,51,52,53,54] }, { o := .load 38 false 1 (.s 37), hs := [39,40,41,42,43,44,45,46,47,48,49,50,51,52,53,54], bf := [0] }, { o := .fld 39 (.s 8) 1, hs := [37,38,41,42,43,44,45,46,47,48,49,50,51,52,53,54] }, { o := .load 40 false 1 (.s 39), hs := [37,38,41,42,43,44,45,46,47,48,49,50,51,52,53,54], bf := [2] }, { o := .fld 41 (.s 4) 1, hs := [37,38,39,40,43,44,47,48,49,50,51,52] }, { o := .load 42 false 1 (.s 41), hs := [37,38,39,40,43,44,47,48,49,50,51,52], bf := [4] }, { o := .fld 43 (.s 8) 2, hs := [37,38,39,40,41,42,47,48,49,50,51,52] }, { o := .load 44 false 1 (.s 43), hs := [37,38,39,40,41,42,47,48,49,50,51,52], bf := [6] }, { o := .idx 45 1 (.s 42) (.s 44), hs := [37,38,39,40,47,48,49,50,51,52], bf := [4,5,6,7] }, { o := .load 46 false 1 (.s 45), hs := [37,38,39,40,47,48,49,50,51,52], bf := [4,5,6,7,8] }, { o := .fld 47 (.s 4) 1, hs := [37,38,39,40,41,42,43,44,45,46,49,50] }, { o := .load 48 false 1 (.s 47), hs := [37,38,39,40,41,42,43,44,45,46,49,50], bf := [10] }, { o := .fld 49 (.s 8) 3, hs := [37,38,39,40,41,42,43,44,45,46,47,48] }, { o := .load 50 false 1 (.s 49), hs := [37,38,39,40,41,42,43,44,45,46,47,48], bf := [12] }, { o := .idx 51 1 (.s 48) (.s 50), hs := [37,38,39,40,41,42,43,44,45,46], bf := [10,11,12,13] }, { o := .load 52 false 1 (.s 51), hs := [37,38,39,40,41,42,43,44,45,46], bf := [10,11,12,13,14] }, { o := .bin 53 false .add (.s 46) (.s 52), hs := [37,38,39,40], bf := [4,5,6,7,8,9,10,11,12,13,14,15] }, { o := .bin 54 false .rem (.s 53) (.c (.int .i64 1000)), hs := [37,38,39,40], bf := [4,5,6,7,8,9,10,11,12,13,14,15,16] }, { o := .idx 55 1 (.s 38) (.s 40), bf := [0,1,2,3,4,5,6,7,8,9,10,11,12,13,14,15,16,17] }, { o := .store 1 (.s 55) (.s 54), ws := [2], bf := [0,1,2,3,4,5,6,7,8,9,10,11,12,13,14,15,16,17,18] }] [6,7]) (.seq (pr [.bin 57 false .eql (.s 26) (.c (.int .i64 6)), .mv 56 (.s 57)] [2,4,6,7,8,26,56])
(.cond (.s 56) (.dreg [{ o := .fld 58 (.s 7) 3, hs := [60,61,62,63,64,65,66,67] }, { o := .load 59 false 1 (.s 58), hs := [60,61,62,63,64,65,66,67], bf := [0] }, { o := .fld 60 (.s 8) 2, hs := [58,59,62,63,64,65,66,67] }, { o := .load 61 false 1 (.s 60), hs := [58,59,62,63,64,65,66,67], bf := [2] }, { o := .fld 62 (.s 4) 1, hs := [58,59,60,61,64,65] }, { o := .load 63 false 1 (.s 62), hs := [58,59,60,61,64,65], bf := [4] }, { o := .fld 64 (.s 8) 1, hs := [58,59,60,61,62,63] }, { o := .load 65 false 1 (.s 64), hs := [58,59,60,61,62,63], bf := [6] }, { o := .idx 66 1 (.s 63) (.s 65), hs := [58,59,60,61], bf := [4,5,6,7] }, { o := .load 67 false 1 (.s 66), hs := [58,59,60,61], bf := [4,5,6,7,8] }, { o := .idx 68 1 (.s 59) (.s 61), bf := [0,1,2,3,4,5,6,7,8,9] }, { o := .store 1 (.s 68) (.s 67), ws := [4], bf := [0,1,2,3,4,5,6,7,8,9,10] }] [6,7]) (.seq (pr [.bin 70 false .eql (.s 26) (.c (.int .i64 7)), .mv 69 (.s 70)] [2,4,6,7,8,26,69])
(.cond (.s 69) (.seq (pr [.fld 71 (.s 4) 1, .load 72 false 1 (.s 71), .fld 73 (.s 8) 1, .load 74 false 1 (.s 73), .idx 75 1 (.s 72) (.s 74), .load 76 false 1 (.s 75), .bin 77 false .rem (.s 76) (.c (.int .i64 2)), .bin 78 false .eql (.s 77) (.c (.int .i64 0))] [6,7,8,78])
(.cond (.s 78) (pr [.fld 79 (.s 7) 0, .load 80 false 1 (.s 79), .fld 81 (.s 8) 2, .load 82 false 1 (.s 81), .bin 83 false .add (.s 80) (.s 82), .fld 84 (.s 7) 0, .store 1 (.s 84) (.s 83)] [6,7]) .skip)) (.seq (pr [.bin 86 false .eql (.s 26) (.c (.int .i64 8)), .mv 85 (.s 86)] [2,4,6,7,8,26,85])
(.cond (.s 85) (.dreg [{ o := .fld 87 (.s 7) 1, hs := [89,90,91,92,93,94,95,96] }, { o := .load 88 false 1 (.s 87), hs := [89,90,91,92,93,94,95,96], bf := [0] }, { o := .fld 89 (.s 8) 1, hs := [87,88,91,92,93,94,95,96] }, { o := .load 90 false 1 (.s 89), hs := [87,88,91,92,93,94,95,96], bf := [2] }, { o := .fld 91 (.s 4) 2, hs := [87,88,89,90,93,94] }, { o := .load 92 false 1 (.s 91), hs := [87,88,89,90,93,94], bf := [4] }, { o := .fld 93 (.s 8) 2, hs := [87,88,89,90,91,92] }, { o := .load 94 false 1 (.s 93), hs := [87,88,89,90,91,92], bf := [6] }, { o := .idx 95 1 (.s 92) (.s 94), hs := [87,88,89,90], bf := [4,5,6,7] }, { o := .load 96 false 1 (.s 95), hs := [87,88,89,90], bf := [4,5,6,7,8] }, { o := .idx 97 1 (.s 88) (.s 90), bf := [0,1,2,3,4,5,6,7,8,9] }, { o := .store 1 (.s 97) (.s 96), ws := [2], bf := [0,1,2,3,4,5,6,7,8,9,10] }] [6,7]) (.seq (pr [.bin 99 false .eql (.s 26) (.c (.int .i64 9)), .mv 98 (.s 99)] [2,4,6,7,8,98])
(.cond (.s 98) (.dreg [{ o := .fld 100 (.s 7) 2, hs := [102,103,104,105,106,107,108,109] }, { o := .load 101 false 1 (.s 100), hs := [102,103,104,105,106,107,108,109], bf := [0] }, { o := .fld 102 (.s 8) 2, hs := [100,101,104,105,106,107,108,109] }, { o := .load 103 false 1 (.s 102), hs := [100,101,104,105,106,107,108,109], bf := [2] }, { o := .fld 104 (.s 4) 1, hs := [100,101,102,103,106,107] }, { o := .load 105 false 1 (.s 104), hs := [100,101,102,103,106,107], bf := [4] }, { o := .fld 106 (.s 8) 1, hs := [100,101,102,103,104,105] }, { o := .load 107 false 1 (.s 106), hs := [100,101,102,103,104,105], bf := [6] }, { o := .idx 108 1 (.s 105) (.s 107), hs := [100,101,102,103], bf := [4,5,6,7] }, { o := .load 109 false 1 (.s 108), hs := [100,101,102,103], bf := [4,5,6,7,8] }, { o := .idx 110 1 (.s 101) (.s 103), bf := [0,1,2,3,4,5,6,7,8,9] }, { o := .store 1 (.s 110) (.s 109), ws := [3], bf := [0,1,2,3,4,5,6,7,8,9,10] }] [6,7]) (pr [.fld 27 (.s 7) 1, .load 28 false 1 (.s 27), .fld 29 (.s 8) 1, .load 30 false 1 (.s 29), .mv 31 (.s 2), .mm 32 true (.s 31) (.c (.int .i64 0)), .mm 33 false (.s 32) (.c (.int .i64 999)), .idx 34 1 (.s 28) (.s 30), .store 1 (.s 34) (.s 33)] [6,7])))))))))))))
(.seq (pr [.load 111 true 4 (.s 7), .store 4 (.s 6) (.s 111)] [6])
.ret)))))))
set_option maxHeartbeats 1000000 in
theorem c_impl_StepState (l : List GOp) (s : GState) (v : Int) (hs : s.size ≤ 1073741824) : Ctr Tryz.prog n_impl_StepState [aL 4 (l.map GOp.enc), aS s.enc, aI v] [rS (stepTo l s v).enc] := by
  refine ctr_at (M := m_impl_StepState) (m := 7) (n := 112) (res := [(.cell 6 true 4, [false, true, true, true])]) hmix Tryz.func235 rfl (by kernel_rfl) rfl (by kernel_rfl) (by kernel_rfl) (Nat.le_of_ble_eq_true rfl) ?_; unfold m_impl_StepState
  intro hb
  clear hb
  simp only [↓bk_bind, ↓bk_map, ↓bk_ite, ↓bk_some, ↓reduceIte, Nat.reduceEqDiff, Nat.reduceLT, Nat.reduceLeDiff, Nat.reduceAdd, Nat.reduceMul, reduceCtorEq, List.reduceReplicate, go_sem]
  apply callK_of (c_impl_copyState s hs)
  simp only [↓bk_bind, ↓bk_map, ↓bk_ite, ↓bk_some, ↓reduceIte, Nat.reduceEqDiff, Nat.reduceLT, Nat.reduceLeDiff, Nat.reduceAdd, Nat.reduceMul, reduceCtorEq, List.reduceReplicate, go_sem]
  intros
  apply callK_of (c_impl_canStep l s)
  simp only [↓bk_bind, ↓bk_map, ↓bk_ite, ↓bk_some, ↓reduceIte, Nat.reduceEqDiff, Nat.reduceLT, Nat.reduceLeDiff, Nat.reduceAdd, Nat.reduceMul, reduceCtorEq, List.reduceReplicate, go_sem]
  refine And.intro ?_ ?_ <;> intro h
  · rw [step_no h]
    try exact ⟨rfl, rfl, rfl, rfl⟩
  · obtain ⟨k, o, D⟩ := canDo_out h
    rw [step_yes h D]
    obtain ⟨i, hi, hA, hk⟩ := opOk_cases D.ok
    have hrl := D.regs
    have hsl := D.slots
    have hnl := D.nodes
    obtain ⟨r, hr⟩ := at_some (show i < s.Regs.length by omega)
    have hp0 : (0 : Int) ≤ (k : Int) := by omega
    have hp1 : (k : Int) < l.length := by have := D.lt; omega
    have hi0 : (0 : Int) ≤ (i : Int) := by omega
    have hi1 : (i : Int) < s.Regs.length := by omega
    have hz : zAt s.Regs (i : Int) = r := zAt_of hr
    simp only [↓bk_bind, ↓bk_map, ↓bk_ite, ↓bk_some, ↓reduceIte, Nat.reduceEqDiff, Nat.reduceLT, Nat.reduceLeDiff, Nat.reduceAdd, Nat.reduceMul, reduceCtorEq, List.reduceReplicate, go_sem, D.pc, bk_eq D.op, hp0, hp1]
    rcases hk with ⟨hK, j, m, hj, hm, hB, hC⟩ | ⟨hK, j, hj, hB⟩ | ⟨hK, hB⟩ | ⟨hK, j, hj, hB⟩ | ⟨hK, j, hj, hB⟩ | hK
    · obtain ⟨rj, hrj⟩ := at_some (show j < s.Regs.length by omega)
      obtain ⟨rm, hrm⟩ := at_some (show m < s.Regs.length by omega)
      have hj0 : (0 : Int) ≤ (j : Int) := by omega
      have hj1 : (j : Int) < s.Regs.length := by omega
      have hm0 : (0 : Int) ≤ (m : Int) := by omega
      have hm1 : (m : Int) < s.Regs.length := by omega
      simp only [↓bk_bind, ↓bk_map, ↓bk_ite, ↓bk_some, ↓reduceIte, Nat.reduceEqDiff, Nat.reduceLT, Nat.reduceLeDiff, Nat.reduceAdd, Nat.reduceMul, reduceCtorEq, List.reduceReplicate, go_sem, hK, hA, hB, hC, hi0, hi1, hj0, hj1, hm0, hm1, bk_eq hrj, bk_eq hrm, bk_eq hr, Int.reduceEq, c1000]
      simp [doOp, hK, hA, hB, hC, pcTo, D.pc, zAt_of hrj, zAt_of hrm, encI, List.map_set]
    · obtain ⟨nj, hnj⟩ := at_some (show j < s.Nodes.length by omega)
      have hj0 : (0 : Int) ≤ (j : Int) := by omega
      have hj1 : (j : Int) < s.Nodes.length := by omega
      simp only [↓bk_bind, ↓bk_map, ↓bk_ite, ↓bk_some, ↓reduceIte, Nat.reduceEqDiff, Nat.reduceLT, Nat.reduceLeDiff, Nat.reduceAdd, Nat.reduceMul, reduceCtorEq, List.reduceReplicate, go_sem, hK, hA, hB, hi0, hi1, hj0, hj1, bk_eq hnj, bk_eq hr, Int.reduceEq]
      simp [doOp, hK, hA, hB, pcTo, D.pc, hz, encI, List.map_set]
    · simp only [↓bk_bind, ↓bk_map, ↓bk_ite, ↓bk_some, ↓reduceIte, Nat.reduceEqDiff, Nat.reduceLT, Nat.reduceLeDiff, Nat.reduceAdd, Nat.reduceMul, reduceCtorEq, List.reduceReplicate, go_sem, hK, hA, hi0, hi1, bk_eq hr, Int.reduceEq, c2]
      exact ⟨fun h7 => by simp [doOp, hK, hA, pcTo, D.pc, hz, h7], fun h7 => by simp [doOp, hK, hA, pcTo, D.pc, hz, h7]⟩
    · obtain ⟨sj, hsj⟩ := at_some (show j < s.Slots.length by omega)
      have hj0 : (0 : Int) ≤ (j : Int) := by omega
      have hj1 : (j : Int) < s.Slots.length := by omega
      simp only [↓bk_bind, ↓bk_map, ↓bk_ite, ↓bk_some, ↓reduceIte, Nat.reduceEqDiff, Nat.reduceLT, Nat.reduceLeDiff, Nat.reduceAdd, Nat.reduceMul, reduceCtorEq, List.reduceReplicate, go_sem, hK, hA, hB, hi0, hi1, hj0, hj1, bk_eq hsj, bk_eq hr, Int.reduceEq]
      simp [doOp, hK, hA, hB, pcTo, D.pc, zAt_of hsj, encI, List.map_set]
    · obtain ⟨sj, hsj⟩ := at_some (show j < s.Slots.length by omega)
      have hj0 : (0 : Int) ≤ (j : Int) := by omega
      have hj1 : (j : Int) < s.Slots.length := by omega
      simp only [↓bk_bind, ↓bk_map, ↓bk_ite, ↓bk_some, ↓reduceIte, Nat.reduceEqDiff, Nat.reduceLT, Nat.reduceLeDiff, Nat.reduceAdd, Nat.reduceMul, reduceCtorEq, List.reduceReplicate, go_sem, hK, hA, hB, hi0, hi1, hj0, hj1, bk_eq hsj, bk_eq hr, Int.reduceEq]
      simp [doOp, hK, hA, hB, pcTo, D.pc, hz, encI, List.map_set]
    · have k5 : ¬ o.Kind = 5 := by omega
      have k6 : ¬ o.Kind = 6 := by omega
      have k7 : ¬ o.Kind = 7 := by omega
      have k8 : ¬ o.Kind = 8 := by omega
      have k9 : ¬ o.Kind = 9 := by omega
      simp only [↓bk_bind, ↓bk_map, ↓bk_ite, ↓bk_some, ↓reduceIte, Nat.reduceEqDiff, Nat.reduceLT, Nat.reduceLeDiff, Nat.reduceAdd, Nat.reduceMul, reduceCtorEq, List.reduceReplicate, go_sem, k5, k6, k7, k8, k9, hA, hi0, hi1, bk_eq hr]
      simp [doOp, k5, k6, k7, k8, k9, hA, pcTo, D.pc, clamp, encI, List.map_set]
def m_spec_StepState : MC :=
(.seq (pr [.box 4 0 (.s 1), .alloc 6 1 [.pl (.sc (.int .i64 0)), .emp 1, .emp 1, .emp 1]] [0,2,4,6])
(.seq (pr [.load 9 true 4 (.s 4), .call 10 [2, 3, 4] (.f n_spec_l11Copy) [.s 9], .alloc 7 5 [.pl (.sc (.int .i64 0)), .emp 1, .emp 1, .emp 1], .store 4 (.s 7) (.s 10)] [0,2,4,6,7])
(.seq (.seq (pr [.mv 11 (.s 0), .load 12 true 4 (.s 4), .call 13 [] (.f n_spec_l11Can) [.s 11, .s 12], .un 14 .not (.s 13)] [0,2,4,6,7,14])
(.cond (.s 14) (.seq (pr [.load 15 true 4 (.s 7), .store 4 (.s 6) (.s 15)] [6])
.ret) .skip))
(.seq (pr [.mv 16 (.s 0), .fld 17 (.s 4) 0, .load 18 false 1 (.s 17), .idx 19 4 (.s 16) (.s 18), .load 20 true 4 (.s 19), .alloc 8 6 [.pl (.sc (.int .i64 0)), .pl (.sc (.int .i64 0)), .pl (.sc (.int .i64 0)), .pl (.sc (.int .i64 0))], .store 4 (.s 8) (.s 20)] [2,4,6,7,8])
(.seq (pr [.fld 21 (.s 4) 0, .load 22 false 1 (.s 21), .bin 23 false .add (.s 22) (.c (.int .i64 1)), .fld 24 (.s 7) 0, .store 1 (.s 24) (.s 23)] [2,4,6,7,8])
(.seq (.seq (pr [.fld 25 (.s 8) 0, .load 26 false 1 (.s 25)] [2,4,6,7,8,26])
(.block 0 (.seq (pr [.bin 36 false .eql (.s 26) (.c (.int .i64 5)), .mv 35 (.s 36)] [2,4,6,7,8,26,35])
(.cond (.s 35) (.dreg [{ o := .fld 37 (.s 7) 1, hs := [39,40,41,42,43,44,45,46,47,48,49,50,51,52,53,54] }, { o := .load 38 false 1 (.s 37), hs := [39,40,41,42,43,44,45,46,47,48,49,50,51,52,53,54], bf := [0] }, { o := .fld 39 (.s 8) 1, hs := [37,38,41,42,43,44,45,46,47,48,49,50,51,52,53,54] }, { o := .load 40 false 1 (.s 39), hs := [37,38,41,42,43,44,45,46,47,48,49,50,51,52,53,54], bf := [2] }, { o := .fld 41 (.s 4) 1, hs := [37,38,39,40,43,44,47,48,49,50,51,52] }, { o := .load 42 false 1 (.s 41), hs := [37,38,39,40,43,44,47,48,49,50,51,52], bf := [4] }, { o := .fld 43 (.s 8) 2, hs := [37,38,39,40,41,42,47,48,49,50,51,52] }, { o := .load 44 false 1 (.s 43), hs := [37,38,39,40,41,42,47,48,49,50,51,52], bf := [6] }, { o := .idx 45 1 (.s 42) (.s 44), hs := [37,38,39,40,47,48,49,50,51,52], bf := [4,5,6,7] }, { o := .load 46 false 1 (.s 45), hs := [37,38,39,40,47,48,49,50,51,52], bf := [4,5,6,7,8] }, { o := .fld 47 (.s 4) 1, hs := [37,38,39,40,41,42,43,44,45,46,49,50] }, { o := .load 48 false 1 (.s 47), hs := [37,38,39,40,41,42,43,44,45,46,49,50], bf := [10] }, { o := .fld 49 (.s 8) 3, hs := [37,38,39,40,41,42,43,44,45,46,47,48] }, { o := .load 50 false 1 (.s 49), hs := [37,38,39,40,41,42,43,44,45,46,47,48], bf := [12] }, { o := .idx 51 1 (.s 48) (.s 50), hs := [37,38,39,40,41,42,43,44,45,46], bf := [10,11,12,13] }, { o := .load 52 false 1 (.s 51), hs := [37,38,39,40,41,42,43,44,45,46], bf := [10,11,12,13,14] }, { o := .bin 53 false .add (.s 46) (.s 52), hs := [37,38,39,40], bf := [4,5,6,7,8,9,10,11,12,13,14,15] }, { o := .bin 54 false .rem (.s 53) (.c (.int .i64 1000)), hs := [37,38,39,40], bf := [4,5,6,7,8,9,10,11,12,13,14,15,16] }, { o := .idx 55 1 (.s 38) (.s 40), bf := [0,1,2,3,4,5,6,7,8,9,10,11,12,13,14,15,16,17] }, { o := .store 1 (.s 55) (.s 54), ws := [2], bf := [0,1,2,3,4,5,6,7,8,9,10,11,12,13,14,15,16,17,18] }] [6,7]) (.seq (pr [.bin 57 false .eql (.s 26) (.c (.int .i64 6)), .mv 56 (.s 57)] [2,4,6,7,8,26,56])
(.cond (.s 56) (.dreg [{ o := .fld 58 (.s 7) 3, hs := [60,61,62,63,64,65,66,67] }, { o := .load 59 false 1 (.s 58), hs := [60,61,62,63,64,65,66,67], bf := [0] }, { o := .fld 60 (.s 8) 2, hs := [58,59,62,63,64,65,66,67] }, { o := .load 61 false 1 (.s 60), hs := [58,59,62,63,64,65,66,67], bf := [2] }, { o := .fld 62 (.s 4) 1, hs := [58,59,60,61,64,65] }, { o := .load 63 false 1 (.s 62), hs := [58,59,60,61,64,65], bf := [4] }, { o := .fld 64 (.s 8) 1, hs := [58,59,60,61,62,63] }, { o := .load 65 false 1 (.s 64), hs := [58,59,60,61,62,63], bf := [6] }, { o := .idx 66 1 (.s 63) (.s 65), hs := [58,59,60,61], bf := [4,5,6,7] }, { o := .load 67 false 1 (.s 66), hs := [58,59,60,61], bf := [4,5,6,7,8] }, { o := .idx 68 1 (.s 59) (.s 61), bf := [0,1,2,3,4,5,6,7,8,9] }, { o := .store 1 (.s 68) (.s 67), ws := [4], bf := [0,1,2,3,4,5,6,7,8,9,10] }] [6,7]) (.seq (pr [.bin 70 false .eql (.s 26) (.c (.int .i64 7)), .mv 69 (.s 70)] [2,4,6,7,8,26,69])
(.cond (.s 69) (.seq (pr [.fld 71 (.s 4) 1, .load 72 false 1 (.s 71), .fld 73 (.s 8) 1, .load 74 false 1 (.s 73), .idx 75 1 (.s 72) (.s 74), .load 76 false 1 (.s 75), .bin 77 false .rem (.s 76) (.c (.int .i64 2)), .bin 78 false .eql (.s 77) (.c (.int .i64 0))] [4,6,7,8,78])
(.cond (.s 78) (pr [.fld 79 (.s 4) 0, .load 80 false 1 (.s 79), .bin 81 false .add (.s 80) (.c (.int .i64 1)), .fld 82 (.s 8) 2, .load 83 false 1 (.s 82), .bin 84 false .add (.s 81) (.s 83), .fld 85 (.s 7) 0, .store 1 (.s 85) (.s 84)] [6,7]) .skip)) (.seq (pr [.bin 87 false .eql (.s 26) (.c (.int .i64 8)), .mv 86 (.s 87)] [2,4,6,7,8,26,86])
(.cond (.s 86) (.dreg [{ o := .fld 88 (.s 7) 1, hs := [90,91,92,93,94,95,96,97] }, { o := .load 89 false 1 (.s 88), hs := [90,91,92,93,94,95,96,97], bf := [0] }, { o := .fld 90 (.s 8) 1, hs := [88,89,92,93,94,95,96,97] }, { o := .load 91 false 1 (.s 90), hs := [88,89,92,93,94,95,96,97], bf := [2] }, { o := .fld 92 (.s 4) 2, hs := [88,89,90,91,94,95] }, { o := .load 93 false 1 (.s 92), hs := [88,89,90,91,94,95], bf := [4] }, { o := .fld 94 (.s 8) 2, hs := [88,89,90,91,92,93] }, { o := .load 95 false 1 (.s 94), hs := [88,89,90,91,92,93], bf := [6] }, { o := .idx 96 1 (.s 93) (.s 95), hs := [88,89,90,91], bf := [4,5,6,7] }, { o := .load 97 false 1 (.s 96), hs := [88,89,90,91], bf := [4,5,6,7,8] }, { o := .idx 98 1 (.s 89) (.s 91), bf := [0,1,2,3,4,5,6,7,8,9] }, { o := .store 1 (.s 98) (.s 97), ws := [2], bf := [0,1,2,3,4,5,6,7,8,9,10] }] [6,7]) (.seq (pr [.bin 100 false .eql (.s 26) (.c (.int .i64 9)), .mv 99 (.s 100)] [2,4,6,7,8,99])
(.cond (.s 99) (.dreg [{ o := .fld 101 (.s 7) 2, hs := [103,104,105,106,107,108,109,110] }, { o := .load 102 false 1 (.s 101), hs := [103,104,105,106,107,108,109,110], bf := [0] }, { o := .fld 103 (.s 8) 2, hs := [101,102,105,106,107,108,109,110] }, { o := .load 104 false 1 (.s 103), hs := [101,102,105,106,107,108,109,110], bf := [2] }, { o := .fld 105 (.s 4) 1, hs := [101,102,103,104,107,108] }, { o := .load 106 false 1 (.s 105), hs := [101,102,103,104,107,108], bf := [4] }, { o := .fld 107 (.s 8) 1, hs := [101,102,103,104,105,106] }, { o := .load 108 false 1 (.s 107), hs := [101,102,103,104,105,106], bf := [6] }, { o := .idx 109 1 (.s 106) (.s 108), hs := [101,102,103,104], bf := [4,5,6,7] }, { o := .load 110 false 1 (.s 109), hs := [101,102,103,104], bf := [4,5,6,7,8] }, { o := .idx 111 1 (.s 102) (.s 104), bf := [0,1,2,3,4,5,6,7,8,9] }, { o := .store 1 (.s 111) (.s 110), ws := [3], bf := [0,1,2,3,4,5,6,7,8,9,10] }] [6,7]) (.dreg [{ o := .fld 27 (.s 7) 1, hs := [29,30,31,32,33] }, { o := .load 28 false 1 (.s 27), hs := [29,30,31,32,33], bf := [0] }, { o := .fld 29 (.s 8) 1, hs := [27,28,31,32,33] }, { o := .load 30 false 1 (.s 29), hs := [27,28,31,32,33], bf := [2] }, { o := .mv 31 (.s 2), hs := [27,28,29,30] }, { o := .call 32 [] (.f n_spec_Min) [.c (.int .i64 999), .s 31], hs := [27,28,29,30], bf := [4] }, { o := .call 33 [] (.f n_spec_Max) [.c (.int .i64 0), .s 32], hs := [27,28,29,30], bf := [4,5] }, { o := .idx 34 1 (.s 28) (.s 30), bf := [0,1,2,3,4,5,6] }, { o := .store 1 (.s 34) (.s 33), ws := [2], bf := [0,1,2,3,4,5,6,7] }] [6,7])))))))))))))
(.seq (pr [.load 112 true 4 (.s 7), .store 4 (.s 6) (.s 112)] [6])
.ret)))))))
set_option maxHeartbeats 1000000 in
theorem c_spec_StepState (l : List GOp) (s : GState) (v : Int) (hs : s.size ≤ 1073741824) : Ctr Tryz.prog n_spec_StepState [aL 4 (l.map GOp.enc), aS s.enc, aI v] [rS (stepTo l s v).enc] := by
  refine ctr_at (M := m_spec_StepState) (m := 7) (n := 113) (res := [(.cell 6 true 4, [false, true, true, true])]) hmix Tryz.func231 rfl (by kernel_rfl) rfl (by kernel_rfl) (by kernel_rfl) (Nat.le_of_ble_eq_true rfl) ?_; unfold m_spec_StepState
  intro hb
  clear hb
  simp only [↓bk_bind, ↓bk_map, ↓bk_ite, ↓bk_some, ↓reduceIte, Nat.reduceEqDiff, Nat.reduceLT, Nat.reduceLeDiff, Nat.reduceAdd, Nat.reduceMul, reduceCtorEq, List.reduceReplicate, go_sem]
  apply callK_of (c_spec_l11Copy s hs)
  simp only [↓bk_bind, ↓bk_map, ↓bk_ite, ↓bk_some, ↓reduceIte, Nat.reduceEqDiff, Nat.reduceLT, Nat.reduceLeDiff, Nat.reduceAdd, Nat.reduceMul, reduceCtorEq, List.reduceReplicate, go_sem]
  intros
  apply callK_of (c_spec_l11Can l s)
  simp only [↓bk_bind, ↓bk_map, ↓bk_ite, ↓bk_some, ↓reduceIte, Nat.reduceEqDiff, Nat.reduceLT, Nat.reduceLeDiff, Nat.reduceAdd, Nat.reduceMul, reduceCtorEq, List.reduceReplicate, go_sem]
  refine And.intro ?_ ?_ <;> intro h
  · rw [step_no h]
    try exact ⟨rfl, rfl, rfl, rfl⟩
  · obtain ⟨k, o, D⟩ := canDo_out h
    rw [step_yes h D]
    obtain ⟨i, hi, hA, hk⟩ := opOk_cases D.ok
    have hrl := D.regs
    have hsl := D.slots
    have hnl := D.nodes
    obtain ⟨r, hr⟩ := at_some (show i < s.Regs.length by omega)
    have hp0 : (0 : Int) ≤ (k : Int) := by omega
    have hp1 : (k : Int) < l.length := by have := D.lt; omega
    have hi0 : (0 : Int) ≤ (i : Int) := by omega
    have hi1 : (i : Int) < s.Regs.length := by omega
    have hz : zAt s.Regs (i : Int) = r := zAt_of hr
    simp only [↓bk_bind, ↓bk_map, ↓bk_ite, ↓bk_some, ↓reduceIte, Nat.reduceEqDiff, Nat.reduceLT, Nat.reduceLeDiff, Nat.reduceAdd, Nat.reduceMul, reduceCtorEq, List.reduceReplicate, go_sem, D.pc, bk_eq D.op, hp0, hp1]
    rcases hk with ⟨hK, j, m, hj, hm, hB, hC⟩ | ⟨hK, j, hj, hB⟩ | ⟨hK, hB⟩ | ⟨hK, j, hj, hB⟩ | ⟨hK, j, hj, hB⟩ | hK
    · obtain ⟨rj, hrj⟩ := at_some (show j < s.Regs.length by omega)
      obtain ⟨rm, hrm⟩ := at_some (show m < s.Regs.length by omega)
      have hj0 : (0 : Int) ≤ (j : Int) := by omega
      have hj1 : (j : Int) < s.Regs.length := by omega
      have hm0 : (0 : Int) ≤ (m : Int) := by omega
      have hm1 : (m : Int) < s.Regs.length := by omega
      simp only [↓bk_bind, ↓bk_map, ↓bk_ite, ↓bk_some, ↓reduceIte, Nat.reduceEqDiff, Nat.reduceLT, Nat.reduceLeDiff, Nat.reduceAdd, Nat.reduceMul, reduceCtorEq, List.reduceReplicate, go_sem, hK, hA, hB, hC, hi0, hi1, hj0, hj1, hm0, hm1, bk_eq hrj, bk_eq hrm, bk_eq hr, Int.reduceEq, c1000]
      simp [doOp, hK, hA, hB, hC, pcTo, D.pc, zAt_of hrj, zAt_of hrm, encI, List.map_set]
    · obtain ⟨nj, hnj⟩ := at_some (show j < s.Nodes.length by omega)
      have hj0 : (0 : Int) ≤ (j : Int) := by omega
      have hj1 : (j : Int) < s.Nodes.length := by omega
      simp only [↓bk_bind, ↓bk_map, ↓bk_ite, ↓bk_some, ↓reduceIte, Nat.reduceEqDiff, Nat.reduceLT, Nat.reduceLeDiff, Nat.reduceAdd, Nat.reduceMul, reduceCtorEq, List.reduceReplicate, go_sem, hK, hA, hB, hi0, hi1, hj0, hj1, bk_eq hnj, bk_eq hr, Int.reduceEq]
      simp [doOp, hK, hA, hB, pcTo, D.pc, hz, encI, List.map_set]
    · simp only [↓bk_bind, ↓bk_map, ↓bk_ite, ↓bk_some, ↓reduceIte, Nat.reduceEqDiff, Nat.reduceLT, Nat.reduceLeDiff, Nat.reduceAdd, Nat.reduceMul, reduceCtorEq, List.reduceReplicate, go_sem, hK, hA, hi0, hi1, bk_eq hr, Int.reduceEq, c2]
      exact ⟨fun h7 => by simp [doOp, hK, hA, pcTo, D.pc, hz, h7], fun h7 => by simp [doOp, hK, hA, pcTo, D.pc, hz, h7]⟩
    · obtain ⟨sj, hsj⟩ := at_some (show j < s.Slots.length by omega)
      have hj0 : (0 : Int) ≤ (j : Int) := by omega
      have hj1 : (j : Int) < s.Slots.length := by omega
      simp only [↓bk_bind, ↓bk_map, ↓bk_ite, ↓bk_some, ↓reduceIte, Nat.reduceEqDiff, Nat.reduceLT, Nat.reduceLeDiff, Nat.reduceAdd, Nat.reduceMul, reduceCtorEq, List.reduceReplicate, go_sem, hK, hA, hB, hi0, hi1, hj0, hj1, bk_eq hsj, bk_eq hr, Int.reduceEq]
      simp [doOp, hK, hA, hB, pcTo, D.pc, zAt_of hsj, encI, List.map_set]
    · obtain ⟨sj, hsj⟩ := at_some (show j < s.Slots.length by omega)
      have hj0 : (0 : Int) ≤ (j : Int) := by omega
      have hj1 : (j : Int) < s.Slots.length := by omega
      simp only [↓bk_bind, ↓bk_map, ↓bk_ite, ↓bk_some, ↓reduceIte, Nat.reduceEqDiff, Nat.reduceLT, Nat.reduceLeDiff, Nat.reduceAdd, Nat.reduceMul, reduceCtorEq, List.reduceReplicate, go_sem, hK, hA, hB, hi0, hi1, hj0, hj1, bk_eq hsj, bk_eq hr, Int.reduceEq]
      simp [doOp, hK, hA, hB, pcTo, D.pc, hz, encI, List.map_set]
    · have k5 : ¬ o.Kind = 5 := by omega
      have k6 : ¬ o.Kind = 6 := by omega
      have k7 : ¬ o.Kind = 7 := by omega
      have k8 : ¬ o.Kind = 8 := by omega
      have k9 : ¬ o.Kind = 9 := by omega
      simp only [↓bk_bind, ↓bk_map, ↓bk_ite, ↓bk_some, ↓reduceIte, Nat.reduceEqDiff, Nat.reduceLT, Nat.reduceLeDiff, Nat.reduceAdd, Nat.reduceMul, reduceCtorEq, List.reduceReplicate, go_sem, k5, k6, k7, k8, k9, hA, hi0, hi1, bk_eq hr]
      apply callK_of (c_spec_Min 999 v)
      simp only [↓bk_bind, ↓bk_map, ↓bk_ite, ↓bk_some, ↓reduceIte, Nat.reduceEqDiff, Nat.reduceLT, Nat.reduceLeDiff, Nat.reduceAdd, Nat.reduceMul, reduceCtorEq, List.reduceReplicate, go_sem]
      try intros
      apply callK_of (c_spec_Max 0 _)
      simp only [↓bk_bind, ↓bk_map, ↓bk_ite, ↓bk_some, ↓reduceIte, Nat.reduceEqDiff, Nat.reduceLT, Nat.reduceLeDiff, Nat.reduceAdd, Nat.reduceMul, reduceCtorEq, List.reduceReplicate, go_sem, k5, k6, k7, k8, k9, hA, hi0, hi1, bk_eq hr]
      try intros
      rw [clamp_eq]
      simp [doOp, k5, k6, k7, k8, k9, hA, pcTo, D.pc, encI, List.map_set]
end Go.Proofs.YtbnbgekjjbpljaaGreatR
namespace Go.Proofs.YtbnbgekjjbpljaaGreatR
open Go Go.RowKit Go.Proofs
set_option linter.unusedSimpArgs false
set_option linter.unusedVariables false
theorem allIn_set {l : List Int} {a b : Int} {i : Nat} {x : Int} (h : allIn l a b = true) (hx : a ≤ x ∧ x ≤ b) : allIn (l.set i x) a b = true := by
  refine List.all_eq_true.2 fun y hy => ?_
  rcases List.mem_or_eq_of_mem_set hy with hy | rfl
  · exact List.all_eq_true.1 h y hy
  · simpa using hx
theorem clamp_in (v : Int) : 0 ≤ clamp v ∧ clamp v ≤ 999 := by
  unfold clamp; repeat' split
  all_goals omega
theorem stOk_of {s : GState} (h0 : 0 ≤ s.Pc ∧ s.Pc ≤ 19) (h1 : s.Regs.length = 4) (h2 : s.Slots.length = 3) (h3 : s.Nodes.length = 4) (h4 : allIn s.Regs 0 999 = true) (h5 : allIn s.Slots 0 999 = true) (h6 : allIn s.Nodes 0 999 = true) : stOk s = true := by
  unfold stOk; simp [h0, h1, h2, h3, h4, h5, h6]
theorem stOk_out {s : GState} (h : stOk s = true) : (0 ≤ s.Pc ∧ s.Pc ≤ 19) ∧ s.Regs.length = 4 ∧ s.Slots.length = 3 ∧ s.Nodes.length = 4 ∧ allIn s.Regs 0 999 = true ∧ allIn s.Slots 0 999 = true ∧ allIn s.Nodes 0 999 = true := by
  simp only [stOk, Bool.and_eq_true, decide_eq_true_eq] at h
  exact ⟨h.1, h.2.1.1, h.2.1.2.1, h.2.1.2.2, h.2.2.1, h.2.2.2.1, h.2.2.2.2⟩
theorem doOp_ok {l : List GOp} {s : GState} {k : Nat} {o : GOp} {v : Int} (hs : stOk s = true) (D : Doing l s k o) : stOk (doOp o s v) = true ∧ s.Pc < (doOp o s v).Pc := by
  obtain ⟨h0, h1, h2, h3, h4, h5, h6⟩ := stOk_out hs
  obtain ⟨i, hi, hA, hk⟩ := opOk_cases D.ok
  have hpc := D.pc
  have hlt := D.lt
  have hfw := D.few
  have hp : pcTo s.Pc = s.Pc + 1 := wI (by omega) (by omega)
  obtain ⟨r, hr⟩ := at_some (show i < s.Regs.length by omega)
  have hz : zAt s.Regs o.A = r := by rw [hA]; exact zAt_of hr
  have hri := D.rin i r hr
  rcases hk with ⟨hK, j, m, hj, hm, hB, hC⟩ | ⟨hK, j, hj, hB⟩ | ⟨hK, hB⟩ | ⟨hK, j, hj, hB⟩ | ⟨hK, j, hj, hB⟩ | hK
  · obtain ⟨rj, hrj⟩ := at_some (show j < s.Regs.length by omega)
    obtain ⟨rm, hrm⟩ := at_some (show m < s.Regs.length by omega)
    have e1 : zAt s.Regs o.B = rj := by rw [hB]; exact zAt_of hrj
    have e2 : zAt s.Regs o.C = rm := by rw [hC]; exact zAt_of hrm
    have b1 := D.rin j rj hrj
    have b2 := D.rin m rm hrm
    have e3 : IntKind.i64.wrap (rj + rm) = rj + rm := wI (by omega) (by omega)
    simp only [doOp, hK, if_true, hp, e1, e2, e3]
    refine ⟨stOk_of (by simp only; omega) (by simp [h1]) h2 h3 (allIn_set h4 ?_) h5 h6, by omega⟩
    rw [Int.tmod_eq_emod_of_nonneg (by omega)]
    omega
  · simp only [doOp, hK, Int.reduceEq, if_false, if_true, hp, hz]
    exact ⟨stOk_of (by simp only; omega) h1 h2 (by simp [h3]) h4 h5 (allIn_set h6 hri), by omega⟩
  · have e4 : IntKind.i64.wrap (s.Pc + 1 + o.B) = s.Pc + 1 + o.B := wI (by omega) (by omega)
    simp only [doOp, hK, Int.reduceEq, if_false, if_true, hp, hz, e4]
    refine ⟨stOk_of (by simp only; split <;> omega) h1 h2 h3 h4 h5 h6, by split <;> omega⟩
  · obtain ⟨sj, hsj⟩ := at_some (show j < s.Slots.length by omega)
    have e1 : zAt s.Slots o.B = sj := by rw [hB]; exact zAt_of hsj
    simp only [doOp, hK, Int.reduceEq, if_false, if_true, hp, e1]
    exact ⟨stOk_of (by simp only; omega) (by simp [h1]) h2 h3 (allIn_set h4 (D.sin j sj hsj)) h5 h6, by omega⟩
  · simp only [doOp, hK, Int.reduceEq, if_false, if_true, hp, hz]
    exact ⟨stOk_of (by simp only; omega) h1 (by simp [h2]) h3 h4 (allIn_set h5 hri) h6, by omega⟩
  · have k5 : ¬ o.Kind = 5 := by omega
    have k6 : ¬ o.Kind = 6 := by omega
    have k7 : ¬ o.Kind = 7 := by omega
    have k8 : ¬ o.Kind = 8 := by omega
    have k9 : ¬ o.Kind = 9 := by omega
    simp only [doOp, k5, k6, k7, k8, k9, if_false, hp]
    exact ⟨stOk_of (by simp only; omega) (by simp [h1]) h2 h3 (allIn_set h4 (clamp_in v)) h5 h6, by omega⟩
theorem stepTo_ok {l : List GOp} {s : GState} {v : Int} (hs : stOk s = true) : stOk (stepTo l s v) = true := by
  cases h : canDo l s
  · rw [step_no h]; exact hs
  · obtain ⟨k, o, D⟩ := canDo_out h
    rw [step_yes h D]; exact (doOp_ok hs D).1
theorem stepTo_lt {l : List GOp} {s : GState} {v : Int} (hl : scriptOk l = true) (hs : stOk s = true) (hp : s.Pc < l.length) : s.Pc < (stepTo l s v).Pc := by
  have h : canDo l s = true := by unfold canDo; rw [hl, hs, decide_eq_true hp]; rfl
  obtain ⟨k, o, D⟩ := canDo_out h
  rw [step_yes h D]; exact (doOp_ok hs D).2
theorem stOk_size {s : GState} (h : stOk s = true) : s.size = 11 := by
  obtain ⟨h0, h1, h2, h3, -⟩ := stOk_out h
  simp only [GState.size]; omega
def playF (l : List GOp) (es : List GEntry) : Nat → Nat → GState → List GState → GPlayed × List GState
  | 0, n, s, tr => (⟨0, 0, s⟩, tr)
  | f + 1, n, s, tr =>
    if s.Pc ≥ l.length then (if n < es.length then ⟨1, n, s⟩ else ⟨0, 0, s⟩, tr)
    else if (wantOf l s).Kind = 0 then playF l es f n (stepTo l s 0) (tr ++ [stepTo l s 0])
    else match es[n]? with
      | none => (⟨2, n, s⟩, tr)
      | some e => if e.Kind = (wantOf l s).Kind ∧ e.Address = (wantOf l s).Address then playF l es f (n + 1) (stepTo l s e.Value) (tr ++ [stepTo l s e.Value]) else (⟨1, n, s⟩, tr)
def play (l : List GOp) (es : List GEntry) : GPlayed × List GState := if scriptOk l = true ∧ entsOk es = true then playF l es 20 0 st0 [st0] else (⟨2, 0, st0⟩, [st0])
theorem playF_ok {l : List GOp} {es : List GEntry} : ∀ {f n : Nat} {s : GState} {tr : List GState}, stOk s = true → stOk (playF l es f n s tr).1.State = true
  | 0, n, s, tr, h => h
  | f + 1, n, s, tr, h => by
    rw [playF]
    split
    · split <;> exact h
    · split
      · exact playF_ok (stepTo_ok h)
      · split
        · exact h
        · split
          · exact playF_ok (stepTo_ok h)
          · exact h
theorem st0_ok : stOk st0 = true := by decide
theorem play_ok (l : List GOp) (es : List GEntry) : stOk (play l es).1.State = true := by
  unfold play
  split
  · exact playF_ok st0_ok
  · exact st0_ok
theorem wantOf_kind (l : List GOp) (s : GState) : 0 ≤ (wantOf l s).Kind := by
  unfold wantOf
  split
  · rename_i h
    have := h.2
    simp only [asks, decide_eq_true_eq] at this
    simp only
    omega
  · simp
/-- A result that is nobody's own. -/
def rP (p : GPlayed) : RV := ⟨true, [(false, tI p.Code), (false, tI p.At), (false, tI p.State.Pc), (false, .sl 1 (p.State.Regs.map encI)), (false, .sl 1 (p.State.Slots.map encI)), (false, .sl 1 (p.State.Nodes.map encI))]⟩
def rT (tr : List GState) : RV := ⟨false, [(false, .sl 4 (tr.map GState.enc))]⟩
attribute [go_sem] rP rT
def m_impl_IsDone : MC :=
(.seq (pr [.box 3 0 (.s 1), .mv 4 (.c (.bool false))] [0,3])
(.seq (pr [.fld 5 (.s 3) 0, .load 6 false 1 (.s 5), .mv 7 (.s 0), .len 8 false (.s 7), .bin 9 false .geq (.s 6) (.s 8), .mv 4 (.s 9)] [4])
.ret))
theorem c_impl_IsDone (l : List GOp) (s : GState) : Ctr Tryz.prog n_impl_IsDone [aL 4 (l.map GOp.enc), aS s.enc] [rB (decide (s.Pc ≥ l.length))] := by
  refine ctr_at (M := m_impl_IsDone) (m := 1) (n := 10) (res := [(.tmp 4, [false])]) hmix Tryz.func233 rfl (by kernel_rfl) rfl (by kernel_rfl) (by kernel_rfl) (Nat.le_of_ble_eq_true rfl) ?_; unfold m_impl_IsDone
  intro hb
  clear hb
  simp only [↓bk_bind, ↓bk_map, ↓bk_ite, ↓bk_some, ↓reduceIte, Nat.reduceEqDiff, Nat.reduceLT, Nat.reduceLeDiff, Nat.reduceAdd, Nat.reduceMul, reduceCtorEq, List.reduceReplicate, go_sem]
def m_spec_IsDone : MC :=
(.seq (pr [.box 3 0 (.s 1), .mv 4 (.c (.bool false))] [0,3])
(.seq (pr [.fld 5 (.s 3) 0, .load 6 false 1 (.s 5), .mv 7 (.s 0), .len 8 false (.s 7), .bin 9 false .geq (.s 6) (.s 8), .mv 4 (.s 9)] [4])
.ret))
theorem c_spec_IsDone (l : List GOp) (s : GState) : Ctr Tryz.prog n_spec_IsDone [aL 4 (l.map GOp.enc), aS s.enc] [rB (decide (s.Pc ≥ l.length))] := by
  refine ctr_at (M := m_spec_IsDone) (m := 1) (n := 10) (res := [(.tmp 4, [false])]) hmix Tryz.func229 rfl (by kernel_rfl) rfl (by kernel_rfl) (by kernel_rfl) (Nat.le_of_ble_eq_true rfl) ?_; unfold m_spec_IsDone
  intro hb
  clear hb
  simp only [↓bk_bind, ↓bk_map, ↓bk_ite, ↓bk_some, ↓reduceIte, Nat.reduceEqDiff, Nat.reduceLT, Nat.reduceLeDiff, Nat.reduceAdd, Nat.reduceMul, reduceCtorEq, List.reduceReplicate, go_sem]
def m_impl_played : MC :=
(.seq (pr [.alloc 4 0 [.pl (.sc (.int .i64 0)), .pl (.sc (.int .i64 0)), .pl (.sc (.int .i64 0)), .emp 1, .emp 1, .emp 1], .nilo 5 1 4] [0,1,4])
(.seq (pr [.call 11 [2, 3, 4] (.f n_impl_StartState) [], .alloc 6 5 [.pl (.sc (.int .i64 0)), .emp 1, .emp 1, .emp 1], .store 4 (.s 6) (.s 11)] [0,1,4,6])
(.seq (pr [.load 12 true 4 (.s 6), .lit 13 1 4 80 [.s 12], .mv 7 (.s 13)] [0,1,4,6,7])
(.seq (.seq (.reg [{ o := .mv 14 (.s 0) }, { o := .call 15 [] (.f n_impl_IsScript) [.s 14] }, { o := .un 16 .not (.s 15) }, { o := .mv 17 (.s 16) }, { o := .mv 18 (.s 1), g := some (17, false) }, { o := .call 19 [] (.f n_impl_AreEntries) [.s 18], g := some (17, false) }, { o := .un 20 .not (.s 19), g := some (17, false) }, { o := .pick 21 (.s 17) (.c (.bool true)) (.s 20) }] [0,1,4,6,7,21])
(.cond (.s 21) (.seq (pr [.load 22 true 4 (.s 6), .build 23 [.pl (.sc (.int .i64 0)), .pl (.sc (.int .i64 0)), .pl (.sc (.int .i64 0)), .emp 1, .emp 1, .emp 1] [(0, 1, .c (.int .i64 2)), (1, 1, .c (.int .i64 0)), (2, 4, .s 22)], .mv 24 (.s 7), .store 6 (.s 4) (.s 23), .mv 5 (.s 24)] [4,5])
.ret) .skip))
(.seq (pr [.mv 8 (.c (.int .i64 0))] [0,1,4,6,7,8])
(.seq (.block 0 (.loop ([0,1,4,6,7,8], [6,7]) (.seq (.seq (pr [.mv 25 (.s 0), .load 26 true 4 (.s 6), .call 27 [] (.f n_impl_IsDone) [.s 25, .s 26], .un 28 .not (.s 27)] [0,1,4,6,7,8,28])
(.cond (.s 28) .skip (.exit 0)))
(.block 1 (.seq (pr [.mv 9 (.c (.int .i64 0))] [0,1,4,6,7,8,9])
(.seq (.seq (pr [.mv 29 (.s 0), .load 30 true 4 (.s 6), .call 31 [] (.f n_impl_WantOf) [.s 29, .s 30], .alloc 10 6 [.pl (.sc (.int .i64 0)), .pl (.sc (.int .i64 0)), .pl (.sc (.int .i64 0)), .pl (.sc (.int .i64 0))], .store 4 (.s 10) (.s 31)] [0,1,4,6,7,8,9,10])
(.seq (pr [.fld 32 (.s 10) 0, .load 33 false 1 (.s 32), .bin 34 false .neq (.s 33) (.c (.int .i64 0))] [0,1,4,6,7,8,9,10,34])
(.cond (.s 34) (.seq (.seq (pr [.mv 35 (.s 8), .mv 36 (.s 1), .len 37 false (.s 36), .bin 38 false .eql (.s 35) (.s 37)] [0,1,4,6,7,8,10,38])
(.cond (.s 38) (.seq (pr [.mv 39 (.s 8), .load 40 true 4 (.s 6), .build 41 [.pl (.sc (.int .i64 0)), .pl (.sc (.int .i64 0)), .pl (.sc (.int .i64 0)), .emp 1, .emp 1, .emp 1] [(0, 1, .c (.int .i64 2)), (1, 1, .s 39), (2, 4, .s 40)], .mv 42 (.s 7), .store 6 (.s 4) (.s 41), .mv 5 (.s 42)] [4,5])
.ret) .skip))
(.seq (.seq (.dreg [{ o := .mv 43 (.s 1), hs := [44,48,49] }, { o := .mv 44 (.s 8), hs := [43,48,49] }, { o := .idx 45 5 (.s 43) (.s 44), hs := [48,49], bf := [0,1] }, { o := .fld 46 (.s 45) 0, hs := [48,49], bf := [0,1,2] }, { o := .load 47 false 1 (.s 46), hs := [48,49], bf := [0,1,2,3] }, { o := .fld 48 (.s 10) 0, hs := [43,44,45,46,47] }, { o := .load 49 false 1 (.s 48), hs := [43,44,45,46,47], bf := [5] }, { o := .bin 50 false .neq (.s 47) (.s 49), bf := [0,1,2,3,4,5,6] }, { o := .mv 51 (.s 50), bf := [0,1,2,3,4,5,6,7] }, { o := .mv 52 (.s 1), g := some (51, false), hs := [53,57,58], bf := [0,1,2,3,4,5,6,7,8] }, { o := .mv 53 (.s 8), g := some (51, false), hs := [52,57,58], bf := [0,1,2,3,4,5,6,7,8] }, { o := .idx 54 5 (.s 52) (.s 53), g := some (51, false), hs := [57,58], bf := [0,1,2,3,4,5,6,7,8,9,10] }, { o := .fld 55 (.s 54) 1, g := some (51, false), hs := [57,58], bf := [0,1,2,3,4,5,6,7,8,9,10,11] }, { o := .load 56 true 3 (.s 55), g := some (51, false), hs := [57,58], bf := [0,1,2,3,4,5,6,7,8,9,10,11,12] }, { o := .fld 57 (.s 10) 1, g := some (51, false), hs := [52,53,54,55,56], bf := [0,1,2,3,4,5,6,7,8] }, { o := .load 58 true 3 (.s 57), g := some (51, false), hs := [52,53,54,55,56], bf := [0,1,2,3,4,5,6,7,8,14] }, { o := .eqA 59 true [.i .i64, .i .i64, .i .i64] (.s 56) (.s 58), g := some (51, false), bf := [0,1,2,3,4,5,6,7,8,9,10,11,12,13,14,15] }, { o := .pick 60 (.s 51) (.c (.bool true)) (.s 59), bf := [0,1,2,3,4,5,6,7,8,9,10,11,12,13,14,15,16] }] [0,1,4,6,7,8,60])
(.cond (.s 60) (.seq (pr [.mv 61 (.s 8), .load 62 true 4 (.s 6), .build 63 [.pl (.sc (.int .i64 0)), .pl (.sc (.int .i64 0)), .pl (.sc (.int .i64 0)), .emp 1, .emp 1, .emp 1] [(0, 1, .c (.int .i64 1)), (1, 1, .s 61), (2, 4, .s 62)], .mv 64 (.s 7), .store 6 (.s 4) (.s 63), .mv 5 (.s 64)] [4,5])
.ret) .skip))
(.seq (pr [.mv 65 (.s 1), .mv 66 (.s 8), .idx 67 5 (.s 65) (.s 66), .fld 68 (.s 67) 4, .load 69 false 1 (.s 68), .mv 9 (.s 69)] [0,1,4,6,7,8,9])
(pr [.mv 70 (.s 8), .bin 71 false .add (.s 70) (.c (.int .i64 1)), .mv 8 (.s 71)] [0,1,4,6,7,8,9])))) .skip)))
(.seq (pr [.mv 72 (.s 0), .load 73 true 4 (.s 6), .mv 74 (.s 9), .call 75 [2, 3, 4] (.f n_impl_StepState) [.s 72, .s 73, .s 74], .store 4 (.s 6) (.s 75)] [0,1,4,6,7,8])
(pr [.mv 76 (.s 7), .load 77 true 4 (.s 6), .lit 78 7 4 80 [.s 77], .app 79 1 4 80 (.s 76) (.s 78), .mv 7 (.s 79)] [0,1,4,6,7,8]))))))))
(.seq (.seq (pr [.mv 80 (.s 8), .mv 81 (.s 1), .len 82 false (.s 81), .bin 83 false .lss (.s 80) (.s 82)] [4,6,7,8,83])
(.cond (.s 83) (.seq (pr [.mv 84 (.s 8), .load 85 true 4 (.s 6), .build 86 [.pl (.sc (.int .i64 0)), .pl (.sc (.int .i64 0)), .pl (.sc (.int .i64 0)), .emp 1, .emp 1, .emp 1] [(0, 1, .c (.int .i64 1)), (1, 1, .s 84), (2, 4, .s 85)], .mv 87 (.s 7), .store 6 (.s 4) (.s 86), .mv 5 (.s 87)] [4,5])
.ret) .skip))
(.seq (pr [.load 88 true 4 (.s 6), .build 89 [.pl (.sc (.int .i64 0)), .pl (.sc (.int .i64 0)), .pl (.sc (.int .i64 0)), .emp 1, .emp 1, .emp 1] [(0, 1, .c (.int .i64 0)), (1, 1, .c (.int .i64 0)), (2, 4, .s 88)], .mv 90 (.s 7), .store 6 (.s 4) (.s 89), .mv 5 (.s 90)] [4,5])
.ret))))))))
set_option maxHeartbeats 2000000 in
theorem c_impl_played (l : List GOp) (es : List GEntry) : Ctr Tryz.prog n_impl_played [aL 4 (l.map GOp.enc), aL 5 (es.map GEntry.enc)] [rP (play l es).1, rT (play l es).2] := by
  refine ctr_at (M := m_impl_played) (m := 8) (n := 91) (res := [(.cell 4 true 6, [false, false, false, false, false, false]), (.tmp 5, [false])]) hmix Tryz.func202 rfl (by kernel_rfl) rfl (by kernel_rfl) (by kernel_rfl) (Nat.le_of_ble_eq_true rfl) ?_; unfold m_impl_played
  intro hb
  simp only [bdA, bdL, bdT, bdR, bdR_map, wfB_i64, wfB_bool, wfB_str, roomB, and_true, true_and, List.length_map] at hb
  have hel : es.length ≤ 140737488355328 := hb.2.1
  clear hb
  simp only [↓bk_bind, ↓bk_map, ↓bk_ite, ↓bk_some, ↓reduceIte, Nat.reduceEqDiff, Nat.reduceLT, Nat.reduceLeDiff, Nat.reduceAdd, Nat.reduceMul, reduceCtorEq, List.reduceReplicate, go_sem]
  apply callK_of c_impl_StartState
  simp only [↓bk_bind, ↓bk_map, ↓bk_ite, ↓bk_some, ↓reduceIte, Nat.reduceEqDiff, Nat.reduceLT, Nat.reduceLeDiff, Nat.reduceAdd, Nat.reduceMul, reduceCtorEq, List.reduceReplicate, go_sem]
  intros
  refine ⟨by decide, ?_⟩
  apply callK_of (c_impl_IsScript l)
  simp only [↓bk_bind, ↓bk_map, ↓bk_ite, ↓bk_some, ↓reduceIte, Nat.reduceEqDiff, Nat.reduceLT, Nat.reduceLeDiff, Nat.reduceAdd, Nat.reduceMul, reduceCtorEq, List.reduceReplicate, go_sem]
  repeat' first
    | (refine And.intro ?_ ?_ <;> intro h)
    | (apply callK_of (c_impl_AreEntries es); simp only [↓bk_bind, ↓bk_map, ↓bk_ite, ↓bk_some, ↓reduceIte, Nat.reduceEqDiff, Nat.reduceLT, Nat.reduceLeDiff, Nat.reduceAdd, Nat.reduceMul, reduceCtorEq, List.reduceReplicate, go_sem])
  · have hP : play l es = (⟨2, 0, st0⟩, [st0]) := by rw [play, if_neg (by simp_all)]
    rw [hP]
    exact ⟨⟨rfl, rfl, rfl, rfl, rfl, rfl⟩, rfl⟩
  · have hP : play l es = (⟨2, 0, st0⟩, [st0]) := by rw [play, if_neg (by simp_all)]
    rw [hP]
    exact ⟨⟨rfl, rfl, rfl, rfl, rfl, rfl⟩, rfl⟩
  · have hl : scriptOk l = true := by assumption
    have hfew : l.length ≤ 16 := by
      simp only [scriptOk, fewAll, Bool.and_eq_true, decide_eq_true_eq] at hl
      exact hl.1
    have hP : play l es = playF l es 20 0 st0 [st0] := by rw [play, if_pos (by simp_all)]
    refine loopK_up (ι := Nat × GState × List GState) (fun t => [(7, .val false [.ref 1 0 4 0 t.2.2.length]), (8, vI (t.1 : Nat))]) (fun t => [(1, ⟨0, .row true 4 (t.2.2.map GState.enc)⟩), (2, ⟨0, .lent 1 (t.2.1.Regs.map encI)⟩), (3, ⟨0, .lent 1 (t.2.1.Slots.map encI)⟩), (4, ⟨0, .lent 1 (t.2.1.Nodes.map encI)⟩), (5, ⟨0, .box [.pl (tI t.2.1.Pc), .ref 2 0 1 0 t.2.1.Regs.length, .ref 3 0 1 0 t.2.1.Slots.length, .ref 4 0 1 0 t.2.1.Nodes.length]⟩)])
      (fun t => stOk t.2.1 = true ∧ t.1 ≤ es.length ∧ ∃ f, l.length - t.2.1.Pc.toNat < f ∧ t.2.2.length + (l.length - t.2.1.Pc.toNat) ≤ 18 ∧ playF l es f t.1 t.2.1 t.2.2 = play l es) (fun t => l.length - t.2.1.Pc.toNat) (0, st0, [st0]) ?_
    simp only [↓bk_bind, ↓bk_map, ↓bk_ite, ↓bk_some, ↓reduceIte, Nat.reduceEqDiff, Nat.reduceLT, Nat.reduceLeDiff, Nat.reduceAdd, Nat.reduceMul, reduceCtorEq, List.reduceReplicate, go_sem]
    refine ⟨?_, ⟨st0_ok, Nat.zero_le _, 20, by simp only [st0]; omega, by simp only [st0, List.length_cons, List.length_nil]; omega, hP.symm⟩, ?_⟩
    · simp only [↓bk_bind, ↓bk_map, ↓bk_ite, ↓bk_some, ↓reduceIte, Nat.reduceEqDiff, Nat.reduceLT, Nat.reduceLeDiff, Nat.reduceAdd, Nat.reduceMul, reduceCtorEq, List.reduceReplicate, go_sem]
      try exact ⟨rfl, rfl⟩
      try trivial
    · rintro ⟨n, s, tr⟩ ⟨hs, hn, f, hf, htr, hp⟩
      simp only at hs hn hf htr hp
      obtain ⟨f, rfl⟩ : ∃ f', f = f' + 1 := ⟨f - 1, by omega⟩
      rw [playF] at hp
      have hsz := stOk_size hs
      have h0 := (stOk_out hs).1.1
      simp only [↓bk_bind, ↓bk_map, ↓bk_ite, ↓bk_some, ↓reduceIte, Nat.reduceEqDiff, Nat.reduceLT, Nat.reduceLeDiff, Nat.reduceAdd, Nat.reduceMul, reduceCtorEq, List.reduceReplicate, go_sem]
      apply callK_of (c_impl_IsDone l s)
      by_cases hd : s.Pc ≥ l.length
      · rw [if_pos hd] at hp
        simp only [↓bk_bind, ↓bk_map, ↓bk_ite, ↓bk_some, ↓reduceIte, Nat.reduceEqDiff, Nat.reduceLT, Nat.reduceLeDiff, Nat.reduceAdd, Nat.reduceMul, reduceCtorEq, List.reduceReplicate, go_sem, hd]
        refine ⟨fun hlt => ?_, fun hge => ?_⟩
        · rw [if_pos (by omega)] at hp
          rw [← hp]
          exact ⟨⟨rfl, rfl, rfl, rfl, rfl, rfl⟩, rfl⟩
        · rw [if_neg (by omega)] at hp
          rw [← hp]
          exact ⟨⟨rfl, rfl, rfl, rfl, rfl, rfl⟩, rfl⟩
      · rw [if_neg hd] at hp
        simp only [↓bk_bind, ↓bk_map, ↓bk_ite, ↓bk_some, ↓reduceIte, Nat.reduceEqDiff, Nat.reduceLT, Nat.reduceLeDiff, Nat.reduceAdd, Nat.reduceMul, reduceCtorEq, List.reduceReplicate, go_sem, hd]
        apply callK_of (c_impl_WantOf l s)
        simp only [↓bk_bind, ↓bk_map, ↓bk_ite, ↓bk_some, ↓reduceIte, Nat.reduceEqDiff, Nat.reduceLT, Nat.reduceLeDiff, Nat.reduceAdd, Nat.reduceMul, reduceCtorEq, List.reduceReplicate, go_sem]
        intros
        by_cases hw : (wantOf l s).Kind = 0
        · rw [if_pos hw] at hp
          have hlt := stepTo_lt (v := 0) hl hs (by omega)
          have hok := stepTo_ok (l := l) (v := 0) hs
          simp only [↓bk_bind, ↓bk_map, ↓bk_ite, ↓bk_some, ↓reduceIte, Nat.reduceEqDiff, Nat.reduceLT, Nat.reduceLeDiff, Nat.reduceAdd, Nat.reduceMul, reduceCtorEq, List.reduceReplicate, go_sem, hw]
          apply callK_of (c_impl_StepState l s 0 (by omega))
          simp only [↓bk_bind, ↓bk_map, ↓bk_ite, ↓bk_some, ↓reduceIte, Nat.reduceEqDiff, Nat.reduceLT, Nat.reduceLeDiff, Nat.reduceAdd, Nat.reduceMul, reduceCtorEq, List.reduceReplicate, go_sem]
          intros
          exact ⟨by decide, by simp only [roomB]; omega, (n, stepTo l s 0, tr ++ [stepTo l s 0]), ⟨⟨by simp, rfl⟩, by simp [GState.enc], rfl, rfl, rfl, rfl, rfl, rfl, rfl⟩, ⟨hok, hn, f, by simp only; omega, by simp only [List.length_append, List.length_cons, List.length_nil]; omega, hp⟩, by simp only; omega⟩
        · rw [if_neg hw] at hp
          have hw' : (wantOf l s).Kind > 0 := by have := wantOf_kind l s; omega
          by_cases hne : n = es.length
          · rw [List.getElem?_eq_none (by omega)] at hp
            simp only at hp
            subst hne
            have hne1 : (es.length : Int) = es.length := rfl
            have hne2 : (es.length : Int) ≥ es.length := Int.le_refl _
            simp only [↓bk_bind, ↓bk_map, ↓bk_ite, ↓bk_some, ↓reduceIte, Nat.reduceEqDiff, Nat.reduceLT, Nat.reduceLeDiff, Nat.reduceAdd, Nat.reduceMul, reduceCtorEq, List.reduceReplicate, go_sem, hw, hw', hne1]
            rw [← hp]
            exact ⟨⟨rfl, rfl, rfl, rfl, rfl, rfl⟩, rfl⟩
          · obtain ⟨e, he⟩ := at_some (show n < es.length by omega)
            rw [he] at hp
            simp only at hp
            have hne1 : ¬ (n : Int) = es.length := by omega
            have hne2 : ¬ (n : Int) ≥ es.length := by omega
            have hn0 : (0 : Int) ≤ (n : Int) := by omega
            have hn1 : (n : Int) < es.length := by omega
            have hwn : IntKind.i64.wrap ((n : Int) + 1) = ((n + 1 : Nat) : Int) := by rw [wI (by omega) (by omega)]; omega
            by_cases c1 : e.Kind = (wantOf l s).Kind
            · by_cases c2 : e.Address = (wantOf l s).Address
              · rw [if_pos ⟨c1, c2⟩] at hp
                have hdec := decide_eq_true c2
                have hlt := stepTo_lt (v := e.Value) hl hs (by omega)
                have hok := stepTo_ok (l := l) (v := e.Value) hs
                simp only [↓bk_bind, ↓bk_map, ↓bk_ite, ↓bk_some, ↓reduceIte, Nat.reduceEqDiff, Nat.reduceLT, Nat.reduceLeDiff, Nat.reduceAdd, Nat.reduceMul, reduceCtorEq, List.reduceReplicate, go_sem, hw, hw', hne1, hn0, hn1, bk_eq he, addrB, c1, hdec]
                apply callK_of (c_impl_StepState l s e.Value (by omega))
                simp only [↓bk_bind, ↓bk_map, ↓bk_ite, ↓bk_some, ↓reduceIte, Nat.reduceEqDiff, Nat.reduceLT, Nat.reduceLeDiff, Nat.reduceAdd, Nat.reduceMul, reduceCtorEq, List.reduceReplicate, go_sem, hwn]
                intros
                exact ⟨by decide, by simp only [roomB]; omega, (n + 1, stepTo l s e.Value, tr ++ [stepTo l s e.Value]), ⟨⟨by simp, rfl⟩, by simp [GState.enc], rfl, rfl, rfl, rfl, rfl, rfl, rfl⟩, ⟨hok, by simp only; omega, f, by simp only; omega, by simp only [List.length_append, List.length_cons, List.length_nil]; omega, hp⟩, by simp only; omega⟩
              · rw [if_neg (fun h => c2 h.2)] at hp
                have hdec := decide_eq_false c2
                simp only [↓bk_bind, ↓bk_map, ↓bk_ite, ↓bk_some, ↓reduceIte, Nat.reduceEqDiff, Nat.reduceLT, Nat.reduceLeDiff, Nat.reduceAdd, Nat.reduceMul, reduceCtorEq, List.reduceReplicate, go_sem, hw, hw', hne1, hn0, hn1, bk_eq he, addrB, c1, hdec]
                rw [← hp]
                exact ⟨⟨rfl, rfl, rfl, rfl, rfl, rfl⟩, rfl⟩
            · rw [if_neg (fun h => c1 h.1)] at hp
              simp only [↓bk_bind, ↓bk_map, ↓bk_ite, ↓bk_some, ↓reduceIte, Nat.reduceEqDiff, Nat.reduceLT, Nat.reduceLeDiff, Nat.reduceAdd, Nat.reduceMul, reduceCtorEq, List.reduceReplicate, go_sem, hw, hw', hne1, hn0, hn1, bk_eq he, addrB, c1]
              rw [← hp]
              exact ⟨⟨rfl, rfl, rfl, rfl, rfl, rfl⟩, rfl⟩
def m_spec_l14Run : MC :=
(.seq (pr [.alloc 4 0 [.pl (.sc (.int .i64 0)), .pl (.sc (.int .i64 0)), .pl (.sc (.int .i64 0)), .emp 1, .emp 1, .emp 1], .nilo 5 1 4] [0,1,4])
(.seq (pr [.call 11 [2, 3, 4] (.f n_spec_StartState) [], .alloc 6 5 [.pl (.sc (.int .i64 0)), .emp 1, .emp 1, .emp 1], .store 4 (.s 6) (.s 11)] [0,1,4,6])
(.seq (pr [.load 12 true 4 (.s 6), .lit 13 1 4 80 [.s 12], .mv 7 (.s 13)] [0,1,4,6,7])
(.seq (.seq (.reg [{ o := .mv 14 (.s 0) }, { o := .call 15 [] (.f n_spec_IsScript) [.s 14] }, { o := .un 16 .not (.s 15) }, { o := .mv 17 (.s 16) }, { o := .mv 18 (.s 1), g := some (17, false) }, { o := .call 19 [] (.f n_spec_AreEntries) [.s 18], g := some (17, false) }, { o := .un 20 .not (.s 19), g := some (17, false) }, { o := .pick 21 (.s 17) (.c (.bool true)) (.s 20) }] [0,1,4,6,7,21])
(.cond (.s 21) (.seq (pr [.load 22 true 4 (.s 6), .build 23 [.pl (.sc (.int .i64 0)), .pl (.sc (.int .i64 0)), .pl (.sc (.int .i64 0)), .emp 1, .emp 1, .emp 1] [(0, 1, .c (.int .i64 2)), (2, 4, .s 22)], .mv 24 (.s 7), .store 6 (.s 4) (.s 23), .mv 5 (.s 24)] [4,5])
.ret) .skip))
(.seq (pr [.mv 8 (.c (.int .i64 0))] [0,1,4,6,7,8])
(.seq (.block 0 (.loop ([0,1,4,6,7,8], [6,7]) (.seq (.seq (pr [.mv 25 (.s 0), .load 26 true 4 (.s 6), .call 27 [] (.f n_spec_IsDone) [.s 25, .s 26], .un 28 .not (.s 27)] [0,1,4,6,7,8,28])
(.cond (.s 28) .skip (.exit 0)))
(.block 1 (.seq (pr [.mv 29 (.s 0), .load 30 true 4 (.s 6), .call 31 [] (.f n_spec_WantOf) [.s 29, .s 30], .alloc 9 6 [.pl (.sc (.int .i64 0)), .pl (.sc (.int .i64 0)), .pl (.sc (.int .i64 0)), .pl (.sc (.int .i64 0))], .store 4 (.s 9) (.s 31)] [0,1,4,6,7,8,9])
(.seq (pr [.mv 10 (.c (.int .i64 0))] [0,1,4,6,7,8,9,10])
(.seq (.seq (pr [.fld 32 (.s 9) 0, .load 33 false 1 (.s 32), .bin 34 false .gtr (.s 33) (.c (.int .i64 0))] [0,1,4,6,7,8,9,10,34])
(.cond (.s 34) (.seq (.seq (pr [.mv 35 (.s 8), .mv 36 (.s 1), .len 37 false (.s 36), .bin 38 false .geq (.s 35) (.s 37)] [0,1,4,6,7,8,9,38])
(.cond (.s 38) (.seq (pr [.mv 39 (.s 8), .load 40 true 4 (.s 6), .build 41 [.pl (.sc (.int .i64 0)), .pl (.sc (.int .i64 0)), .pl (.sc (.int .i64 0)), .emp 1, .emp 1, .emp 1] [(0, 1, .c (.int .i64 2)), (1, 1, .s 39), (2, 4, .s 40)], .mv 42 (.s 7), .store 6 (.s 4) (.s 41), .mv 5 (.s 42)] [4,5])
.ret) .skip))
(.seq (.seq (.dreg [{ o := .mv 43 (.s 1), hs := [44,48,49] }, { o := .mv 44 (.s 8), hs := [43,48,49] }, { o := .idx 45 5 (.s 43) (.s 44), hs := [48,49], bf := [0,1] }, { o := .fld 46 (.s 45) 0, hs := [48,49], bf := [0,1,2] }, { o := .load 47 false 1 (.s 46), hs := [48,49], bf := [0,1,2,3] }, { o := .fld 48 (.s 9) 0, hs := [43,44,45,46,47] }, { o := .load 49 false 1 (.s 48), hs := [43,44,45,46,47], bf := [5] }, { o := .bin 50 false .neq (.s 47) (.s 49), bf := [0,1,2,3,4,5,6] }, { o := .mv 51 (.s 50), bf := [0,1,2,3,4,5,6,7] }, { o := .mv 52 (.s 1), g := some (51, false), hs := [53,57,58], bf := [0,1,2,3,4,5,6,7,8] }, { o := .mv 53 (.s 8), g := some (51, false), hs := [52,57,58], bf := [0,1,2,3,4,5,6,7,8] }, { o := .idx 54 5 (.s 52) (.s 53), g := some (51, false), hs := [57,58], bf := [0,1,2,3,4,5,6,7,8,9,10] }, { o := .fld 55 (.s 54) 1, g := some (51, false), hs := [57,58], bf := [0,1,2,3,4,5,6,7,8,9,10,11] }, { o := .load 56 true 3 (.s 55), g := some (51, false), hs := [57,58], bf := [0,1,2,3,4,5,6,7,8,9,10,11,12] }, { o := .fld 57 (.s 9) 1, g := some (51, false), hs := [52,53,54,55,56], bf := [0,1,2,3,4,5,6,7,8] }, { o := .load 58 true 3 (.s 57), g := some (51, false), hs := [52,53,54,55,56], bf := [0,1,2,3,4,5,6,7,8,14] }, { o := .eqA 59 true [.i .i64, .i .i64, .i .i64] (.s 56) (.s 58), g := some (51, false), bf := [0,1,2,3,4,5,6,7,8,9,10,11,12,13,14,15] }, { o := .pick 60 (.s 51) (.c (.bool true)) (.s 59), bf := [0,1,2,3,4,5,6,7,8,9,10,11,12,13,14,15,16] }] [0,1,4,6,7,8,60])
(.cond (.s 60) (.seq (pr [.mv 61 (.s 8), .load 62 true 4 (.s 6), .build 63 [.pl (.sc (.int .i64 0)), .pl (.sc (.int .i64 0)), .pl (.sc (.int .i64 0)), .emp 1, .emp 1, .emp 1] [(0, 1, .c (.int .i64 1)), (1, 1, .s 61), (2, 4, .s 62)], .mv 64 (.s 7), .store 6 (.s 4) (.s 63), .mv 5 (.s 64)] [4,5])
.ret) .skip))
(.seq (pr [.mv 65 (.s 1), .mv 66 (.s 8), .idx 67 5 (.s 65) (.s 66), .fld 68 (.s 67) 4, .load 69 false 1 (.s 68), .mv 10 (.s 69)] [0,1,4,6,7,8,10])
(pr [.mv 70 (.s 8), .bin 71 false .add (.s 70) (.c (.int .i64 1)), .mv 8 (.s 71)] [0,1,4,6,7,8,10])))) .skip))
(.seq (pr [.mv 72 (.s 0), .load 73 true 4 (.s 6), .mv 74 (.s 10), .call 75 [2, 3, 4] (.f n_spec_StepState) [.s 72, .s 73, .s 74], .store 4 (.s 6) (.s 75)] [0,1,4,6,7,8])
(pr [.mv 76 (.s 7), .load 77 true 4 (.s 6), .lit 78 7 4 80 [.s 77], .app 79 1 4 80 (.s 76) (.s 78), .mv 7 (.s 79)] [0,1,4,6,7,8])))))))))
(.seq (.seq (pr [.mv 80 (.s 8), .mv 81 (.s 1), .len 82 false (.s 81), .bin 83 false .lss (.s 80) (.s 82)] [4,6,7,8,83])
(.cond (.s 83) (.seq (pr [.mv 84 (.s 8), .load 85 true 4 (.s 6), .build 86 [.pl (.sc (.int .i64 0)), .pl (.sc (.int .i64 0)), .pl (.sc (.int .i64 0)), .emp 1, .emp 1, .emp 1] [(0, 1, .c (.int .i64 1)), (1, 1, .s 84), (2, 4, .s 85)], .mv 87 (.s 7), .store 6 (.s 4) (.s 86), .mv 5 (.s 87)] [4,5])
.ret) .skip))
(.seq (pr [.load 88 true 4 (.s 6), .build 89 [.pl (.sc (.int .i64 0)), .pl (.sc (.int .i64 0)), .pl (.sc (.int .i64 0)), .emp 1, .emp 1, .emp 1] [(2, 4, .s 88)], .mv 90 (.s 7), .store 6 (.s 4) (.s 89), .mv 5 (.s 90)] [4,5])
.ret))))))))
set_option maxHeartbeats 2000000 in
theorem c_spec_l14Run (l : List GOp) (es : List GEntry) : Ctr Tryz.prog n_spec_l14Run [aL 4 (l.map GOp.enc), aL 5 (es.map GEntry.enc)] [rP (play l es).1, rT (play l es).2] := by
  refine ctr_at (M := m_spec_l14Run) (m := 8) (n := 91) (res := [(.cell 4 true 6, [false, false, false, false, false, false]), (.tmp 5, [false])]) hmix Tryz.func199 rfl (by kernel_rfl) rfl (by kernel_rfl) (by kernel_rfl) (Nat.le_of_ble_eq_true rfl) ?_; unfold m_spec_l14Run
  intro hb
  simp only [bdA, bdL, bdT, bdR, bdR_map, wfB_i64, wfB_bool, wfB_str, roomB, and_true, true_and, List.length_map] at hb
  have hel : es.length ≤ 140737488355328 := hb.2.1
  clear hb
  simp only [↓bk_bind, ↓bk_map, ↓bk_ite, ↓bk_some, ↓reduceIte, Nat.reduceEqDiff, Nat.reduceLT, Nat.reduceLeDiff, Nat.reduceAdd, Nat.reduceMul, reduceCtorEq, List.reduceReplicate, go_sem]
  apply callK_of c_spec_StartState
  simp only [↓bk_bind, ↓bk_map, ↓bk_ite, ↓bk_some, ↓reduceIte, Nat.reduceEqDiff, Nat.reduceLT, Nat.reduceLeDiff, Nat.reduceAdd, Nat.reduceMul, reduceCtorEq, List.reduceReplicate, go_sem]
  intros
  refine ⟨by decide, ?_⟩
  apply callK_of (c_spec_IsScript l)
  simp only [↓bk_bind, ↓bk_map, ↓bk_ite, ↓bk_some, ↓reduceIte, Nat.reduceEqDiff, Nat.reduceLT, Nat.reduceLeDiff, Nat.reduceAdd, Nat.reduceMul, reduceCtorEq, List.reduceReplicate, go_sem]
  repeat' first
    | (refine And.intro ?_ ?_ <;> intro h)
    | (apply callK_of (c_spec_AreEntries es); simp only [↓bk_bind, ↓bk_map, ↓bk_ite, ↓bk_some, ↓reduceIte, Nat.reduceEqDiff, Nat.reduceLT, Nat.reduceLeDiff, Nat.reduceAdd, Nat.reduceMul, reduceCtorEq, List.reduceReplicate, go_sem])
  · have hP : play l es = (⟨2, 0, st0⟩, [st0]) := by rw [play, if_neg (by simp_all)]
    rw [hP]
    exact ⟨⟨rfl, rfl, rfl, rfl, rfl, rfl⟩, rfl⟩
  · have hP : play l es = (⟨2, 0, st0⟩, [st0]) := by rw [play, if_neg (by simp_all)]
    rw [hP]
    exact ⟨⟨rfl, rfl, rfl, rfl, rfl, rfl⟩, rfl⟩
  · have hl : scriptOk l = true := by assumption
    have hfew : l.length ≤ 16 := by
      simp only [scriptOk, fewAll, Bool.and_eq_true, decide_eq_true_eq] at hl
      exact hl.1
    have hP : play l es = playF l es 20 0 st0 [st0] := by rw [play, if_pos (by simp_all)]
    refine loopK_up (ι := Nat × GState × List GState) (fun t => [(7, .val false [.ref 1 0 4 0 t.2.2.length]), (8, vI (t.1 : Nat))]) (fun t => [(1, ⟨0, .row true 4 (t.2.2.map GState.enc)⟩), (2, ⟨0, .lent 1 (t.2.1.Regs.map encI)⟩), (3, ⟨0, .lent 1 (t.2.1.Slots.map encI)⟩), (4, ⟨0, .lent 1 (t.2.1.Nodes.map encI)⟩), (5, ⟨0, .box [.pl (tI t.2.1.Pc), .ref 2 0 1 0 t.2.1.Regs.length, .ref 3 0 1 0 t.2.1.Slots.length, .ref 4 0 1 0 t.2.1.Nodes.length]⟩)])
      (fun t => stOk t.2.1 = true ∧ t.1 ≤ es.length ∧ ∃ f, l.length - t.2.1.Pc.toNat < f ∧ t.2.2.length + (l.length - t.2.1.Pc.toNat) ≤ 18 ∧ playF l es f t.1 t.2.1 t.2.2 = play l es) (fun t => l.length - t.2.1.Pc.toNat) (0, st0, [st0]) ?_
    simp only [↓bk_bind, ↓bk_map, ↓bk_ite, ↓bk_some, ↓reduceIte, Nat.reduceEqDiff, Nat.reduceLT, Nat.reduceLeDiff, Nat.reduceAdd, Nat.reduceMul, reduceCtorEq, List.reduceReplicate, go_sem]
    refine ⟨?_, ⟨st0_ok, Nat.zero_le _, 20, by simp only [st0]; omega, by simp only [st0, List.length_cons, List.length_nil]; omega, hP.symm⟩, ?_⟩
    · simp only [↓bk_bind, ↓bk_map, ↓bk_ite, ↓bk_some, ↓reduceIte, Nat.reduceEqDiff, Nat.reduceLT, Nat.reduceLeDiff, Nat.reduceAdd, Nat.reduceMul, reduceCtorEq, List.reduceReplicate, go_sem]
      try exact ⟨rfl, rfl⟩
      try trivial
    · rintro ⟨n, s, tr⟩ ⟨hs, hn, f, hf, htr, hp⟩
      simp only at hs hn hf htr hp
      obtain ⟨f, rfl⟩ : ∃ f', f = f' + 1 := ⟨f - 1, by omega⟩
      rw [playF] at hp
      have hsz := stOk_size hs
      have h0 := (stOk_out hs).1.1
      simp only [↓bk_bind, ↓bk_map, ↓bk_ite, ↓bk_some, ↓reduceIte, Nat.reduceEqDiff, Nat.reduceLT, Nat.reduceLeDiff, Nat.reduceAdd, Nat.reduceMul, reduceCtorEq, List.reduceReplicate, go_sem]
      apply callK_of (c_spec_IsDone l s)
      by_cases hd : s.Pc ≥ l.length
      · rw [if_pos hd] at hp
        simp only [↓bk_bind, ↓bk_map, ↓bk_ite, ↓bk_some, ↓reduceIte, Nat.reduceEqDiff, Nat.reduceLT, Nat.reduceLeDiff, Nat.reduceAdd, Nat.reduceMul, reduceCtorEq, List.reduceReplicate, go_sem, hd]
        refine ⟨fun hlt => ?_, fun hge => ?_⟩
        · rw [if_pos (by omega)] at hp
          rw [← hp]
          exact ⟨⟨rfl, rfl, rfl, rfl, rfl, rfl⟩, rfl⟩
        · rw [if_neg (by omega)] at hp
          rw [← hp]
          exact ⟨⟨rfl, rfl, rfl, rfl, rfl, rfl⟩, rfl⟩
      · rw [if_neg hd] at hp
        simp only [↓bk_bind, ↓bk_map, ↓bk_ite, ↓bk_some, ↓reduceIte, Nat.reduceEqDiff, Nat.reduceLT, Nat.reduceLeDiff, Nat.reduceAdd, Nat.reduceMul, reduceCtorEq, List.reduceReplicate, go_sem, hd]
        apply callK_of (c_spec_WantOf l s)
        simp only [↓bk_bind, ↓bk_map, ↓bk_ite, ↓bk_some, ↓reduceIte, Nat.reduceEqDiff, Nat.reduceLT, Nat.reduceLeDiff, Nat.reduceAdd, Nat.reduceMul, reduceCtorEq, List.reduceReplicate, go_sem]
        intros
        by_cases hw : (wantOf l s).Kind = 0
        · rw [if_pos hw] at hp
          have hlt := stepTo_lt (v := 0) hl hs (by omega)
          have hok := stepTo_ok (l := l) (v := 0) hs
          simp only [↓bk_bind, ↓bk_map, ↓bk_ite, ↓bk_some, ↓reduceIte, Nat.reduceEqDiff, Nat.reduceLT, Nat.reduceLeDiff, Nat.reduceAdd, Nat.reduceMul, reduceCtorEq, List.reduceReplicate, go_sem, hw]
          apply callK_of (c_spec_StepState l s 0 (by omega))
          simp only [↓bk_bind, ↓bk_map, ↓bk_ite, ↓bk_some, ↓reduceIte, Nat.reduceEqDiff, Nat.reduceLT, Nat.reduceLeDiff, Nat.reduceAdd, Nat.reduceMul, reduceCtorEq, List.reduceReplicate, go_sem]
          intros
          exact ⟨by decide, by simp only [roomB]; omega, (n, stepTo l s 0, tr ++ [stepTo l s 0]), ⟨⟨by simp, rfl⟩, by simp [GState.enc], rfl, rfl, rfl, rfl, rfl, rfl, rfl⟩, ⟨hok, hn, f, by simp only; omega, by simp only [List.length_append, List.length_cons, List.length_nil]; omega, hp⟩, by simp only; omega⟩
        · rw [if_neg hw] at hp
          have hw' : (wantOf l s).Kind > 0 := by have := wantOf_kind l s; omega
          by_cases hne : n = es.length
          · rw [List.getElem?_eq_none (by omega)] at hp
            simp only at hp
            subst hne
            have hne1 : (es.length : Int) = es.length := rfl
            have hne2 : (es.length : Int) ≥ es.length := Int.le_refl _
            simp only [↓bk_bind, ↓bk_map, ↓bk_ite, ↓bk_some, ↓reduceIte, Nat.reduceEqDiff, Nat.reduceLT, Nat.reduceLeDiff, Nat.reduceAdd, Nat.reduceMul, reduceCtorEq, List.reduceReplicate, go_sem, hw, hw', hne2]
            rw [← hp]
            exact ⟨⟨rfl, rfl, rfl, rfl, rfl, rfl⟩, rfl⟩
          · obtain ⟨e, he⟩ := at_some (show n < es.length by omega)
            rw [he] at hp
            simp only at hp
            have hne1 : ¬ (n : Int) = es.length := by omega
            have hne2 : ¬ (n : Int) ≥ es.length := by omega
            have hn0 : (0 : Int) ≤ (n : Int) := by omega
            have hn1 : (n : Int) < es.length := by omega
            have hwn : IntKind.i64.wrap ((n : Int) + 1) = ((n + 1 : Nat) : Int) := by rw [wI (by omega) (by omega)]; omega
            by_cases c1 : e.Kind = (wantOf l s).Kind
            · by_cases c2 : e.Address = (wantOf l s).Address
              · rw [if_pos ⟨c1, c2⟩] at hp
                have hdec := decide_eq_true c2
                have hlt := stepTo_lt (v := e.Value) hl hs (by omega)
                have hok := stepTo_ok (l := l) (v := e.Value) hs
                simp only [↓bk_bind, ↓bk_map, ↓bk_ite, ↓bk_some, ↓reduceIte, Nat.reduceEqDiff, Nat.reduceLT, Nat.reduceLeDiff, Nat.reduceAdd, Nat.reduceMul, reduceCtorEq, List.reduceReplicate, go_sem, hw, hw', hne2, hn0, hn1, bk_eq he, addrB, c1, hdec]
                apply callK_of (c_spec_StepState l s e.Value (by omega))
                simp only [↓bk_bind, ↓bk_map, ↓bk_ite, ↓bk_some, ↓reduceIte, Nat.reduceEqDiff, Nat.reduceLT, Nat.reduceLeDiff, Nat.reduceAdd, Nat.reduceMul, reduceCtorEq, List.reduceReplicate, go_sem, hwn]
                intros
                exact ⟨by decide, by simp only [roomB]; omega, (n + 1, stepTo l s e.Value, tr ++ [stepTo l s e.Value]), ⟨⟨by simp, rfl⟩, by simp [GState.enc], rfl, rfl, rfl, rfl, rfl, rfl, rfl⟩, ⟨hok, by simp only; omega, f, by simp only; omega, by simp only [List.length_append, List.length_cons, List.length_nil]; omega, hp⟩, by simp only; omega⟩
              · rw [if_neg (fun h => c2 h.2)] at hp
                have hdec := decide_eq_false c2
                simp only [↓bk_bind, ↓bk_map, ↓bk_ite, ↓bk_some, ↓reduceIte, Nat.reduceEqDiff, Nat.reduceLT, Nat.reduceLeDiff, Nat.reduceAdd, Nat.reduceMul, reduceCtorEq, List.reduceReplicate, go_sem, hw, hw', hne2, hn0, hn1, bk_eq he, addrB, c1, hdec]
                rw [← hp]
                exact ⟨⟨rfl, rfl, rfl, rfl, rfl, rfl⟩, rfl⟩
            · rw [if_neg (fun h => c1 h.1)] at hp
              simp only [↓bk_bind, ↓bk_map, ↓bk_ite, ↓bk_some, ↓reduceIte, Nat.reduceEqDiff, Nat.reduceLT, Nat.reduceLeDiff, Nat.reduceAdd, Nat.reduceMul, reduceCtorEq, List.reduceReplicate, go_sem, hw, hw', hne2, hn0, hn1, bk_eq he, addrB, c1]
              rw [← hp]
              exact ⟨⟨rfl, rfl, rfl, rfl, rfl, rfl⟩, rfl⟩
end Go.Proofs.YtbnbgekjjbpljaaGreatR
namespace Go.Proofs.YtbnbgekjjbpljaaGreatR
open Go Go.RowKit Go.Proofs
set_option linter.unusedSimpArgs false
set_option linter.unusedVariables false
def m_impl_Replay : MC :=
(.seq (pr [.alloc 4 0 [.pl (.sc (.int .i64 0)), .pl (.sc (.int .i64 0)), .pl (.sc (.int .i64 0)), .emp 1, .emp 1, .emp 1]] [0,1,4])
(.seq (pr [.mv 8 (.s 0), .mv 9 (.s 1), .call 10 [] (.f n_impl_played) [.s 8, .s 9], .mv 7 (.s 10), .ext 11 (.s 7) 0, .ext 12 (.s 7) 1, .alloc 5 1 [.pl (.sc (.int .i64 0)), .pl (.sc (.int .i64 0)), .pl (.sc (.int .i64 0)), .emp 1, .emp 1, .emp 1], .store 6 (.s 5) (.s 11), .mv 6 (.s 12)] [4,5])
(.seq (pr [.fld 13 (.s 5) 2, .load 14 true 4 (.s 13), .call 15 [2, 3, 4] (.f n_impl_copyState) [.s 14], .fld 16 (.s 5) 2, .store 4 (.s 16) (.s 15)] [4,5])
(.seq (pr [.load 17 true 6 (.s 5), .store 6 (.s 4) (.s 17)] [4])
.ret))))
theorem c_impl_Replay (l : List GOp) (es : List GEntry) : Ctr Tryz.prog n_impl_Replay [aL 4 (l.map GOp.enc), aL 5 (es.map GEntry.enc)] [rS (play l es).1.enc] := by
  refine ctr_at (M := m_impl_Replay) (m := 5) (n := 18) (res := [(.cell 4 true 6, [false, false, false, true, true, true])]) hmix Tryz.func148 rfl (by kernel_rfl) rfl (by kernel_rfl) (by kernel_rfl) (Nat.le_of_ble_eq_true rfl) ?_; unfold m_impl_Replay
  intro hb
  clear hb
  have hz := stOk_size (play_ok l es)
  simp only [↓bk_bind, ↓bk_map, ↓bk_ite, ↓bk_some, ↓reduceIte, Nat.reduceEqDiff, Nat.reduceLT, Nat.reduceLeDiff, Nat.reduceAdd, Nat.reduceMul, reduceCtorEq, List.reduceReplicate, go_sem]
  apply callK_of (c_impl_played l es)
  simp only [↓bk_bind, ↓bk_map, ↓bk_ite, ↓bk_some, ↓reduceIte, Nat.reduceEqDiff, Nat.reduceLT, Nat.reduceLeDiff, Nat.reduceAdd, Nat.reduceMul, reduceCtorEq, List.reduceReplicate, go_sem]
  intros
  apply callK_of (c_impl_copyState (play l es).1.State (by omega))
  simp only [↓bk_bind, ↓bk_map, ↓bk_ite, ↓bk_some, ↓reduceIte, Nat.reduceEqDiff, Nat.reduceLT, Nat.reduceLeDiff, Nat.reduceAdd, Nat.reduceMul, reduceCtorEq, List.reduceReplicate, go_sem]
  try intros
  try trivial
def m_impl_PlayContainer : MC :=
(.seq (pr [.box 1 0 (.s 0), .alloc 2 1 [.pl (.sc (.int .i64 0)), .pl (.sc (.int .i64 0)), .pl (.sc (.int .i64 0)), .emp 1, .emp 1, .emp 1]] [1,2])
(.seq (pr [.fld 3 (.s 1) 0, .load 4 false 1 (.s 3), .fld 5 (.s 1) 1, .load 6 false 1 (.s 5), .call 7 [2, 3, 4] (.f n_impl_Replay) [.s 4, .s 6], .store 6 (.s 2) (.s 7)] [2])
.ret))
theorem c_impl_PlayContainer (x : GContainer) : Ctr Tryz.prog n_impl_PlayContainer [aS x.enc] [rS (play x.Script x.Entries).1.enc] := by
  refine ctr_at (M := m_impl_PlayContainer) (m := 5) (n := 8) (res := [(.cell 2 true 6, [false, false, false, true, true, true])]) hmix Tryz.func82 rfl (by kernel_rfl) rfl (by kernel_rfl) (by kernel_rfl) (Nat.le_of_ble_eq_true rfl) ?_; unfold m_impl_PlayContainer
  intro hb
  clear hb
  simp only [↓bk_bind, ↓bk_map, ↓bk_ite, ↓bk_some, ↓reduceIte, Nat.reduceEqDiff, Nat.reduceLT, Nat.reduceLeDiff, Nat.reduceAdd, Nat.reduceMul, reduceCtorEq, List.reduceReplicate, go_sem]
  apply callK_of (c_impl_Replay x.Script x.Entries)
  simp only [↓bk_bind, ↓bk_map, ↓bk_ite, ↓bk_some, ↓reduceIte, Nat.reduceEqDiff, Nat.reduceLT, Nat.reduceLeDiff, Nat.reduceAdd, Nat.reduceMul, reduceCtorEq, List.reduceReplicate, go_sem]
  try intros
  try trivial
def m_spec_Replay : MC :=
(.seq (pr [.alloc 4 0 [.pl (.sc (.int .i64 0)), .pl (.sc (.int .i64 0)), .pl (.sc (.int .i64 0)), .emp 1, .emp 1, .emp 1]] [0,1,4])
(.seq (pr [.mv 8 (.s 0), .mv 9 (.s 1), .call 10 [] (.f n_spec_l14Run) [.s 8, .s 9], .mv 7 (.s 10), .ext 11 (.s 7) 0, .ext 12 (.s 7) 1, .alloc 5 1 [.pl (.sc (.int .i64 0)), .pl (.sc (.int .i64 0)), .pl (.sc (.int .i64 0)), .emp 1, .emp 1, .emp 1], .store 6 (.s 5) (.s 11), .mv 6 (.s 12)] [4,5])
(.seq (pr [.fld 13 (.s 5) 2, .load 14 true 4 (.s 13), .call 15 [2, 3, 4] (.f n_spec_l11Copy) [.s 14], .fld 16 (.s 5) 2, .store 4 (.s 16) (.s 15)] [4,5])
(.seq (pr [.load 17 true 6 (.s 5), .store 6 (.s 4) (.s 17)] [4])
.ret))))
theorem c_spec_Replay (l : List GOp) (es : List GEntry) : Ctr Tryz.prog n_spec_Replay [aL 4 (l.map GOp.enc), aL 5 (es.map GEntry.enc)] [rS (play l es).1.enc] := by
  refine ctr_at (M := m_spec_Replay) (m := 5) (n := 18) (res := [(.cell 4 true 6, [false, false, false, true, true, true])]) hmix Tryz.func142 rfl (by kernel_rfl) rfl (by kernel_rfl) (by kernel_rfl) (Nat.le_of_ble_eq_true rfl) ?_; unfold m_spec_Replay
  intro hb
  clear hb
  have hz := stOk_size (play_ok l es)
  simp only [↓bk_bind, ↓bk_map, ↓bk_ite, ↓bk_some, ↓reduceIte, Nat.reduceEqDiff, Nat.reduceLT, Nat.reduceLeDiff, Nat.reduceAdd, Nat.reduceMul, reduceCtorEq, List.reduceReplicate, go_sem]
  apply callK_of (c_spec_l14Run l es)
  simp only [↓bk_bind, ↓bk_map, ↓bk_ite, ↓bk_some, ↓reduceIte, Nat.reduceEqDiff, Nat.reduceLT, Nat.reduceLeDiff, Nat.reduceAdd, Nat.reduceMul, reduceCtorEq, List.reduceReplicate, go_sem]
  intros
  apply callK_of (c_spec_l11Copy (play l es).1.State (by omega))
  simp only [↓bk_bind, ↓bk_map, ↓bk_ite, ↓bk_some, ↓reduceIte, Nat.reduceEqDiff, Nat.reduceLT, Nat.reduceLeDiff, Nat.reduceAdd, Nat.reduceMul, reduceCtorEq, List.reduceReplicate, go_sem]
  try intros
  try trivial
def m_spec_PlayContainer : MC :=
(.seq (pr [.box 1 0 (.s 0), .alloc 2 1 [.pl (.sc (.int .i64 0)), .pl (.sc (.int .i64 0)), .pl (.sc (.int .i64 0)), .emp 1, .emp 1, .emp 1]] [1,2])
(.seq (pr [.fld 3 (.s 1) 0, .load 4 false 1 (.s 3), .fld 5 (.s 1) 1, .load 6 false 1 (.s 5), .call 7 [2, 3, 4] (.f n_spec_Replay) [.s 4, .s 6], .store 6 (.s 2) (.s 7)] [2])
.ret))
theorem c_spec_PlayContainer (x : GContainer) : Ctr Tryz.prog n_spec_PlayContainer [aS x.enc] [rS (play x.Script x.Entries).1.enc] := by
  refine ctr_at (M := m_spec_PlayContainer) (m := 5) (n := 8) (res := [(.cell 2 true 6, [false, false, false, true, true, true])]) hmix Tryz.func74 rfl (by kernel_rfl) rfl (by kernel_rfl) (by kernel_rfl) (Nat.le_of_ble_eq_true rfl) ?_; unfold m_spec_PlayContainer
  intro hb
  clear hb
  simp only [↓bk_bind, ↓bk_map, ↓bk_ite, ↓bk_some, ↓reduceIte, Nat.reduceEqDiff, Nat.reduceLT, Nat.reduceLeDiff, Nat.reduceAdd, Nat.reduceMul, reduceCtorEq, List.reduceReplicate, go_sem]
  apply callK_of (c_spec_Replay x.Script x.Entries)
  simp only [↓bk_bind, ↓bk_map, ↓bk_ite, ↓bk_some, ↓reduceIte, Nat.reduceEqDiff, Nat.reduceLT, Nat.reduceLeDiff, Nat.reduceAdd, Nat.reduceMul, reduceCtorEq, List.reduceReplicate, go_sem]
  try intros
  try trivial
/-- A container that does not replay its visit. -/
def stray (x : GContainer) : Bool := (play x.Script x.Entries).1.Code != 0
def isPlayable (a : GArchive) : Bool := !a.Disk.Containers.any stray
end Go.Proofs.YtbnbgekjjbpljaaGreatR
namespace Go.Proofs.YtbnbgekjjbpljaaGreatR
open Go Go.RowKit Go.Proofs
set_option linter.unusedSimpArgs false
set_option linter.unusedVariables false
def replayed (a : GArchive) (i : Int) : GPlayed := if mayReplay a i then (match a.Disk.Containers[i.toNat]? with
  | some x => (play x.Script x.Entries).1
  | none => ⟨0, 0, ⟨0, [], [], []⟩⟩) else ⟨0, 0, ⟨0, [], [], []⟩⟩
theorem replayed_no {a : GArchive} {i : Int} (h : mayReplay a i = false) : replayed a i = ⟨0, 0, ⟨0, [], [], []⟩⟩ := by unfold replayed; rw [h]; rfl
theorem replayed_yes {a : GArchive} {k : Nat} {x : GContainer} (h : mayReplay a (k : Int) = true) (hx : a.Disk.Containers[k]? = some x) : replayed a (k : Int) = (play x.Script x.Entries).1 := by unfold replayed; rw [h, if_pos rfl, Int.toNat_natCast, hx]
theorem mayReplay_in {a : GArchive} {i : Int} (h : mayReplay a i = true) : ∃ (k : Nat) (x : GContainer), i = k ∧ a.Disk.Containers[k]? = some x := by
  unfold mayReplay at h
  split at h
  · rename_i x hx
    simp only [Bool.and_eq_true, decide_eq_true_eq] at h
    obtain ⟨k, rfl⟩ := Int.eq_ofNat_of_zero_le h.1
    exact ⟨k, x, rfl, by simpa using hx⟩
  · cases h
theorem replayed_size (a : GArchive) (i : Int) : (replayed a i).size ≤ 11 := by
  unfold replayed
  split
  · split
    · simp only [GPlayed.size]
      rw [stOk_size (play_ok _ _)]; omega
    · simp [GPlayed.size, GState.size]
  · simp [GPlayed.size, GState.size]
def m_impl_ReplayVisit : MC :=
(.seq (pr [.box 2 0 (.s 0), .alloc 4 1 [.pl (.sc (.int .i64 0)), .pl (.sc (.int .i64 0)), .pl (.sc (.int .i64 0)), .emp 1, .emp 1, .emp 1], .mv 5 (.c (.bool false))] [1,2,4])
(.seq (.seq (pr [.load 6 true 10 (.s 2), .mv 7 (.s 1), .call 8 [] (.f n_impl_MayReplay) [.s 6, .s 7], .un 9 .not (.s 8)] [1,2,4,9])
(.cond (.s 9) (.seq (pr [.build 10 [.pl (.sc (.int .i64 0)), .pl (.sc (.int .i64 0)), .pl (.sc (.int .i64 0)), .emp 1, .emp 1, .emp 1] [], .store 6 (.s 4) (.s 10), .mv 5 (.c (.bool false))] [4,5])
.ret) .skip))
(.seq (pr [.fld 11 (.s 2) 2, .fld 12 (.s 11) 0, .load 13 false 1 (.s 12), .mv 14 (.s 1), .idx 15 4 (.s 13) (.s 14), .load 16 true 4 (.s 15), .call 17 [2, 3, 4] (.f n_impl_PlayContainer) [.s 16], .store 6 (.s 4) (.s 17), .mv 5 (.c (.bool true))] [4,5])
.ret)))
theorem c_impl_ReplayVisit (a : GArchive) (i : Int) (hs : a.size ≤ 1073741824) : Ctr Tryz.prog n_impl_ReplayVisit [aS a.enc, aI i] [rS (replayed a i).enc, rB (mayReplay a i)] := by
  refine ctr_at (M := m_impl_ReplayVisit) (m := 5) (n := 18) (res := [(.cell 4 true 6, [false, false, false, true, true, true]), (.tmp 5, [false])]) hmix Tryz.func49 rfl (by kernel_rfl) rfl (by kernel_rfl) (by kernel_rfl) (Nat.le_of_ble_eq_true rfl) ?_; unfold m_impl_ReplayVisit
  intro hb
  clear hb
  simp only [↓bk_bind, ↓bk_map, ↓bk_ite, ↓bk_some, ↓reduceIte, Nat.reduceEqDiff, Nat.reduceLT, Nat.reduceLeDiff, Nat.reduceAdd, Nat.reduceMul, reduceCtorEq, List.reduceReplicate, go_sem]
  apply callK_of (c_impl_MayReplay a i hs)
  simp only [↓bk_bind, ↓bk_map, ↓bk_ite, ↓bk_some, ↓reduceIte, Nat.reduceEqDiff, Nat.reduceLT, Nat.reduceLeDiff, Nat.reduceAdd, Nat.reduceMul, reduceCtorEq, List.reduceReplicate, go_sem]
  refine And.intro ?_ ?_ <;> intro h
  · rw [replayed_no h, h]
    try exact ⟨⟨rfl, rfl, rfl, rfl, rfl, rfl⟩, rfl⟩
  · obtain ⟨k, x, rfl, hx⟩ := mayReplay_in h
    have hk := len_at hx
    have hk0 : (0 : Int) ≤ (k : Int) := by omega
    have hk1 : (k : Int) < a.Disk.Containers.length := by omega
    simp only [↓bk_bind, ↓bk_map, ↓bk_ite, ↓bk_some, ↓reduceIte, Nat.reduceEqDiff, Nat.reduceLT, Nat.reduceLeDiff, Nat.reduceAdd, Nat.reduceMul, reduceCtorEq, List.reduceReplicate, go_sem, bk_eq hx, hk0, hk1]
    apply callK_of (c_impl_PlayContainer x)
    simp only [↓bk_bind, ↓bk_map, ↓bk_ite, ↓bk_some, ↓reduceIte, Nat.reduceEqDiff, Nat.reduceLT, Nat.reduceLeDiff, Nat.reduceAdd, Nat.reduceMul, reduceCtorEq, List.reduceReplicate, go_sem]
    intros
    rw [replayed_yes h hx, h]
    try exact ⟨⟨rfl, rfl, rfl, rfl, rfl, rfl⟩, rfl⟩
def m_spec_ReplayVisit : MC :=
(.seq (pr [.box 2 0 (.s 0), .alloc 4 1 [.pl (.sc (.int .i64 0)), .pl (.sc (.int .i64 0)), .pl (.sc (.int .i64 0)), .emp 1, .emp 1, .emp 1], .mv 5 (.c (.bool false))] [1,2,4])
(.seq (.seq (pr [.load 6 true 10 (.s 2), .mv 7 (.s 1), .call 8 [] (.f n_spec_MayReplay) [.s 6, .s 7], .un 9 .not (.s 8)] [1,2,4,9])
(.cond (.s 9) (.seq (pr [.build 10 [.pl (.sc (.int .i64 0)), .pl (.sc (.int .i64 0)), .pl (.sc (.int .i64 0)), .emp 1, .emp 1, .emp 1] [], .store 6 (.s 4) (.s 10), .mv 5 (.c (.bool false))] [4,5])
.ret) .skip))
(.seq (pr [.fld 11 (.s 2) 2, .fld 12 (.s 11) 0, .load 13 false 1 (.s 12), .mv 14 (.s 1), .idx 15 4 (.s 13) (.s 14), .load 16 true 4 (.s 15), .call 17 [2, 3, 4] (.f n_spec_PlayContainer) [.s 16], .store 6 (.s 4) (.s 17), .mv 5 (.c (.bool true))] [4,5])
.ret)))
theorem c_spec_ReplayVisit (a : GArchive) (i : Int) (hs : a.size ≤ 1073741824) : Ctr Tryz.prog n_spec_ReplayVisit [aS a.enc, aI i] [rS (replayed a i).enc, rB (mayReplay a i)] := by
  refine ctr_at (M := m_spec_ReplayVisit) (m := 5) (n := 18) (res := [(.cell 4 true 6, [false, false, false, true, true, true]), (.tmp 5, [false])]) hmix Tryz.func48 rfl (by kernel_rfl) rfl (by kernel_rfl) (by kernel_rfl) (Nat.le_of_ble_eq_true rfl) ?_; unfold m_spec_ReplayVisit
  intro hb
  clear hb
  simp only [↓bk_bind, ↓bk_map, ↓bk_ite, ↓bk_some, ↓reduceIte, Nat.reduceEqDiff, Nat.reduceLT, Nat.reduceLeDiff, Nat.reduceAdd, Nat.reduceMul, reduceCtorEq, List.reduceReplicate, go_sem]
  apply callK_of (c_spec_MayReplay a i hs)
  simp only [↓bk_bind, ↓bk_map, ↓bk_ite, ↓bk_some, ↓reduceIte, Nat.reduceEqDiff, Nat.reduceLT, Nat.reduceLeDiff, Nat.reduceAdd, Nat.reduceMul, reduceCtorEq, List.reduceReplicate, go_sem]
  refine And.intro ?_ ?_ <;> intro h
  · rw [replayed_no h, h]
    try exact ⟨⟨rfl, rfl, rfl, rfl, rfl, rfl⟩, rfl⟩
  · obtain ⟨k, x, rfl, hx⟩ := mayReplay_in h
    have hk := len_at hx
    have hk0 : (0 : Int) ≤ (k : Int) := by omega
    have hk1 : (k : Int) < a.Disk.Containers.length := by omega
    simp only [↓bk_bind, ↓bk_map, ↓bk_ite, ↓bk_some, ↓reduceIte, Nat.reduceEqDiff, Nat.reduceLT, Nat.reduceLeDiff, Nat.reduceAdd, Nat.reduceMul, reduceCtorEq, List.reduceReplicate, go_sem, bk_eq hx, hk0, hk1]
    apply callK_of (c_spec_PlayContainer x)
    simp only [↓bk_bind, ↓bk_map, ↓bk_ite, ↓bk_some, ↓reduceIte, Nat.reduceEqDiff, Nat.reduceLT, Nat.reduceLeDiff, Nat.reduceAdd, Nat.reduceMul, reduceCtorEq, List.reduceReplicate, go_sem]
    intros
    rw [replayed_yes h hx, h]
    try exact ⟨⟨rfl, rfl, rfl, rfl, rfl, rfl⟩, rfl⟩
end Go.Proofs.YtbnbgekjjbpljaaGreatR
namespace Go.Proofs.YtbnbgekjjbpljaaGreatR
open Go Go.RowKit Go.Proofs
set_option linter.unusedSimpArgs false
set_option linter.unusedVariables false
def m_laws_FnExactReplayVisit : MC :=
(.seq (pr [.box 2 0 (.s 0), .mv 4 (.c (.bool false))] [1,2])
(.seq (pr [.mv 5 (.c (.int .i64 1048576))] [1,2,5])
(.seq (pr [.load 16 true 10 (.s 2), .mv 17 (.s 5), .call 18 [] (.f n_laws_szArchive) [.s 16, .s 17], .mv 5 (.s 18)] [1,2,5])
(.seq (.seq (pr [.mv 19 (.s 5), .bin 20 false .lss (.s 19) (.c (.int .i64 0))] [1,2,20])
(.cond (.s 20) (.seq (pr [.mv 4 (.c (.bool true))] [4])
.ret) .skip))
(.seq (pr [.load 22 true 10 (.s 2), .call 23 [1, 2, 3, 4, 5, 6, 7, 8, 9] (.f n_laws_toArchive) [.s 22], .mv 24 (.s 1), .call 25 [10, 11, 12] (.f n_spec_ReplayVisit) [.s 23, .s 24], .mv 21 (.s 25), .ext 26 (.s 21) 0, .ext 27 (.s 21) 1, .alloc 6 13 [.pl (.sc (.int .i64 0)), .pl (.sc (.int .i64 0)), .pl (.sc (.int .i64 0)), .emp 1, .emp 1, .emp 1], .store 6 (.s 6) (.s 26), .mv 7 (.s 27)] [1,2,6,7])
(.seq (pr [.load 28 true 10 (.s 2), .call 29 [14, 15, 16, 17, 18, 19, 20, 21, 22] (.f n_laws_toArchive) [.s 28], .alloc 8 23 [.emp 9, .emp 4, .emp 4, .emp 6, .emp 4, .emp 5, .emp 4, .emp 1, .emp 4, .pl (.sc (.int .i64 0))], .store 10 (.s 8) (.s 29)] [1,2,6,7,8])
(.seq (pr [.load 31 true 10 (.s 8), .mv 32 (.s 1), .call 33 [24, 25, 26] (.f n_impl_ReplayVisit) [.s 31, .s 32], .mv 30 (.s 33), .ext 34 (.s 30) 0, .ext 35 (.s 30) 1, .alloc 9 27 [.pl (.sc (.int .i64 0)), .pl (.sc (.int .i64 0)), .pl (.sc (.int .i64 0)), .emp 1, .emp 1, .emp 1], .store 6 (.s 9) (.s 34), .mv 10 (.s 35)] [1,2,6,7,8,9,10])
(.seq (.seq (.reg [{ o := .load 36 true 6 (.s 9) }, { o := .load 37 true 6 (.s 6) }, { o := .call 38 [] (.f n_laws_eqPlayed) [.s 36, .s 37] }, { o := .un 39 .not (.s 38) }, { o := .mv 40 (.s 39) }, { o := .mv 41 (.s 10), g := some (40, false) }, { o := .mv 42 (.s 7), g := some (40, false) }, { o := .bin 43 true .neq (.s 41) (.s 42), g := some (40, false) }, { o := .pick 44 (.s 40) (.c (.bool true)) (.s 43) }] [1,2,6,7,8,9,10,44])
(.cond (.s 44) (.seq (pr [.mv 4 (.c (.bool false))] [4])
.ret) .skip))
(.seq (.seq (.dreg [{ o := .load 45 true 10 (.s 8), hs := [46,47], ho := [28,29,30,31,32,33,34,35,36] }, { o := .load 46 true 10 (.s 2), hs := [45] }, { o := .call 47 [28, 29, 30, 31, 32, 33, 34, 35, 36] (.f n_laws_toArchive) [.s 46], hs := [45], ws := [28,29,30,31,32,33,34,35,36], bf := [1] }, { o := .call 48 [] (.f n_laws_eqArchive) [.s 45, .s 47], bf := [0,1,2] }, { o := .un 49 .not (.s 48), bf := [0,1,2,3] }] [1,2,6,7,8,9,10,49])
(.cond (.s 49) (.seq (pr [.mv 4 (.c (.bool false))] [4])
.ret) .skip))
(.seq (pr [.mv 11 (.c (.int .i64 1))] [1,2,6,7,8,9,10,11])
(.seq (pr [.load 50 true 10 (.s 8), .mv 51 (.s 11), .callI 52 [] (.f n_laws_markArchive) [.s 50, .s 51] [14,15,16,17,18,19,20,21,22] [], .mv 11 (.s 52)] [1,2,6,7,9,10,11])
(.seq (.seq (.reg [{ o := .mv 53 (.s 11) }, { o := .bin 54 false .lss (.s 53) (.c (.int .i64 0)) }, { o := .mv 55 (.s 54) }, { o := .load 56 true 6 (.s 9), g := some (55, false) }, { o := .load 57 true 6 (.s 6), g := some (55, false) }, { o := .call 58 [] (.f n_laws_eqPlayed) [.s 56, .s 57], g := some (55, false) }, { o := .un 59 .not (.s 58), g := some (55, false) }, { o := .pick 60 (.s 55) (.c (.bool true)) (.s 59) }, { o := .mv 61 (.s 60) }, { o := .mv 62 (.s 10), g := some (61, false) }, { o := .mv 63 (.s 7), g := some (61, false) }, { o := .bin 64 true .neq (.s 62) (.s 63), g := some (61, false) }, { o := .pick 65 (.s 61) (.c (.bool true)) (.s 64) }] [1,2,6,7,9,65])
(.cond (.s 65) (.seq (pr [.mv 4 (.c (.bool false))] [4])
.ret) .skip))
(.seq (pr [.mv 12 (.c (.int .i64 1))] [1,2,6,7,9,12])
(.seq (pr [.load 66 true 6 (.s 9), .mv 67 (.s 12), .callI 68 [] (.f n_laws_markPlayed) [.s 66, .s 67] [24,25,26] [], .mv 12 (.s 68)] [1,2,6,7,9,12])
(.seq (pr [.mv 13 (.c (.int .i64 1))] [1,2,6,7,9,12,13])
(.seq (pr [.load 69 true 6 (.s 9), .mv 70 (.s 13), .call 71 [] (.f n_laws_heldPlayed) [.s 69, .s 70], .mv 13 (.s 71)] [1,2,6,7,9,12,13])
(.seq (.seq (pr [.mv 72 (.s 13), .bin 73 false .lss (.s 72) (.c (.int .i64 0))] [1,2,6,7,9,12,13,73])
(.cond (.s 73) (.seq (pr [.mv 4 (.c (.bool false))] [4])
.ret) .skip))
(.seq (.seq (pr [.mv 74 (.s 13), .mv 75 (.s 12), .bin 76 false .neq (.s 74) (.s 75)] [1,2,6,7,9,12,76])
(.cond (.s 76) (.seq (pr [.mv 4 (.c (.bool false))] [4])
.ret) .skip))
(.seq (pr [.load 78 true 10 (.s 2), .call 79 [37, 38, 39, 40, 41, 42, 43, 44, 45] (.f n_laws_toArchive) [.s 78], .mv 80 (.s 1), .call 81 [46, 47, 48] (.f n_impl_ReplayVisit) [.s 79, .s 80], .mv 77 (.s 81), .ext 82 (.s 77) 0, .ext 83 (.s 77) 1, .alloc 14 49 [.pl (.sc (.int .i64 0)), .pl (.sc (.int .i64 0)), .pl (.sc (.int .i64 0)), .emp 1, .emp 1, .emp 1], .store 6 (.s 14) (.s 82), .mv 15 (.s 83)] [6,7,9,12,14,15])
(.seq (.seq (.reg [{ o := .load 84 true 6 (.s 14) }, { o := .load 85 true 6 (.s 6) }, { o := .call 86 [] (.f n_laws_eqPlayed) [.s 84, .s 85] }, { o := .un 87 .not (.s 86) }, { o := .mv 88 (.s 87) }, { o := .mv 89 (.s 15), g := some (88, false) }, { o := .mv 90 (.s 7), g := some (88, false) }, { o := .bin 91 true .neq (.s 89) (.s 90), g := some (88, false) }, { o := .pick 92 (.s 88) (.c (.bool true)) (.s 91) }] [9,12,92])
(.cond (.s 92) (.seq (pr [.mv 4 (.c (.bool false))] [4])
.ret) .skip))
(.seq (pr [.mv 13 (.c (.int .i64 1))] [9,12,13])
(.seq (pr [.load 93 true 6 (.s 9), .mv 94 (.s 13), .call 95 [] (.f n_laws_heldPlayed) [.s 93, .s 94], .mv 13 (.s 95)] [12,13])
(.seq (.seq (pr [.mv 96 (.s 13), .bin 97 false .lss (.s 96) (.c (.int .i64 0))] [12,13,97])
(.cond (.s 97) (.seq (pr [.mv 4 (.c (.bool false))] [4])
.ret) .skip))
(.seq (.seq (pr [.mv 98 (.s 13), .mv 99 (.s 12), .bin 100 false .neq (.s 98) (.s 99)] [100])
(.cond (.s 100) (.seq (pr [.mv 4 (.c (.bool false))] [4])
.ret) .skip))
(.seq (pr [.mv 4 (.c (.bool true))] [4])
.ret)))))))))))))))))))))))))
theorem c_laws_FnExactReplayVisit (a : GArchive) (i : Int) : Ctr Tryz.prog n_laws_FnExactReplayVisit [aS a.enc, aI i] [rB true] := by
  refine ctr_at (M := m_laws_FnExactReplayVisit) (m := 50) (n := 101) (res := [(.tmp 4, [false])]) hmix Tryz.func12 rfl (by kernel_rfl) rfl (by kernel_rfl) (by kernel_rfl) (Nat.le_of_ble_eq_true rfl) ?_; unfold m_laws_FnExactReplayVisit
  intro hb
  clear hb
  simp only [↓bk_bind, ↓bk_map, ↓bk_ite, ↓bk_some, ↓reduceIte, Nat.reduceEqDiff, Nat.reduceLT, Nat.reduceLeDiff, Nat.reduceAdd, Nat.reduceMul, reduceCtorEq, List.reduceReplicate, go_sem]
  apply callK_of (c_laws_szArchive a _ (by omega))
  simp only [↓bk_bind, ↓bk_map, ↓bk_ite, ↓bk_some, ↓reduceIte, Nat.reduceEqDiff, Nat.reduceLT, Nat.reduceLeDiff, Nat.reduceAdd, Nat.reduceMul, reduceCtorEq, List.reduceReplicate, go_sem]
  intro _ hz
  have hs := szr_ok hz
  have hc_a := GArchive.cts_le a
  have hr0 := GPlayed.cts_le (replayed a i)
  have hl_replayed_size := replayed_size a i
  apply callK_of (c_laws_toArchive a (by omega))
  simp only [↓bk_bind, ↓bk_map, ↓bk_ite, ↓bk_some, ↓reduceIte, Nat.reduceEqDiff, Nat.reduceLT, Nat.reduceLeDiff, Nat.reduceAdd, Nat.reduceMul, reduceCtorEq, List.reduceReplicate, go_sem]
  try intros
  apply callK_of (c_spec_ReplayVisit a i (by omega))
  simp only [↓bk_bind, ↓bk_map, ↓bk_ite, ↓bk_some, ↓reduceIte, Nat.reduceEqDiff, Nat.reduceLT, Nat.reduceLeDiff, Nat.reduceAdd, Nat.reduceMul, reduceCtorEq, List.reduceReplicate, go_sem]
  try intros
  apply callK_of (c_laws_toArchive a (by omega))
  simp only [↓bk_bind, ↓bk_map, ↓bk_ite, ↓bk_some, ↓reduceIte, Nat.reduceEqDiff, Nat.reduceLT, Nat.reduceLeDiff, Nat.reduceAdd, Nat.reduceMul, reduceCtorEq, List.reduceReplicate, go_sem]
  try intros
  apply callK_of (c_impl_ReplayVisit a i (by omega))
  simp only [↓bk_bind, ↓bk_map, ↓bk_ite, ↓bk_some, ↓reduceIte, Nat.reduceEqDiff, Nat.reduceLT, Nat.reduceLeDiff, Nat.reduceAdd, Nat.reduceMul, reduceCtorEq, List.reduceReplicate, go_sem]
  try intros
  apply callK_of (c_laws_eqPlayed (replayed a i) (replayed a i))
  simp only [↓bk_bind, ↓bk_map, ↓bk_ite, ↓bk_some, ↓reduceIte, Nat.reduceEqDiff, Nat.reduceLT, Nat.reduceLeDiff, Nat.reduceAdd, Nat.reduceMul, reduceCtorEq, List.reduceReplicate, go_sem]
  try intros
  apply callK_of (c_laws_toArchive a (by omega))
  simp only [↓bk_bind, ↓bk_map, ↓bk_ite, ↓bk_some, ↓reduceIte, Nat.reduceEqDiff, Nat.reduceLT, Nat.reduceLeDiff, Nat.reduceAdd, Nat.reduceMul, reduceCtorEq, List.reduceReplicate, go_sem]
  try intros
  apply callK_of (c_laws_eqArchive a a)
  simp only [↓bk_bind, ↓bk_map, ↓bk_ite, ↓bk_some, ↓reduceIte, Nat.reduceEqDiff, Nat.reduceLT, Nat.reduceLeDiff, Nat.reduceAdd, Nat.reduceMul, reduceCtorEq, List.reduceReplicate, go_sem]
  try intros
  apply callIK_of (c_laws_markArchive a (1) (by omega) (by omega))
  simp only [↓bk_bind, ↓bk_map, ↓bk_ite, ↓bk_some, ↓reduceIte, Nat.reduceEqDiff, Nat.reduceLT, Nat.reduceLeDiff, Nat.reduceAdd, Nat.reduceMul, reduceCtorEq, List.reduceReplicate, go_sem]
  try intros
  have hk : ¬ ((1 + ((a).cts : Nat) : Int)) < 0 := by omega
  simp only [↓bk_bind, ↓bk_map, ↓bk_ite, ↓bk_some, ↓reduceIte, Nat.reduceEqDiff, Nat.reduceLT, Nat.reduceLeDiff, Nat.reduceAdd, Nat.reduceMul, reduceCtorEq, List.reduceReplicate, go_sem, hk]
  try intros
  apply callK_of (c_laws_eqPlayed (replayed a i) (replayed a i))
  simp only [↓bk_bind, ↓bk_map, ↓bk_ite, ↓bk_some, ↓reduceIte, Nat.reduceEqDiff, Nat.reduceLT, Nat.reduceLeDiff, Nat.reduceAdd, Nat.reduceMul, reduceCtorEq, List.reduceReplicate, go_sem]
  try intros
  apply callIK_of (c_laws_markPlayed (replayed a i) (1) (by omega) (by omega))
  simp only [↓bk_bind, ↓bk_map, ↓bk_ite, ↓bk_some, ↓reduceIte, Nat.reduceEqDiff, Nat.reduceLT, Nat.reduceLeDiff, Nat.reduceAdd, Nat.reduceMul, reduceCtorEq, List.reduceReplicate, go_sem]
  try intros
  apply callK_of (c_laws_heldPlayed (replayed a i) (1) (by omega) (by omega))
  simp only [↓bk_bind, ↓bk_map, ↓bk_ite, ↓bk_some, ↓reduceIte, Nat.reduceEqDiff, Nat.reduceLT, Nat.reduceLeDiff, Nat.reduceAdd, Nat.reduceMul, reduceCtorEq, List.reduceReplicate, go_sem]
  have hq0 : ¬ ((1 + ((replayed a i).cts : Nat) : Int)) < 0 := by omega
  try simp only [↓bk_bind, ↓bk_map, ↓bk_ite, ↓bk_some, ↓reduceIte, Nat.reduceEqDiff, Nat.reduceLT, Nat.reduceLeDiff, Nat.reduceAdd, Nat.reduceMul, reduceCtorEq, List.reduceReplicate, go_sem, hq0]
  try intros
  apply callK_of (c_laws_toArchive a (by omega))
  simp only [↓bk_bind, ↓bk_map, ↓bk_ite, ↓bk_some, ↓reduceIte, Nat.reduceEqDiff, Nat.reduceLT, Nat.reduceLeDiff, Nat.reduceAdd, Nat.reduceMul, reduceCtorEq, List.reduceReplicate, go_sem]
  try intros
  apply callK_of (c_impl_ReplayVisit a i (by omega))
  simp only [↓bk_bind, ↓bk_map, ↓bk_ite, ↓bk_some, ↓reduceIte, Nat.reduceEqDiff, Nat.reduceLT, Nat.reduceLeDiff, Nat.reduceAdd, Nat.reduceMul, reduceCtorEq, List.reduceReplicate, go_sem]
  try intros
  apply callK_of (c_laws_eqPlayed (replayed a i) (replayed a i))
  simp only [↓bk_bind, ↓bk_map, ↓bk_ite, ↓bk_some, ↓reduceIte, Nat.reduceEqDiff, Nat.reduceLT, Nat.reduceLeDiff, Nat.reduceAdd, Nat.reduceMul, reduceCtorEq, List.reduceReplicate, go_sem]
  try intros
  apply callK_of (c_laws_heldPlayed (replayed a i) (1) (by omega) (by omega))
  simp only [↓bk_bind, ↓bk_map, ↓bk_ite, ↓bk_some, ↓reduceIte, Nat.reduceEqDiff, Nat.reduceLT, Nat.reduceLeDiff, Nat.reduceAdd, Nat.reduceMul, reduceCtorEq, List.reduceReplicate, go_sem]
  have hq0 : ¬ ((1 + ((replayed a i).cts : Nat) : Int)) < 0 := by omega
  try simp only [↓bk_bind, ↓bk_map, ↓bk_ite, ↓bk_some, ↓reduceIte, Nat.reduceEqDiff, Nat.reduceLT, Nat.reduceLeDiff, Nat.reduceAdd, Nat.reduceMul, reduceCtorEq, List.reduceReplicate, go_sem, hq0]
  try intros
end Go.Proofs.YtbnbgekjjbpljaaGreatR
