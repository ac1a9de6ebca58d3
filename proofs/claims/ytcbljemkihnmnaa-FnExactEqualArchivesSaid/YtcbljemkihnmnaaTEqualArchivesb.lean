/- What the functions compute that the law of EqualArchives reaches: contracts, function by function. Conditions stand in each theorem. -/
import Derived.Test.YtcbljemkihnmnaaTEqualArchivesa
namespace Go.Proofs.YtcbljemkihnmnaaR
open Go Go.RowKit Go.Proofs
set_option linter.unusedSimpArgs false
set_option linter.unusedVariables false
attribute [go_sem] eqB
def m_impl_EqualResources : MC :=
(.seq (pr [.box 2 0 (.s 0), .box 3 1 (.s 1), .mv 4 (.c (.bool false))] [2,3])
(.seq (.reg [{ o := .fld 5 (.s 2) 0 }, { o := .load 6 false 1 (.s 5) }, { o := .fld 7 (.s 3) 0 }, { o := .load 8 false 1 (.s 7) }, { o := .bin 9 false .eql (.s 6) (.s 8) }, { o := .mv 10 (.s 9) }, { o := .fld 11 (.s 2) 2, g := some (10, true) }, { o := .load 12 true 3 (.s 11), g := some (10, true) }, { o := .fld 13 (.s 3) 2, g := some (10, true) }, { o := .load 14 true 3 (.s 13), g := some (10, true) }, { o := .eqA 15 false [.i .i64, .i .i64, .i .i64] (.s 12) (.s 14), g := some (10, true) }, { o := .pick 16 (.s 10) (.s 15) (.c (.bool false)) }, { o := .mv 17 (.s 16) }, { o := .fld 18 (.s 2) 1, g := some (17, true) }, { o := .load 19 false 1 (.s 18), g := some (17, true) }, { o := .fld 20 (.s 3) 1, g := some (17, true) }, { o := .load 21 false 1 (.s 20), g := some (17, true) }, { o := .call 22 [] (.f n_slices_Equal_int_int) [.s 19, .s 21], g := some (17, true) }, { o := .pick 23 (.s 17) (.s 22) (.c (.bool false)) }, { o := .mv 4 (.s 23) }] [4])
.ret))
theorem c_impl_EqualResources (a b : GResource) : Ctr Try.prog n_impl_EqualResources [aS a.enc, aS b.enc] [rB (decide (a = b))] := by
  refine ctr_at (M := m_impl_EqualResources) (m := 2) (n := 24) (res := [(.tmp 4, [false])]) hmix Try.func83 rfl (by kernel_rfl) rfl (by kernel_rfl) (by kernel_rfl) (Nat.le_of_ble_eq_true rfl) ?_; unfold m_impl_EqualResources
  intro hb
  clear hb
  simp only [↓bk_bind, ↓bk_map, ↓bk_ite, ↓bk_some, ↓reduceIte, Nat.reduceEqDiff, Nat.reduceLT, Nat.reduceLeDiff, Nat.reduceAdd, Nat.reduceMul, reduceCtorEq, List.reduceReplicate, go_sem]
  refine ⟨fun k => ⟨fun t => ?_, fun t => ?_⟩, fun k => ?_⟩
  · refine callK_of (c_slices_Equal_Int _ _) ?_
    simp only [↓bk_bind, ↓bk_map, ↓bk_ite, ↓bk_some, ↓reduceIte, Nat.reduceEqDiff, Nat.reduceLT, Nat.reduceLeDiff, Nat.reduceAdd, Nat.reduceMul, reduceCtorEq, List.reduceReplicate, go_sem]
    simp_all [GResource.eqv]
  · simp_all [GResource.eqv]
  · simp_all [GResource.eqv]
def m_spec_EqualInts : MC :=
(.seq (pr [.mv 4 (.c (.bool false))] [0,1])
(.seq (.seq (pr [.mv 6 (.s 0), .len 7 false (.s 6), .mv 8 (.s 1), .len 9 false (.s 8), .bin 10 false .neq (.s 7) (.s 9)] [0,1,10])
(.cond (.s 10) (.seq (pr [.mv 4 (.c (.bool false))] [4])
.ret) .skip))
(.seq (.seq (pr [.mv 5 (.c (.int .i64 0))] [0,1,5])
(.block 0 (.loop ([0,1,5], []) (.seq (.seq (pr [.mv 11 (.s 5), .mv 12 (.s 0), .len 13 false (.s 12), .bin 14 false .lss (.s 11) (.s 13)] [0,1,5,14])
(.cond (.s 14) .skip (.exit 0)))
(.seq (.block 1 (.seq (.dreg [{ o := .mv 17 (.s 0), hs := [18,21,22,23,24] }, { o := .mv 18 (.s 5), hs := [17,21,22,23,24] }, { o := .idx 19 1 (.s 17) (.s 18), hs := [21,22,23,24], bf := [0,1] }, { o := .load 20 false 1 (.s 19), hs := [21,22,23,24], bf := [0,1,2] }, { o := .mv 21 (.s 1), hs := [17,18,19,20,22] }, { o := .mv 22 (.s 5), hs := [17,18,19,20,21] }, { o := .idx 23 1 (.s 21) (.s 22), hs := [17,18,19,20], bf := [4,5] }, { o := .load 24 false 1 (.s 23), hs := [17,18,19,20], bf := [4,5,6] }, { o := .bin 25 false .neq (.s 20) (.s 24), bf := [0,1,2,3,4,5,6,7] }] [0,1,5,25])
(.cond (.s 25) (.seq (pr [.mv 4 (.c (.bool false))] [4])
.ret) .skip)))
(pr [.mv 15 (.s 5), .bin 16 false .add (.s 15) (.c (.int .i64 1)), .mv 5 (.s 16)] [0,1,5]))))))
(.seq (pr [.mv 4 (.c (.bool true))] [4])
.ret))))
theorem c_spec_EqualInts (xs ys : List Int) : Ctr Try.prog n_spec_EqualInts [aL 1 (xs.map encI), aL 1 (ys.map encI)] [rB (decide (xs = ys))] := by
  refine ctr_at (M := m_spec_EqualInts) (m := 0) (n := 26) (res := [(.tmp 4, [false])]) hmix Try.func76 rfl (by kernel_rfl) rfl (by kernel_rfl) (by kernel_rfl) (Nat.le_of_ble_eq_true rfl) ?_; unfold m_spec_EqualInts
  intro hb
  simp only [bdA, bdL, bdT, bdR, bdR_map, wfB_i64, wfB_bool, wfB_str, roomB, and_true, true_and, List.length_map] at hb
  obtain ⟨⟨hl, -⟩, ⟨hl2, -⟩⟩ := hb
  simp only [↓bk_bind, ↓bk_map, ↓bk_ite, ↓bk_some, ↓reduceIte, Nat.reduceEqDiff, Nat.reduceLT, Nat.reduceLeDiff, Nat.reduceAdd, Nat.reduceMul, reduceCtorEq, List.reduceReplicate, go_sem]
  refine ⟨fun h => ne_len h, fun h => ?_⟩
  have hle : xs.length = ys.length := by omega
  refine loopK_rng xs (fun k => [(5, vI k)]) (fun k => []) (fun k => xs.take k = ys.take k) hl ?_
  simp only [↓bk_bind, ↓bk_map, ↓bk_ite, ↓bk_some, ↓reduceIte, Nat.reduceEqDiff, Nat.reduceLT, Nat.reduceLeDiff, Nat.reduceAdd, Nat.reduceMul, reduceCtorEq, List.reduceReplicate, go_sem]
  refine ⟨?_, rfl, ?_, ?_⟩
  · simp only [↓bk_bind, ↓bk_map, ↓bk_ite, ↓bk_some, ↓reduceIte, Nat.reduceEqDiff, Nat.reduceLT, Nat.reduceLeDiff, Nat.reduceAdd, Nat.reduceMul, reduceCtorEq, List.reduceReplicate, go_sem]
  · intro k x hx he h0 h1 hw
    obtain ⟨y, hy⟩ := at_some (show k < ys.length by omega)
    have h2 : (k : Int) < ys.length := by omega
    simp only [↓bk_bind, ↓bk_map, ↓bk_ite, ↓bk_some, ↓reduceIte, Nat.reduceEqDiff, Nat.reduceLT, Nat.reduceLeDiff, Nat.reduceAdd, Nat.reduceMul, reduceCtorEq, List.reduceReplicate, go_sem, bk_eq hx, bk_eq hy, h0, h1, h2, hw]
    exact ⟨fun hn => ne_at hx hy (by simpa using hn), fun hn => (take_eq_step hx hy he).2 (by simpa using hn)⟩
  · intro he
    simp only [↓bk_bind, ↓bk_map, ↓bk_ite, ↓bk_some, ↓reduceIte, Nat.reduceEqDiff, Nat.reduceLT, Nat.reduceLeDiff, Nat.reduceAdd, Nat.reduceMul, reduceCtorEq, List.reduceReplicate, go_sem]
    exact eq_all he hle
def scriptInts (xs : List GOp) : List Int := xs.flatMap fun o => [o.Kind, o.A, o.B, o.C]
theorem scriptInts_inj : ∀ {xs ys : List GOp}, scriptInts xs = scriptInts ys ↔ xs = ys
  | [], [] => by simp
  | x :: xs, y :: ys => by
    have ih := scriptInts_inj (xs := xs) (ys := ys)
    simp only [scriptInts, List.flatMap_cons, List.cons_append, List.nil_append, List.cons.injEq] at ih ⊢
    rw [ih, GOp.eqv]
    simp only [and_assoc]
  | [], _ :: _ => by simp [scriptInts]
  | _ :: _, [] => by simp [scriptInts]
theorem scriptInts_snoc {l : List GOp} {k : Nat} {x : GOp} (h : l[k]? = some x) : scriptInts (l.take (k + 1)) = scriptInts (l.take k) ++ [x.Kind, x.A, x.B, x.C] := by
  rw [take_snoc h, scriptInts, List.flatMap_append]; rfl
theorem scriptInts_len {l : List GOp} : (scriptInts l).length = 4 * l.length := by
  induction l with
  | nil => rfl
  | cons x l ih => simp only [scriptInts, List.flatMap_cons, List.length_append, List.length_cons, List.length_nil] at ih ⊢; omega
def m_spec_ScriptInts : MC :=
(.seq (pr [.nilo 2 0 1] [0])
(.seq (pr [.lit 5 0 1 8 [], .mv 3 (.s 5)] [0,3])
(.seq (.seq (pr [.mv 4 (.c (.int .i64 0))] [0,3,4])
(.block 0 (.loop ([0,3,4], [1]) (.seq (.seq (pr [.mv 6 (.s 4), .mv 7 (.s 0), .len 8 false (.s 7), .bin 9 false .lss (.s 6) (.s 8)] [0,3,4,9])
(.cond (.s 9) .skip (.exit 0)))
(.seq (.block 1 (.dreg [{ o := .mv 12 (.s 3), hs := [13,14,15,16,17,18,19,20,21,22,23,24,25,26,27,28,29,30,31,32,33], ho := [1] }, { o := .mv 13 (.s 0), hs := [12,14,18,19,20,21,22,23,24,25,26,27,28,29,30,31,32] }, { o := .mv 14 (.s 4), hs := [12,13,18,19,20,21,22,23,24,25,26,27,28,29,30,31,32] }, { o := .idx 15 4 (.s 13) (.s 14), hs := [12,18,19,20,21,22,23,24,25,26,27,28,29,30,31,32], bf := [1,2] }, { o := .fld 16 (.s 15) 0, hs := [12,18,19,20,21,22,23,24,25,26,27,28,29,30,31,32], bf := [1,2,3] }, { o := .load 17 false 1 (.s 16), hs := [12,18,19,20,21,22,23,24,25,26,27,28,29,30,31,32], bf := [1,2,3,4] }, { o := .mv 18 (.s 0), hs := [12,13,14,15,16,17,19,23,24,25,26,27,28,29,30,31,32] }, { o := .mv 19 (.s 4), hs := [12,13,14,15,16,17,18,23,24,25,26,27,28,29,30,31,32] }, { o := .idx 20 4 (.s 18) (.s 19), hs := [12,13,14,15,16,17,23,24,25,26,27,28,29,30,31,32], bf := [6,7] }, { o := .fld 21 (.s 20) 1, hs := [12,13,14,15,16,17,23,24,25,26,27,28,29,30,31,32], bf := [6,7,8] }, { o := .load 22 false 1 (.s 21), hs := [12,13,14,15,16,17,23,24,25,26,27,28,29,30,31,32], bf := [6,7,8,9] }, { o := .mv 23 (.s 0), hs := [12,13,14,15,16,17,18,19,20,21,22,24,28,29,30,31,32] }, { o := .mv 24 (.s 4), hs := [12,13,14,15,16,17,18,19,20,21,22,23,28,29,30,31,32] }, { o := .idx 25 4 (.s 23) (.s 24), hs := [12,13,14,15,16,17,18,19,20,21,22,28,29,30,31,32], bf := [11,12] }, { o := .fld 26 (.s 25) 2, hs := [12,13,14,15,16,17,18,19,20,21,22,28,29,30,31,32], bf := [11,12,13] }, { o := .load 27 false 1 (.s 26), hs := [12,13,14,15,16,17,18,19,20,21,22,28,29,30,31,32], bf := [11,12,13,14] }, { o := .mv 28 (.s 0), hs := [12,13,14,15,16,17,18,19,20,21,22,23,24,25,26,27,29] }, { o := .mv 29 (.s 4), hs := [12,13,14,15,16,17,18,19,20,21,22,23,24,25,26,27,28] }, { o := .idx 30 4 (.s 28) (.s 29), hs := [12,13,14,15,16,17,18,19,20,21,22,23,24,25,26,27], bf := [16,17] }, { o := .fld 31 (.s 30) 3, hs := [12,13,14,15,16,17,18,19,20,21,22,23,24,25,26,27], bf := [16,17,18] }, { o := .load 32 false 1 (.s 31), hs := [12,13,14,15,16,17,18,19,20,21,22,23,24,25,26,27], bf := [16,17,18,19] }, { o := .lit 33 1 1 8 [.s 17, .s 22, .s 27, .s 32], hs := [12], ws := [1], bf := [1,2,3,4,5,6,7,8,9,10,11,12,13,14,15,16,17,18,19,20] }, { o := .app 34 0 1 8 (.s 12) (.s 33), ws := [0,1], bf := [0,1,2,3,4,5,6,7,8,9,10,11,12,13,14,15,16,17,18,19,20,21] }, { o := .mv 3 (.s 34), bf := [0,1,2,3,4,5,6,7,8,9,10,11,12,13,14,15,16,17,18,19,20,21,22] }] [0,3,4]))
(pr [.mv 10 (.s 4), .bin 11 false .add (.s 10) (.c (.int .i64 1)), .mv 4 (.s 11)] [0,3,4]))))))
(.seq (pr [.mv 35 (.s 3), .mv 2 (.s 35)] [2])
.ret))))
theorem c_spec_ScriptInts (xs : List GOp) (hN : xs.length ≤ 1099511627776) : Ctr Try.prog n_spec_ScriptInts [aL 4 (xs.map GOp.enc)] [rL 1 ((scriptInts xs).map encI)] := by
  refine ctr_at (M := m_spec_ScriptInts) (m := 2) (n := 36) (res := [(.tmp 2, [true])]) hmix Try.func77 rfl (by kernel_rfl) rfl (by kernel_rfl) (by kernel_rfl) (Nat.le_of_ble_eq_true rfl) ?_; unfold m_spec_ScriptInts
  intro hb
  simp only [bdA, bdL, bdT, bdR, bdR_map, wfB_i64, wfB_bool, wfB_str, roomB, and_true, true_and, List.length_map] at hb
  obtain ⟨hl, -⟩ := hb
  simp only [↓bk_bind, ↓bk_map, ↓bk_ite, ↓bk_some, ↓reduceIte, Nat.reduceEqDiff, Nat.reduceLT, Nat.reduceLeDiff, Nat.reduceAdd, Nat.reduceMul, reduceCtorEq, List.reduceReplicate, go_sem]
  refine loopK_rng xs (fun k => [(3, .val false [.ref 0 0 1 0 (scriptInts (xs.take k)).length]), (4, vI k)]) (fun k => [(0, ⟨0, .row true 1 ((scriptInts (xs.take k)).map encI)⟩)]) (fun _ => True) hl ?_
  simp only [↓bk_bind, ↓bk_map, ↓bk_ite, ↓bk_some, ↓reduceIte, Nat.reduceEqDiff, Nat.reduceLT, Nat.reduceLeDiff, Nat.reduceAdd, Nat.reduceMul, reduceCtorEq, List.reduceReplicate, go_sem]
  refine ⟨?_, trivial, ?_, ?_⟩
  · simp only [↓bk_bind, ↓bk_map, ↓bk_ite, ↓bk_some, ↓reduceIte, Nat.reduceEqDiff, Nat.reduceLT, Nat.reduceLeDiff, Nat.reduceAdd, Nat.reduceMul, reduceCtorEq, List.reduceReplicate, go_sem, List.take_zero]
    exact ⟨rfl, rfl⟩
  · intro k x hx _ h0 h1 hw
    have hlt := List.length_take_le k xs
    simp only [↓bk_bind, ↓bk_map, ↓bk_ite, ↓bk_some, ↓reduceIte, Nat.reduceEqDiff, Nat.reduceLT, Nat.reduceLeDiff, Nat.reduceAdd, Nat.reduceMul, reduceCtorEq, List.reduceReplicate, go_sem, bk_eq hx, h0, h1, hw, scriptInts_snoc hx, List.length_append, scriptInts_len]
    refine ⟨⟨by simp, by decide⟩, by simp only [roomB]; omega, by simp [encI]⟩
  · intro _
    simp only [↓bk_bind, ↓bk_map, ↓bk_ite, ↓bk_some, ↓reduceIte, Nat.reduceEqDiff, Nat.reduceLT, Nat.reduceLeDiff, Nat.reduceAdd, Nat.reduceMul, reduceCtorEq, List.reduceReplicate, go_sem, List.take_length]
def m_spec_EqualResources : MC :=
(.seq (pr [.box 2 0 (.s 0), .box 3 1 (.s 1), .mv 4 (.c (.bool false))] [2,3])
(.seq (.reg [{ o := .fld 5 (.s 2) 0 }, { o := .load 6 false 1 (.s 5) }, { o := .fld 7 (.s 3) 0 }, { o := .load 8 false 1 (.s 7) }, { o := .bin 9 false .eql (.s 6) (.s 8) }, { o := .mv 10 (.s 9) }, { o := .fld 11 (.s 2) 2, g := some (10, true) }, { o := .load 12 true 3 (.s 11), g := some (10, true) }, { o := .fld 13 (.s 3) 2, g := some (10, true) }, { o := .load 14 true 3 (.s 13), g := some (10, true) }, { o := .eqA 15 false [.i .i64, .i .i64, .i .i64] (.s 12) (.s 14), g := some (10, true) }, { o := .pick 16 (.s 10) (.s 15) (.c (.bool false)) }, { o := .mv 17 (.s 16) }, { o := .fld 18 (.s 2) 1, g := some (17, true) }, { o := .load 19 false 1 (.s 18), g := some (17, true) }, { o := .fld 20 (.s 3) 1, g := some (17, true) }, { o := .load 21 false 1 (.s 20), g := some (17, true) }, { o := .call 22 [] (.f n_spec_EqualInts) [.s 19, .s 21], g := some (17, true) }, { o := .pick 23 (.s 17) (.s 22) (.c (.bool false)) }, { o := .mv 4 (.s 23) }] [4])
.ret))
theorem c_spec_EqualResources (a b : GResource) : Ctr Try.prog n_spec_EqualResources [aS a.enc, aS b.enc] [rB (decide (a = b))] := by
  refine ctr_at (M := m_spec_EqualResources) (m := 2) (n := 24) (res := [(.tmp 4, [false])]) hmix Try.func114 rfl (by kernel_rfl) rfl (by kernel_rfl) (by kernel_rfl) (Nat.le_of_ble_eq_true rfl) ?_; unfold m_spec_EqualResources
  intro hb
  clear hb
  simp only [↓bk_bind, ↓bk_map, ↓bk_ite, ↓bk_some, ↓reduceIte, Nat.reduceEqDiff, Nat.reduceLT, Nat.reduceLeDiff, Nat.reduceAdd, Nat.reduceMul, reduceCtorEq, List.reduceReplicate, go_sem]
  refine ⟨fun k => ⟨fun t => ?_, fun t => ?_⟩, fun k => ?_⟩
  · refine callK_of (c_spec_EqualInts _ _) ?_
    simp only [↓bk_bind, ↓bk_map, ↓bk_ite, ↓bk_some, ↓reduceIte, Nat.reduceEqDiff, Nat.reduceLT, Nat.reduceLeDiff, Nat.reduceAdd, Nat.reduceMul, reduceCtorEq, List.reduceReplicate, go_sem]
    simp_all [GResource.eqv]
  · simp_all [GResource.eqv]
  · simp_all [GResource.eqv]
def m_spec_l15Same : MC :=
(.seq (pr [.box 2 0 (.s 0), .box 3 1 (.s 1), .mv 4 (.c (.bool false))] [2,3])
(.seq (.reg [{ o := .fld 5 (.s 2) 0 }, { o := .load 6 true 3 (.s 5) }, { o := .fld 7 (.s 3) 0 }, { o := .load 8 true 3 (.s 7) }, { o := .eqA 9 false [.i .i64, .i .i64, .i .i64] (.s 6) (.s 8) }, { o := .mv 10 (.s 9) }, { o := .fld 11 (.s 2) 3, g := some (10, true) }, { o := .load 12 false 1 (.s 11), g := some (10, true) }, { o := .fld 13 (.s 3) 3, g := some (10, true) }, { o := .load 14 false 1 (.s 13), g := some (10, true) }, { o := .bin 15 false .eql (.s 12) (.s 14), g := some (10, true) }, { o := .pick 16 (.s 10) (.s 15) (.c (.bool false)) }, { o := .mv 17 (.s 16) }, { o := .fld 18 (.s 2) 4, g := some (17, true) }, { o := .load 19 true 5 (.s 18), g := some (17, true) }, { o := .fld 20 (.s 3) 4, g := some (17, true) }, { o := .load 21 true 5 (.s 20), g := some (17, true) }, { o := .call 22 [] (.f n_spec_EqualResources) [.s 19, .s 21], g := some (17, true) }, { o := .pick 23 (.s 17) (.s 22) (.c (.bool false)) }, { o := .mv 4 (.s 23) }] [4])
.ret))
theorem c_spec_l15Same (a b : GCapture) : Ctr Try.prog n_spec_l15Same [aS a.enc, aS b.enc] [rB (decide (a = b))] := by
  refine ctr_at (M := m_spec_l15Same) (m := 2) (n := 24) (res := [(.tmp 4, [false])]) hmix Try.func140 rfl (by kernel_rfl) rfl (by kernel_rfl) (by kernel_rfl) (Nat.le_of_ble_eq_true rfl) ?_; unfold m_spec_l15Same
  intro hb
  clear hb
  simp only [↓bk_bind, ↓bk_map, ↓bk_ite, ↓bk_some, ↓reduceIte, Nat.reduceEqDiff, Nat.reduceLT, Nat.reduceLeDiff, Nat.reduceAdd, Nat.reduceMul, reduceCtorEq, List.reduceReplicate, go_sem]
  refine ⟨fun k => ⟨fun t => ?_, fun t => ?_⟩, fun k => ?_⟩
  · refine callK_of (c_spec_EqualResources a.Resource b.Resource) ?_
    simp only [↓bk_bind, ↓bk_map, ↓bk_ite, ↓bk_some, ↓reduceIte, Nat.reduceEqDiff, Nat.reduceLT, Nat.reduceLeDiff, Nat.reduceAdd, Nat.reduceMul, reduceCtorEq, List.reduceReplicate, go_sem]
    simp_all [GCapture.eqv, GResource.eqv]
  · simp_all [GCapture.eqv, GResource.eqv]
  · simp_all [GCapture.eqv, GResource.eqv]
def m_impl_sameCapture : MC :=
(.seq (pr [.box 2 0 (.s 0), .box 3 1 (.s 1), .mv 4 (.c (.bool false))] [2,3])
(.seq (.reg [{ o := .fld 5 (.s 2) 0 }, { o := .load 6 true 3 (.s 5) }, { o := .fld 7 (.s 3) 0 }, { o := .load 8 true 3 (.s 7) }, { o := .eqA 9 false [.i .i64, .i .i64, .i .i64] (.s 6) (.s 8) }, { o := .mv 10 (.s 9) }, { o := .fld 11 (.s 2) 3, g := some (10, true) }, { o := .load 12 false 1 (.s 11), g := some (10, true) }, { o := .fld 13 (.s 3) 3, g := some (10, true) }, { o := .load 14 false 1 (.s 13), g := some (10, true) }, { o := .bin 15 false .eql (.s 12) (.s 14), g := some (10, true) }, { o := .pick 16 (.s 10) (.s 15) (.c (.bool false)) }, { o := .mv 17 (.s 16) }, { o := .fld 18 (.s 2) 4, g := some (17, true) }, { o := .load 19 true 5 (.s 18), g := some (17, true) }, { o := .fld 20 (.s 3) 4, g := some (17, true) }, { o := .load 21 true 5 (.s 20), g := some (17, true) }, { o := .call 22 [] (.f n_impl_EqualResources) [.s 19, .s 21], g := some (17, true) }, { o := .pick 23 (.s 17) (.s 22) (.c (.bool false)) }, { o := .mv 4 (.s 23) }] [4])
.ret))
theorem c_impl_sameCapture (a b : GCapture) : Ctr Try.prog n_impl_sameCapture [aS a.enc, aS b.enc] [rB (decide (a = b))] := by
  refine ctr_at (M := m_impl_sameCapture) (m := 2) (n := 24) (res := [(.tmp 4, [false])]) hmix Try.func133 rfl (by kernel_rfl) rfl (by kernel_rfl) (by kernel_rfl) (Nat.le_of_ble_eq_true rfl) ?_; unfold m_impl_sameCapture
  intro hb
  clear hb
  simp only [↓bk_bind, ↓bk_map, ↓bk_ite, ↓bk_some, ↓reduceIte, Nat.reduceEqDiff, Nat.reduceLT, Nat.reduceLeDiff, Nat.reduceAdd, Nat.reduceMul, reduceCtorEq, List.reduceReplicate, go_sem]
  refine ⟨fun k => ⟨fun t => ?_, fun t => ?_⟩, fun k => ?_⟩
  · refine callK_of (c_impl_EqualResources a.Resource b.Resource) ?_
    simp only [↓bk_bind, ↓bk_map, ↓bk_ite, ↓bk_some, ↓reduceIte, Nat.reduceEqDiff, Nat.reduceLT, Nat.reduceLeDiff, Nat.reduceAdd, Nat.reduceMul, reduceCtorEq, List.reduceReplicate, go_sem]
    simp_all [GCapture.eqv, GResource.eqv]
  · simp_all [GCapture.eqv, GResource.eqv]
  · simp_all [GCapture.eqv, GResource.eqv]
def m_spec_EqualEntries : MC :=
(.seq (pr [.mv 4 (.c (.bool false))] [0,1])
(.seq (.seq (pr [.mv 6 (.s 0), .len 7 false (.s 6), .mv 8 (.s 1), .len 9 false (.s 8), .bin 10 false .neq (.s 7) (.s 9)] [0,1,10])
(.cond (.s 10) (.seq (pr [.mv 4 (.c (.bool false))] [4])
.ret) .skip))
(.seq (.seq (pr [.mv 5 (.c (.int .i64 0))] [0,1,5])
(.block 0 (.loop ([0,1,5], []) (.seq (.seq (pr [.mv 11 (.s 5), .mv 12 (.s 0), .len 13 false (.s 12), .bin 14 false .lss (.s 11) (.s 13)] [0,1,5,14])
(.cond (.s 14) .skip (.exit 0)))
(.seq (.block 1 (.seq (.dreg [{ o := .mv 17 (.s 0), hs := [18,21,22,23,24] }, { o := .mv 18 (.s 5), hs := [17,21,22,23,24] }, { o := .idx 19 5 (.s 17) (.s 18), hs := [21,22,23,24], bf := [0,1] }, { o := .load 20 true 5 (.s 19), hs := [21,22,23,24], bf := [0,1,2] }, { o := .mv 21 (.s 1), hs := [17,18,19,20,22] }, { o := .mv 22 (.s 5), hs := [17,18,19,20,21] }, { o := .idx 23 5 (.s 21) (.s 22), hs := [17,18,19,20], bf := [4,5] }, { o := .load 24 true 5 (.s 23), hs := [17,18,19,20], bf := [4,5,6] }, { o := .eqA 25 true [.i .i64, .i .i64, .i .i64, .i .i64, .i .i64] (.s 20) (.s 24), bf := [0,1,2,3,4,5,6,7] }] [0,1,5,25])
(.cond (.s 25) (.seq (pr [.mv 4 (.c (.bool false))] [4])
.ret) .skip)))
(pr [.mv 15 (.s 5), .bin 16 false .add (.s 15) (.c (.int .i64 1)), .mv 5 (.s 16)] [0,1,5]))))))
(.seq (pr [.mv 4 (.c (.bool true))] [4])
.ret))))
theorem c_spec_EqualEntries (xs ys : List GEntry) : Ctr Try.prog n_spec_EqualEntries [aL 5 (xs.map GEntry.enc), aL 5 (ys.map GEntry.enc)] [rB (decide (xs = ys))] := by
  refine ctr_at (M := m_spec_EqualEntries) (m := 0) (n := 26) (res := [(.tmp 4, [false])]) hmix Try.func129 rfl (by kernel_rfl) rfl (by kernel_rfl) (by kernel_rfl) (Nat.le_of_ble_eq_true rfl) ?_; unfold m_spec_EqualEntries
  intro hb
  simp only [bdA, bdL, bdT, bdR, bdR_map, wfB_i64, wfB_bool, wfB_str, roomB, and_true, true_and, List.length_map] at hb
  obtain ⟨⟨hl, -⟩, ⟨hl2, -⟩⟩ := hb
  simp only [↓bk_bind, ↓bk_map, ↓bk_ite, ↓bk_some, ↓reduceIte, Nat.reduceEqDiff, Nat.reduceLT, Nat.reduceLeDiff, Nat.reduceAdd, Nat.reduceMul, reduceCtorEq, List.reduceReplicate, go_sem]
  refine ⟨fun h => ne_len h, fun h => ?_⟩
  have hle : xs.length = ys.length := by omega
  refine loopK_rng xs (fun k => [(5, vI k)]) (fun k => []) (fun k => xs.take k = ys.take k) hl ?_
  simp only [↓bk_bind, ↓bk_map, ↓bk_ite, ↓bk_some, ↓reduceIte, Nat.reduceEqDiff, Nat.reduceLT, Nat.reduceLeDiff, Nat.reduceAdd, Nat.reduceMul, reduceCtorEq, List.reduceReplicate, go_sem]
  refine ⟨?_, rfl, ?_, ?_⟩
  · simp only [↓bk_bind, ↓bk_map, ↓bk_ite, ↓bk_some, ↓reduceIte, Nat.reduceEqDiff, Nat.reduceLT, Nat.reduceLeDiff, Nat.reduceAdd, Nat.reduceMul, reduceCtorEq, List.reduceReplicate, go_sem]
  · intro k x hx he h0 h1 hw
    obtain ⟨y, hy⟩ := at_some (show k < ys.length by omega)
    have h2 : (k : Int) < ys.length := by omega
    simp only [↓bk_bind, ↓bk_map, ↓bk_ite, ↓bk_some, ↓reduceIte, Nat.reduceEqDiff, Nat.reduceLT, Nat.reduceLeDiff, Nat.reduceAdd, Nat.reduceMul, reduceCtorEq, List.reduceReplicate, go_sem, bk_eq hx, bk_eq hy, h0, h1, h2, hw]
    exact ⟨fun hn => ne_at hx hy (by rintro rfl; simp at hn), fun hn => (take_eq_step hx hy he).2 (by exact GEntry.eqv.2 (by simpa using hn))⟩
  · intro he
    simp only [↓bk_bind, ↓bk_map, ↓bk_ite, ↓bk_some, ↓reduceIte, Nat.reduceEqDiff, Nat.reduceLT, Nat.reduceLeDiff, Nat.reduceAdd, Nat.reduceMul, reduceCtorEq, List.reduceReplicate, go_sem]
    exact eq_all he hle
def m_spec_l31Same : MC :=
(.seq (pr [.mv 4 (.c (.bool false))] [0,1])
(.seq (.seq (pr [.mv 6 (.s 0), .len 7 false (.s 6), .mv 8 (.s 1), .len 9 false (.s 8), .bin 10 false .neq (.s 7) (.s 9)] [0,1,10])
(.cond (.s 10) (.seq (pr [.mv 4 (.c (.bool false))] [4])
.ret) .skip))
(.seq (.seq (pr [.mv 5 (.c (.int .i64 0))] [0,1,5])
(.block 0 (.loop ([0,1,5], []) (.seq (.seq (pr [.mv 11 (.s 5), .mv 12 (.s 0), .len 13 false (.s 12), .bin 14 false .lss (.s 11) (.s 13)] [0,1,5,14])
(.cond (.s 14) .skip (.exit 0)))
(.seq (.block 1 (.seq (.dreg [{ o := .mv 17 (.s 0), hs := [18,21,22,23,24] }, { o := .mv 18 (.s 5), hs := [17,21,22,23,24] }, { o := .idx 19 6 (.s 17) (.s 18), hs := [21,22,23,24], bf := [0,1] }, { o := .load 20 true 6 (.s 19), hs := [21,22,23,24], bf := [0,1,2] }, { o := .mv 21 (.s 1), hs := [17,18,19,20,22] }, { o := .mv 22 (.s 5), hs := [17,18,19,20,21] }, { o := .idx 23 6 (.s 21) (.s 22), hs := [17,18,19,20], bf := [4,5] }, { o := .load 24 true 6 (.s 23), hs := [17,18,19,20], bf := [4,5,6] }, { o := .eqA 25 true [.i .i64, .i .i64, .i .i64, .i .i64, .i .i64, .i .i64] (.s 20) (.s 24), bf := [0,1,2,3,4,5,6,7] }] [0,1,5,25])
(.cond (.s 25) (.seq (pr [.mv 4 (.c (.bool false))] [4])
.ret) .skip)))
(pr [.mv 15 (.s 5), .bin 16 false .add (.s 15) (.c (.int .i64 1)), .mv 5 (.s 16)] [0,1,5]))))))
(.seq (pr [.mv 4 (.c (.bool true))] [4])
.ret))))
theorem c_spec_l31Same (xs ys : List GFound) : Ctr Try.prog n_spec_l31Same [aL 6 (xs.map GFound.enc), aL 6 (ys.map GFound.enc)] [rB (decide (xs = ys))] := by
  refine ctr_at (M := m_spec_l31Same) (m := 0) (n := 26) (res := [(.tmp 4, [false])]) hmix Try.func79 rfl (by kernel_rfl) rfl (by kernel_rfl) (by kernel_rfl) (Nat.le_of_ble_eq_true rfl) ?_; unfold m_spec_l31Same
  intro hb
  simp only [bdA, bdL, bdT, bdR, bdR_map, wfB_i64, wfB_bool, wfB_str, roomB, and_true, true_and, List.length_map] at hb
  obtain ⟨⟨hl, -⟩, ⟨hl2, -⟩⟩ := hb
  simp only [↓bk_bind, ↓bk_map, ↓bk_ite, ↓bk_some, ↓reduceIte, Nat.reduceEqDiff, Nat.reduceLT, Nat.reduceLeDiff, Nat.reduceAdd, Nat.reduceMul, reduceCtorEq, List.reduceReplicate, go_sem]
  refine ⟨fun h => ne_len h, fun h => ?_⟩
  have hle : xs.length = ys.length := by omega
  refine loopK_rng xs (fun k => [(5, vI k)]) (fun k => []) (fun k => xs.take k = ys.take k) hl ?_
  simp only [↓bk_bind, ↓bk_map, ↓bk_ite, ↓bk_some, ↓reduceIte, Nat.reduceEqDiff, Nat.reduceLT, Nat.reduceLeDiff, Nat.reduceAdd, Nat.reduceMul, reduceCtorEq, List.reduceReplicate, go_sem]
  refine ⟨?_, rfl, ?_, ?_⟩
  · simp only [↓bk_bind, ↓bk_map, ↓bk_ite, ↓bk_some, ↓reduceIte, Nat.reduceEqDiff, Nat.reduceLT, Nat.reduceLeDiff, Nat.reduceAdd, Nat.reduceMul, reduceCtorEq, List.reduceReplicate, go_sem]
  · intro k x hx he h0 h1 hw
    obtain ⟨y, hy⟩ := at_some (show k < ys.length by omega)
    have h2 : (k : Int) < ys.length := by omega
    simp only [↓bk_bind, ↓bk_map, ↓bk_ite, ↓bk_some, ↓reduceIte, Nat.reduceEqDiff, Nat.reduceLT, Nat.reduceLeDiff, Nat.reduceAdd, Nat.reduceMul, reduceCtorEq, List.reduceReplicate, go_sem, bk_eq hx, bk_eq hy, h0, h1, h2, hw]
    exact ⟨fun hn => ne_at hx hy (by rintro rfl; simp at hn), fun hn => (take_eq_step hx hy he).2 (by exact GFound.eqv.2 (by simpa using hn))⟩
  · intro he
    simp only [↓bk_bind, ↓bk_map, ↓bk_ite, ↓bk_some, ↓reduceIte, Nat.reduceEqDiff, Nat.reduceLT, Nat.reduceLeDiff, Nat.reduceAdd, Nat.reduceMul, reduceCtorEq, List.reduceReplicate, go_sem]
    exact eq_all he hle
def m_spec_EqualCaptures : MC :=
(.seq (pr [.mv 4 (.c (.bool false))] [0,1])
(.seq (.seq (pr [.mv 6 (.s 0), .len 7 false (.s 6), .mv 8 (.s 1), .len 9 false (.s 8), .bin 10 false .neq (.s 7) (.s 9)] [0,1,10])
(.cond (.s 10) (.seq (pr [.mv 4 (.c (.bool false))] [4])
.ret) .skip))
(.seq (.seq (pr [.mv 5 (.c (.int .i64 0))] [0,1,5])
(.block 0 (.loop ([0,1,5], []) (.seq (.seq (pr [.mv 11 (.s 5), .mv 12 (.s 0), .len 13 false (.s 12), .bin 14 false .lss (.s 11) (.s 13)] [0,1,5,14])
(.cond (.s 14) .skip (.exit 0)))
(.seq (.block 1 (.seq (.dreg [{ o := .mv 17 (.s 0), hs := [18,21,22,23,24] }, { o := .mv 18 (.s 5), hs := [17,21,22,23,24] }, { o := .idx 19 9 (.s 17) (.s 18), hs := [21,22,23,24], bf := [0,1] }, { o := .load 20 true 9 (.s 19), hs := [21,22,23,24], bf := [0,1,2] }, { o := .mv 21 (.s 1), hs := [17,18,19,20,22] }, { o := .mv 22 (.s 5), hs := [17,18,19,20,21] }, { o := .idx 23 9 (.s 21) (.s 22), hs := [17,18,19,20], bf := [4,5] }, { o := .load 24 true 9 (.s 23), hs := [17,18,19,20], bf := [4,5,6] }, { o := .call 25 [] (.f n_spec_l15Same) [.s 20, .s 24], bf := [0,1,2,3,4,5,6,7] }, { o := .un 26 .not (.s 25), bf := [0,1,2,3,4,5,6,7,8] }] [0,1,5,26])
(.cond (.s 26) (.seq (pr [.mv 4 (.c (.bool false))] [4])
.ret) .skip)))
(pr [.mv 15 (.s 5), .bin 16 false .add (.s 15) (.c (.int .i64 1)), .mv 5 (.s 16)] [0,1,5]))))))
(.seq (pr [.mv 4 (.c (.bool true))] [4])
.ret))))
theorem c_spec_EqualCaptures (xs ys : List GCapture) : Ctr Try.prog n_spec_EqualCaptures [aL 9 (xs.map GCapture.enc), aL 9 (ys.map GCapture.enc)] [rB (decide (xs = ys))] := by
  refine ctr_at (M := m_spec_EqualCaptures) (m := 0) (n := 27) (res := [(.tmp 4, [false])]) hmix Try.func130 rfl (by kernel_rfl) rfl (by kernel_rfl) (by kernel_rfl) (Nat.le_of_ble_eq_true rfl) ?_; unfold m_spec_EqualCaptures
  intro hb
  simp only [bdA, bdL, bdT, bdR, bdR_map, wfB_i64, wfB_bool, wfB_str, roomB, and_true, true_and, List.length_map] at hb
  obtain ⟨⟨hl, -⟩, ⟨hl2, -⟩⟩ := hb
  simp only [↓bk_bind, ↓bk_map, ↓bk_ite, ↓bk_some, ↓reduceIte, Nat.reduceEqDiff, Nat.reduceLT, Nat.reduceLeDiff, Nat.reduceAdd, Nat.reduceMul, reduceCtorEq, List.reduceReplicate, go_sem]
  refine ⟨fun h => ne_len h, fun h => ?_⟩
  have hle : xs.length = ys.length := by omega
  refine loopK_rng xs (fun k => [(5, vI k)]) (fun k => []) (fun k => xs.take k = ys.take k) hl ?_
  simp only [↓bk_bind, ↓bk_map, ↓bk_ite, ↓bk_some, ↓reduceIte, Nat.reduceEqDiff, Nat.reduceLT, Nat.reduceLeDiff, Nat.reduceAdd, Nat.reduceMul, reduceCtorEq, List.reduceReplicate, go_sem]
  refine ⟨?_, rfl, ?_, ?_⟩
  · simp only [↓bk_bind, ↓bk_map, ↓bk_ite, ↓bk_some, ↓reduceIte, Nat.reduceEqDiff, Nat.reduceLT, Nat.reduceLeDiff, Nat.reduceAdd, Nat.reduceMul, reduceCtorEq, List.reduceReplicate, go_sem]
  · intro k x hx he h0 h1 hw
    obtain ⟨y, hy⟩ := at_some (show k < ys.length by omega)
    have h2 : (k : Int) < ys.length := by omega
    simp only [↓bk_bind, ↓bk_map, ↓bk_ite, ↓bk_some, ↓reduceIte, Nat.reduceEqDiff, Nat.reduceLT, Nat.reduceLeDiff, Nat.reduceAdd, Nat.reduceMul, reduceCtorEq, List.reduceReplicate, go_sem, bk_eq hx, bk_eq hy, h0, h1, h2, hw]
    refine callK_of (c_spec_l15Same x y) ?_
    simp only [↓bk_bind, ↓bk_map, ↓bk_ite, ↓bk_some, ↓reduceIte, Nat.reduceEqDiff, Nat.reduceLT, Nat.reduceLeDiff, Nat.reduceAdd, Nat.reduceMul, reduceCtorEq, List.reduceReplicate, go_sem, hw]
    exact ⟨fun hn => ne_at hx hy (by simpa using hn), fun hn => (take_eq_step hx hy he).2 (by simpa using hn)⟩
  · intro he
    simp only [↓bk_bind, ↓bk_map, ↓bk_ite, ↓bk_some, ↓reduceIte, Nat.reduceEqDiff, Nat.reduceLT, Nat.reduceLeDiff, Nat.reduceAdd, Nat.reduceMul, reduceCtorEq, List.reduceReplicate, go_sem]
    exact eq_all he hle
def m_impl_EqualEntries : MC :=
(.seq (pr [.mv 4 (.c (.bool false))] [0,1])
(.seq (pr [.mv 5 (.s 0), .mv 6 (.s 1), .call 7 [] (.f n_slices_Equal_impl_Entry_impl_Entry) [.s 5, .s 6], .mv 4 (.s 7)] [4])
.ret))
theorem c_impl_EqualEntries (xs ys : List GEntry) : Ctr Try.prog n_impl_EqualEntries [aL 5 (xs.map GEntry.enc), aL 5 (ys.map GEntry.enc)] [rB (decide (xs = ys))] := by
  refine ctr_at (M := m_impl_EqualEntries) (m := 0) (n := 8) (res := [(.tmp 4, [false])]) hmix Try.func117 rfl (by kernel_rfl) rfl (by kernel_rfl) (by kernel_rfl) (Nat.le_of_ble_eq_true rfl) ?_; unfold m_impl_EqualEntries
  intro hb
  clear hb
  simp only [↓bk_bind, ↓bk_map, ↓bk_ite, ↓bk_some, ↓reduceIte, Nat.reduceEqDiff, Nat.reduceLT, Nat.reduceLeDiff, Nat.reduceAdd, Nat.reduceMul, reduceCtorEq, List.reduceReplicate, go_sem]
  refine callK_of (c_slices_Equal_Entry xs ys) ?_
  simp only [↓bk_bind, ↓bk_map, ↓bk_ite, ↓bk_some, ↓reduceIte, Nat.reduceEqDiff, Nat.reduceLT, Nat.reduceLeDiff, Nat.reduceAdd, Nat.reduceMul, reduceCtorEq, List.reduceReplicate, go_sem]
def m_impl_EqualCaptures : MC :=
(.seq (pr [.mv 4 (.c (.bool false))] [0,1])
(.seq (pr [.mv 5 (.s 0), .mv 6 (.s 1), .call 7 [] (.f n_slices_EqualFunc_impl_Capture_impl_Capture_impl_Capture_impl_Capture) [.s 5, .s 6, .f n_impl_sameCapture], .mv 4 (.s 7)] [4])
.ret))
theorem c_impl_EqualCaptures (xs ys : List GCapture) : Ctr Try.prog n_impl_EqualCaptures [aL 9 (xs.map GCapture.enc), aL 9 (ys.map GCapture.enc)] [rB (decide (xs = ys))] := by
  refine ctr_at (M := m_impl_EqualCaptures) (m := 0) (n := 8) (res := [(.tmp 4, [false])]) hmix Try.func118 rfl (by kernel_rfl) rfl (by kernel_rfl) (by kernel_rfl) (Nat.le_of_ble_eq_true rfl) ?_; unfold m_impl_EqualCaptures
  intro hb
  clear hb
  simp only [↓bk_bind, ↓bk_map, ↓bk_ite, ↓bk_some, ↓reduceIte, Nat.reduceEqDiff, Nat.reduceLT, Nat.reduceLeDiff, Nat.reduceAdd, Nat.reduceMul, reduceCtorEq, List.reduceReplicate, go_sem]
  refine callK_of (c_slices_EqualFunc_Capture xs ys _ [] (fun x y => decide (x = y)) fun x y _ _ => c_impl_sameCapture x y) ?_
  simp only [↓bk_bind, ↓bk_map, ↓bk_ite, ↓bk_some, ↓reduceIte, Nat.reduceEqDiff, Nat.reduceLT, Nat.reduceLeDiff, Nat.reduceAdd, Nat.reduceMul, reduceCtorEq, List.reduceReplicate, go_sem]
  rw [eqF_eq]
def m_impl_EqualContainers : MC :=
(.seq (pr [.box 2 0 (.s 0), .box 3 1 (.s 1), .mv 4 (.c (.bool false))] [2,3])
(.seq (.reg [{ o := .fld 5 (.s 2) 0 }, { o := .load 6 false 1 (.s 5) }, { o := .fld 7 (.s 3) 0 }, { o := .load 8 false 1 (.s 7) }, { o := .call 9 [] (.f n_slices_Equal_impl_Op_impl_Op) [.s 6, .s 8] }, { o := .mv 10 (.s 9) }, { o := .fld 11 (.s 2) 1, g := some (10, true) }, { o := .load 12 false 1 (.s 11), g := some (10, true) }, { o := .fld 13 (.s 3) 1, g := some (10, true) }, { o := .load 14 false 1 (.s 13), g := some (10, true) }, { o := .call 15 [] (.f n_impl_EqualEntries) [.s 12, .s 14], g := some (10, true) }, { o := .pick 16 (.s 10) (.s 15) (.c (.bool false)) }, { o := .mv 17 (.s 16) }, { o := .fld 18 (.s 2) 2, g := some (17, true) }, { o := .load 19 false 1 (.s 18), g := some (17, true) }, { o := .fld 20 (.s 3) 2, g := some (17, true) }, { o := .load 21 false 1 (.s 20), g := some (17, true) }, { o := .call 22 [] (.f n_impl_EqualCaptures) [.s 19, .s 21], g := some (17, true) }, { o := .pick 23 (.s 17) (.s 22) (.c (.bool false)) }, { o := .mv 24 (.s 23) }, { o := .fld 25 (.s 2) 3, g := some (24, true) }, { o := .load 26 false 1 (.s 25), g := some (24, true) }, { o := .fld 27 (.s 3) 3, g := some (24, true) }, { o := .load 28 false 1 (.s 27), g := some (24, true) }, { o := .bin 29 false .eql (.s 26) (.s 28), g := some (24, true) }, { o := .pick 30 (.s 24) (.s 29) (.c (.bool false)) }, { o := .mv 4 (.s 30) }] [4])
.ret))
theorem c_impl_EqualContainers (a b : GContainer) : Ctr Try.prog n_impl_EqualContainers [aS a.enc, aS b.enc] [rB (decide (a = b))] := by
  refine ctr_at (M := m_impl_EqualContainers) (m := 2) (n := 31) (res := [(.tmp 4, [false])]) hmix Try.func86 rfl (by kernel_rfl) rfl (by kernel_rfl) (by kernel_rfl) (Nat.le_of_ble_eq_true rfl) ?_; unfold m_impl_EqualContainers
  intro hb
  clear hb
  simp only [↓bk_bind, ↓bk_map, ↓bk_ite, ↓bk_some, ↓reduceIte, Nat.reduceEqDiff, Nat.reduceLT, Nat.reduceLeDiff, Nat.reduceAdd, Nat.reduceMul, reduceCtorEq, List.reduceReplicate, go_sem]
  refine callK_of (c_slices_Equal_Op a.Script b.Script) ?_
  simp only [↓bk_bind, ↓bk_map, ↓bk_ite, ↓bk_some, ↓reduceIte, Nat.reduceEqDiff, Nat.reduceLT, Nat.reduceLeDiff, Nat.reduceAdd, Nat.reduceMul, reduceCtorEq, List.reduceReplicate, go_sem]
  refine ⟨fun k => ?_, fun k => by simp_all [GContainer.eqv]⟩
  refine callK_of (c_impl_EqualEntries a.Entries b.Entries) ?_
  simp only [↓bk_bind, ↓bk_map, ↓bk_ite, ↓bk_some, ↓reduceIte, Nat.reduceEqDiff, Nat.reduceLT, Nat.reduceLeDiff, Nat.reduceAdd, Nat.reduceMul, reduceCtorEq, List.reduceReplicate, go_sem]
  refine ⟨fun k2 => ?_, fun k2 => by simp_all [GContainer.eqv]⟩
  refine callK_of (c_impl_EqualCaptures a.Captures b.Captures) ?_
  simp only [↓bk_bind, ↓bk_map, ↓bk_ite, ↓bk_some, ↓reduceIte, Nat.reduceEqDiff, Nat.reduceLT, Nat.reduceLeDiff, Nat.reduceAdd, Nat.reduceMul, reduceCtorEq, List.reduceReplicate, go_sem]
  exact ⟨fun k3 => by simp_all [GContainer.eqv, Bool.beq_eq_decide_eq], fun k3 => by simp_all [GContainer.eqv]⟩
def m_impl_EqualLibraries_1 : MC :=
(.seq (pr [.box 2 0 (.s 0), .box 3 1 (.s 1), .mv 4 (.c (.bool false))] [2,3])
(.seq (.reg [{ o := .fld 5 (.s 2) 0 }, { o := .load 6 false 1 (.s 5) }, { o := .fld 7 (.s 3) 0 }, { o := .load 8 false 1 (.s 7) }, { o := .bin 9 false .eql (.s 6) (.s 8) }, { o := .mv 10 (.s 9) }, { o := .fld 11 (.s 2) 2, g := some (10, true) }, { o := .load 12 false 1 (.s 11), g := some (10, true) }, { o := .fld 13 (.s 3) 2, g := some (10, true) }, { o := .load 14 false 1 (.s 13), g := some (10, true) }, { o := .bin 15 true .eql (.s 12) (.s 14), g := some (10, true) }, { o := .pick 16 (.s 10) (.s 15) (.c (.bool false)) }, { o := .mv 17 (.s 16) }, { o := .fld 18 (.s 2) 3, g := some (17, true) }, { o := .load 19 false 1 (.s 18), g := some (17, true) }, { o := .fld 20 (.s 3) 3, g := some (17, true) }, { o := .load 21 false 1 (.s 20), g := some (17, true) }, { o := .bin 22 true .eql (.s 19) (.s 21), g := some (17, true) }, { o := .pick 23 (.s 17) (.s 22) (.c (.bool false)) }, { o := .mv 24 (.s 23) }, { o := .fld 25 (.s 2) 1, g := some (24, true) }, { o := .load 26 false 1 (.s 25), g := some (24, true) }, { o := .fld 27 (.s 3) 1, g := some (24, true) }, { o := .load 28 false 1 (.s 27), g := some (24, true) }, { o := .call 29 [] (.f n_slices_Equal_int_int) [.s 26, .s 28], g := some (24, true) }, { o := .pick 30 (.s 24) (.s 29) (.c (.bool false)) }, { o := .mv 4 (.s 30) }] [4])
.ret))
theorem c_impl_EqualLibraries_1 (a b : GLibrary) : Ctr Try.prog n_impl_EqualLibraries_1 [aS a.enc, aS b.enc] [rB (decide (a = b))] := by
  refine ctr_at (M := m_impl_EqualLibraries_1) (m := 2) (n := 31) (res := [(.tmp 4, [false])]) hmix Try.func120 rfl (by kernel_rfl) rfl (by kernel_rfl) (by kernel_rfl) (Nat.le_of_ble_eq_true rfl) ?_; unfold m_impl_EqualLibraries_1
  intro hb
  clear hb
  simp only [↓bk_bind, ↓bk_map, ↓bk_ite, ↓bk_some, ↓reduceIte, Nat.reduceEqDiff, Nat.reduceLT, Nat.reduceLeDiff, Nat.reduceAdd, Nat.reduceMul, reduceCtorEq, List.reduceReplicate, go_sem]
  refine ⟨fun k => ⟨fun t => ⟨fun u => ?_, fun u => ?_⟩, fun t => ?_⟩, fun k => ?_⟩
  · refine callK_of (c_slices_Equal_Int _ _) ?_
    simp only [↓bk_bind, ↓bk_map, ↓bk_ite, ↓bk_some, ↓reduceIte, Nat.reduceEqDiff, Nat.reduceLT, Nat.reduceLeDiff, Nat.reduceAdd, Nat.reduceMul, reduceCtorEq, List.reduceReplicate, go_sem]
    simp_all [GLibrary.eqv]
  · simp_all [GLibrary.eqv]
  · simp_all [GLibrary.eqv]
  · simp_all [GLibrary.eqv]
def m_impl_EqualLibraries : MC :=
(.seq (pr [.mv 4 (.c (.bool false))] [0,1])
(.seq (pr [.mv 5 (.s 0), .mv 6 (.s 1), .call 7 [] (.f n_slices_EqualFunc_impl_Library_impl_Library_impl_Library_impl_Library) [.s 5, .s 6, .f n_impl_EqualLibraries_1], .mv 4 (.s 7)] [4])
.ret))
theorem c_impl_EqualLibraries (xs ys : List GLibrary) : Ctr Try.prog n_impl_EqualLibraries [aL 4 (xs.map GLibrary.enc), aL 4 (ys.map GLibrary.enc)] [rB (decide (xs = ys))] := by
  refine ctr_at (M := m_impl_EqualLibraries) (m := 0) (n := 8) (res := [(.tmp 4, [false])]) hmix Try.func89 rfl (by kernel_rfl) rfl (by kernel_rfl) (by kernel_rfl) (Nat.le_of_ble_eq_true rfl) ?_; unfold m_impl_EqualLibraries
  intro hb
  clear hb
  simp only [↓bk_bind, ↓bk_map, ↓bk_ite, ↓bk_some, ↓reduceIte, Nat.reduceEqDiff, Nat.reduceLT, Nat.reduceLeDiff, Nat.reduceAdd, Nat.reduceMul, reduceCtorEq, List.reduceReplicate, go_sem]
  refine callK_of (c_slices_EqualFunc_Library xs ys _ [] (fun x y => decide (x = y)) fun x y _ _ => c_impl_EqualLibraries_1 x y) ?_
  simp only [↓bk_bind, ↓bk_map, ↓bk_ite, ↓bk_some, ↓reduceIte, Nat.reduceEqDiff, Nat.reduceLT, Nat.reduceLeDiff, Nat.reduceAdd, Nat.reduceMul, reduceCtorEq, List.reduceReplicate, go_sem]
  rw [eqF_eq]
def m_impl_EqualArchives_1 : MC :=
(.seq (pr [.box 2 0 (.s 0), .box 3 1 (.s 1), .mv 4 (.c (.bool false))] [2,3])
(.seq (.reg [{ o := .fld 5 (.s 2) 0 }, { o := .load 6 true 3 (.s 5) }, { o := .fld 7 (.s 3) 0 }, { o := .load 8 true 3 (.s 7) }, { o := .eqA 9 false [.i .i64, .i .i64, .i .i64] (.s 6) (.s 8) }, { o := .mv 10 (.s 9) }, { o := .fld 11 (.s 2) 3, g := some (10, true) }, { o := .load 12 false 1 (.s 11), g := some (10, true) }, { o := .fld 13 (.s 3) 3, g := some (10, true) }, { o := .load 14 false 1 (.s 13), g := some (10, true) }, { o := .bin 15 false .eql (.s 12) (.s 14), g := some (10, true) }, { o := .pick 16 (.s 10) (.s 15) (.c (.bool false)) }, { o := .mv 17 (.s 16) }, { o := .fld 18 (.s 2) 4, g := some (17, true) }, { o := .load 19 true 5 (.s 18), g := some (17, true) }, { o := .fld 20 (.s 3) 4, g := some (17, true) }, { o := .load 21 true 5 (.s 20), g := some (17, true) }, { o := .call 22 [] (.f n_impl_EqualResources) [.s 19, .s 21], g := some (17, true) }, { o := .pick 23 (.s 17) (.s 22) (.c (.bool false)) }, { o := .mv 4 (.s 23) }] [4])
.ret))
theorem c_impl_EqualArchives_1 (a b : GVersion) : Ctr Try.prog n_impl_EqualArchives_1 [aS a.enc, aS b.enc] [rB (decide (a = b))] := by
  refine ctr_at (M := m_impl_EqualArchives_1) (m := 2) (n := 24) (res := [(.tmp 4, [false])]) hmix Try.func82 rfl (by kernel_rfl) rfl (by kernel_rfl) (by kernel_rfl) (Nat.le_of_ble_eq_true rfl) ?_; unfold m_impl_EqualArchives_1
  intro hb
  clear hb
  simp only [↓bk_bind, ↓bk_map, ↓bk_ite, ↓bk_some, ↓reduceIte, Nat.reduceEqDiff, Nat.reduceLT, Nat.reduceLeDiff, Nat.reduceAdd, Nat.reduceMul, reduceCtorEq, List.reduceReplicate, go_sem]
  refine ⟨fun k => ⟨fun t => ?_, fun t => ?_⟩, fun k => ?_⟩
  · refine callK_of (c_impl_EqualResources a.Resource b.Resource) ?_
    simp only [↓bk_bind, ↓bk_map, ↓bk_ite, ↓bk_some, ↓reduceIte, Nat.reduceEqDiff, Nat.reduceLT, Nat.reduceLeDiff, Nat.reduceAdd, Nat.reduceMul, reduceCtorEq, List.reduceReplicate, go_sem]
    simp_all [GVersion.eqv, GResource.eqv]
  · simp_all [GVersion.eqv, GResource.eqv]
  · simp_all [GVersion.eqv, GResource.eqv]
def m_spec_EqualContainers : MC :=
(.seq (pr [.box 2 0 (.s 0), .box 3 1 (.s 1), .mv 4 (.c (.bool false))] [2,3])
(.seq (.dreg [{ o := .fld 5 (.s 2) 3, hs := [7,8] }, { o := .load 6 false 1 (.s 5), hs := [7,8], bf := [0] }, { o := .fld 7 (.s 3) 3, hs := [5,6] }, { o := .load 8 false 1 (.s 7), hs := [5,6], bf := [2] }, { o := .bin 9 false .eql (.s 6) (.s 8), bf := [0,1,2,3] }, { o := .mv 10 (.s 9), bf := [0,1,2,3,4] }, { o := .fld 11 (.s 2) 0, g := some (10, true), hs := [14,15], bf := [0,1,2,3,4,5] }, { o := .load 12 false 1 (.s 11), g := some (10, true), hs := [14,15], bf := [0,1,2,3,4,5,6] }, { o := .call 13 [2] (.f n_spec_ScriptInts) [.s 12], g := some (10, true), hs := [14,15], ws := [2], bf := [0,1,2,3,4,5,6,7] }, { o := .fld 14 (.s 3) 0, g := some (10, true), hs := [11,12,13], ho := [2], bf := [0,1,2,3,4,5] }, { o := .load 15 false 1 (.s 14), g := some (10, true), hs := [11,12,13], ho := [2], bf := [0,1,2,3,4,5,9] }, { o := .call 16 [3] (.f n_spec_ScriptInts) [.s 15], g := some (10, true), ws := [3], bf := [0,1,2,3,4,5,6,7,8,9,10] }, { o := .call 17 [] (.f n_spec_EqualInts) [.s 13, .s 16], g := some (10, true), bf := [0,1,2,3,4,5,6,7,8,9,10,11] }, { o := .pick 18 (.s 10) (.s 17) (.c (.bool false)), bf := [0,1,2,3,4,5,6,7,8,9,10,11,12] }, { o := .mv 19 (.s 18), bf := [0,1,2,3,4,5,6,7,8,9,10,11,12,13] }, { o := .fld 20 (.s 2) 1, g := some (19, true), hs := [22,23], bf := [0,1,2,3,4,5,6,7,8,9,10,11,12,13,14] }, { o := .load 21 false 1 (.s 20), g := some (19, true), hs := [22,23], bf := [0,1,2,3,4,5,6,7,8,9,10,11,12,13,14,15] }, { o := .fld 22 (.s 3) 1, g := some (19, true), hs := [20,21], bf := [0,1,2,3,4,5,6,7,8,9,10,11,12,13,14] }, { o := .load 23 false 1 (.s 22), g := some (19, true), hs := [20,21], bf := [0,1,2,3,4,5,6,7,8,9,10,11,12,13,14,17] }, { o := .call 24 [] (.f n_spec_EqualEntries) [.s 21, .s 23], g := some (19, true), bf := [0,1,2,3,4,5,6,7,8,9,10,11,12,13,14,15,16,17,18] }, { o := .pick 25 (.s 19) (.s 24) (.c (.bool false)), bf := [0,1,2,3,4,5,6,7,8,9,10,11,12,13,14,15,16,17,18,19] }, { o := .mv 26 (.s 25), bf := [0,1,2,3,4,5,6,7,8,9,10,11,12,13,14,15,16,17,18,19,20] }, { o := .fld 27 (.s 2) 2, g := some (26, true), hs := [29,30], bf := [0,1,2,3,4,5,6,7,8,9,10,11,12,13,14,15,16,17,18,19,20,21] }, { o := .load 28 false 1 (.s 27), g := some (26, true), hs := [29,30], bf := [0,1,2,3,4,5,6,7,8,9,10,11,12,13,14,15,16,17,18,19,20,21,22] }, { o := .fld 29 (.s 3) 2, g := some (26, true), hs := [27,28], bf := [0,1,2,3,4,5,6,7,8,9,10,11,12,13,14,15,16,17,18,19,20,21] }, { o := .load 30 false 1 (.s 29), g := some (26, true), hs := [27,28], bf := [0,1,2,3,4,5,6,7,8,9,10,11,12,13,14,15,16,17,18,19,20,21,24] }, { o := .call 31 [] (.f n_spec_EqualCaptures) [.s 28, .s 30], g := some (26, true), bf := [0,1,2,3,4,5,6,7,8,9,10,11,12,13,14,15,16,17,18,19,20,21,22,23,24,25] }, { o := .pick 32 (.s 26) (.s 31) (.c (.bool false)), bf := [0,1,2,3,4,5,6,7,8,9,10,11,12,13,14,15,16,17,18,19,20,21,22,23,24,25,26] }, { o := .mv 4 (.s 32), bf := [0,1,2,3,4,5,6,7,8,9,10,11,12,13,14,15,16,17,18,19,20,21,22,23,24,25,26,27] }] [4])
.ret))
theorem c_spec_EqualContainers (a b : GContainer) (ha : a.Script.length ≤ 1099511627776) (hb' : b.Script.length ≤ 1099511627776) : Ctr Try.prog n_spec_EqualContainers [aS a.enc, aS b.enc] [rB (decide (a = b))] := by
  refine ctr_at (M := m_spec_EqualContainers) (m := 4) (n := 33) (res := [(.tmp 4, [false])]) hmix Try.func115 rfl (by kernel_rfl) rfl (by kernel_rfl) (by kernel_rfl) (Nat.le_of_ble_eq_true rfl) ?_; unfold m_spec_EqualContainers
  intro hb
  clear hb
  simp only [↓bk_bind, ↓bk_map, ↓bk_ite, ↓bk_some, ↓reduceIte, Nat.reduceEqDiff, Nat.reduceLT, Nat.reduceLeDiff, Nat.reduceAdd, Nat.reduceMul, reduceCtorEq, List.reduceReplicate, go_sem]
  refine ⟨fun k => ?_, fun k => by simp_all [GContainer.eqv]⟩
  refine callK_of (c_spec_ScriptInts _ ha) ?_
  simp only [↓bk_bind, ↓bk_map, ↓bk_ite, ↓bk_some, ↓reduceIte, Nat.reduceEqDiff, Nat.reduceLT, Nat.reduceLeDiff, Nat.reduceAdd, Nat.reduceMul, reduceCtorEq, List.reduceReplicate, go_sem]
  refine callK_of (c_spec_ScriptInts _ hb') ?_
  simp only [↓bk_bind, ↓bk_map, ↓bk_ite, ↓bk_some, ↓reduceIte, Nat.reduceEqDiff, Nat.reduceLT, Nat.reduceLeDiff, Nat.reduceAdd, Nat.reduceMul, reduceCtorEq, List.reduceReplicate, go_sem]
  refine callK_of (c_spec_EqualInts (scriptInts a.Script) (scriptInts b.Script)) ?_
  simp only [↓bk_bind, ↓bk_map, ↓bk_ite, ↓bk_some, ↓reduceIte, Nat.reduceEqDiff, Nat.reduceLT, Nat.reduceLeDiff, Nat.reduceAdd, Nat.reduceMul, reduceCtorEq, List.reduceReplicate, go_sem, scriptInts_inj]
  refine ⟨fun k1 => ?_, fun k1 => by simp_all [GContainer.eqv]⟩
  refine callK_of (c_spec_EqualEntries a.Entries b.Entries) ?_
  simp only [↓bk_bind, ↓bk_map, ↓bk_ite, ↓bk_some, ↓reduceIte, Nat.reduceEqDiff, Nat.reduceLT, Nat.reduceLeDiff, Nat.reduceAdd, Nat.reduceMul, reduceCtorEq, List.reduceReplicate, go_sem]
  refine ⟨fun k2 => ?_, fun k2 => by simp_all [GContainer.eqv]⟩
  refine callK_of (c_spec_EqualCaptures a.Captures b.Captures) ?_
  simp only [↓bk_bind, ↓bk_map, ↓bk_ite, ↓bk_some, ↓reduceIte, Nat.reduceEqDiff, Nat.reduceLT, Nat.reduceLeDiff, Nat.reduceAdd, Nat.reduceMul, reduceCtorEq, List.reduceReplicate, go_sem]
  simp_all [GContainer.eqv]
def m_spec_l32Containers : MC :=
(.seq (pr [.mv 4 (.c (.bool false))] [0,1])
(.seq (.seq (pr [.mv 6 (.s 0), .len 7 false (.s 6), .mv 8 (.s 1), .len 9 false (.s 8), .bin 10 false .neq (.s 7) (.s 9)] [0,1,10])
(.cond (.s 10) (.seq (pr [.mv 4 (.c (.bool false))] [4])
.ret) .skip))
(.seq (.seq (pr [.mv 5 (.c (.int .i64 0))] [0,1,5])
(.block 0 (.loop ([0,1,5], []) (.seq (.seq (pr [.mv 11 (.s 5), .mv 12 (.s 0), .len 13 false (.s 12), .bin 14 false .lss (.s 11) (.s 13)] [0,1,5,14])
(.cond (.s 14) .skip (.exit 0)))
(.seq (.block 1 (.seq (.dreg [{ o := .mv 17 (.s 0), hs := [18,21,22,23,24] }, { o := .mv 18 (.s 5), hs := [17,21,22,23,24] }, { o := .idx 19 4 (.s 17) (.s 18), hs := [21,22,23,24], bf := [0,1] }, { o := .load 20 true 4 (.s 19), hs := [21,22,23,24], bf := [0,1,2] }, { o := .mv 21 (.s 1), hs := [17,18,19,20,22] }, { o := .mv 22 (.s 5), hs := [17,18,19,20,21] }, { o := .idx 23 4 (.s 21) (.s 22), hs := [17,18,19,20], bf := [4,5] }, { o := .load 24 true 4 (.s 23), hs := [17,18,19,20], bf := [4,5,6] }, { o := .call 25 [] (.f n_spec_EqualContainers) [.s 20, .s 24], bf := [0,1,2,3,4,5,6,7] }, { o := .un 26 .not (.s 25), bf := [0,1,2,3,4,5,6,7,8] }] [0,1,5,26])
(.cond (.s 26) (.seq (pr [.mv 4 (.c (.bool false))] [4])
.ret) .skip)))
(pr [.mv 15 (.s 5), .bin 16 false .add (.s 15) (.c (.int .i64 1)), .mv 5 (.s 16)] [0,1,5]))))))
(.seq (pr [.mv 4 (.c (.bool true))] [4])
.ret))))
theorem c_spec_l32Containers (xs ys : List GContainer) (ha : ∀ x ∈ xs, x.Script.length ≤ 1099511627776) (hb' : ∀ y ∈ ys, y.Script.length ≤ 1099511627776) : Ctr Try.prog n_spec_l32Containers [aL 4 (xs.map GContainer.enc), aL 4 (ys.map GContainer.enc)] [rB (decide (xs = ys))] := by
  refine ctr_at (M := m_spec_l32Containers) (m := 0) (n := 27) (res := [(.tmp 4, [false])]) hmix Try.func78 rfl (by kernel_rfl) rfl (by kernel_rfl) (by kernel_rfl) (Nat.le_of_ble_eq_true rfl) ?_; unfold m_spec_l32Containers
  intro hb
  simp only [bdA, bdL, bdT, bdR, bdR_map, wfB_i64, wfB_bool, wfB_str, roomB, and_true, true_and, List.length_map] at hb
  obtain ⟨⟨hl, -⟩, ⟨hl2, -⟩⟩ := hb
  simp only [↓bk_bind, ↓bk_map, ↓bk_ite, ↓bk_some, ↓reduceIte, Nat.reduceEqDiff, Nat.reduceLT, Nat.reduceLeDiff, Nat.reduceAdd, Nat.reduceMul, reduceCtorEq, List.reduceReplicate, go_sem]
  refine ⟨fun h => ne_len h, fun h => ?_⟩
  have hle : xs.length = ys.length := by omega
  refine loopK_rng xs (fun k => [(5, vI k)]) (fun k => []) (fun k => xs.take k = ys.take k) hl ?_
  simp only [↓bk_bind, ↓bk_map, ↓bk_ite, ↓bk_some, ↓reduceIte, Nat.reduceEqDiff, Nat.reduceLT, Nat.reduceLeDiff, Nat.reduceAdd, Nat.reduceMul, reduceCtorEq, List.reduceReplicate, go_sem]
  refine ⟨?_, rfl, ?_, ?_⟩
  · simp only [↓bk_bind, ↓bk_map, ↓bk_ite, ↓bk_some, ↓reduceIte, Nat.reduceEqDiff, Nat.reduceLT, Nat.reduceLeDiff, Nat.reduceAdd, Nat.reduceMul, reduceCtorEq, List.reduceReplicate, go_sem]
  · intro k x hx he h0 h1 hw
    obtain ⟨y, hy⟩ := at_some (show k < ys.length by omega)
    have h2 : (k : Int) < ys.length := by omega
    simp only [↓bk_bind, ↓bk_map, ↓bk_ite, ↓bk_some, ↓reduceIte, Nat.reduceEqDiff, Nat.reduceLT, Nat.reduceLeDiff, Nat.reduceAdd, Nat.reduceMul, reduceCtorEq, List.reduceReplicate, go_sem, bk_eq hx, bk_eq hy, h0, h1, h2, hw]
    refine callK_of (c_spec_EqualContainers x y (ha x (at_mem hx)) (hb' y (at_mem hy))) ?_
    simp only [↓bk_bind, ↓bk_map, ↓bk_ite, ↓bk_some, ↓reduceIte, Nat.reduceEqDiff, Nat.reduceLT, Nat.reduceLeDiff, Nat.reduceAdd, Nat.reduceMul, reduceCtorEq, List.reduceReplicate, go_sem, hw]
    exact ⟨fun hn => ne_at hx hy (by simpa using hn), fun hn => (take_eq_step hx hy he).2 (by simpa using hn)⟩
  · intro he
    simp only [↓bk_bind, ↓bk_map, ↓bk_ite, ↓bk_some, ↓reduceIte, Nat.reduceEqDiff, Nat.reduceLT, Nat.reduceLeDiff, Nat.reduceAdd, Nat.reduceMul, reduceCtorEq, List.reduceReplicate, go_sem]
    exact eq_all he hle
def m_spec_EqualLibraries : MC :=
(.seq (pr [.mv 4 (.c (.bool false))] [0,1])
(.seq (.seq (pr [.mv 6 (.s 0), .len 7 false (.s 6), .mv 8 (.s 1), .len 9 false (.s 8), .bin 10 false .neq (.s 7) (.s 9)] [0,1,10])
(.cond (.s 10) (.seq (pr [.mv 4 (.c (.bool false))] [4])
.ret) .skip))
(.seq (.seq (pr [.mv 5 (.c (.int .i64 0))] [0,1,5])
(.block 0 (.loop ([0,1,5], []) (.seq (.seq (pr [.mv 11 (.s 5), .mv 12 (.s 0), .len 13 false (.s 12), .bin 14 false .lss (.s 11) (.s 13)] [0,1,5,14])
(.cond (.s 14) .skip (.exit 0)))
(.seq (.block 1 (.seq (.dreg [{ o := .mv 17 (.s 0), hs := [18,22,23,24,25,26] }, { o := .mv 18 (.s 5), hs := [17,22,23,24,25,26] }, { o := .idx 19 4 (.s 17) (.s 18), hs := [22,23,24,25,26], bf := [0,1] }, { o := .fld 20 (.s 19) 0, hs := [22,23,24,25,26], bf := [0,1,2] }, { o := .load 21 false 1 (.s 20), hs := [22,23,24,25,26], bf := [0,1,2,3] }, { o := .mv 22 (.s 1), hs := [17,18,19,20,21,23] }, { o := .mv 23 (.s 5), hs := [17,18,19,20,21,22] }, { o := .idx 24 4 (.s 22) (.s 23), hs := [17,18,19,20,21], bf := [5,6] }, { o := .fld 25 (.s 24) 0, hs := [17,18,19,20,21], bf := [5,6,7] }, { o := .load 26 false 1 (.s 25), hs := [17,18,19,20,21], bf := [5,6,7,8] }, { o := .bin 27 false .neq (.s 21) (.s 26), bf := [0,1,2,3,4,5,6,7,8,9] }, { o := .mv 28 (.s 27), bf := [0,1,2,3,4,5,6,7,8,9,10] }, { o := .mv 29 (.s 0), g := some (28, false), hs := [30,34,35,36,37,38], bf := [0,1,2,3,4,5,6,7,8,9,10,11] }, { o := .mv 30 (.s 5), g := some (28, false), hs := [29,34,35,36,37,38], bf := [0,1,2,3,4,5,6,7,8,9,10,11] }, { o := .idx 31 4 (.s 29) (.s 30), g := some (28, false), hs := [34,35,36,37,38], bf := [0,1,2,3,4,5,6,7,8,9,10,11,12,13] }, { o := .fld 32 (.s 31) 2, g := some (28, false), hs := [34,35,36,37,38], bf := [0,1,2,3,4,5,6,7,8,9,10,11,12,13,14] }, { o := .load 33 false 1 (.s 32), g := some (28, false), hs := [34,35,36,37,38], bf := [0,1,2,3,4,5,6,7,8,9,10,11,12,13,14,15] }, { o := .mv 34 (.s 1), g := some (28, false), hs := [29,30,31,32,33,35], bf := [0,1,2,3,4,5,6,7,8,9,10,11] }, { o := .mv 35 (.s 5), g := some (28, false), hs := [29,30,31,32,33,34], bf := [0,1,2,3,4,5,6,7,8,9,10,11] }, { o := .idx 36 4 (.s 34) (.s 35), g := some (28, false), hs := [29,30,31,32,33], bf := [0,1,2,3,4,5,6,7,8,9,10,11,17,18] }, { o := .fld 37 (.s 36) 2, g := some (28, false), hs := [29,30,31,32,33], bf := [0,1,2,3,4,5,6,7,8,9,10,11,17,18,19] }, { o := .load 38 false 1 (.s 37), g := some (28, false), hs := [29,30,31,32,33], bf := [0,1,2,3,4,5,6,7,8,9,10,11,17,18,19,20] }, { o := .bin 39 true .neq (.s 33) (.s 38), g := some (28, false), bf := [0,1,2,3,4,5,6,7,8,9,10,11,12,13,14,15,16,17,18,19,20,21] }, { o := .pick 40 (.s 28) (.c (.bool true)) (.s 39), bf := [0,1,2,3,4,5,6,7,8,9,10,11,12,13,14,15,16,17,18,19,20,21,22] }, { o := .mv 41 (.s 40), bf := [0,1,2,3,4,5,6,7,8,9,10,11,12,13,14,15,16,17,18,19,20,21,22,23] }, { o := .mv 42 (.s 0), g := some (41, false), hs := [43,47,48,49,50,51], bf := [0,1,2,3,4,5,6,7,8,9,10,11,12,13,14,15,16,17,18,19,20,21,22,23,24] }, { o := .mv 43 (.s 5), g := some (41, false), hs := [42,47,48,49,50,51], bf := [0,1,2,3,4,5,6,7,8,9,10,11,12,13,14,15,16,17,18,19,20,21,22,23,24] }, { o := .idx 44 4 (.s 42) (.s 43), g := some (41, false), hs := [47,48,49,50,51], bf := [0,1,2,3,4,5,6,7,8,9,10,11,12,13,14,15,16,17,18,19,20,21,22,23,24,25,26] }, { o := .fld 45 (.s 44) 3, g := some (41, false), hs := [47,48,49,50,51], bf := [0,1,2,3,4,5,6,7,8,9,10,11,12,13,14,15,16,17,18,19,20,21,22,23,24,25,26,27] }, { o := .load 46 false 1 (.s 45), g := some (41, false), hs := [47,48,49,50,51], bf := [0,1,2,3,4,5,6,7,8,9,10,11,12,13,14,15,16,17,18,19,20,21,22,23,24,25,26,27,28] }, { o := .mv 47 (.s 1), g := some (41, false), hs := [42,43,44,45,46,48], bf := [0,1,2,3,4,5,6,7,8,9,10,11,12,13,14,15,16,17,18,19,20,21,22,23,24] }, { o := .mv 48 (.s 5), g := some (41, false), hs := [42,43,44,45,46,47], bf := [0,1,2,3,4,5,6,7,8,9,10,11,12,13,14,15,16,17,18,19,20,21,22,23,24] }, { o := .idx 49 4 (.s 47) (.s 48), g := some (41, false), hs := [42,43,44,45,46], bf := [0,1,2,3,4,5,6,7,8,9,10,11,12,13,14,15,16,17,18,19,20,21,22,23,24,30,31] }, { o := .fld 50 (.s 49) 3, g := some (41, false), hs := [42,43,44,45,46], bf := [0,1,2,3,4,5,6,7,8,9,10,11,12,13,14,15,16,17,18,19,20,21,22,23,24,30,31,32] }, { o := .load 51 false 1 (.s 50), g := some (41, false), hs := [42,43,44,45,46], bf := [0,1,2,3,4,5,6,7,8,9,10,11,12,13,14,15,16,17,18,19,20,21,22,23,24,30,31,32,33] }, { o := .bin 52 true .neq (.s 46) (.s 51), g := some (41, false), bf := [0,1,2,3,4,5,6,7,8,9,10,11,12,13,14,15,16,17,18,19,20,21,22,23,24,25,26,27,28,29,30,31,32,33,34] }, { o := .pick 53 (.s 41) (.c (.bool true)) (.s 52), bf := [0,1,2,3,4,5,6,7,8,9,10,11,12,13,14,15,16,17,18,19,20,21,22,23,24,25,26,27,28,29,30,31,32,33,34,35] }, { o := .mv 54 (.s 53), bf := [0,1,2,3,4,5,6,7,8,9,10,11,12,13,14,15,16,17,18,19,20,21,22,23,24,25,26,27,28,29,30,31,32,33,34,35,36] }, { o := .mv 55 (.s 0), g := some (54, false), hs := [56,60,61,62,63,64], bf := [0,1,2,3,4,5,6,7,8,9,10,11,12,13,14,15,16,17,18,19,20,21,22,23,24,25,26,27,28,29,30,31,32,33,34,35,36,37] }, { o := .mv 56 (.s 5), g := some (54, false), hs := [55,60,61,62,63,64], bf := [0,1,2,3,4,5,6,7,8,9,10,11,12,13,14,15,16,17,18,19,20,21,22,23,24,25,26,27,28,29,30,31,32,33,34,35,36,37] }, { o := .idx 57 4 (.s 55) (.s 56), g := some (54, false), hs := [60,61,62,63,64], bf := [0,1,2,3,4,5,6,7,8,9,10,11,12,13,14,15,16,17,18,19,20,21,22,23,24,25,26,27,28,29,30,31,32,33,34,35,36,37,38,39] }, { o := .fld 58 (.s 57) 1, g := some (54, false), hs := [60,61,62,63,64], bf := [0,1,2,3,4,5,6,7,8,9,10,11,12,13,14,15,16,17,18,19,20,21,22,23,24,25,26,27,28,29,30,31,32,33,34,35,36,37,38,39,40] }, { o := .load 59 false 1 (.s 58), g := some (54, false), hs := [60,61,62,63,64], bf := [0,1,2,3,4,5,6,7,8,9,10,11,12,13,14,15,16,17,18,19,20,21,22,23,24,25,26,27,28,29,30,31,32,33,34,35,36,37,38,39,40,41] }, { o := .mv 60 (.s 1), g := some (54, false), hs := [55,56,57,58,59,61], bf := [0,1,2,3,4,5,6,7,8,9,10,11,12,13,14,15,16,17,18,19,20,21,22,23,24,25,26,27,28,29,30,31,32,33,34,35,36,37] }, { o := .mv 61 (.s 5), g := some (54, false), hs := [55,56,57,58,59,60], bf := [0,1,2,3,4,5,6,7,8,9,10,11,12,13,14,15,16,17,18,19,20,21,22,23,24,25,26,27,28,29,30,31,32,33,34,35,36,37] }, { o := .idx 62 4 (.s 60) (.s 61), g := some (54, false), hs := [55,56,57,58,59], bf := [0,1,2,3,4,5,6,7,8,9,10,11,12,13,14,15,16,17,18,19,20,21,22,23,24,25,26,27,28,29,30,31,32,33,34,35,36,37,43,44] }, { o := .fld 63 (.s 62) 1, g := some (54, false), hs := [55,56,57,58,59], bf := [0,1,2,3,4,5,6,7,8,9,10,11,12,13,14,15,16,17,18,19,20,21,22,23,24,25,26,27,28,29,30,31,32,33,34,35,36,37,43,44,45] }, { o := .load 64 false 1 (.s 63), g := some (54, false), hs := [55,56,57,58,59], bf := [0,1,2,3,4,5,6,7,8,9,10,11,12,13,14,15,16,17,18,19,20,21,22,23,24,25,26,27,28,29,30,31,32,33,34,35,36,37,43,44,45,46] }, { o := .call 65 [] (.f n_spec_EqualInts) [.s 59, .s 64], g := some (54, false), bf := [0,1,2,3,4,5,6,7,8,9,10,11,12,13,14,15,16,17,18,19,20,21,22,23,24,25,26,27,28,29,30,31,32,33,34,35,36,37,38,39,40,41,42,43,44,45,46,47] }, { o := .un 66 .not (.s 65), g := some (54, false), bf := [0,1,2,3,4,5,6,7,8,9,10,11,12,13,14,15,16,17,18,19,20,21,22,23,24,25,26,27,28,29,30,31,32,33,34,35,36,37,38,39,40,41,42,43,44,45,46,47,48] }, { o := .pick 67 (.s 54) (.c (.bool true)) (.s 66), bf := [0,1,2,3,4,5,6,7,8,9,10,11,12,13,14,15,16,17,18,19,20,21,22,23,24,25,26,27,28,29,30,31,32,33,34,35,36,37,38,39,40,41,42,43,44,45,46,47,48,49] }] [0,1,5,67])
(.cond (.s 67) (.seq (pr [.mv 4 (.c (.bool false))] [4])
.ret) .skip)))
(pr [.mv 15 (.s 5), .bin 16 false .add (.s 15) (.c (.int .i64 1)), .mv 5 (.s 16)] [0,1,5]))))))
(.seq (pr [.mv 4 (.c (.bool true))] [4])
.ret))))
set_option maxRecDepth 20000 in
theorem c_spec_EqualLibraries (xs ys : List GLibrary) : Ctr Try.prog n_spec_EqualLibraries [aL 4 (xs.map GLibrary.enc), aL 4 (ys.map GLibrary.enc)] [rB (decide (xs = ys))] := by
  refine ctr_at (M := m_spec_EqualLibraries) (m := 0) (n := 68) (res := [(.tmp 4, [false])]) hmix Try.func116 rfl (by kernel_rfl) rfl (by kernel_rfl) (by kernel_rfl) (Nat.le_of_ble_eq_true rfl) ?_; unfold m_spec_EqualLibraries
  intro hb
  simp only [bdA, bdL, bdT, bdR, bdR_map, wfB_i64, wfB_bool, wfB_str, roomB, and_true, true_and, List.length_map] at hb
  obtain ⟨⟨hl, -⟩, ⟨hl2, -⟩⟩ := hb
  simp only [↓bk_bind, ↓bk_map, ↓bk_ite, ↓bk_some, ↓reduceIte, Nat.reduceEqDiff, Nat.reduceLT, Nat.reduceLeDiff, Nat.reduceAdd, Nat.reduceMul, reduceCtorEq, List.reduceReplicate, go_sem]
  refine ⟨fun h => ne_len h, fun h => ?_⟩
  have hle : xs.length = ys.length := by omega
  refine loopK_rng xs (fun k => [(5, vI k)]) (fun k => []) (fun k => xs.take k = ys.take k) hl ?_
  simp only [↓bk_bind, ↓bk_map, ↓bk_ite, ↓bk_some, ↓reduceIte, Nat.reduceEqDiff, Nat.reduceLT, Nat.reduceLeDiff, Nat.reduceAdd, Nat.reduceMul, reduceCtorEq, List.reduceReplicate, go_sem]
  refine ⟨?_, rfl, ?_, ?_⟩
  · simp only [↓bk_bind, ↓bk_map, ↓bk_ite, ↓bk_some, ↓reduceIte, Nat.reduceEqDiff, Nat.reduceLT, Nat.reduceLeDiff, Nat.reduceAdd, Nat.reduceMul, reduceCtorEq, List.reduceReplicate, go_sem]
  · intro k x hx he h0 h1 hw
    obtain ⟨y, hy⟩ := at_some (show k < ys.length by omega)
    have h2 : (k : Int) < ys.length := by omega
    simp only [↓bk_bind, ↓bk_map, ↓bk_ite, ↓bk_some, ↓reduceIte, Nat.reduceEqDiff, Nat.reduceLT, Nat.reduceLeDiff, Nat.reduceAdd, Nat.reduceMul, reduceCtorEq, List.reduceReplicate, go_sem, bk_eq hx, bk_eq hy, h0, h1, h2, hw]
    refine ⟨fun n => ne_at hx hy (by rintro rfl; exact n rfl), fun n1 => ⟨fun n => ne_at hx hy (by rintro rfl; exact n rfl), fun n2 => ⟨fun n => ne_at hx hy (by rintro rfl; exact n rfl), fun n3 => ?_⟩⟩⟩
    refine callK_of (c_spec_EqualInts x.Digests y.Digests) ?_
    simp only [↓bk_bind, ↓bk_map, ↓bk_ite, ↓bk_some, ↓reduceIte, Nat.reduceEqDiff, Nat.reduceLT, Nat.reduceLeDiff, Nat.reduceAdd, Nat.reduceMul, reduceCtorEq, List.reduceReplicate, go_sem, hw]
    exact ⟨fun hn => ne_at hx hy (by rintro rfl; simp at hn), fun hn => (take_eq_step hx hy he).2 (by simp_all [GLibrary.eqv])⟩
  · intro he
    simp only [↓bk_bind, ↓bk_map, ↓bk_ite, ↓bk_some, ↓reduceIte, Nat.reduceEqDiff, Nat.reduceLT, Nat.reduceLeDiff, Nat.reduceAdd, Nat.reduceMul, reduceCtorEq, List.reduceReplicate, go_sem]
    exact eq_all he hle
def m_spec_l32Versions : MC :=
(.seq (pr [.mv 4 (.c (.bool false))] [0,1])
(.seq (.seq (pr [.mv 6 (.s 0), .len 7 false (.s 6), .mv 8 (.s 1), .len 9 false (.s 8), .bin 10 false .neq (.s 7) (.s 9)] [0,1,10])
(.cond (.s 10) (.seq (pr [.mv 4 (.c (.bool false))] [4])
.ret) .skip))
(.seq (.seq (pr [.mv 5 (.c (.int .i64 0))] [0,1,5])
(.block 0 (.loop ([0,1,5], []) (.seq (.seq (pr [.mv 11 (.s 5), .mv 12 (.s 0), .len 13 false (.s 12), .bin 14 false .lss (.s 11) (.s 13)] [0,1,5,14])
(.cond (.s 14) .skip (.exit 0)))
(.seq (.block 1 (.seq (.dreg [{ o := .mv 17 (.s 0), hs := [18,22,23,24,25,26] }, { o := .mv 18 (.s 5), hs := [17,22,23,24,25,26] }, { o := .idx 19 9 (.s 17) (.s 18), hs := [22,23,24,25,26], bf := [0,1] }, { o := .fld 20 (.s 19) 0, hs := [22,23,24,25,26], bf := [0,1,2] }, { o := .load 21 true 3 (.s 20), hs := [22,23,24,25,26], bf := [0,1,2,3] }, { o := .mv 22 (.s 1), hs := [17,18,19,20,21,23] }, { o := .mv 23 (.s 5), hs := [17,18,19,20,21,22] }, { o := .idx 24 9 (.s 22) (.s 23), hs := [17,18,19,20,21], bf := [5,6] }, { o := .fld 25 (.s 24) 0, hs := [17,18,19,20,21], bf := [5,6,7] }, { o := .load 26 true 3 (.s 25), hs := [17,18,19,20,21], bf := [5,6,7,8] }, { o := .eqA 27 true [.i .i64, .i .i64, .i .i64] (.s 21) (.s 26), bf := [0,1,2,3,4,5,6,7,8,9] }, { o := .mv 28 (.s 27), bf := [0,1,2,3,4,5,6,7,8,9,10] }, { o := .mv 29 (.s 0), g := some (28, false), hs := [30,34,35,36,37,38], bf := [0,1,2,3,4,5,6,7,8,9,10,11] }, { o := .mv 30 (.s 5), g := some (28, false), hs := [29,34,35,36,37,38], bf := [0,1,2,3,4,5,6,7,8,9,10,11] }, { o := .idx 31 9 (.s 29) (.s 30), g := some (28, false), hs := [34,35,36,37,38], bf := [0,1,2,3,4,5,6,7,8,9,10,11,12,13] }, { o := .fld 32 (.s 31) 3, g := some (28, false), hs := [34,35,36,37,38], bf := [0,1,2,3,4,5,6,7,8,9,10,11,12,13,14] }, { o := .load 33 false 1 (.s 32), g := some (28, false), hs := [34,35,36,37,38], bf := [0,1,2,3,4,5,6,7,8,9,10,11,12,13,14,15] }, { o := .mv 34 (.s 1), g := some (28, false), hs := [29,30,31,32,33,35], bf := [0,1,2,3,4,5,6,7,8,9,10,11] }, { o := .mv 35 (.s 5), g := some (28, false), hs := [29,30,31,32,33,34], bf := [0,1,2,3,4,5,6,7,8,9,10,11] }, { o := .idx 36 9 (.s 34) (.s 35), g := some (28, false), hs := [29,30,31,32,33], bf := [0,1,2,3,4,5,6,7,8,9,10,11,17,18] }, { o := .fld 37 (.s 36) 3, g := some (28, false), hs := [29,30,31,32,33], bf := [0,1,2,3,4,5,6,7,8,9,10,11,17,18,19] }, { o := .load 38 false 1 (.s 37), g := some (28, false), hs := [29,30,31,32,33], bf := [0,1,2,3,4,5,6,7,8,9,10,11,17,18,19,20] }, { o := .bin 39 false .neq (.s 33) (.s 38), g := some (28, false), bf := [0,1,2,3,4,5,6,7,8,9,10,11,12,13,14,15,16,17,18,19,20,21] }, { o := .pick 40 (.s 28) (.c (.bool true)) (.s 39), bf := [0,1,2,3,4,5,6,7,8,9,10,11,12,13,14,15,16,17,18,19,20,21,22] }, { o := .mv 41 (.s 40), bf := [0,1,2,3,4,5,6,7,8,9,10,11,12,13,14,15,16,17,18,19,20,21,22,23] }, { o := .mv 42 (.s 0), g := some (41, false), hs := [43,47,48,49,50,51], bf := [0,1,2,3,4,5,6,7,8,9,10,11,12,13,14,15,16,17,18,19,20,21,22,23,24] }, { o := .mv 43 (.s 5), g := some (41, false), hs := [42,47,48,49,50,51], bf := [0,1,2,3,4,5,6,7,8,9,10,11,12,13,14,15,16,17,18,19,20,21,22,23,24] }, { o := .idx 44 9 (.s 42) (.s 43), g := some (41, false), hs := [47,48,49,50,51], bf := [0,1,2,3,4,5,6,7,8,9,10,11,12,13,14,15,16,17,18,19,20,21,22,23,24,25,26] }, { o := .fld 45 (.s 44) 4, g := some (41, false), hs := [47,48,49,50,51], bf := [0,1,2,3,4,5,6,7,8,9,10,11,12,13,14,15,16,17,18,19,20,21,22,23,24,25,26,27] }, { o := .load 46 true 5 (.s 45), g := some (41, false), hs := [47,48,49,50,51], bf := [0,1,2,3,4,5,6,7,8,9,10,11,12,13,14,15,16,17,18,19,20,21,22,23,24,25,26,27,28] }, { o := .mv 47 (.s 1), g := some (41, false), hs := [42,43,44,45,46,48], bf := [0,1,2,3,4,5,6,7,8,9,10,11,12,13,14,15,16,17,18,19,20,21,22,23,24] }, { o := .mv 48 (.s 5), g := some (41, false), hs := [42,43,44,45,46,47], bf := [0,1,2,3,4,5,6,7,8,9,10,11,12,13,14,15,16,17,18,19,20,21,22,23,24] }, { o := .idx 49 9 (.s 47) (.s 48), g := some (41, false), hs := [42,43,44,45,46], bf := [0,1,2,3,4,5,6,7,8,9,10,11,12,13,14,15,16,17,18,19,20,21,22,23,24,30,31] }, { o := .fld 50 (.s 49) 4, g := some (41, false), hs := [42,43,44,45,46], bf := [0,1,2,3,4,5,6,7,8,9,10,11,12,13,14,15,16,17,18,19,20,21,22,23,24,30,31,32] }, { o := .load 51 true 5 (.s 50), g := some (41, false), hs := [42,43,44,45,46], bf := [0,1,2,3,4,5,6,7,8,9,10,11,12,13,14,15,16,17,18,19,20,21,22,23,24,30,31,32,33] }, { o := .call 52 [] (.f n_spec_EqualResources) [.s 46, .s 51], g := some (41, false), bf := [0,1,2,3,4,5,6,7,8,9,10,11,12,13,14,15,16,17,18,19,20,21,22,23,24,25,26,27,28,29,30,31,32,33,34] }, { o := .un 53 .not (.s 52), g := some (41, false), bf := [0,1,2,3,4,5,6,7,8,9,10,11,12,13,14,15,16,17,18,19,20,21,22,23,24,25,26,27,28,29,30,31,32,33,34,35] }, { o := .pick 54 (.s 41) (.c (.bool true)) (.s 53), bf := [0,1,2,3,4,5,6,7,8,9,10,11,12,13,14,15,16,17,18,19,20,21,22,23,24,25,26,27,28,29,30,31,32,33,34,35,36] }] [0,1,5,54])
(.cond (.s 54) (.seq (pr [.mv 4 (.c (.bool false))] [4])
.ret) .skip)))
(pr [.mv 15 (.s 5), .bin 16 false .add (.s 15) (.c (.int .i64 1)), .mv 5 (.s 16)] [0,1,5]))))))
(.seq (pr [.mv 4 (.c (.bool true))] [4])
.ret))))
theorem c_spec_l32Versions (xs ys : List GVersion) : Ctr Try.prog n_spec_l32Versions [aL 9 (xs.map GVersion.enc), aL 9 (ys.map GVersion.enc)] [rB (decide (xs = ys))] := by
  refine ctr_at (M := m_spec_l32Versions) (m := 0) (n := 55) (res := [(.tmp 4, [false])]) hmix Try.func75 rfl (by kernel_rfl) rfl (by kernel_rfl) (by kernel_rfl) (Nat.le_of_ble_eq_true rfl) ?_; unfold m_spec_l32Versions
  intro hb
  simp only [bdA, bdL, bdT, bdR, bdR_map, wfB_i64, wfB_bool, wfB_str, roomB, and_true, true_and, List.length_map] at hb
  obtain ⟨⟨hl, -⟩, ⟨hl2, -⟩⟩ := hb
  simp only [↓bk_bind, ↓bk_map, ↓bk_ite, ↓bk_some, ↓reduceIte, Nat.reduceEqDiff, Nat.reduceLT, Nat.reduceLeDiff, Nat.reduceAdd, Nat.reduceMul, reduceCtorEq, List.reduceReplicate, go_sem]
  refine ⟨fun h => ne_len h, fun h => ?_⟩
  have hle : xs.length = ys.length := by omega
  refine loopK_rng xs (fun k => [(5, vI k)]) (fun k => []) (fun k => xs.take k = ys.take k) hl ?_
  simp only [↓bk_bind, ↓bk_map, ↓bk_ite, ↓bk_some, ↓reduceIte, Nat.reduceEqDiff, Nat.reduceLT, Nat.reduceLeDiff, Nat.reduceAdd, Nat.reduceMul, reduceCtorEq, List.reduceReplicate, go_sem]
  refine ⟨?_, rfl, ?_, ?_⟩
  · simp only [↓bk_bind, ↓bk_map, ↓bk_ite, ↓bk_some, ↓reduceIte, Nat.reduceEqDiff, Nat.reduceLT, Nat.reduceLeDiff, Nat.reduceAdd, Nat.reduceMul, reduceCtorEq, List.reduceReplicate, go_sem]
  · intro k x hx he h0 h1 hw
    obtain ⟨y, hy⟩ := at_some (show k < ys.length by omega)
    have h2 : (k : Int) < ys.length := by omega
    simp only [↓bk_bind, ↓bk_map, ↓bk_ite, ↓bk_some, ↓reduceIte, Nat.reduceEqDiff, Nat.reduceLT, Nat.reduceLeDiff, Nat.reduceAdd, Nat.reduceMul, reduceCtorEq, List.reduceReplicate, go_sem, bk_eq hx, bk_eq hy, h0, h1, h2, hw]
    refine ⟨fun n => ne_at hx hy (by rintro rfl; simp at n), fun n => ⟨fun m => ne_at hx hy (by rintro rfl; exact m rfl), fun m => ?_⟩⟩
    refine callK_of (c_spec_EqualResources x.Resource y.Resource) ?_
    simp only [↓bk_bind, ↓bk_map, ↓bk_ite, ↓bk_some, ↓reduceIte, Nat.reduceEqDiff, Nat.reduceLT, Nat.reduceLeDiff, Nat.reduceAdd, Nat.reduceMul, reduceCtorEq, List.reduceReplicate, go_sem, hw]
    exact ⟨fun hn => ne_at hx hy (by rintro rfl; simp at hn), fun hn => (take_eq_step hx hy he).2 (by simp_all [GVersion.eqv, GResource.eqv])⟩
  · intro he
    simp only [↓bk_bind, ↓bk_map, ↓bk_ite, ↓bk_some, ↓reduceIte, Nat.reduceEqDiff, Nat.reduceLT, Nat.reduceLeDiff, Nat.reduceAdd, Nat.reduceMul, reduceCtorEq, List.reduceReplicate, go_sem]
    exact eq_all he hle
end Go.Proofs.YtcbljemkihnmnaaR
namespace Go.Proofs.YtcbljemkihnmnaaR
open Go Go.RowKit Go.Proofs
set_option linter.unusedSimpArgs false
set_option linter.unusedVariables false
def m_spec_l32Rest : MC :=
(.seq (pr [.box 2 0 (.s 0), .box 3 1 (.s 1), .mv 4 (.c (.bool false))] [2,3])
(.seq (.seq (.reg [{ o := .fld 7 (.s 2) 5 }, { o := .load 8 false 1 (.s 7) }, { o := .len 9 false (.s 8) }, { o := .fld 10 (.s 3) 5 }, { o := .load 11 false 1 (.s 10) }, { o := .len 12 false (.s 11) }, { o := .bin 13 false .neq (.s 9) (.s 12) }, { o := .mv 14 (.s 13) }, { o := .fld 15 (.s 2) 8, g := some (14, false) }, { o := .load 16 false 1 (.s 15), g := some (14, false) }, { o := .len 17 false (.s 16), g := some (14, false) }, { o := .fld 18 (.s 3) 8, g := some (14, false) }, { o := .load 19 false 1 (.s 18), g := some (14, false) }, { o := .len 20 false (.s 19), g := some (14, false) }, { o := .bin 21 false .neq (.s 17) (.s 20), g := some (14, false) }, { o := .pick 22 (.s 14) (.c (.bool true)) (.s 21) }, { o := .mv 23 (.s 22) }, { o := .fld 24 (.s 2) 9, g := some (23, false) }, { o := .load 25 false 1 (.s 24), g := some (23, false) }, { o := .fld 26 (.s 3) 9, g := some (23, false) }, { o := .load 27 false 1 (.s 26), g := some (23, false) }, { o := .bin 28 false .neq (.s 25) (.s 27), g := some (23, false) }, { o := .pick 29 (.s 23) (.c (.bool true)) (.s 28) }] [2,3,29])
(.cond (.s 29) (.seq (pr [.mv 4 (.c (.bool false))] [4])
.ret) .skip))
(.seq (.seq (pr [.mv 5 (.c (.int .i64 0))] [2,3,5])
(.block 0 (.loop ([2,3,5], []) (.seq (.seq (pr [.mv 30 (.s 5), .fld 31 (.s 2) 5, .load 32 false 1 (.s 31), .len 33 false (.s 32), .bin 34 false .lss (.s 30) (.s 33)] [2,3,5,34])
(.cond (.s 34) .skip (.exit 0)))
(.seq (.block 1 (.seq (.dreg [{ o := .fld 37 (.s 2) 5, hs := [39,42,43,44,45,46] }, { o := .load 38 false 1 (.s 37), hs := [39,42,43,44,45,46], bf := [0] }, { o := .mv 39 (.s 5), hs := [37,38,42,43,44,45,46] }, { o := .idx 40 5 (.s 38) (.s 39), hs := [42,43,44,45,46], bf := [0,1,2] }, { o := .load 41 true 5 (.s 40), hs := [42,43,44,45,46], bf := [0,1,2,3] }, { o := .fld 42 (.s 3) 5, hs := [37,38,39,40,41,44] }, { o := .load 43 false 1 (.s 42), hs := [37,38,39,40,41,44], bf := [5] }, { o := .mv 44 (.s 5), hs := [37,38,39,40,41,42,43] }, { o := .idx 45 5 (.s 43) (.s 44), hs := [37,38,39,40,41], bf := [5,6,7] }, { o := .load 46 true 5 (.s 45), hs := [37,38,39,40,41], bf := [5,6,7,8] }, { o := .eqA 47 true [.i .i64, .i .i64, .i .i64, .i .i64, .i .i64] (.s 41) (.s 46), bf := [0,1,2,3,4,5,6,7,8,9] }] [2,3,5,47])
(.cond (.s 47) (.seq (pr [.mv 4 (.c (.bool false))] [4])
.ret) .skip)))
(pr [.mv 35 (.s 5), .bin 36 false .add (.s 35) (.c (.int .i64 1)), .mv 5 (.s 36)] [2,3,5]))))))
(.seq (.seq (pr [.mv 6 (.c (.int .i64 0))] [2,3,6])
(.block 2 (.loop ([2,3,6], []) (.seq (.seq (pr [.mv 48 (.s 6), .fld 49 (.s 2) 8, .load 50 false 1 (.s 49), .len 51 false (.s 50), .bin 52 false .lss (.s 48) (.s 51)] [2,3,6,52])
(.cond (.s 52) .skip (.exit 2)))
(.seq (.block 3 (.seq (.dreg [{ o := .fld 55 (.s 2) 8, hs := [57,60,61,62,63,64] }, { o := .load 56 false 1 (.s 55), hs := [57,60,61,62,63,64], bf := [0] }, { o := .mv 57 (.s 6), hs := [55,56,60,61,62,63,64] }, { o := .idx 58 4 (.s 56) (.s 57), hs := [60,61,62,63,64], bf := [0,1,2] }, { o := .load 59 true 4 (.s 58), hs := [60,61,62,63,64], bf := [0,1,2,3] }, { o := .fld 60 (.s 3) 8, hs := [55,56,57,58,59,62] }, { o := .load 61 false 1 (.s 60), hs := [55,56,57,58,59,62], bf := [5] }, { o := .mv 62 (.s 6), hs := [55,56,57,58,59,60,61] }, { o := .idx 63 4 (.s 61) (.s 62), hs := [55,56,57,58,59], bf := [5,6,7] }, { o := .load 64 true 4 (.s 63), hs := [55,56,57,58,59], bf := [5,6,7,8] }, { o := .eqA 65 true [.i .i64, .i .i64, .i .i64, .i .i64] (.s 59) (.s 64), bf := [0,1,2,3,4,5,6,7,8,9] }] [2,3,6,65])
(.cond (.s 65) (.seq (pr [.mv 4 (.c (.bool false))] [4])
.ret) .skip)))
(pr [.mv 53 (.s 6), .bin 54 false .add (.s 53) (.c (.int .i64 1)), .mv 6 (.s 54)] [2,3,6]))))))
(.seq (.reg [{ o := .fld 66 (.s 2) 7 }, { o := .load 67 false 1 (.s 66) }, { o := .fld 68 (.s 3) 7 }, { o := .load 69 false 1 (.s 68) }, { o := .call 70 [] (.f n_spec_EqualInts) [.s 67, .s 69] }, { o := .mv 71 (.s 70) }, { o := .fld 72 (.s 2) 6, g := some (71, true) }, { o := .load 73 false 1 (.s 72), g := some (71, true) }, { o := .fld 74 (.s 3) 6, g := some (71, true) }, { o := .load 75 false 1 (.s 74), g := some (71, true) }, { o := .call 76 [] (.f n_spec_EqualLibraries) [.s 73, .s 75], g := some (71, true) }, { o := .pick 77 (.s 71) (.s 76) (.c (.bool false)) }, { o := .mv 4 (.s 77) }] [4])
.ret)))))
set_option maxRecDepth 20000 in
theorem c_spec_l32Rest (a b : GArchive) : Ctr Try.prog n_spec_l32Rest [aS a.enc, aS b.enc] [rB (decide (a.Exclusions = b.Exclusions ∧ a.Libraries = b.Libraries ∧ a.Keys = b.Keys ∧ a.Statements = b.Statements ∧ a.Now = b.Now))] := by
  refine ctr_at (M := m_spec_l32Rest) (m := 2) (n := 78) (res := [(.tmp 4, [false])]) hmix Try.func80 rfl (by kernel_rfl) rfl (by kernel_rfl) (by kernel_rfl) (Nat.le_of_ble_eq_true rfl) ?_; unfold m_spec_l32Rest
  intro hb
  simp only [GArchive.enc, bdA, bdL, bdT, bdR, bdR_map, wfB_i64, wfB_bool, wfB_str, roomB, and_true, true_and, List.length_map] at hb
  obtain ⟨⟨-, -, -, -, -, ⟨hl, -⟩, -, -, ⟨hl2, -⟩, -⟩, -⟩ := hb
  simp only [↓bk_bind, ↓bk_map, ↓bk_ite, ↓bk_some, ↓reduceIte, Nat.reduceEqDiff, Nat.reduceLT, Nat.reduceLeDiff, Nat.reduceAdd, Nat.reduceMul, reduceCtorEq, List.reduceReplicate, go_sem]
  refine ⟨fun n => ff fun h => n (by rw [h.1]), fun n1 => ⟨fun n => ff fun h => n (by rw [h.2.2.2.1]), fun n2 => ⟨fun n => ff fun h => n h.2.2.2.2, fun n3 => ?_⟩⟩⟩
  have e1 : a.Exclusions.length = b.Exclusions.length := by omega
  have e2 : a.Statements.length = b.Statements.length := by omega
  refine loopK_rng a.Exclusions (fun k => [(5, vI k)]) (fun k => []) (fun k => a.Exclusions.take k = b.Exclusions.take k) hl ?_
  simp only [↓bk_bind, ↓bk_map, ↓bk_ite, ↓bk_some, ↓reduceIte, Nat.reduceEqDiff, Nat.reduceLT, Nat.reduceLeDiff, Nat.reduceAdd, Nat.reduceMul, reduceCtorEq, List.reduceReplicate, go_sem]
  refine ⟨?_, rfl, ?_, ?_⟩
  · simp only [↓bk_bind, ↓bk_map, ↓bk_ite, ↓bk_some, ↓reduceIte, Nat.reduceEqDiff, Nat.reduceLT, Nat.reduceLeDiff, Nat.reduceAdd, Nat.reduceMul, reduceCtorEq, List.reduceReplicate, go_sem]
  · intro k x hx he h0 h1 hw
    obtain ⟨y, hy⟩ := at_some (show k < b.Exclusions.length by omega)
    have h2 : (k : Int) < b.Exclusions.length := by omega
    simp only [↓bk_bind, ↓bk_map, ↓bk_ite, ↓bk_some, ↓reduceIte, Nat.reduceEqDiff, Nat.reduceLT, Nat.reduceLeDiff, Nat.reduceAdd, Nat.reduceMul, reduceCtorEq, List.reduceReplicate, go_sem, bk_eq hx, bk_eq hy, h0, h1, h2, hw, eqB]
    exact ⟨fun hn => ff fun h => absurd h.1 (of_decide_eq_false (ne_at hx hy (by rintro rfl; simp at hn)).symm), fun hn => (take_eq_step hx hy he).2 (by exact GExclusion.eqv.2 (by simpa using hn))⟩
  intro he
  simp only [↓bk_bind, ↓bk_map, ↓bk_ite, ↓bk_some, ↓reduceIte, Nat.reduceEqDiff, Nat.reduceLT, Nat.reduceLeDiff, Nat.reduceAdd, Nat.reduceMul, reduceCtorEq, List.reduceReplicate, go_sem]
  have x1 : a.Exclusions = b.Exclusions := of_decide_eq_true (eq_all he e1).symm
  clear he
  refine loopK_rng a.Statements (fun k => [(6, vI k)]) (fun k => []) (fun k => a.Statements.take k = b.Statements.take k) hl2 ?_
  simp only [↓bk_bind, ↓bk_map, ↓bk_ite, ↓bk_some, ↓reduceIte, Nat.reduceEqDiff, Nat.reduceLT, Nat.reduceLeDiff, Nat.reduceAdd, Nat.reduceMul, reduceCtorEq, List.reduceReplicate, go_sem]
  refine ⟨?_, rfl, ?_, ?_⟩
  · simp only [↓bk_bind, ↓bk_map, ↓bk_ite, ↓bk_some, ↓reduceIte, Nat.reduceEqDiff, Nat.reduceLT, Nat.reduceLeDiff, Nat.reduceAdd, Nat.reduceMul, reduceCtorEq, List.reduceReplicate, go_sem]
  · intro k x hx he h0 h1 hw
    obtain ⟨y, hy⟩ := at_some (show k < b.Statements.length by omega)
    have h2 : (k : Int) < b.Statements.length := by omega
    simp only [↓bk_bind, ↓bk_map, ↓bk_ite, ↓bk_some, ↓reduceIte, Nat.reduceEqDiff, Nat.reduceLT, Nat.reduceLeDiff, Nat.reduceAdd, Nat.reduceMul, reduceCtorEq, List.reduceReplicate, go_sem, bk_eq hx, bk_eq hy, h0, h1, h2, hw, eqB]
    exact ⟨fun hn => ff fun h => absurd h.2.2.2.1 (of_decide_eq_false (ne_at hx hy (by rintro rfl; simp at hn)).symm), fun hn => (take_eq_step hx hy he).2 (by exact GStatement.eqv.2 (by simpa using hn))⟩
  intro he
  simp only [↓bk_bind, ↓bk_map, ↓bk_ite, ↓bk_some, ↓reduceIte, Nat.reduceEqDiff, Nat.reduceLT, Nat.reduceLeDiff, Nat.reduceAdd, Nat.reduceMul, reduceCtorEq, List.reduceReplicate, go_sem]
  have x2 : a.Statements = b.Statements := of_decide_eq_true (eq_all he e2).symm
  refine callK_of (c_spec_EqualInts a.Keys b.Keys) ?_
  simp only [↓bk_bind, ↓bk_map, ↓bk_ite, ↓bk_some, ↓reduceIte, Nat.reduceEqDiff, Nat.reduceLT, Nat.reduceLeDiff, Nat.reduceAdd, Nat.reduceMul, reduceCtorEq, List.reduceReplicate, go_sem]
  refine ⟨fun k => ?_, fun k => ff fun h => k h.2.2.1⟩
  refine callK_of (c_spec_EqualLibraries a.Libraries b.Libraries) ?_
  simp only [↓bk_bind, ↓bk_map, ↓bk_ite, ↓bk_some, ↓reduceIte, Nat.reduceEqDiff, Nat.reduceLT, Nat.reduceLeDiff, Nat.reduceAdd, Nat.reduceMul, reduceCtorEq, List.reduceReplicate, go_sem]
  simp_all
def m_spec_EqualArchives : MC :=
(.seq (pr [.box 2 0 (.s 0), .box 3 1 (.s 1), .mv 4 (.c (.bool false))] [2,3])
(.seq (.dreg [{ o := .fld 5 (.s 2) 0, hs := [7,8] }, { o := .load 6 false 1 (.s 5), hs := [7,8], bf := [0] }, { o := .fld 7 (.s 3) 0, hs := [5,6] }, { o := .load 8 false 1 (.s 7), hs := [5,6], bf := [2] }, { o := .call 9 [] (.f n_spec_l32Versions) [.s 6, .s 8], bf := [0,1,2,3] }, { o := .mv 10 (.s 9), bf := [0,1,2,3,4] }, { o := .fld 11 (.s 2) 1, g := some (10, true), hs := [14,15], bf := [0,1,2,3,4,5] }, { o := .load 12 false 1 (.s 11), g := some (10, true), hs := [14,15], bf := [0,1,2,3,4,5,6] }, { o := .call 13 [2] (.f n_spec_ScriptInts) [.s 12], g := some (10, true), hs := [14,15], ws := [2], bf := [0,1,2,3,4,5,6,7] }, { o := .fld 14 (.s 3) 1, g := some (10, true), hs := [11,12,13], ho := [2], bf := [0,1,2,3,4,5] }, { o := .load 15 false 1 (.s 14), g := some (10, true), hs := [11,12,13], ho := [2], bf := [0,1,2,3,4,5,9] }, { o := .call 16 [3] (.f n_spec_ScriptInts) [.s 15], g := some (10, true), ws := [3], bf := [0,1,2,3,4,5,6,7,8,9,10] }, { o := .call 17 [] (.f n_spec_EqualInts) [.s 13, .s 16], g := some (10, true), bf := [0,1,2,3,4,5,6,7,8,9,10,11] }, { o := .pick 18 (.s 10) (.s 17) (.c (.bool false)), bf := [0,1,2,3,4,5,6,7,8,9,10,11,12] }, { o := .mv 19 (.s 18), bf := [0,1,2,3,4,5,6,7,8,9,10,11,12,13] }, { o := .fld 20 (.s 2) 2, g := some (19, true), hs := [23,24,25], bf := [0,1,2,3,4,5,6,7,8,9,10,11,12,13,14] }, { o := .fld 21 (.s 20) 0, g := some (19, true), hs := [23,24,25], bf := [0,1,2,3,4,5,6,7,8,9,10,11,12,13,14,15] }, { o := .load 22 false 1 (.s 21), g := some (19, true), hs := [23,24,25], bf := [0,1,2,3,4,5,6,7,8,9,10,11,12,13,14,15,16] }, { o := .fld 23 (.s 3) 2, g := some (19, true), hs := [20,21,22], bf := [0,1,2,3,4,5,6,7,8,9,10,11,12,13,14] }, { o := .fld 24 (.s 23) 0, g := some (19, true), hs := [20,21,22], bf := [0,1,2,3,4,5,6,7,8,9,10,11,12,13,14,18] }, { o := .load 25 false 1 (.s 24), g := some (19, true), hs := [20,21,22], bf := [0,1,2,3,4,5,6,7,8,9,10,11,12,13,14,18,19] }, { o := .call 26 [] (.f n_spec_l32Containers) [.s 22, .s 25], g := some (19, true), bf := [0,1,2,3,4,5,6,7,8,9,10,11,12,13,14,15,16,17,18,19,20] }, { o := .pick 27 (.s 19) (.s 26) (.c (.bool false)), bf := [0,1,2,3,4,5,6,7,8,9,10,11,12,13,14,15,16,17,18,19,20,21] }, { o := .mv 28 (.s 27), bf := [0,1,2,3,4,5,6,7,8,9,10,11,12,13,14,15,16,17,18,19,20,21,22] }, { o := .fld 29 (.s 2) 2, g := some (28, true), hs := [32,33,34], bf := [0,1,2,3,4,5,6,7,8,9,10,11,12,13,14,15,16,17,18,19,20,21,22,23] }, { o := .fld 30 (.s 29) 2, g := some (28, true), hs := [32,33,34], bf := [0,1,2,3,4,5,6,7,8,9,10,11,12,13,14,15,16,17,18,19,20,21,22,23,24] }, { o := .load 31 false 1 (.s 30), g := some (28, true), hs := [32,33,34], bf := [0,1,2,3,4,5,6,7,8,9,10,11,12,13,14,15,16,17,18,19,20,21,22,23,24,25] }, { o := .fld 32 (.s 3) 2, g := some (28, true), hs := [29,30,31], bf := [0,1,2,3,4,5,6,7,8,9,10,11,12,13,14,15,16,17,18,19,20,21,22,23] }, { o := .fld 33 (.s 32) 2, g := some (28, true), hs := [29,30,31], bf := [0,1,2,3,4,5,6,7,8,9,10,11,12,13,14,15,16,17,18,19,20,21,22,23,27] }, { o := .load 34 false 1 (.s 33), g := some (28, true), hs := [29,30,31], bf := [0,1,2,3,4,5,6,7,8,9,10,11,12,13,14,15,16,17,18,19,20,21,22,23,27,28] }, { o := .call 35 [] (.f n_spec_l32Containers) [.s 31, .s 34], g := some (28, true), bf := [0,1,2,3,4,5,6,7,8,9,10,11,12,13,14,15,16,17,18,19,20,21,22,23,24,25,26,27,28,29] }, { o := .pick 36 (.s 28) (.s 35) (.c (.bool false)), bf := [0,1,2,3,4,5,6,7,8,9,10,11,12,13,14,15,16,17,18,19,20,21,22,23,24,25,26,27,28,29,30] }, { o := .mv 37 (.s 36), bf := [0,1,2,3,4,5,6,7,8,9,10,11,12,13,14,15,16,17,18,19,20,21,22,23,24,25,26,27,28,29,30,31] }, { o := .fld 38 (.s 2) 2, g := some (37, true), hs := [41,42,43], bf := [0,1,2,3,4,5,6,7,8,9,10,11,12,13,14,15,16,17,18,19,20,21,22,23,24,25,26,27,28,29,30,31,32] }, { o := .fld 39 (.s 38) 1, g := some (37, true), hs := [41,42,43], bf := [0,1,2,3,4,5,6,7,8,9,10,11,12,13,14,15,16,17,18,19,20,21,22,23,24,25,26,27,28,29,30,31,32,33] }, { o := .load 40 false 1 (.s 39), g := some (37, true), hs := [41,42,43], bf := [0,1,2,3,4,5,6,7,8,9,10,11,12,13,14,15,16,17,18,19,20,21,22,23,24,25,26,27,28,29,30,31,32,33,34] }, { o := .fld 41 (.s 3) 2, g := some (37, true), hs := [38,39,40], bf := [0,1,2,3,4,5,6,7,8,9,10,11,12,13,14,15,16,17,18,19,20,21,22,23,24,25,26,27,28,29,30,31,32] }, { o := .fld 42 (.s 41) 1, g := some (37, true), hs := [38,39,40], bf := [0,1,2,3,4,5,6,7,8,9,10,11,12,13,14,15,16,17,18,19,20,21,22,23,24,25,26,27,28,29,30,31,32,36] }, { o := .load 43 false 1 (.s 42), g := some (37, true), hs := [38,39,40], bf := [0,1,2,3,4,5,6,7,8,9,10,11,12,13,14,15,16,17,18,19,20,21,22,23,24,25,26,27,28,29,30,31,32,36,37] }, { o := .call 44 [] (.f n_spec_l31Same) [.s 40, .s 43], g := some (37, true), bf := [0,1,2,3,4,5,6,7,8,9,10,11,12,13,14,15,16,17,18,19,20,21,22,23,24,25,26,27,28,29,30,31,32,33,34,35,36,37,38] }, { o := .pick 45 (.s 37) (.s 44) (.c (.bool false)), bf := [0,1,2,3,4,5,6,7,8,9,10,11,12,13,14,15,16,17,18,19,20,21,22,23,24,25,26,27,28,29,30,31,32,33,34,35,36,37,38,39] }, { o := .mv 46 (.s 45), bf := [0,1,2,3,4,5,6,7,8,9,10,11,12,13,14,15,16,17,18,19,20,21,22,23,24,25,26,27,28,29,30,31,32,33,34,35,36,37,38,39,40] }, { o := .load 47 true 10 (.s 2), g := some (46, true), hs := [48], bf := [0,1,2,3,4,5,6,7,8,9,10,11,12,13,14,15,16,17,18,19,20,21,22,23,24,25,26,27,28,29,30,31,32,33,34,35,36,37,38,39,40,41] }, { o := .load 48 true 10 (.s 3), g := some (46, true), hs := [47], bf := [0,1,2,3,4,5,6,7,8,9,10,11,12,13,14,15,16,17,18,19,20,21,22,23,24,25,26,27,28,29,30,31,32,33,34,35,36,37,38,39,40,41] }, { o := .call 49 [] (.f n_spec_l32Rest) [.s 47, .s 48], g := some (46, true), bf := [0,1,2,3,4,5,6,7,8,9,10,11,12,13,14,15,16,17,18,19,20,21,22,23,24,25,26,27,28,29,30,31,32,33,34,35,36,37,38,39,40,41,42,43] }, { o := .pick 50 (.s 46) (.s 49) (.c (.bool false)), bf := [0,1,2,3,4,5,6,7,8,9,10,11,12,13,14,15,16,17,18,19,20,21,22,23,24,25,26,27,28,29,30,31,32,33,34,35,36,37,38,39,40,41,42,43,44] }, { o := .mv 4 (.s 50), bf := [0,1,2,3,4,5,6,7,8,9,10,11,12,13,14,15,16,17,18,19,20,21,22,23,24,25,26,27,28,29,30,31,32,33,34,35,36,37,38,39,40,41,42,43,44,45] }] [4])
.ret))
set_option maxRecDepth 20000 in
theorem c_spec_EqualArchives (a b : GArchive) (a1 : a.Script.length ≤ 1099511627776) (a2 : ∀ x ∈ a.Disk.Containers, x.Script.length ≤ 1099511627776) (a3 : ∀ x ∈ a.Disk.Wanted, x.Script.length ≤ 1099511627776) (b1 : b.Script.length ≤ 1099511627776) (b2 : ∀ x ∈ b.Disk.Containers, x.Script.length ≤ 1099511627776) (b3 : ∀ x ∈ b.Disk.Wanted, x.Script.length ≤ 1099511627776) : Ctr Try.prog n_spec_EqualArchives [aS a.enc, aS b.enc] [rB (decide (a = b))] := by
  refine ctr_at (M := m_spec_EqualArchives) (m := 4) (n := 51) (res := [(.tmp 4, [false])]) hmix Try.func34 rfl (by kernel_rfl) rfl (by kernel_rfl) (by kernel_rfl) (Nat.le_of_ble_eq_true rfl) ?_; unfold m_spec_EqualArchives
  intro hb
  clear hb
  simp only [↓bk_bind, ↓bk_map, ↓bk_ite, ↓bk_some, ↓reduceIte, Nat.reduceEqDiff, Nat.reduceLT, Nat.reduceLeDiff, Nat.reduceAdd, Nat.reduceMul, reduceCtorEq, List.reduceReplicate, go_sem]
  refine callK_of (c_spec_l32Versions a.Site b.Site) ?_
  simp only [↓bk_bind, ↓bk_map, ↓bk_ite, ↓bk_some, ↓reduceIte, Nat.reduceEqDiff, Nat.reduceLT, Nat.reduceLeDiff, Nat.reduceAdd, Nat.reduceMul, reduceCtorEq, List.reduceReplicate, go_sem, scriptInts_inj]
  refine ⟨fun k => ?_, fun k => by intros; exact ff fun h => k (by rw [h])⟩
  refine callK_of (c_spec_ScriptInts a.Script a1) ?_
  simp only [↓bk_bind, ↓bk_map, ↓bk_ite, ↓bk_some, ↓reduceIte, Nat.reduceEqDiff, Nat.reduceLT, Nat.reduceLeDiff, Nat.reduceAdd, Nat.reduceMul, reduceCtorEq, List.reduceReplicate, go_sem, scriptInts_inj]
  refine callK_of (c_spec_ScriptInts b.Script b1) ?_
  simp only [↓bk_bind, ↓bk_map, ↓bk_ite, ↓bk_some, ↓reduceIte, Nat.reduceEqDiff, Nat.reduceLT, Nat.reduceLeDiff, Nat.reduceAdd, Nat.reduceMul, reduceCtorEq, List.reduceReplicate, go_sem, scriptInts_inj]
  refine callK_of (c_spec_EqualInts (scriptInts a.Script) (scriptInts b.Script)) ?_
  simp only [↓bk_bind, ↓bk_map, ↓bk_ite, ↓bk_some, ↓reduceIte, Nat.reduceEqDiff, Nat.reduceLT, Nat.reduceLeDiff, Nat.reduceAdd, Nat.reduceMul, reduceCtorEq, List.reduceReplicate, go_sem, scriptInts_inj]
  refine ⟨fun k => ?_, fun k => by intros; exact ff fun h => k (by rw [h])⟩
  refine callK_of (c_spec_l32Containers a.Disk.Containers b.Disk.Containers a2 b2) ?_
  simp only [↓bk_bind, ↓bk_map, ↓bk_ite, ↓bk_some, ↓reduceIte, Nat.reduceEqDiff, Nat.reduceLT, Nat.reduceLeDiff, Nat.reduceAdd, Nat.reduceMul, reduceCtorEq, List.reduceReplicate, go_sem, scriptInts_inj]
  refine ⟨fun k => ?_, fun k => by intros; exact ff fun h => k (by rw [h])⟩
  refine callK_of (c_spec_l32Containers a.Disk.Wanted b.Disk.Wanted a3 b3) ?_
  simp only [↓bk_bind, ↓bk_map, ↓bk_ite, ↓bk_some, ↓reduceIte, Nat.reduceEqDiff, Nat.reduceLT, Nat.reduceLeDiff, Nat.reduceAdd, Nat.reduceMul, reduceCtorEq, List.reduceReplicate, go_sem, scriptInts_inj]
  refine ⟨fun k => ?_, fun k => by intros; exact ff fun h => k (by rw [h])⟩
  refine callK_of (c_spec_l31Same a.Disk.Index b.Disk.Index) ?_
  simp only [↓bk_bind, ↓bk_map, ↓bk_ite, ↓bk_some, ↓reduceIte, Nat.reduceEqDiff, Nat.reduceLT, Nat.reduceLeDiff, Nat.reduceAdd, Nat.reduceMul, reduceCtorEq, List.reduceReplicate, go_sem, scriptInts_inj]
  refine ⟨fun k => ?_, fun k => by intros; exact ff fun h => k (by rw [h])⟩
  refine callK_of (c_spec_l32Rest a b) ?_
  simp only [↓bk_bind, ↓bk_map, ↓bk_ite, ↓bk_some, ↓reduceIte, Nat.reduceEqDiff, Nat.reduceLT, Nat.reduceLeDiff, Nat.reduceAdd, Nat.reduceMul, reduceCtorEq, List.reduceReplicate, go_sem]
  intros
  clear a1 a2 a3 b1 b2 b3
  simp_all [GArchive.eqv]
def m_impl_EqualArchives : MC :=
(.seq (pr [.box 2 0 (.s 0), .box 3 1 (.s 1), .mv 4 (.c (.bool false))] [2,3])
(.seq (.reg [{ o := .fld 5 (.s 2) 0 }, { o := .load 6 false 1 (.s 5) }, { o := .fld 7 (.s 3) 0 }, { o := .load 8 false 1 (.s 7) }, { o := .call 9 [] (.f n_slices_EqualFunc_impl_Version_impl_Version_impl_Version_impl_Version) [.s 6, .s 8, .f n_impl_EqualArchives_1] }, { o := .mv 10 (.s 9) }, { o := .fld 11 (.s 2) 1, g := some (10, true) }, { o := .load 12 false 1 (.s 11), g := some (10, true) }, { o := .fld 13 (.s 3) 1, g := some (10, true) }, { o := .load 14 false 1 (.s 13), g := some (10, true) }, { o := .call 15 [] (.f n_slices_Equal_impl_Op_impl_Op) [.s 12, .s 14], g := some (10, true) }, { o := .pick 16 (.s 10) (.s 15) (.c (.bool false)) }, { o := .mv 17 (.s 16) }, { o := .fld 18 (.s 2) 2, g := some (17, true) }, { o := .fld 19 (.s 18) 0, g := some (17, true) }, { o := .load 20 false 1 (.s 19), g := some (17, true) }, { o := .fld 21 (.s 3) 2, g := some (17, true) }, { o := .fld 22 (.s 21) 0, g := some (17, true) }, { o := .load 23 false 1 (.s 22), g := some (17, true) }, { o := .call 24 [] (.f n_slices_EqualFunc_impl_Container_impl_Container_impl_Container_impl_Container) [.s 20, .s 23, .f n_impl_EqualContainers], g := some (17, true) }, { o := .pick 25 (.s 17) (.s 24) (.c (.bool false)) }, { o := .mv 26 (.s 25) }, { o := .fld 27 (.s 2) 2, g := some (26, true) }, { o := .fld 28 (.s 27) 1, g := some (26, true) }, { o := .load 29 false 1 (.s 28), g := some (26, true) }, { o := .fld 30 (.s 3) 2, g := some (26, true) }, { o := .fld 31 (.s 30) 1, g := some (26, true) }, { o := .load 32 false 1 (.s 31), g := some (26, true) }, { o := .call 33 [] (.f n_slices_Equal_impl_Found_impl_Found) [.s 29, .s 32], g := some (26, true) }, { o := .pick 34 (.s 26) (.s 33) (.c (.bool false)) }, { o := .mv 35 (.s 34) }, { o := .fld 36 (.s 2) 2, g := some (35, true) }, { o := .fld 37 (.s 36) 2, g := some (35, true) }, { o := .load 38 false 1 (.s 37), g := some (35, true) }, { o := .fld 39 (.s 3) 2, g := some (35, true) }, { o := .fld 40 (.s 39) 2, g := some (35, true) }, { o := .load 41 false 1 (.s 40), g := some (35, true) }, { o := .call 42 [] (.f n_slices_EqualFunc_impl_Container_impl_Container_impl_Container_impl_Container) [.s 38, .s 41, .f n_impl_EqualContainers], g := some (35, true) }, { o := .pick 43 (.s 35) (.s 42) (.c (.bool false)) }, { o := .mv 44 (.s 43) }, { o := .fld 45 (.s 2) 5, g := some (44, true) }, { o := .load 46 false 1 (.s 45), g := some (44, true) }, { o := .fld 47 (.s 3) 5, g := some (44, true) }, { o := .load 48 false 1 (.s 47), g := some (44, true) }, { o := .call 49 [] (.f n_slices_Equal_impl_Exclusion_impl_Exclusion) [.s 46, .s 48], g := some (44, true) }, { o := .pick 50 (.s 44) (.s 49) (.c (.bool false)) }, { o := .mv 51 (.s 50) }, { o := .fld 52 (.s 2) 6, g := some (51, true) }, { o := .load 53 false 1 (.s 52), g := some (51, true) }, { o := .fld 54 (.s 3) 6, g := some (51, true) }, { o := .load 55 false 1 (.s 54), g := some (51, true) }, { o := .call 56 [] (.f n_impl_EqualLibraries) [.s 53, .s 55], g := some (51, true) }, { o := .pick 57 (.s 51) (.s 56) (.c (.bool false)) }, { o := .mv 58 (.s 57) }, { o := .fld 59 (.s 2) 7, g := some (58, true) }, { o := .load 60 false 1 (.s 59), g := some (58, true) }, { o := .fld 61 (.s 3) 7, g := some (58, true) }, { o := .load 62 false 1 (.s 61), g := some (58, true) }, { o := .call 63 [] (.f n_slices_Equal_int_int) [.s 60, .s 62], g := some (58, true) }, { o := .pick 64 (.s 58) (.s 63) (.c (.bool false)) }, { o := .mv 65 (.s 64) }, { o := .fld 66 (.s 2) 8, g := some (65, true) }, { o := .load 67 false 1 (.s 66), g := some (65, true) }, { o := .fld 68 (.s 3) 8, g := some (65, true) }, { o := .load 69 false 1 (.s 68), g := some (65, true) }, { o := .call 70 [] (.f n_slices_Equal_impl_Statement_impl_Statement) [.s 67, .s 69], g := some (65, true) }, { o := .pick 71 (.s 65) (.s 70) (.c (.bool false)) }, { o := .mv 72 (.s 71) }, { o := .fld 73 (.s 2) 9, g := some (72, true) }, { o := .load 74 false 1 (.s 73), g := some (72, true) }, { o := .fld 75 (.s 3) 9, g := some (72, true) }, { o := .load 76 false 1 (.s 75), g := some (72, true) }, { o := .bin 77 false .eql (.s 74) (.s 76), g := some (72, true) }, { o := .pick 78 (.s 72) (.s 77) (.c (.bool false)) }, { o := .mv 4 (.s 78) }] [4])
.ret))
set_option maxRecDepth 20000 in
theorem c_impl_EqualArchives (a b : GArchive) : Ctr Try.prog n_impl_EqualArchives [aS a.enc, aS b.enc] [rB (decide (a = b))] := by
  refine ctr_at (M := m_impl_EqualArchives) (m := 2) (n := 79) (res := [(.tmp 4, [false])]) hmix Try.func35 rfl (by kernel_rfl) rfl (by kernel_rfl) (by kernel_rfl) (Nat.le_of_ble_eq_true rfl) ?_; unfold m_impl_EqualArchives
  intro hb
  clear hb
  simp only [↓bk_bind, ↓bk_map, ↓bk_ite, ↓bk_some, ↓reduceIte, Nat.reduceEqDiff, Nat.reduceLT, Nat.reduceLeDiff, Nat.reduceAdd, Nat.reduceMul, reduceCtorEq, List.reduceReplicate, go_sem]
  refine callK_of (c_slices_EqualFunc_Version a.Site b.Site _ [] (fun x y => decide (x = y)) fun x y _ _ => c_impl_EqualArchives_1 x y) ?_
  simp only [↓bk_bind, ↓bk_map, ↓bk_ite, ↓bk_some, ↓reduceIte, Nat.reduceEqDiff, Nat.reduceLT, Nat.reduceLeDiff, Nat.reduceAdd, Nat.reduceMul, reduceCtorEq, List.reduceReplicate, go_sem, eqF_eq]
  refine ⟨fun k => ?_, fun k => by intros; exact ff fun h => k (by rw [h])⟩
  refine callK_of (c_slices_Equal_Op a.Script b.Script) ?_
  simp only [↓bk_bind, ↓bk_map, ↓bk_ite, ↓bk_some, ↓reduceIte, Nat.reduceEqDiff, Nat.reduceLT, Nat.reduceLeDiff, Nat.reduceAdd, Nat.reduceMul, reduceCtorEq, List.reduceReplicate, go_sem, eqF_eq]
  refine ⟨fun k => ?_, fun k => by intros; exact ff fun h => k (by rw [h])⟩
  refine callK_of (c_slices_EqualFunc_Container a.Disk.Containers b.Disk.Containers _ [] (fun x y => decide (x = y)) fun x y _ _ => c_impl_EqualContainers x y) ?_
  simp only [↓bk_bind, ↓bk_map, ↓bk_ite, ↓bk_some, ↓reduceIte, Nat.reduceEqDiff, Nat.reduceLT, Nat.reduceLeDiff, Nat.reduceAdd, Nat.reduceMul, reduceCtorEq, List.reduceReplicate, go_sem, eqF_eq]
  refine ⟨fun k => ?_, fun k => by intros; exact ff fun h => k (by rw [h])⟩
  refine callK_of (c_slices_Equal_Found a.Disk.Index b.Disk.Index) ?_
  simp only [↓bk_bind, ↓bk_map, ↓bk_ite, ↓bk_some, ↓reduceIte, Nat.reduceEqDiff, Nat.reduceLT, Nat.reduceLeDiff, Nat.reduceAdd, Nat.reduceMul, reduceCtorEq, List.reduceReplicate, go_sem, eqF_eq]
  refine ⟨fun k => ?_, fun k => by intros; exact ff fun h => k (by rw [h])⟩
  refine callK_of (c_slices_EqualFunc_Container a.Disk.Wanted b.Disk.Wanted _ [] (fun x y => decide (x = y)) fun x y _ _ => c_impl_EqualContainers x y) ?_
  simp only [↓bk_bind, ↓bk_map, ↓bk_ite, ↓bk_some, ↓reduceIte, Nat.reduceEqDiff, Nat.reduceLT, Nat.reduceLeDiff, Nat.reduceAdd, Nat.reduceMul, reduceCtorEq, List.reduceReplicate, go_sem, eqF_eq]
  refine ⟨fun k => ?_, fun k => by intros; exact ff fun h => k (by rw [h])⟩
  refine callK_of (c_slices_Equal_Exclusion a.Exclusions b.Exclusions) ?_
  simp only [↓bk_bind, ↓bk_map, ↓bk_ite, ↓bk_some, ↓reduceIte, Nat.reduceEqDiff, Nat.reduceLT, Nat.reduceLeDiff, Nat.reduceAdd, Nat.reduceMul, reduceCtorEq, List.reduceReplicate, go_sem, eqF_eq]
  refine ⟨fun k => ?_, fun k => by intros; exact ff fun h => k (by rw [h])⟩
  refine callK_of (c_impl_EqualLibraries a.Libraries b.Libraries) ?_
  simp only [↓bk_bind, ↓bk_map, ↓bk_ite, ↓bk_some, ↓reduceIte, Nat.reduceEqDiff, Nat.reduceLT, Nat.reduceLeDiff, Nat.reduceAdd, Nat.reduceMul, reduceCtorEq, List.reduceReplicate, go_sem, eqF_eq]
  refine ⟨fun k => ?_, fun k => by intros; exact ff fun h => k (by rw [h])⟩
  refine callK_of (c_slices_Equal_Int a.Keys b.Keys) ?_
  simp only [↓bk_bind, ↓bk_map, ↓bk_ite, ↓bk_some, ↓reduceIte, Nat.reduceEqDiff, Nat.reduceLT, Nat.reduceLeDiff, Nat.reduceAdd, Nat.reduceMul, reduceCtorEq, List.reduceReplicate, go_sem, eqF_eq]
  refine ⟨fun k => ?_, fun k => by intros; exact ff fun h => k (by rw [h])⟩
  refine callK_of (c_slices_Equal_Statement a.Statements b.Statements) ?_
  simp only [↓bk_bind, ↓bk_map, ↓bk_ite, ↓bk_some, ↓reduceIte, Nat.reduceEqDiff, Nat.reduceLT, Nat.reduceLeDiff, Nat.reduceAdd, Nat.reduceMul, reduceCtorEq, List.reduceReplicate, go_sem, eqF_eq]
  refine ⟨fun k => ?_, fun k => by intros; exact ff fun h => k (by rw [h])⟩
  simp_all [GArchive.eqv]
  exact Bool.beq_eq_decide_eq _ _
theorem scripts_small {a : GArchive} {n : Nat} (h : a.size ≤ n) : a.Script.length ≤ n ∧ (∀ x ∈ a.Disk.Containers, x.Script.length ≤ n) ∧ (∀ x ∈ a.Disk.Wanted, x.Script.length ≤ n) := by
  simp only [GArchive.size, GDisk.size] at h
  refine ⟨by omega, fun x hx => ?_, fun x hx => ?_⟩
  · have h1 := mem_sum (f := GContainer.size) hx
    have h2 : x.Script.length ≤ x.size := by simp only [GContainer.size]; omega
    omega
  · have h1 := mem_sum (f := GContainer.size) hx
    have h2 : x.Script.length ≤ x.size := by simp only [GContainer.size]; omega
    omega
theorem szr_le {n : Nat} {left : Int} (h : 0 ≤ left) : szr n left ≤ left := by unfold szr; split <;> omega
def m_laws_FnExactEqualArchives : MC :=
(.seq (pr [.box 2 0 (.s 0), .box 3 1 (.s 1), .mv 4 (.c (.bool false))] [2,3])
(.seq (pr [.mv 5 (.c (.int .i64 1048576))] [2,3,5])
(.seq (pr [.load 10 true 10 (.s 2), .mv 11 (.s 5), .call 12 [] (.f n_laws_szArchive) [.s 10, .s 11], .mv 5 (.s 12)] [2,3,5])
(.seq (.seq (pr [.mv 13 (.s 5), .bin 14 false .lss (.s 13) (.c (.int .i64 0))] [2,3,5,14])
(.cond (.s 14) (.seq (pr [.mv 4 (.c (.bool true))] [4])
.ret) .skip))
(.seq (pr [.load 15 true 10 (.s 3), .mv 16 (.s 5), .call 17 [] (.f n_laws_szArchive) [.s 15, .s 16], .mv 5 (.s 17)] [2,3,5])
(.seq (.seq (pr [.mv 18 (.s 5), .bin 19 false .lss (.s 18) (.c (.int .i64 0))] [2,3,19])
(.cond (.s 19) (.seq (pr [.mv 4 (.c (.bool true))] [4])
.ret) .skip))
(.seq (.dreg [{ o := .load 20 true 10 (.s 2), hs := [22] }, { o := .call 21 [2, 3, 4, 5, 6, 7, 8, 9, 10] (.f n_laws_toArchive) [.s 20], hs := [22], ws := [2,3,4,5,6,7,8,9,10], bf := [0] }, { o := .load 22 true 10 (.s 3), hs := [20,21], ho := [2,3,4,5,6,7,8,9,10] }, { o := .call 23 [11, 12, 13, 14, 15, 16, 17, 18, 19] (.f n_laws_toArchive) [.s 22], ws := [11,12,13,14,15,16,17,18,19], bf := [0,1,2] }, { o := .call 24 [] (.f n_spec_EqualArchives) [.s 21, .s 23], bf := [0,1,2,3] }, { o := .mv 6 (.s 24), bf := [0,1,2,3,4] }] [2,3,6])
(.seq (pr [.load 25 true 10 (.s 2), .call 26 [20, 21, 22, 23, 24, 25, 26, 27, 28] (.f n_laws_toArchive) [.s 25], .alloc 7 29 [.emp 9, .emp 4, .emp 4, .emp 6, .emp 4, .emp 5, .emp 4, .emp 1, .emp 4, .pl (.sc (.int .i64 0))], .store 10 (.s 7) (.s 26)] [2,3,6,7])
(.seq (pr [.load 27 true 10 (.s 3), .call 28 [30, 31, 32, 33, 34, 35, 36, 37, 38] (.f n_laws_toArchive) [.s 27], .alloc 8 39 [.emp 9, .emp 4, .emp 4, .emp 6, .emp 4, .emp 5, .emp 4, .emp 1, .emp 4, .pl (.sc (.int .i64 0))], .store 10 (.s 8) (.s 28)] [2,3,6,7,8])
(.seq (pr [.load 29 true 10 (.s 7), .load 30 true 10 (.s 8), .call 31 [] (.f n_impl_EqualArchives) [.s 29, .s 30], .mv 9 (.s 31)] [2,3,6,7,8,9])
(.seq (.seq (pr [.mv 32 (.s 9), .mv 33 (.s 6), .bin 34 true .neq (.s 32) (.s 33)] [2,3,7,8,34])
(.cond (.s 34) (.seq (pr [.mv 4 (.c (.bool false))] [4])
.ret) .skip))
(.seq (.seq (.dreg [{ o := .load 35 true 10 (.s 7), hs := [36,37], ho := [40,41,42,43,44,45,46,47,48] }, { o := .load 36 true 10 (.s 2), hs := [35] }, { o := .call 37 [40, 41, 42, 43, 44, 45, 46, 47, 48] (.f n_laws_toArchive) [.s 36], hs := [35], ws := [40,41,42,43,44,45,46,47,48], bf := [1] }, { o := .call 38 [] (.f n_laws_eqArchive) [.s 35, .s 37], bf := [0,1,2] }, { o := .un 39 .not (.s 38), bf := [0,1,2,3] }] [3,8,39])
(.cond (.s 39) (.seq (pr [.mv 4 (.c (.bool false))] [4])
.ret) .skip))
(.seq (.seq (.dreg [{ o := .load 40 true 10 (.s 8), hs := [41,42], ho := [49,50,51,52,53,54,55,56,57] }, { o := .load 41 true 10 (.s 3), hs := [40] }, { o := .call 42 [49, 50, 51, 52, 53, 54, 55, 56, 57] (.f n_laws_toArchive) [.s 41], hs := [40], ws := [49,50,51,52,53,54,55,56,57], bf := [1] }, { o := .call 43 [] (.f n_laws_eqArchive) [.s 40, .s 42], bf := [0,1,2] }, { o := .un 44 .not (.s 43), bf := [0,1,2,3] }] [44])
(.cond (.s 44) (.seq (pr [.mv 4 (.c (.bool false))] [4])
.ret) .skip))
(.seq (pr [.mv 4 (.c (.bool true))] [4])
.ret))))))))))))))
theorem c_laws_FnExactEqualArchives (a b : GArchive) : Ctr Try.prog n_laws_FnExactEqualArchives [aS a.enc, aS b.enc] [rB true] := by
  refine ctr_at (M := m_laws_FnExactEqualArchives) (m := 58) (n := 45) (res := [(.tmp 4, [false])]) hmix Try.func9 rfl (by kernel_rfl) rfl (by kernel_rfl) (by kernel_rfl) (Nat.le_of_ble_eq_true rfl) ?_; unfold m_laws_FnExactEqualArchives
  intro hb
  clear hb
  simp only [↓bk_bind, ↓bk_map, ↓bk_ite, ↓bk_some, ↓reduceIte, Nat.reduceEqDiff, Nat.reduceLT, Nat.reduceLeDiff, Nat.reduceAdd, Nat.reduceMul, reduceCtorEq, List.reduceReplicate, go_sem]
  refine callK_of (c_laws_szArchive a _ (by omega)) ?_
  simp only [↓bk_bind, ↓bk_map, ↓bk_ite, ↓bk_some, ↓reduceIte, Nat.reduceEqDiff, Nat.reduceLT, Nat.reduceLeDiff, Nat.reduceAdd, Nat.reduceMul, reduceCtorEq, List.reduceReplicate, go_sem]
  intro _ hz
  have hs := szr_ok hz
  refine callK_of (c_laws_szArchive b _ (by omega)) ?_
  simp only [↓bk_bind, ↓bk_map, ↓bk_ite, ↓bk_some, ↓reduceIte, Nat.reduceEqDiff, Nat.reduceLT, Nat.reduceLeDiff, Nat.reduceAdd, Nat.reduceMul, reduceCtorEq, List.reduceReplicate, go_sem]
  intro _ hz2
  have hs2 := szr_ok hz2
  have hl := szr_le (n := a.size) (left := 1048576) (by omega)
  have ha := scripts_small (a := a) (n := 1099511627776) (by omega)
  have hb := scripts_small (a := b) (n := 1099511627776) (by omega)
  refine callK_of (c_laws_toArchive a (by omega)) ?_
  simp only [↓bk_bind, ↓bk_map, ↓bk_ite, ↓bk_some, ↓reduceIte, Nat.reduceEqDiff, Nat.reduceLT, Nat.reduceLeDiff, Nat.reduceAdd, Nat.reduceMul, reduceCtorEq, List.reduceReplicate, go_sem]
  refine callK_of (c_laws_toArchive b (by omega)) ?_
  simp only [↓bk_bind, ↓bk_map, ↓bk_ite, ↓bk_some, ↓reduceIte, Nat.reduceEqDiff, Nat.reduceLT, Nat.reduceLeDiff, Nat.reduceAdd, Nat.reduceMul, reduceCtorEq, List.reduceReplicate, go_sem]
  refine callK_of (c_spec_EqualArchives a b ha.1 ha.2.1 ha.2.2 hb.1 hb.2.1 hb.2.2) ?_
  simp only [↓bk_bind, ↓bk_map, ↓bk_ite, ↓bk_some, ↓reduceIte, Nat.reduceEqDiff, Nat.reduceLT, Nat.reduceLeDiff, Nat.reduceAdd, Nat.reduceMul, reduceCtorEq, List.reduceReplicate, go_sem]
  intros
  refine callK_of (c_laws_toArchive a (by omega)) ?_
  simp only [↓bk_bind, ↓bk_map, ↓bk_ite, ↓bk_some, ↓reduceIte, Nat.reduceEqDiff, Nat.reduceLT, Nat.reduceLeDiff, Nat.reduceAdd, Nat.reduceMul, reduceCtorEq, List.reduceReplicate, go_sem]
  intros
  refine callK_of (c_laws_toArchive b (by omega)) ?_
  simp only [↓bk_bind, ↓bk_map, ↓bk_ite, ↓bk_some, ↓reduceIte, Nat.reduceEqDiff, Nat.reduceLT, Nat.reduceLeDiff, Nat.reduceAdd, Nat.reduceMul, reduceCtorEq, List.reduceReplicate, go_sem]
  intros
  refine callK_of (c_impl_EqualArchives a b) ?_
  simp only [↓bk_bind, ↓bk_map, ↓bk_ite, ↓bk_some, ↓reduceIte, Nat.reduceEqDiff, Nat.reduceLT, Nat.reduceLeDiff, Nat.reduceAdd, Nat.reduceMul, reduceCtorEq, List.reduceReplicate, go_sem]
  intros
  refine callK_of (c_laws_toArchive a (by omega)) ?_
  simp only [↓bk_bind, ↓bk_map, ↓bk_ite, ↓bk_some, ↓reduceIte, Nat.reduceEqDiff, Nat.reduceLT, Nat.reduceLeDiff, Nat.reduceAdd, Nat.reduceMul, reduceCtorEq, List.reduceReplicate, go_sem]
  refine callK_of (c_laws_eqArchive a a) ?_
  simp only [↓bk_bind, ↓bk_map, ↓bk_ite, ↓bk_some, ↓reduceIte, Nat.reduceEqDiff, Nat.reduceLT, Nat.reduceLeDiff, Nat.reduceAdd, Nat.reduceMul, reduceCtorEq, List.reduceReplicate, go_sem]
  intros
  refine callK_of (c_laws_toArchive b (by omega)) ?_
  simp only [↓bk_bind, ↓bk_map, ↓bk_ite, ↓bk_some, ↓reduceIte, Nat.reduceEqDiff, Nat.reduceLT, Nat.reduceLeDiff, Nat.reduceAdd, Nat.reduceMul, reduceCtorEq, List.reduceReplicate, go_sem]
  refine callK_of (c_laws_eqArchive b b) ?_
  simp only [↓bk_bind, ↓bk_map, ↓bk_ite, ↓bk_some, ↓reduceIte, Nat.reduceEqDiff, Nat.reduceLT, Nat.reduceLeDiff, Nat.reduceAdd, Nat.reduceMul, reduceCtorEq, List.reduceReplicate, go_sem]
end Go.Proofs.YtcbljemkihnmnaaR
