/- What the functions compute that the law of WriteNext reaches: contracts, function by function. Conditions stand in each theorem. -/
import Derived.Test.YtbnbgekjjbpljaaGreatTWriteNextb
namespace Go.Proofs.YtbnbgekjjbpljaaGreatR
open Go Go.RowKit Go.Proofs
set_option linter.unusedSimpArgs false
set_option linter.unusedVariables false
theorem any_nots {α : Type} {p : α → Bool} {l : List α} : (l.any fun x => !p x) = !l.all p := by
  induction l with
  | nil => rfl
  | cons x l ih => rw [List.any_cons, List.all_cons, ih]; cases p x <;> rfl
/-- All elements are so, and there are not too many. -/
def fewAll {α : Type} (n : Nat) (p : α → Bool) (l : List α) : Bool := decide (l.length ≤ n) && l.all p
theorem fewAll_no {α : Type} {n : Nat} {p : α → Bool} {l : List α} (h : ¬ l.length ≤ n) : false = fewAll n p l := by
  unfold fewAll; rw [decide_eq_false h]; rfl
theorem fewAll_yes {α : Type} {n : Nat} {p : α → Bool} {l : List α} (h : l.length ≤ n) : (!l.any fun x => !p x) = fewAll n p l := by
  unfold fewAll; rw [decide_eq_true h, any_nots, Bool.not_not]; rfl
theorem fewAll_at {α : Type} {n : Nat} {p : α → Bool} {l : List α} {k : Nat} {x : α} (hx : l[k]? = some x) (h : p x = false) : false = fewAll n p l := by
  unfold fewAll; rw [← all_not hx h, Bool.and_false]
theorem fewAll_end {α : Type} {n : Nat} {p : α → Bool} {l : List α} (h : l.all p = true) : decide (l.length ≤ n) = fewAll n p l := by
  unfold fewAll; rw [h, Bool.and_true]
theorem le_cast {n m : Nat} : decide ((n : Int) ≤ (m : Int)) = decide (n ≤ m) := by
  rw [Bool.eq_iff_iff]; simp only [decide_eq_true_eq]; omega
def opOk (o : GOp) : Bool := decide ((0 ≤ o.A ∧ o.A < 4) ∧ (
  (o.Kind = 1 ∧ (1 ≤ o.B ∧ o.B ≤ 9) ∧ (0 ≤ o.C ∧ o.C ≤ 99)) ∨
  ((o.Kind = 2 ∨ o.Kind = 3 ∨ o.Kind = 4) ∧ o.B = 0 ∧ o.C = 0) ∨
  (o.Kind = 5 ∧ (0 ≤ o.B ∧ o.B < 4) ∧ (0 ≤ o.C ∧ o.C < 4)) ∨
  (o.Kind = 6 ∧ (0 ≤ o.B ∧ o.B < 4) ∧ o.C = 0) ∨
  (o.Kind = 7 ∧ (1 ≤ o.B ∧ o.B ≤ 3) ∧ o.C = 0) ∨
  ((o.Kind = 8 ∨ o.Kind = 9) ∧ (0 ≤ o.B ∧ o.B < 3) ∧ o.C = 0)))
def scriptOk (l : List GOp) : Bool := fewAll 16 opOk l
def m_impl_isOp : MC :=
(.seq (pr [.box 1 0 (.s 0), .mv 2 (.c (.bool false))] [1])
(.seq (.seq (pr [.fld 3 (.s 1) 1, .load 4 false 1 (.s 3), .call 5 [] (.f n_impl_at) [.s 4, .c (.int .i64 4)], .un 6 .not (.s 5)] [1,6])
(.cond (.s 6) (.seq (pr [.mv 2 (.c (.bool false))] [2])
.ret) .skip))
(.seq (.seq (pr [.fld 7 (.s 1) 0, .load 8 false 1 (.s 7)] [1,8])
(.block 0 (.seq (pr [.bin 10 false .eql (.s 8) (.c (.int .i64 1)), .mv 9 (.s 10)] [1,8,9])
(.cond (.s 9) (.seq (.reg [{ o := .fld 11 (.s 1) 2 }, { o := .load 12 false 1 (.s 11) }, { o := .call 13 [] (.f n_impl_InRange) [.s 12, .c (.int .i64 1), .c (.int .i64 9)] }, { o := .mv 14 (.s 13) }, { o := .fld 15 (.s 1) 3, g := some (14, true) }, { o := .load 16 false 1 (.s 15), g := some (14, true) }, { o := .call 17 [] (.f n_impl_InRange) [.s 16, .c (.int .i64 0), .c (.int .i64 99)], g := some (14, true) }, { o := .pick 18 (.s 14) (.s 17) (.c (.bool false)) }, { o := .mv 2 (.s 18) }] [2])
.ret) (.seq (.seq (pr [.bin 20 false .eql (.s 8) (.c (.int .i64 2)), .mv 19 (.s 20)] [1,8,19])
(.cond (.s 19) .skip (.seq (pr [.bin 21 false .eql (.s 8) (.c (.int .i64 3)), .mv 19 (.s 21)] [1,8,19])
(.cond (.s 19) .skip (pr [.bin 22 false .eql (.s 8) (.c (.int .i64 4)), .mv 19 (.s 22)] [1,8,19])))))
(.cond (.s 19) (.seq (.reg [{ o := .fld 23 (.s 1) 2 }, { o := .load 24 false 1 (.s 23) }, { o := .bin 25 false .eql (.s 24) (.c (.int .i64 0)) }, { o := .mv 26 (.s 25) }, { o := .fld 27 (.s 1) 3, g := some (26, true) }, { o := .load 28 false 1 (.s 27), g := some (26, true) }, { o := .bin 29 false .eql (.s 28) (.c (.int .i64 0)), g := some (26, true) }, { o := .pick 30 (.s 26) (.s 29) (.c (.bool false)) }, { o := .mv 2 (.s 30) }] [2])
.ret) (.seq (pr [.bin 32 false .eql (.s 8) (.c (.int .i64 5)), .mv 31 (.s 32)] [1,8,31])
(.cond (.s 31) (.seq (.reg [{ o := .fld 33 (.s 1) 2 }, { o := .load 34 false 1 (.s 33) }, { o := .call 35 [] (.f n_impl_at) [.s 34, .c (.int .i64 4)] }, { o := .mv 36 (.s 35) }, { o := .fld 37 (.s 1) 3, g := some (36, true) }, { o := .load 38 false 1 (.s 37), g := some (36, true) }, { o := .call 39 [] (.f n_impl_at) [.s 38, .c (.int .i64 4)], g := some (36, true) }, { o := .pick 40 (.s 36) (.s 39) (.c (.bool false)) }, { o := .mv 2 (.s 40) }] [2])
.ret) (.seq (pr [.bin 42 false .eql (.s 8) (.c (.int .i64 6)), .mv 41 (.s 42)] [1,8,41])
(.cond (.s 41) (.seq (.reg [{ o := .fld 43 (.s 1) 2 }, { o := .load 44 false 1 (.s 43) }, { o := .call 45 [] (.f n_impl_at) [.s 44, .c (.int .i64 4)] }, { o := .mv 46 (.s 45) }, { o := .fld 47 (.s 1) 3, g := some (46, true) }, { o := .load 48 false 1 (.s 47), g := some (46, true) }, { o := .bin 49 false .eql (.s 48) (.c (.int .i64 0)), g := some (46, true) }, { o := .pick 50 (.s 46) (.s 49) (.c (.bool false)) }, { o := .mv 2 (.s 50) }] [2])
.ret) (.seq (pr [.bin 52 false .eql (.s 8) (.c (.int .i64 7)), .mv 51 (.s 52)] [1,8,51])
(.cond (.s 51) (.seq (.reg [{ o := .fld 53 (.s 1) 2 }, { o := .load 54 false 1 (.s 53) }, { o := .call 55 [] (.f n_impl_InRange) [.s 54, .c (.int .i64 1), .c (.int .i64 3)] }, { o := .mv 56 (.s 55) }, { o := .fld 57 (.s 1) 3, g := some (56, true) }, { o := .load 58 false 1 (.s 57), g := some (56, true) }, { o := .bin 59 false .eql (.s 58) (.c (.int .i64 0)), g := some (56, true) }, { o := .pick 60 (.s 56) (.s 59) (.c (.bool false)) }, { o := .mv 2 (.s 60) }] [2])
.ret) (.seq (.seq (pr [.bin 62 false .eql (.s 8) (.c (.int .i64 8)), .mv 61 (.s 62)] [1,8,61])
(.cond (.s 61) .skip (pr [.bin 63 false .eql (.s 8) (.c (.int .i64 9)), .mv 61 (.s 63)] [1,61])))
(.cond (.s 61) (.seq (.reg [{ o := .fld 64 (.s 1) 2 }, { o := .load 65 false 1 (.s 64) }, { o := .call 66 [] (.f n_impl_at) [.s 65, .c (.int .i64 3)] }, { o := .mv 67 (.s 66) }, { o := .fld 68 (.s 1) 3, g := some (67, true) }, { o := .load 69 false 1 (.s 68), g := some (67, true) }, { o := .bin 70 false .eql (.s 69) (.c (.int .i64 0)), g := some (67, true) }, { o := .pick 71 (.s 67) (.s 70) (.c (.bool false)) }, { o := .mv 2 (.s 71) }] [2])
.ret) .skip))))))))))))))
(.seq (pr [.mv 2 (.c (.bool false))] [2])
.ret))))
theorem c_impl_isOp (o : GOp) : Ctr Tryz.prog n_impl_isOp [aS o.enc] [rB (opOk o)] := by
  refine ctr_at (M := m_impl_isOp) (m := 1) (n := 72) (res := [(.tmp 2, [false])]) hmix Tryz.func208 rfl (by kernel_rfl) rfl (by kernel_rfl) (by kernel_rfl) (Nat.le_of_ble_eq_true rfl) ?_; unfold m_impl_isOp
  intro hb
  clear hb
  simp only [↓bk_bind, ↓bk_map, ↓bk_ite, ↓bk_some, ↓reduceIte, Nat.reduceEqDiff, Nat.reduceLT, Nat.reduceLeDiff, Nat.reduceAdd, Nat.reduceMul, reduceCtorEq, List.reduceReplicate, go_sem]
  repeat' first
    | (refine And.intro ?_ ?_ <;> intro h)
    | (apply callK_of (c_impl_at _ _); simp only [↓bk_bind, ↓bk_map, ↓bk_ite, ↓bk_some, ↓reduceIte, Nat.reduceEqDiff, Nat.reduceLT, Nat.reduceLeDiff, Nat.reduceAdd, Nat.reduceMul, reduceCtorEq, List.reduceReplicate, go_sem])
    | (apply callK_of (c_impl_InRange _ _ _); simp only [↓bk_bind, ↓bk_map, ↓bk_ite, ↓bk_some, ↓reduceIte, Nat.reduceEqDiff, Nat.reduceLT, Nat.reduceLeDiff, Nat.reduceAdd, Nat.reduceMul, reduceCtorEq, List.reduceReplicate, go_sem])
  all_goals (unfold opOk; first | (symm; rw [decide_eq_false_iff_not]; omega) | (symm; rw [decide_eq_true_eq]; omega) | (rw [Bool.eq_iff_iff]; simp only [decide_eq_true_eq, beq_iff_eq]; omega))
def m_spec_l10Ok : MC :=
(.seq (pr [.box 1 0 (.s 0), .mv 2 (.c (.bool false))] [1])
(.seq (pr [.mv 3 (.c (.int .i64 3))] [1,3])
(.seq (.seq (pr [.fld 4 (.s 1) 1, .load 5 false 1 (.s 4), .mv 6 (.s 3), .call 7 [] (.f n_spec_l1In) [.s 5, .c (.int .i64 0), .s 6], .un 8 .not (.s 7)] [1,3,8])
(.cond (.s 8) (.seq (pr [.mv 2 (.c (.bool false))] [2])
.ret) .skip))
(.seq (.seq (pr [.fld 9 (.s 1) 0, .load 10 false 1 (.s 9)] [1,3,10])
(.block 0 (.seq (pr [.bin 12 false .eql (.s 10) (.c (.int .i64 1)), .mv 11 (.s 12)] [1,3,10,11])
(.cond (.s 11) (.seq (.reg [{ o := .fld 13 (.s 1) 2 }, { o := .load 14 false 1 (.s 13) }, { o := .call 15 [] (.f n_spec_l1In) [.s 14, .c (.int .i64 1), .c (.int .i64 9)] }, { o := .mv 16 (.s 15) }, { o := .fld 17 (.s 1) 3, g := some (16, true) }, { o := .load 18 false 1 (.s 17), g := some (16, true) }, { o := .call 19 [] (.f n_spec_l1In) [.s 18, .c (.int .i64 0), .c (.int .i64 99)], g := some (16, true) }, { o := .pick 20 (.s 16) (.s 19) (.c (.bool false)) }, { o := .mv 2 (.s 20) }] [2])
.ret) (.seq (.seq (pr [.bin 22 false .eql (.s 10) (.c (.int .i64 2)), .mv 21 (.s 22)] [1,3,10,21])
(.cond (.s 21) .skip (.seq (pr [.bin 23 false .eql (.s 10) (.c (.int .i64 3)), .mv 21 (.s 23)] [1,3,10,21])
(.cond (.s 21) .skip (pr [.bin 24 false .eql (.s 10) (.c (.int .i64 4)), .mv 21 (.s 24)] [1,3,10,21])))))
(.cond (.s 21) (.seq (.reg [{ o := .fld 25 (.s 1) 2 }, { o := .load 26 false 1 (.s 25) }, { o := .bin 27 false .eql (.s 26) (.c (.int .i64 0)) }, { o := .mv 28 (.s 27) }, { o := .fld 29 (.s 1) 3, g := some (28, true) }, { o := .load 30 false 1 (.s 29), g := some (28, true) }, { o := .bin 31 false .eql (.s 30) (.c (.int .i64 0)), g := some (28, true) }, { o := .pick 32 (.s 28) (.s 31) (.c (.bool false)) }, { o := .mv 2 (.s 32) }] [2])
.ret) (.seq (pr [.bin 34 false .eql (.s 10) (.c (.int .i64 5)), .mv 33 (.s 34)] [1,3,10,33])
(.cond (.s 33) (.seq (.reg [{ o := .fld 35 (.s 1) 2 }, { o := .load 36 false 1 (.s 35) }, { o := .mv 37 (.s 3) }, { o := .call 38 [] (.f n_spec_l1In) [.s 36, .c (.int .i64 0), .s 37] }, { o := .mv 39 (.s 38) }, { o := .fld 40 (.s 1) 3, g := some (39, true) }, { o := .load 41 false 1 (.s 40), g := some (39, true) }, { o := .mv 42 (.s 3), g := some (39, true) }, { o := .call 43 [] (.f n_spec_l1In) [.s 41, .c (.int .i64 0), .s 42], g := some (39, true) }, { o := .pick 44 (.s 39) (.s 43) (.c (.bool false)) }, { o := .mv 2 (.s 44) }] [2])
.ret) (.seq (pr [.bin 46 false .eql (.s 10) (.c (.int .i64 6)), .mv 45 (.s 46)] [1,10,45])
(.cond (.s 45) (.seq (.reg [{ o := .fld 47 (.s 1) 2 }, { o := .load 48 false 1 (.s 47) }, { o := .call 49 [] (.f n_spec_l1In) [.s 48, .c (.int .i64 0), .c (.int .i64 3)] }, { o := .mv 50 (.s 49) }, { o := .fld 51 (.s 1) 3, g := some (50, true) }, { o := .load 52 false 1 (.s 51), g := some (50, true) }, { o := .bin 53 false .eql (.s 52) (.c (.int .i64 0)), g := some (50, true) }, { o := .pick 54 (.s 50) (.s 53) (.c (.bool false)) }, { o := .mv 2 (.s 54) }] [2])
.ret) (.seq (pr [.bin 56 false .eql (.s 10) (.c (.int .i64 7)), .mv 55 (.s 56)] [1,10,55])
(.cond (.s 55) (.seq (.reg [{ o := .fld 57 (.s 1) 2 }, { o := .load 58 false 1 (.s 57) }, { o := .call 59 [] (.f n_spec_l1In) [.s 58, .c (.int .i64 1), .c (.int .i64 3)] }, { o := .mv 60 (.s 59) }, { o := .fld 61 (.s 1) 3, g := some (60, true) }, { o := .load 62 false 1 (.s 61), g := some (60, true) }, { o := .bin 63 false .eql (.s 62) (.c (.int .i64 0)), g := some (60, true) }, { o := .pick 64 (.s 60) (.s 63) (.c (.bool false)) }, { o := .mv 2 (.s 64) }] [2])
.ret) (.seq (.seq (pr [.bin 66 false .eql (.s 10) (.c (.int .i64 8)), .mv 65 (.s 66)] [1,10,65])
(.cond (.s 65) .skip (pr [.bin 67 false .eql (.s 10) (.c (.int .i64 9)), .mv 65 (.s 67)] [1,65])))
(.cond (.s 65) (.seq (.reg [{ o := .fld 68 (.s 1) 2 }, { o := .load 69 false 1 (.s 68) }, { o := .call 70 [] (.f n_spec_l1In) [.s 69, .c (.int .i64 0), .c (.int .i64 2)] }, { o := .mv 71 (.s 70) }, { o := .fld 72 (.s 1) 3, g := some (71, true) }, { o := .load 73 false 1 (.s 72), g := some (71, true) }, { o := .bin 74 false .eql (.s 73) (.c (.int .i64 0)), g := some (71, true) }, { o := .pick 75 (.s 71) (.s 74) (.c (.bool false)) }, { o := .mv 2 (.s 75) }] [2])
.ret) .skip))))))))))))))
(.seq (pr [.mv 2 (.c (.bool false))] [2])
.ret)))))
theorem c_spec_l10Ok (o : GOp) : Ctr Tryz.prog n_spec_l10Ok [aS o.enc] [rB (opOk o)] := by
  refine ctr_at (M := m_spec_l10Ok) (m := 1) (n := 76) (res := [(.tmp 2, [false])]) hmix Tryz.func186 rfl (by kernel_rfl) rfl (by kernel_rfl) (by kernel_rfl) (Nat.le_of_ble_eq_true rfl) ?_; unfold m_spec_l10Ok
  intro hb
  clear hb
  simp only [↓bk_bind, ↓bk_map, ↓bk_ite, ↓bk_some, ↓reduceIte, Nat.reduceEqDiff, Nat.reduceLT, Nat.reduceLeDiff, Nat.reduceAdd, Nat.reduceMul, reduceCtorEq, List.reduceReplicate, go_sem]
  repeat' first
    | (refine And.intro ?_ ?_ <;> intro h)
    | (apply callK_of (c_spec_l1In _ _ _); simp only [↓bk_bind, ↓bk_map, ↓bk_ite, ↓bk_some, ↓reduceIte, Nat.reduceEqDiff, Nat.reduceLT, Nat.reduceLeDiff, Nat.reduceAdd, Nat.reduceMul, reduceCtorEq, List.reduceReplicate, go_sem])
  all_goals (unfold opOk; first | (symm; rw [decide_eq_false_iff_not]; omega) | (symm; rw [decide_eq_true_eq]; omega) | (rw [Bool.eq_iff_iff]; simp only [decide_eq_true_eq, beq_iff_eq]; omega))
def m_impl_IsScript_1 : MC :=
(.seq (pr [.box 1 0 (.s 0), .mv 2 (.c (.bool false))] [1])
(.seq (pr [.load 3 true 4 (.s 1), .call 4 [] (.f n_impl_isOp) [.s 3], .un 5 .not (.s 4), .mv 2 (.s 5)] [2])
.ret))
theorem c_impl_IsScript_1 (o : GOp) : Ctr Tryz.prog n_impl_IsScript_1 [aS o.enc] [rB (!opOk o)] := by
  refine ctr_at (M := m_impl_IsScript_1) (m := 1) (n := 6) (res := [(.tmp 2, [false])]) hmix Tryz.func207 rfl (by kernel_rfl) rfl (by kernel_rfl) (by kernel_rfl) (Nat.le_of_ble_eq_true rfl) ?_; unfold m_impl_IsScript_1
  intro hb
  clear hb
  simp only [↓bk_bind, ↓bk_map, ↓bk_ite, ↓bk_some, ↓reduceIte, Nat.reduceEqDiff, Nat.reduceLT, Nat.reduceLeDiff, Nat.reduceAdd, Nat.reduceMul, reduceCtorEq, List.reduceReplicate, go_sem]
  apply callK_of (c_impl_isOp _)
  simp only [↓bk_bind, ↓bk_map, ↓bk_ite, ↓bk_some, ↓reduceIte, Nat.reduceEqDiff, Nat.reduceLT, Nat.reduceLeDiff, Nat.reduceAdd, Nat.reduceMul, reduceCtorEq, List.reduceReplicate, go_sem]
def m_impl_IsScript : MC :=
(.seq (pr [.mv 2 (.c (.bool false))] [0])
(.seq (.reg [{ o := .mv 3 (.s 0) }, { o := .len 4 false (.s 3) }, { o := .bin 5 false .leq (.s 4) (.c (.int .i64 16)) }, { o := .mv 6 (.s 5) }, { o := .mv 7 (.s 0), g := some (6, true) }, { o := .call 8 [] (.f n_slices_ContainsFunc_impl_Op_impl_Op) [.s 7, .f n_impl_IsScript_1], g := some (6, true) }, { o := .un 9 .not (.s 8), g := some (6, true) }, { o := .pick 10 (.s 6) (.s 9) (.c (.bool false)) }, { o := .mv 2 (.s 10) }] [2])
.ret))
theorem c_impl_IsScript (l : List GOp) : Ctr Tryz.prog n_impl_IsScript [aL 4 (l.map GOp.enc)] [rB (scriptOk l)] := by
  refine ctr_at (M := m_impl_IsScript) (m := 0) (n := 11) (res := [(.tmp 2, [false])]) hmix Tryz.func171 rfl (by kernel_rfl) rfl (by kernel_rfl) (by kernel_rfl) (Nat.le_of_ble_eq_true rfl) ?_; unfold m_impl_IsScript
  intro hb
  clear hb
  simp only [↓bk_bind, ↓bk_map, ↓bk_ite, ↓bk_some, ↓reduceIte, Nat.reduceEqDiff, Nat.reduceLT, Nat.reduceLeDiff, Nat.reduceAdd, Nat.reduceMul, reduceCtorEq, List.reduceReplicate, go_sem]
  refine ⟨fun h => ?_, fun h => fewAll_no (by omega)⟩
  refine callK_of (c_slices_ContainsFunc_Op l _ [] (fun o => !opOk o) fun o _ => c_impl_IsScript_1 o) ?_
  simp only [↓bk_bind, ↓bk_map, ↓bk_ite, ↓bk_some, ↓reduceIte, Nat.reduceEqDiff, Nat.reduceLT, Nat.reduceLeDiff, Nat.reduceAdd, Nat.reduceMul, reduceCtorEq, List.reduceReplicate, go_sem]
  exact fewAll_yes (by omega)
def m_spec_IsScript : MC :=
(.seq (pr [.mv 2 (.c (.bool false))] [0])
(.seq (.seq (pr [.mv 3 (.c (.int .i64 0))] [0,3])
(.block 0 (.loop ([0,3], []) (.seq (.seq (pr [.mv 4 (.s 3), .mv 5 (.s 0), .len 6 false (.s 5), .bin 7 false .lss (.s 4) (.s 6)] [0,3,7])
(.cond (.s 7) .skip (.exit 0)))
(.seq (.block 1 (.seq (pr [.mv 10 (.s 0), .mv 11 (.s 3), .idx 12 4 (.s 10) (.s 11), .load 13 true 4 (.s 12), .call 14 [] (.f n_spec_l10Ok) [.s 13], .un 15 .not (.s 14)] [0,3,15])
(.cond (.s 15) (.seq (pr [.mv 2 (.c (.bool false))] [2])
.ret) .skip)))
(pr [.mv 8 (.s 3), .bin 9 false .add (.s 8) (.c (.int .i64 1)), .mv 3 (.s 9)] [0,3]))))))
(.seq (pr [.mv 16 (.s 0), .len 17 false (.s 16), .bin 18 false .leq (.s 17) (.c (.int .i64 16)), .mv 2 (.s 18)] [2])
.ret)))
theorem c_spec_IsScript (l : List GOp) : Ctr Tryz.prog n_spec_IsScript [aL 4 (l.map GOp.enc)] [rB (scriptOk l)] := by
  refine ctr_at (M := m_spec_IsScript) (m := 0) (n := 19) (res := [(.tmp 2, [false])]) hmix Tryz.func128 rfl (by kernel_rfl) rfl (by kernel_rfl) (by kernel_rfl) (Nat.le_of_ble_eq_true rfl) ?_; unfold m_spec_IsScript
  intro hb
  simp only [bdA, bdL, bdT, bdR, bdR_map, wfB_i64, wfB_bool, wfB_str, roomB, and_true, true_and, List.length_map] at hb
  have hl := hb.1
  clear hb
  simp only [↓bk_bind, ↓bk_map, ↓bk_ite, ↓bk_some, ↓reduceIte, Nat.reduceEqDiff, Nat.reduceLT, Nat.reduceLeDiff, Nat.reduceAdd, Nat.reduceMul, reduceCtorEq, List.reduceReplicate, go_sem]
  refine loopK_rng l (fun k => [(3, vI k)]) (fun k => []) (fun k => (l.take k).all opOk = true) hl ?_
  simp only [↓bk_bind, ↓bk_map, ↓bk_ite, ↓bk_some, ↓reduceIte, Nat.reduceEqDiff, Nat.reduceLT, Nat.reduceLeDiff, Nat.reduceAdd, Nat.reduceMul, reduceCtorEq, List.reduceReplicate, go_sem]
  refine ⟨?_, by simp, ?_, ?_⟩
  · simp only [↓bk_bind, ↓bk_map, ↓bk_ite, ↓bk_some, ↓reduceIte, Nat.reduceEqDiff, Nat.reduceLT, Nat.reduceLeDiff, Nat.reduceAdd, Nat.reduceMul, reduceCtorEq, List.reduceReplicate, go_sem]
  · intro k x hx h h0 h1 hw
    simp only [↓bk_bind, ↓bk_map, ↓bk_ite, ↓bk_some, ↓reduceIte, Nat.reduceEqDiff, Nat.reduceLT, Nat.reduceLeDiff, Nat.reduceAdd, Nat.reduceMul, reduceCtorEq, List.reduceReplicate, go_sem, bk_eq hx, h0, h1, hw]
    apply callK_of (c_spec_l10Ok _)
    simp only [↓bk_bind, ↓bk_map, ↓bk_ite, ↓bk_some, ↓reduceIte, Nat.reduceEqDiff, Nat.reduceLT, Nat.reduceLeDiff, Nat.reduceAdd, Nat.reduceMul, reduceCtorEq, List.reduceReplicate, go_sem, hw]
    exact ⟨fun hn => fewAll_at hx hn, fun hn => all_step hx h hn⟩
  · intro h
    simp only [↓bk_bind, ↓bk_map, ↓bk_ite, ↓bk_some, ↓reduceIte, Nat.reduceEqDiff, Nat.reduceLT, Nat.reduceLeDiff, Nat.reduceAdd, Nat.reduceMul, reduceCtorEq, List.reduceReplicate, go_sem]
    rw [List.take_length] at h
    exact le_cast.trans (fewAll_end h)
def asks (k : Int) : Bool := decide (1 ≤ k ∧ k ≤ 4)
def m_impl_Asks : MC :=
(.seq (pr [.mv 2 (.c (.bool false))] [0])
(.seq (pr [.mv 3 (.s 0), .call 4 [] (.f n_impl_InRange) [.s 3, .c (.int .i64 1), .c (.int .i64 4)], .mv 2 (.s 4)] [2])
.ret))
theorem c_impl_Asks (k : Int) : Ctr Tryz.prog n_impl_Asks [aI k] [rB (asks k)] := by
  refine ctr_at (M := m_impl_Asks) (m := 0) (n := 5) (res := [(.tmp 2, [false])]) hmix Tryz.func213 rfl (by kernel_rfl) rfl (by kernel_rfl) (by kernel_rfl) (Nat.le_of_ble_eq_true rfl) ?_; unfold m_impl_Asks
  intro hb
  clear hb
  simp only [↓bk_bind, ↓bk_map, ↓bk_ite, ↓bk_some, ↓reduceIte, Nat.reduceEqDiff, Nat.reduceLT, Nat.reduceLeDiff, Nat.reduceAdd, Nat.reduceMul, reduceCtorEq, List.reduceReplicate, go_sem]
  apply callK_of (c_impl_InRange _ _ _)
  simp only [↓bk_bind, ↓bk_map, ↓bk_ite, ↓bk_some, ↓reduceIte, Nat.reduceEqDiff, Nat.reduceLT, Nat.reduceLeDiff, Nat.reduceAdd, Nat.reduceMul, reduceCtorEq, List.reduceReplicate, go_sem]
  try rfl
def m_spec_Asks : MC :=
(.seq (pr [.mv 2 (.c (.bool false))] [0])
(.seq (pr [.mv 3 (.s 0), .call 4 [] (.f n_spec_l1In) [.s 3, .c (.int .i64 1), .c (.int .i64 4)], .mv 2 (.s 4)] [2])
.ret))
theorem c_spec_Asks (k : Int) : Ctr Tryz.prog n_spec_Asks [aI k] [rB (asks k)] := by
  refine ctr_at (M := m_spec_Asks) (m := 0) (n := 5) (res := [(.tmp 2, [false])]) hmix Tryz.func187 rfl (by kernel_rfl) rfl (by kernel_rfl) (by kernel_rfl) (Nat.le_of_ble_eq_true rfl) ?_; unfold m_spec_Asks
  intro hb
  clear hb
  simp only [↓bk_bind, ↓bk_map, ↓bk_ite, ↓bk_some, ↓reduceIte, Nat.reduceEqDiff, Nat.reduceLT, Nat.reduceLeDiff, Nat.reduceAdd, Nat.reduceMul, reduceCtorEq, List.reduceReplicate, go_sem]
  apply callK_of (c_spec_l1In _ _ _)
  simp only [↓bk_bind, ↓bk_map, ↓bk_ite, ↓bk_some, ↓reduceIte, Nat.reduceEqDiff, Nat.reduceLT, Nat.reduceLeDiff, Nat.reduceAdd, Nat.reduceMul, reduceCtorEq, List.reduceReplicate, go_sem]
  try rfl
def entOk (e : GEntry) : Bool := asks e.Kind && (decide (0 ≤ e.Value ∧ e.Value ≤ 999) && (if e.Kind = 1 then isAddr e.Address else noAddr e.Address))
def entsOk (l : List GEntry) : Bool := fewAll 16 entOk l
def m_impl_AreEntries_1 : MC :=
(.seq (pr [.box 1 0 (.s 0), .mv 2 (.c (.bool false))] [1])
(.seq (.seq (pr [.fld 3 (.s 1) 0, .load 4 false 1 (.s 3), .bin 5 false .eql (.s 4) (.c (.int .i64 1))] [1,5])
(.cond (.s 5) (.seq (.reg [{ o := .fld 6 (.s 1) 1 }, { o := .load 7 true 3 (.s 6) }, { o := .call 8 [] (.f n_impl_IsAddress) [.s 7] }, { o := .un 9 .not (.s 8) }, { o := .mv 10 (.s 9) }, { o := .fld 11 (.s 1) 4, g := some (10, false) }, { o := .load 12 false 1 (.s 11), g := some (10, false) }, { o := .call 13 [] (.f n_impl_InRange) [.s 12, .c (.int .i64 0), .c (.int .i64 999)], g := some (10, false) }, { o := .un 14 .not (.s 13), g := some (10, false) }, { o := .pick 15 (.s 10) (.c (.bool true)) (.s 14) }, { o := .mv 2 (.s 15) }] [2])
.ret) .skip))
(.seq (.reg [{ o := .fld 16 (.s 1) 0 }, { o := .load 17 false 1 (.s 16) }, { o := .call 18 [] (.f n_impl_Asks) [.s 17] }, { o := .un 19 .not (.s 18) }, { o := .mv 20 (.s 19) }, { o := .fld 21 (.s 1) 1, g := some (20, false) }, { o := .load 22 true 3 (.s 21), g := some (20, false) }, { o := .build 23 [.pl (.sc (.int .i64 0)), .pl (.sc (.int .i64 0)), .pl (.sc (.int .i64 0))] [], g := some (20, false) }, { o := .eqA 24 true [.i .i64, .i .i64, .i .i64] (.s 22) (.s 23), g := some (20, false) }, { o := .pick 25 (.s 20) (.c (.bool true)) (.s 24) }, { o := .mv 26 (.s 25) }, { o := .fld 27 (.s 1) 4, g := some (26, false) }, { o := .load 28 false 1 (.s 27), g := some (26, false) }, { o := .call 29 [] (.f n_impl_InRange) [.s 28, .c (.int .i64 0), .c (.int .i64 999)], g := some (26, false) }, { o := .un 30 .not (.s 29), g := some (26, false) }, { o := .pick 31 (.s 26) (.c (.bool true)) (.s 30) }, { o := .mv 2 (.s 31) }] [2])
.ret)))
theorem c_impl_AreEntries_1 (e : GEntry) : Ctr Tryz.prog n_impl_AreEntries_1 [aS e.enc] [rB (!entOk e)] := by
  refine ctr_at (M := m_impl_AreEntries_1) (m := 1) (n := 32) (res := [(.tmp 2, [false])]) hmix Tryz.func210 rfl (by kernel_rfl) rfl (by kernel_rfl) (by kernel_rfl) (Nat.le_of_ble_eq_true rfl) ?_; unfold m_impl_AreEntries_1
  intro hb
  clear hb
  simp only [↓bk_bind, ↓bk_map, ↓bk_ite, ↓bk_some, ↓reduceIte, Nat.reduceEqDiff, Nat.reduceLT, Nat.reduceLeDiff, Nat.reduceAdd, Nat.reduceMul, reduceCtorEq, List.reduceReplicate, go_sem]
  repeat' first
    | (refine And.intro ?_ ?_ <;> intro h)
    | (apply callK_of (c_impl_IsAddress _); simp only [↓bk_bind, ↓bk_map, ↓bk_ite, ↓bk_some, ↓reduceIte, Nat.reduceEqDiff, Nat.reduceLT, Nat.reduceLeDiff, Nat.reduceAdd, Nat.reduceMul, reduceCtorEq, List.reduceReplicate, go_sem])
    | (apply callK_of (c_impl_Asks _); simp only [↓bk_bind, ↓bk_map, ↓bk_ite, ↓bk_some, ↓reduceIte, Nat.reduceEqDiff, Nat.reduceLT, Nat.reduceLeDiff, Nat.reduceAdd, Nat.reduceMul, reduceCtorEq, List.reduceReplicate, go_sem])
    | (apply callK_of (c_impl_InRange _ _ _); simp only [↓bk_bind, ↓bk_map, ↓bk_ite, ↓bk_some, ↓reduceIte, Nat.reduceEqDiff, Nat.reduceLT, Nat.reduceLeDiff, Nat.reduceAdd, Nat.reduceMul, reduceCtorEq, List.reduceReplicate, go_sem])
  all_goals (simp_all [entOk, asks, noAddr]; try omega)
def m_impl_AreEntries : MC :=
(.seq (pr [.mv 2 (.c (.bool false))] [0])
(.seq (.reg [{ o := .mv 3 (.s 0) }, { o := .len 4 false (.s 3) }, { o := .bin 5 false .leq (.s 4) (.c (.int .i64 16)) }, { o := .mv 6 (.s 5) }, { o := .mv 7 (.s 0), g := some (6, true) }, { o := .call 8 [] (.f n_slices_ContainsFunc_impl_Entry_impl_Entry) [.s 7, .f n_impl_AreEntries_1], g := some (6, true) }, { o := .un 9 .not (.s 8), g := some (6, true) }, { o := .pick 10 (.s 6) (.s 9) (.c (.bool false)) }, { o := .mv 2 (.s 10) }] [2])
.ret))
theorem c_impl_AreEntries (l : List GEntry) : Ctr Tryz.prog n_impl_AreEntries [aL 5 (l.map GEntry.enc)] [rB (entsOk l)] := by
  refine ctr_at (M := m_impl_AreEntries) (m := 0) (n := 11) (res := [(.tmp 2, [false])]) hmix Tryz.func172 rfl (by kernel_rfl) rfl (by kernel_rfl) (by kernel_rfl) (Nat.le_of_ble_eq_true rfl) ?_; unfold m_impl_AreEntries
  intro hb
  clear hb
  simp only [↓bk_bind, ↓bk_map, ↓bk_ite, ↓bk_some, ↓reduceIte, Nat.reduceEqDiff, Nat.reduceLT, Nat.reduceLeDiff, Nat.reduceAdd, Nat.reduceMul, reduceCtorEq, List.reduceReplicate, go_sem]
  refine ⟨fun h => ?_, fun h => fewAll_no (by omega)⟩
  refine callK_of (c_slices_ContainsFunc_Entry l _ [] (fun o => !entOk o) fun o _ => c_impl_AreEntries_1 o) ?_
  simp only [↓bk_bind, ↓bk_map, ↓bk_ite, ↓bk_some, ↓reduceIte, Nat.reduceEqDiff, Nat.reduceLT, Nat.reduceLeDiff, Nat.reduceAdd, Nat.reduceMul, reduceCtorEq, List.reduceReplicate, go_sem]
  exact fewAll_yes (by omega)
def m_spec_AreEntries : MC :=
(.seq (pr [.mv 2 (.c (.bool false))] [0])
(.seq (.seq (pr [.mv 3 (.c (.int .i64 0))] [0,3])
(.block 0 (.loop ([0,3], [0]) (.seq (.seq (pr [.mv 5 (.s 3), .mv 6 (.s 0), .len 7 false (.s 6), .bin 8 false .lss (.s 5) (.s 7)] [0,3,8])
(.cond (.s 8) .skip (.exit 0)))
(.seq (.block 1 (.seq (pr [.mv 11 (.s 0), .mv 12 (.s 3), .idx 13 5 (.s 11) (.s 12), .load 14 true 5 (.s 13), .alloc 4 0 [.pl (.sc (.int .i64 0)), .pl (.sc (.int .i64 0)), .pl (.sc (.int .i64 0)), .pl (.sc (.int .i64 0)), .pl (.sc (.int .i64 0))], .store 5 (.s 4) (.s 14)] [0,3,4])
(.seq (.reg [{ o := .fld 15 (.s 4) 0 }, { o := .load 16 false 1 (.s 15) }, { o := .call 17 [] (.f n_spec_Asks) [.s 16] }, { o := .un 18 .not (.s 17) }, { o := .mv 19 (.s 18) }, { o := .fld 20 (.s 4) 4, g := some (19, false) }, { o := .load 21 false 1 (.s 20), g := some (19, false) }, { o := .call 22 [] (.f n_spec_l1In) [.s 21, .c (.int .i64 0), .c (.int .i64 999)], g := some (19, false) }, { o := .un 23 .not (.s 22), g := some (19, false) }, { o := .pick 24 (.s 19) (.c (.bool true)) (.s 23) }, { o := .mv 25 (.s 24) }, { o := .fld 26 (.s 4) 0, g := some (25, false) }, { o := .load 27 false 1 (.s 26), g := some (25, false) }, { o := .bin 28 false .eql (.s 27) (.c (.int .i64 1)), g := some (25, false) }, { o := .mv 29 (.s 28), g := some (25, false) }, { o := .fld 30 (.s 4) 1, g := some (29, true) }, { o := .load 31 true 3 (.s 30), g := some (29, true) }, { o := .call 32 [] (.f n_spec_IsAddress) [.s 31], g := some (29, true) }, { o := .un 33 .not (.s 32), g := some (29, true) }, { o := .pick 34 (.s 29) (.s 33) (.c (.bool false)), g := some (25, false) }, { o := .pick 35 (.s 25) (.c (.bool true)) (.s 34) }, { o := .mv 36 (.s 35) }, { o := .fld 37 (.s 4) 0, g := some (36, false) }, { o := .load 38 false 1 (.s 37), g := some (36, false) }, { o := .bin 39 false .neq (.s 38) (.c (.int .i64 1)), g := some (36, false) }, { o := .mv 40 (.s 39), g := some (36, false) }, { o := .fld 41 (.s 4) 1, g := some (40, true) }, { o := .load 42 true 3 (.s 41), g := some (40, true) }, { o := .build 43 [.pl (.sc (.int .i64 0)), .pl (.sc (.int .i64 0)), .pl (.sc (.int .i64 0))] [], g := some (40, true) }, { o := .eqA 44 true [.i .i64, .i .i64, .i .i64] (.s 42) (.s 43), g := some (40, true) }, { o := .pick 45 (.s 40) (.s 44) (.c (.bool false)), g := some (36, false) }, { o := .pick 46 (.s 36) (.c (.bool true)) (.s 45) }] [0,3,46])
(.cond (.s 46) (.seq (pr [.mv 2 (.c (.bool false))] [2])
.ret) .skip))))
(pr [.mv 9 (.s 3), .bin 10 false .add (.s 9) (.c (.int .i64 1)), .mv 3 (.s 10)] [0,3]))))))
(.seq (pr [.mv 47 (.s 0), .len 48 false (.s 47), .bin 49 false .leq (.s 48) (.c (.int .i64 16)), .mv 2 (.s 49)] [2])
.ret)))
theorem c_spec_AreEntries (l : List GEntry) : Ctr Tryz.prog n_spec_AreEntries [aL 5 (l.map GEntry.enc)] [rB (entsOk l)] := by
  refine ctr_at (M := m_spec_AreEntries) (m := 1) (n := 50) (res := [(.tmp 2, [false])]) hmix Tryz.func129 rfl (by kernel_rfl) rfl (by kernel_rfl) (by kernel_rfl) (Nat.le_of_ble_eq_true rfl) ?_; unfold m_spec_AreEntries
  intro hb
  simp only [bdA, bdL, bdT, bdR, bdR_map, wfB_i64, wfB_bool, wfB_str, roomB, and_true, true_and, List.length_map] at hb
  have hl := hb.1
  clear hb
  simp only [↓bk_bind, ↓bk_map, ↓bk_ite, ↓bk_some, ↓reduceIte, Nat.reduceEqDiff, Nat.reduceLT, Nat.reduceLeDiff, Nat.reduceAdd, Nat.reduceMul, reduceCtorEq, List.reduceReplicate, go_sem]
  refine loopK_rng l (fun k => [(3, vI k)]) (fun k => []) (fun k => (l.take k).all entOk = true) hl ?_
  simp only [↓bk_bind, ↓bk_map, ↓bk_ite, ↓bk_some, ↓reduceIte, Nat.reduceEqDiff, Nat.reduceLT, Nat.reduceLeDiff, Nat.reduceAdd, Nat.reduceMul, reduceCtorEq, List.reduceReplicate, go_sem]
  refine ⟨?_, by simp, ?_, ?_⟩
  · simp only [↓bk_bind, ↓bk_map, ↓bk_ite, ↓bk_some, ↓reduceIte, Nat.reduceEqDiff, Nat.reduceLT, Nat.reduceLeDiff, Nat.reduceAdd, Nat.reduceMul, reduceCtorEq, List.reduceReplicate, go_sem]
  · intro k x hx hT h0 h1 hw
    have hy : entOk x = true → (l.take (k + 1)).all entOk = true := fun hn => all_step hx hT hn
    have hn : entOk x = false → false = entsOk l := fun hn => fewAll_at hx hn
    clear hT
    simp only [↓bk_bind, ↓bk_map, ↓bk_ite, ↓bk_some, ↓reduceIte, Nat.reduceEqDiff, Nat.reduceLT, Nat.reduceLeDiff, Nat.reduceAdd, Nat.reduceMul, reduceCtorEq, List.reduceReplicate, go_sem, bk_eq hx, h0, h1, hw]
    repeat' first
      | (refine And.intro ?_ ?_ <;> intro h)
      | (apply callK_of (c_spec_IsAddress _); simp only [↓bk_bind, ↓bk_map, ↓bk_ite, ↓bk_some, ↓reduceIte, Nat.reduceEqDiff, Nat.reduceLT, Nat.reduceLeDiff, Nat.reduceAdd, Nat.reduceMul, reduceCtorEq, List.reduceReplicate, go_sem, bk_eq hx, h0, h1, hw])
      | (apply callK_of (c_spec_Asks _); simp only [↓bk_bind, ↓bk_map, ↓bk_ite, ↓bk_some, ↓reduceIte, Nat.reduceEqDiff, Nat.reduceLT, Nat.reduceLeDiff, Nat.reduceAdd, Nat.reduceMul, reduceCtorEq, List.reduceReplicate, go_sem, bk_eq hx, h0, h1, hw])
      | (apply callK_of (c_spec_l1In _ _ _); simp only [↓bk_bind, ↓bk_map, ↓bk_ite, ↓bk_some, ↓reduceIte, Nat.reduceEqDiff, Nat.reduceLT, Nat.reduceLeDiff, Nat.reduceAdd, Nat.reduceMul, reduceCtorEq, List.reduceReplicate, go_sem, bk_eq hx, h0, h1, hw])
    all_goals first | (apply hy; clear hy hn hx hw; simp_all [entOk, noAddr]; done) | (apply hn; clear hy hn hx hw; simp_all [entOk, noAddr]; done) | (apply hn; clear hy hn hx hw; unfold entOk; rw [decide_eq_false (by assumption)]; simp; done)
  · intro h
    simp only [↓bk_bind, ↓bk_map, ↓bk_ite, ↓bk_some, ↓reduceIte, Nat.reduceEqDiff, Nat.reduceLT, Nat.reduceLeDiff, Nat.reduceAdd, Nat.reduceMul, reduceCtorEq, List.reduceReplicate, go_sem]
    rw [List.take_length] at h
    exact le_cast.trans (fewAll_end h)
def capOk (c : GCapture) : Bool := isAddr c.Address && (decide (0 ≤ c.Tick ∧ c.Tick ≤ 2000) && isRes c.Resource)
def capsOk (l : List GCapture) : Bool := fewAll 20 capOk l
def m_impl_AreCaptures_1 : MC :=
(.seq (pr [.box 1 0 (.s 0), .mv 2 (.c (.bool false))] [1])
(.seq (.reg [{ o := .fld 3 (.s 1) 0 }, { o := .load 4 true 3 (.s 3) }, { o := .call 5 [] (.f n_impl_IsAddress) [.s 4] }, { o := .un 6 .not (.s 5) }, { o := .mv 7 (.s 6) }, { o := .fld 8 (.s 1) 3, g := some (7, false) }, { o := .load 9 false 1 (.s 8), g := some (7, false) }, { o := .call 10 [] (.f n_impl_InRange) [.s 9, .c (.int .i64 0), .c (.int .i64 2000)], g := some (7, false) }, { o := .un 11 .not (.s 10), g := some (7, false) }, { o := .pick 12 (.s 7) (.c (.bool true)) (.s 11) }, { o := .mv 13 (.s 12) }, { o := .fld 14 (.s 1) 4, g := some (13, false) }, { o := .load 15 true 5 (.s 14), g := some (13, false) }, { o := .call 16 [] (.f n_impl_IsResource) [.s 15], g := some (13, false) }, { o := .un 17 .not (.s 16), g := some (13, false) }, { o := .pick 18 (.s 13) (.c (.bool true)) (.s 17) }, { o := .mv 2 (.s 18) }] [2])
.ret))
theorem c_impl_AreCaptures_1 (c : GCapture) : Ctr Tryz.prog n_impl_AreCaptures_1 [aS c.enc] [rB (!capOk c)] := by
  refine ctr_at (M := m_impl_AreCaptures_1) (m := 1) (n := 19) (res := [(.tmp 2, [false])]) hmix Tryz.func214 rfl (by kernel_rfl) rfl (by kernel_rfl) (by kernel_rfl) (Nat.le_of_ble_eq_true rfl) ?_; unfold m_impl_AreCaptures_1
  intro hb
  clear hb
  simp only [↓bk_bind, ↓bk_map, ↓bk_ite, ↓bk_some, ↓reduceIte, Nat.reduceEqDiff, Nat.reduceLT, Nat.reduceLeDiff, Nat.reduceAdd, Nat.reduceMul, reduceCtorEq, List.reduceReplicate, go_sem]
  repeat' first
    | (refine And.intro ?_ ?_ <;> intro h)
    | (apply callK_of (c_impl_IsAddress _); simp only [↓bk_bind, ↓bk_map, ↓bk_ite, ↓bk_some, ↓reduceIte, Nat.reduceEqDiff, Nat.reduceLT, Nat.reduceLeDiff, Nat.reduceAdd, Nat.reduceMul, reduceCtorEq, List.reduceReplicate, go_sem])
    | (apply callK_of (c_impl_IsResource _); simp only [↓bk_bind, ↓bk_map, ↓bk_ite, ↓bk_some, ↓reduceIte, Nat.reduceEqDiff, Nat.reduceLT, Nat.reduceLeDiff, Nat.reduceAdd, Nat.reduceMul, reduceCtorEq, List.reduceReplicate, go_sem])
    | (apply callK_of (c_impl_InRange _ _ _); simp only [↓bk_bind, ↓bk_map, ↓bk_ite, ↓bk_some, ↓reduceIte, Nat.reduceEqDiff, Nat.reduceLT, Nat.reduceLeDiff, Nat.reduceAdd, Nat.reduceMul, reduceCtorEq, List.reduceReplicate, go_sem])
  all_goals (simp_all [capOk]; try omega)
def m_impl_AreCaptures : MC :=
(.seq (pr [.mv 2 (.c (.bool false))] [0])
(.seq (.reg [{ o := .mv 3 (.s 0) }, { o := .len 4 false (.s 3) }, { o := .bin 5 false .leq (.s 4) (.c (.int .i64 20)) }, { o := .mv 6 (.s 5) }, { o := .mv 7 (.s 0), g := some (6, true) }, { o := .call 8 [] (.f n_slices_ContainsFunc_impl_Capture_impl_Capture) [.s 7, .f n_impl_AreCaptures_1], g := some (6, true) }, { o := .un 9 .not (.s 8), g := some (6, true) }, { o := .pick 10 (.s 6) (.s 9) (.c (.bool false)) }, { o := .mv 2 (.s 10) }] [2])
.ret))
theorem c_impl_AreCaptures (l : List GCapture) : Ctr Tryz.prog n_impl_AreCaptures [aL 9 (l.map GCapture.enc)] [rB (capsOk l)] := by
  refine ctr_at (M := m_impl_AreCaptures) (m := 0) (n := 11) (res := [(.tmp 2, [false])]) hmix Tryz.func173 rfl (by kernel_rfl) rfl (by kernel_rfl) (by kernel_rfl) (Nat.le_of_ble_eq_true rfl) ?_; unfold m_impl_AreCaptures
  intro hb
  clear hb
  simp only [↓bk_bind, ↓bk_map, ↓bk_ite, ↓bk_some, ↓reduceIte, Nat.reduceEqDiff, Nat.reduceLT, Nat.reduceLeDiff, Nat.reduceAdd, Nat.reduceMul, reduceCtorEq, List.reduceReplicate, go_sem]
  refine ⟨fun h => ?_, fun h => fewAll_no (by omega)⟩
  refine callK_of (c_slices_ContainsFunc_Capture l _ [] (fun o => !capOk o) fun o _ => c_impl_AreCaptures_1 o) ?_
  simp only [↓bk_bind, ↓bk_map, ↓bk_ite, ↓bk_some, ↓reduceIte, Nat.reduceEqDiff, Nat.reduceLT, Nat.reduceLeDiff, Nat.reduceAdd, Nat.reduceMul, reduceCtorEq, List.reduceReplicate, go_sem]
  exact fewAll_yes (by omega)
def m_spec_AreCaptures : MC :=
(.seq (pr [.mv 2 (.c (.bool false))] [0])
(.seq (.seq (pr [.mv 3 (.c (.int .i64 0))] [0,3])
(.block 0 (.loop ([0,3], []) (.seq (.seq (pr [.mv 4 (.s 3), .mv 5 (.s 0), .len 6 false (.s 5), .bin 7 false .lss (.s 4) (.s 6)] [0,3,7])
(.cond (.s 7) .skip (.exit 0)))
(.seq (.block 1 (.seq (.reg [{ o := .mv 10 (.s 0) }, { o := .mv 11 (.s 3) }, { o := .idx 12 9 (.s 10) (.s 11) }, { o := .fld 13 (.s 12) 0 }, { o := .load 14 true 3 (.s 13) }, { o := .call 15 [] (.f n_spec_IsAddress) [.s 14] }, { o := .un 16 .not (.s 15) }, { o := .mv 17 (.s 16) }, { o := .mv 18 (.s 0), g := some (17, false) }, { o := .mv 19 (.s 3), g := some (17, false) }, { o := .idx 20 9 (.s 18) (.s 19), g := some (17, false) }, { o := .fld 21 (.s 20) 3, g := some (17, false) }, { o := .load 22 false 1 (.s 21), g := some (17, false) }, { o := .call 23 [] (.f n_spec_l1In) [.s 22, .c (.int .i64 0), .c (.int .i64 2000)], g := some (17, false) }, { o := .un 24 .not (.s 23), g := some (17, false) }, { o := .pick 25 (.s 17) (.c (.bool true)) (.s 24) }, { o := .mv 26 (.s 25) }, { o := .mv 27 (.s 0), g := some (26, false) }, { o := .mv 28 (.s 3), g := some (26, false) }, { o := .idx 29 9 (.s 27) (.s 28), g := some (26, false) }, { o := .fld 30 (.s 29) 4, g := some (26, false) }, { o := .load 31 true 5 (.s 30), g := some (26, false) }, { o := .call 32 [] (.f n_spec_IsResource) [.s 31], g := some (26, false) }, { o := .un 33 .not (.s 32), g := some (26, false) }, { o := .pick 34 (.s 26) (.c (.bool true)) (.s 33) }] [0,3,34])
(.cond (.s 34) (.seq (pr [.mv 2 (.c (.bool false))] [2])
.ret) .skip)))
(pr [.mv 8 (.s 3), .bin 9 false .add (.s 8) (.c (.int .i64 1)), .mv 3 (.s 9)] [0,3]))))))
(.seq (pr [.mv 35 (.s 0), .len 36 false (.s 35), .bin 37 false .leq (.s 36) (.c (.int .i64 20)), .mv 2 (.s 37)] [2])
.ret)))
theorem c_spec_AreCaptures (l : List GCapture) : Ctr Tryz.prog n_spec_AreCaptures [aL 9 (l.map GCapture.enc)] [rB (capsOk l)] := by
  refine ctr_at (M := m_spec_AreCaptures) (m := 0) (n := 38) (res := [(.tmp 2, [false])]) hmix Tryz.func130 rfl (by kernel_rfl) rfl (by kernel_rfl) (by kernel_rfl) (Nat.le_of_ble_eq_true rfl) ?_; unfold m_spec_AreCaptures
  intro hb
  simp only [bdA, bdL, bdT, bdR, bdR_map, wfB_i64, wfB_bool, wfB_str, roomB, and_true, true_and, List.length_map] at hb
  have hl := hb.1
  clear hb
  simp only [↓bk_bind, ↓bk_map, ↓bk_ite, ↓bk_some, ↓reduceIte, Nat.reduceEqDiff, Nat.reduceLT, Nat.reduceLeDiff, Nat.reduceAdd, Nat.reduceMul, reduceCtorEq, List.reduceReplicate, go_sem]
  refine loopK_rng l (fun k => [(3, vI k)]) (fun k => []) (fun k => (l.take k).all capOk = true) hl ?_
  simp only [↓bk_bind, ↓bk_map, ↓bk_ite, ↓bk_some, ↓reduceIte, Nat.reduceEqDiff, Nat.reduceLT, Nat.reduceLeDiff, Nat.reduceAdd, Nat.reduceMul, reduceCtorEq, List.reduceReplicate, go_sem]
  refine ⟨?_, by simp, ?_, ?_⟩
  · simp only [↓bk_bind, ↓bk_map, ↓bk_ite, ↓bk_some, ↓reduceIte, Nat.reduceEqDiff, Nat.reduceLT, Nat.reduceLeDiff, Nat.reduceAdd, Nat.reduceMul, reduceCtorEq, List.reduceReplicate, go_sem]
  · intro k x hx hT h0 h1 hw
    have hy : capOk x = true → (l.take (k + 1)).all capOk = true := fun hn => all_step hx hT hn
    have hn : capOk x = false → false = capsOk l := fun hn => fewAll_at hx hn
    clear hT
    simp only [↓bk_bind, ↓bk_map, ↓bk_ite, ↓bk_some, ↓reduceIte, Nat.reduceEqDiff, Nat.reduceLT, Nat.reduceLeDiff, Nat.reduceAdd, Nat.reduceMul, reduceCtorEq, List.reduceReplicate, go_sem, bk_eq hx, h0, h1, hw]
    repeat' first
      | (refine And.intro ?_ ?_ <;> intro h)
      | (apply callK_of (c_spec_IsAddress _); simp only [↓bk_bind, ↓bk_map, ↓bk_ite, ↓bk_some, ↓reduceIte, Nat.reduceEqDiff, Nat.reduceLT, Nat.reduceLeDiff, Nat.reduceAdd, Nat.reduceMul, reduceCtorEq, List.reduceReplicate, go_sem, bk_eq hx, h0, h1, hw])
      | (apply callK_of (c_spec_IsResource _); simp only [↓bk_bind, ↓bk_map, ↓bk_ite, ↓bk_some, ↓reduceIte, Nat.reduceEqDiff, Nat.reduceLT, Nat.reduceLeDiff, Nat.reduceAdd, Nat.reduceMul, reduceCtorEq, List.reduceReplicate, go_sem, bk_eq hx, h0, h1, hw])
      | (apply callK_of (c_spec_l1In _ _ _); simp only [↓bk_bind, ↓bk_map, ↓bk_ite, ↓bk_some, ↓reduceIte, Nat.reduceEqDiff, Nat.reduceLT, Nat.reduceLeDiff, Nat.reduceAdd, Nat.reduceMul, reduceCtorEq, List.reduceReplicate, go_sem, bk_eq hx, h0, h1, hw])
    all_goals first | (apply hy; clear hy hn hx hw; simp_all [capOk]; done) | (apply hn; clear hy hn hx hw; simp_all [capOk]; done) | (apply hn; clear hy hn hx hw; unfold capOk; rw [decide_eq_false (by assumption)]; simp; done)
  · intro h
    simp only [↓bk_bind, ↓bk_map, ↓bk_ite, ↓bk_some, ↓reduceIte, Nat.reduceEqDiff, Nat.reduceLT, Nat.reduceLeDiff, Nat.reduceAdd, Nat.reduceMul, reduceCtorEq, List.reduceReplicate, go_sem]
    rw [List.take_length] at h
    exact le_cast.trans (fewAll_end h)
end Go.Proofs.YtbnbgekjjbpljaaGreatR
namespace Go.Proofs.YtbnbgekjjbpljaaGreatR
open Go Go.RowKit Go.Proofs
set_option linter.unusedSimpArgs false
set_option linter.unusedVariables false
def m_impl_ScriptInts : MC :=
(.seq (pr [.nilo 2 0 1] [0])
(.seq (pr [.nilo 3 0 1] [0,3])
(.seq (.seq (pr [.mv 6 (.s 0), .len 7 false (.s 6), .mv 8 (.c (.int .i64 0))] [3,6,7,8])
(.block 0 (.loop ([3,6,7,8], [1,2]) (.seq (pr [.bin 9 false .lss (.s 8) (.s 7)] [3,6,7,8,9])
(.seq (.cond (.s 9) .skip (.exit 0))
(.seq (.block 1 (.seq (pr [.idx 10 4 (.s 6) (.s 8), .load 11 true 4 (.s 10), .alloc 5 1 [.pl (.sc (.int .i64 0)), .pl (.sc (.int .i64 0)), .pl (.sc (.int .i64 0)), .pl (.sc (.int .i64 0))], .store 4 (.s 5) (.s 11)] [3,5,6,7,8])
(pr [.mv 12 (.s 3), .fld 13 (.s 5) 0, .load 14 false 1 (.s 13), .fld 15 (.s 5) 1, .load 16 false 1 (.s 15), .fld 17 (.s 5) 2, .load 18 false 1 (.s 17), .fld 19 (.s 5) 3, .load 20 false 1 (.s 19), .lit 21 2 1 8 [.s 14, .s 16, .s 18, .s 20], .app 22 0 1 8 (.s 12) (.s 21), .mv 3 (.s 22)] [3,6,7,8])))
(pr [.bin 23 false .add (.s 8) (.c (.int .i64 1)), .mv 8 (.s 23)] [3,6,7,8])))))))
(.seq (pr [.mv 24 (.s 3), .mv 2 (.s 24)] [2])
.ret))))
theorem c_impl_ScriptInts (xs : List GOp) (hN : xs.length ≤ 1099511627776) : Ctr Tryz.prog n_impl_ScriptInts [aL 4 (xs.map GOp.enc)] [rL 1 ((scriptInts xs).map encI)] := by
  refine ctr_at (M := m_impl_ScriptInts) (m := 3) (n := 25) (res := [(.tmp 2, [true])]) hmix Tryz.func219 rfl (by kernel_rfl) rfl (by kernel_rfl) (by kernel_rfl) (Nat.le_of_ble_eq_true rfl) ?_; unfold m_impl_ScriptInts
  intro hb
  simp only [bdA, bdL, bdT, bdR, bdR_map, wfB_i64, wfB_bool, wfB_str, roomB, and_true, true_and, List.length_map] at hb
  obtain ⟨hl, -⟩ := hb
  simp only [↓bk_bind, ↓bk_map, ↓bk_ite, ↓bk_some, ↓reduceIte, Nat.reduceEqDiff, Nat.reduceLT, Nat.reduceLeDiff, Nat.reduceAdd, Nat.reduceMul, reduceCtorEq, List.reduceReplicate, go_sem]
  refine loopK_rng xs (fun k => [(3, .val false [.ref 0 0 1 0 (scriptInts (xs.take k)).length]), (8, vI k)]) (fun k => [(0, ⟨0, .row true 1 ((scriptInts (xs.take k)).map encI)⟩)]) (fun _ => True) hl ?_
  simp only [↓bk_bind, ↓bk_map, ↓bk_ite, ↓bk_some, ↓reduceIte, Nat.reduceEqDiff, Nat.reduceLT, Nat.reduceLeDiff, Nat.reduceAdd, Nat.reduceMul, reduceCtorEq, List.reduceReplicate, go_sem]
  refine ⟨?_, trivial, ?_, ?_⟩
  · simp only [↓bk_bind, ↓bk_map, ↓bk_ite, ↓bk_some, ↓reduceIte, Nat.reduceEqDiff, Nat.reduceLT, Nat.reduceLeDiff, Nat.reduceAdd, Nat.reduceMul, reduceCtorEq, List.reduceReplicate, go_sem, List.take_zero]
    exact ⟨rfl, rfl⟩
  · intro k x hx _ h0 h1 hw
    have hlt := List.length_take_le k xs
    simp only [↓bk_bind, ↓bk_map, ↓bk_ite, ↓bk_some, ↓reduceIte, Nat.reduceEqDiff, Nat.reduceLT, Nat.reduceLeDiff, Nat.reduceAdd, Nat.reduceMul, reduceCtorEq, List.reduceReplicate, go_sem, bk_eq hx, h0, h1, hw, scriptInts_snoc hx, List.length_append, scriptInts_len]
    refine ⟨⟨by simp, by decide⟩, by simp only [roomB]; omega, by simp [encI]⟩
  · intro _
    simp only [↓bk_bind, ↓bk_map, ↓bk_ite, ↓bk_some, ↓reduceIte, Nat.reduceEqDiff, Nat.reduceLT, Nat.reduceLeDiff, Nat.reduceAdd, Nat.reduceMul, reduceCtorEq, List.reduceReplicate, go_sem, List.take_length]
def m_impl_SealContainer : MC :=
(.seq (pr [.alloc 6 0 [.emp 4, .emp 5, .emp 9, .pl (.sc (.int .i64 0))]] [0,1,2,6])
(.seq (pr [.nilo 7 1 1, .nilo 8 2 1] [0,1,2,6,7,8])
(.seq (.seq (pr [.mv 13 (.s 1), .len 14 false (.s 13), .mv 15 (.c (.int .i64 0))] [0,1,2,6,7,8,13,14,15])
(.block 0 (.loop ([0,1,2,6,7,8,13,14,15], [3,4,5,6,7,11,12]) (.seq (pr [.bin 16 false .lss (.s 15) (.s 14)] [0,1,2,6,7,8,13,14,15,16])
(.seq (.cond (.s 16) .skip (.exit 0))
(.seq (.block 1 (.seq (pr [.idx 17 5 (.s 13) (.s 15), .load 18 true 5 (.s 17), .alloc 10 3 [.pl (.sc (.int .i64 0)), .pl (.sc (.int .i64 0)), .pl (.sc (.int .i64 0)), .pl (.sc (.int .i64 0)), .pl (.sc (.int .i64 0))], .store 5 (.s 10) (.s 18)] [0,1,2,6,7,8,10,13,14,15])
(pr [.mv 19 (.s 7), .fld 20 (.s 10) 0, .load 21 false 1 (.s 20), .fld 22 (.s 10) 1, .fld 23 (.s 22) 0, .load 24 false 1 (.s 23), .fld 25 (.s 10) 1, .fld 26 (.s 25) 1, .load 27 false 1 (.s 26), .fld 28 (.s 10) 1, .fld 29 (.s 28) 2, .load 30 false 1 (.s 29), .fld 31 (.s 10) 4, .load 32 false 1 (.s 31), .lit 33 4 1 8 [.s 21, .s 24, .s 27, .s 30, .s 32], .app 34 1 1 8 (.s 19) (.s 33), .mv 7 (.s 34)] [0,1,2,6,7,8,13,14,15])))
(pr [.bin 35 false .add (.s 15) (.c (.int .i64 1)), .mv 15 (.s 35)] [0,1,2,6,7,8,13,14,15])))))))
(.seq (.seq (pr [.mv 36 (.s 2), .len 37 false (.s 36), .mv 38 (.c (.int .i64 0))] [0,1,2,6,7,8,36,37,38])
(.block 2 (.loop ([0,1,2,6,7,8,36,37,38], [3,4,5,6,7,11,12]) (.seq (pr [.bin 39 false .lss (.s 38) (.s 37)] [0,1,2,6,7,8,36,37,38,39])
(.seq (.cond (.s 39) .skip (.exit 2))
(.seq (.block 3 (.seq (pr [.idx 40 9 (.s 36) (.s 38), .load 41 true 9 (.s 40), .alloc 12 5 [.pl (.sc (.int .i64 0)), .pl (.sc (.int .i64 0)), .pl (.sc (.int .i64 0)), .pl (.sc (.int .i64 0)), .pl (.sc (.int .i64 0)), .emp 1, .pl (.sc (.int .i64 0)), .pl (.sc (.int .i64 0)), .pl (.sc (.int .i64 0))], .store 9 (.s 12) (.s 41)] [0,1,2,6,7,8,12,36,37,38])
(pr [.mv 42 (.s 8), .load 43 true 9 (.s 12), .call 44 [6] (.f n_impl_CaptureInts) [.s 43], .call 45 [] (.f n_impl_Hash) [.s 44], .lit 46 7 1 8 [.s 45], .app 47 2 1 8 (.s 42) (.s 46), .mv 8 (.s 47)] [0,1,2,6,7,8,36,37,38])))
(pr [.bin 48 false .add (.s 38) (.c (.int .i64 1)), .mv 38 (.s 48)] [0,1,2,6,7,8,36,37,38])))))))
(.seq (pr [.mv 49 (.s 0), .call 50 [8] (.f n_slices_Clone_impl_Op_impl_Op) [.s 49], .mv 51 (.s 1), .call 52 [9] (.f n_slices_Clone_impl_Entry_impl_Entry) [.s 51], .mv 53 (.s 2), .call 54 [10] (.f n_impl_copyCaptures) [.s 53], .mv 55 (.s 0), .call 56 [11] (.f n_impl_ScriptInts) [.s 55], .call 57 [] (.f n_impl_Hash) [.s 56], .mv 58 (.s 7), .call 59 [] (.f n_impl_Hash) [.s 58], .mv 60 (.s 8), .call 61 [] (.f n_impl_RootOf) [.s 60], .lit 62 12 1 8 [.s 57, .s 59, .s 61], .call 63 [] (.f n_impl_RootOf) [.s 62], .build 64 [.emp 4, .emp 5, .emp 9, .pl (.sc (.int .i64 0))] [(0, 1, .s 50), (1, 1, .s 52), (2, 1, .s 54), (3, 1, .s 63)], .store 4 (.s 6) (.s 64)] [6])
.ret)))))
theorem c_impl_SealContainer (l : List GOp) (es : List GEntry) (cs : List GCapture) (h1 : l.length ≤ 1073741824) (h2 : es.length ≤ 1073741824) (hs : cs.length + (cs.map GCapture.size).sum ≤ 1073741824) :
    Ctr Tryz.prog n_impl_SealContainer [aL 4 (l.map GOp.enc), aL 5 (es.map GEntry.enc), aL 9 (cs.map GCapture.enc)] [rS (GContainer.enc ⟨l, es, cs, sealRoot l es cs⟩)] := by
  refine ctr_at (M := m_impl_SealContainer) (m := 13) (n := 65) (res := [(.cell 6 true 4, [true, true, true, false])]) hmix Tryz.func174 rfl (by kernel_rfl) rfl (by kernel_rfl) (by kernel_rfl) (Nat.le_of_ble_eq_true rfl) ?_; unfold m_impl_SealContainer
  intro hb
  clear hb
  simp only [↓bk_bind, ↓bk_map, ↓bk_ite, ↓bk_some, ↓reduceIte, Nat.reduceEqDiff, Nat.reduceLT, Nat.reduceLeDiff, Nat.reduceAdd, Nat.reduceMul, reduceCtorEq, List.reduceReplicate, go_sem]
  refine loopK_rng es (fun k => [(7, .val false [.ref 1 0 1 0 (entInts (es.take k)).length]), (15, vI k)]) (fun k => [(1, ⟨0, .row true 1 ((entInts (es.take k)).map encI)⟩)]) (fun _ => True) (by simp only [roomB]; omega) ?_
  simp only [↓bk_bind, ↓bk_map, ↓bk_ite, ↓bk_some, ↓reduceIte, Nat.reduceEqDiff, Nat.reduceLT, Nat.reduceLeDiff, Nat.reduceAdd, Nat.reduceMul, reduceCtorEq, List.reduceReplicate, go_sem]
  refine ⟨?_, trivial, ?_, ?_⟩
  · simp only [↓bk_bind, ↓bk_map, ↓bk_ite, ↓bk_some, ↓reduceIte, Nat.reduceEqDiff, Nat.reduceLT, Nat.reduceLeDiff, Nat.reduceAdd, Nat.reduceMul, reduceCtorEq, List.reduceReplicate, go_sem, List.take_zero]
    exact ⟨rfl, rfl⟩
  · intro k x hx _ h0 h1 hw
    have hlt := List.length_take_le k es
    simp only [↓bk_bind, ↓bk_map, ↓bk_ite, ↓bk_some, ↓reduceIte, Nat.reduceEqDiff, Nat.reduceLT, Nat.reduceLeDiff, Nat.reduceAdd, Nat.reduceMul, reduceCtorEq, List.reduceReplicate, go_sem, bk_eq hx, h0, h1, hw, entInts_snoc hx, List.length_append, entInts_len]
    refine ⟨⟨by simp, by decide⟩, by simp only [roomB]; omega, by simp [encI]⟩
  · intro _
    simp only [↓bk_bind, ↓bk_map, ↓bk_ite, ↓bk_some, ↓reduceIte, Nat.reduceEqDiff, Nat.reduceLT, Nat.reduceLeDiff, Nat.reduceAdd, Nat.reduceMul, reduceCtorEq, List.reduceReplicate, go_sem, List.take_length]
    refine loopK_rng cs (fun k => [(8, .val false [.ref 2 0 1 0 (capHashes (cs.take k)).length]), (38, vI k)]) (fun k => [(2, ⟨0, .row true 1 ((capHashes (cs.take k)).map encI)⟩)]) (fun _ => True) (by simp only [roomB]; omega) ?_
    simp only [↓bk_bind, ↓bk_map, ↓bk_ite, ↓bk_some, ↓reduceIte, Nat.reduceEqDiff, Nat.reduceLT, Nat.reduceLeDiff, Nat.reduceAdd, Nat.reduceMul, reduceCtorEq, List.reduceReplicate, go_sem]
    refine ⟨?_, trivial, ?_, ?_⟩
    · simp only [↓bk_bind, ↓bk_map, ↓bk_ite, ↓bk_some, ↓reduceIte, Nat.reduceEqDiff, Nat.reduceLT, Nat.reduceLeDiff, Nat.reduceAdd, Nat.reduceMul, reduceCtorEq, List.reduceReplicate, go_sem, List.take_zero]
      exact ⟨rfl, rfl⟩
    · intro k x hx _ h0 h1 hw
      have hlt := List.length_take_le k cs
      simp only [↓bk_bind, ↓bk_map, ↓bk_ite, ↓bk_some, ↓reduceIte, Nat.reduceEqDiff, Nat.reduceLT, Nat.reduceLeDiff, Nat.reduceAdd, Nat.reduceMul, reduceCtorEq, List.reduceReplicate, go_sem, bk_eq hx, h0, h1, hw, capHashes_snoc hx, List.length_append]
      apply callK_of (c_impl_CaptureInts x (body_le hx hs))
      simp only [↓bk_bind, ↓bk_map, ↓bk_ite, ↓bk_some, ↓reduceIte, Nat.reduceEqDiff, Nat.reduceLT, Nat.reduceLeDiff, Nat.reduceAdd, Nat.reduceMul, reduceCtorEq, List.reduceReplicate, go_sem, hw]
      try intro _
      apply callK_of (c_impl_Hash (capInts x))
      simp only [↓bk_bind, ↓bk_map, ↓bk_ite, ↓bk_some, ↓reduceIte, Nat.reduceEqDiff, Nat.reduceLT, Nat.reduceLeDiff, Nat.reduceAdd, Nat.reduceMul, reduceCtorEq, List.reduceReplicate, go_sem, hw]
      simp only [roomB, capHashes_len]
      exact ⟨by omega, by omega, fun _ => by simp [encI]⟩
    · intro _
      simp only [↓bk_bind, ↓bk_map, ↓bk_ite, ↓bk_some, ↓reduceIte, Nat.reduceEqDiff, Nat.reduceLT, Nat.reduceLeDiff, Nat.reduceAdd, Nat.reduceMul, reduceCtorEq, List.reduceReplicate, go_sem, List.take_length]
      apply callK_of (c_slices_Clone_Op l (by omega))
      simp only [↓bk_bind, ↓bk_map, ↓bk_ite, ↓bk_some, ↓reduceIte, Nat.reduceEqDiff, Nat.reduceLT, Nat.reduceLeDiff, Nat.reduceAdd, Nat.reduceMul, reduceCtorEq, List.reduceReplicate, go_sem]
      intros
      apply callK_of (c_slices_Clone_Entry es (by omega))
      simp only [↓bk_bind, ↓bk_map, ↓bk_ite, ↓bk_some, ↓reduceIte, Nat.reduceEqDiff, Nat.reduceLT, Nat.reduceLeDiff, Nat.reduceAdd, Nat.reduceMul, reduceCtorEq, List.reduceReplicate, go_sem]
      intros
      apply callK_of (c_impl_copyCaptures cs hs)
      simp only [↓bk_bind, ↓bk_map, ↓bk_ite, ↓bk_some, ↓reduceIte, Nat.reduceEqDiff, Nat.reduceLT, Nat.reduceLeDiff, Nat.reduceAdd, Nat.reduceMul, reduceCtorEq, List.reduceReplicate, go_sem]
      intros
      apply callK_of (c_impl_ScriptInts l (by omega))
      simp only [↓bk_bind, ↓bk_map, ↓bk_ite, ↓bk_some, ↓reduceIte, Nat.reduceEqDiff, Nat.reduceLT, Nat.reduceLeDiff, Nat.reduceAdd, Nat.reduceMul, reduceCtorEq, List.reduceReplicate, go_sem]
      try intros
      apply callK_of (c_impl_Hash (scriptInts l))
      simp only [↓bk_bind, ↓bk_map, ↓bk_ite, ↓bk_some, ↓reduceIte, Nat.reduceEqDiff, Nat.reduceLT, Nat.reduceLeDiff, Nat.reduceAdd, Nat.reduceMul, reduceCtorEq, List.reduceReplicate, go_sem]
      try intros
      apply callK_of (c_impl_Hash (entInts es))
      simp only [↓bk_bind, ↓bk_map, ↓bk_ite, ↓bk_some, ↓reduceIte, Nat.reduceEqDiff, Nat.reduceLT, Nat.reduceLeDiff, Nat.reduceAdd, Nat.reduceMul, reduceCtorEq, List.reduceReplicate, go_sem]
      try intros
      apply callK_of (c_impl_RootOf _ (capHashes cs) (Nat.le_refl _))
      simp only [↓bk_bind, ↓bk_map, ↓bk_ite, ↓bk_some, ↓reduceIte, Nat.reduceEqDiff, Nat.reduceLT, Nat.reduceLeDiff, Nat.reduceAdd, Nat.reduceMul, reduceCtorEq, List.reduceReplicate, go_sem]
      try intros
      refine ⟨by decide, ?_⟩
      apply callK_of (c_impl_RootOf _ [hashL (scriptInts l), hashL (entInts es), rootL (capHashes cs)] (Nat.le_refl _))
      simp only [↓bk_bind, ↓bk_map, ↓bk_ite, ↓bk_some, ↓reduceIte, Nat.reduceEqDiff, Nat.reduceLT, Nat.reduceLeDiff, Nat.reduceAdd, Nat.reduceMul, reduceCtorEq, List.reduceReplicate, go_sem]
      intros
      rfl
def contOk (x : GContainer) : Bool := scriptOk x.Script && (entsOk x.Entries && (capsOk x.Captures && (sealRoot x.Script x.Entries x.Captures == x.Root)))
def m_impl_IsContainer : MC :=
(.seq (pr [.box 1 0 (.s 0), .mv 2 (.c (.bool false))] [1])
(.seq (.dreg [{ o := .fld 3 (.s 1) 0 }, { o := .load 4 false 1 (.s 3), bf := [0] }, { o := .call 5 [] (.f n_impl_IsScript) [.s 4], bf := [0,1] }, { o := .mv 6 (.s 5), bf := [0,1,2] }, { o := .fld 7 (.s 1) 1, g := some (6, true), bf := [0,1,2,3] }, { o := .load 8 false 1 (.s 7), g := some (6, true), bf := [0,1,2,3,4] }, { o := .call 9 [] (.f n_impl_AreEntries) [.s 8], g := some (6, true), bf := [0,1,2,3,4,5] }, { o := .pick 10 (.s 6) (.s 9) (.c (.bool false)), bf := [0,1,2,3,4,5,6] }, { o := .mv 11 (.s 10), bf := [0,1,2,3,4,5,6,7] }, { o := .fld 12 (.s 1) 2, g := some (11, true), bf := [0,1,2,3,4,5,6,7,8] }, { o := .load 13 false 1 (.s 12), g := some (11, true), bf := [0,1,2,3,4,5,6,7,8,9] }, { o := .call 14 [] (.f n_impl_AreCaptures) [.s 13], g := some (11, true), bf := [0,1,2,3,4,5,6,7,8,9,10] }, { o := .pick 15 (.s 11) (.s 14) (.c (.bool false)), bf := [0,1,2,3,4,5,6,7,8,9,10,11] }, { o := .mv 16 (.s 15), bf := [0,1,2,3,4,5,6,7,8,9,10,11,12] }, { o := .fld 17 (.s 1) 0, g := some (16, true), hs := [19,20,21,22,25,26], bf := [0,1,2,3,4,5,6,7,8,9,10,11,12,13] }, { o := .load 18 false 1 (.s 17), g := some (16, true), hs := [19,20,21,22,25,26], bf := [0,1,2,3,4,5,6,7,8,9,10,11,12,13,14] }, { o := .fld 19 (.s 1) 1, g := some (16, true), hs := [17,18,21,22,25,26], bf := [0,1,2,3,4,5,6,7,8,9,10,11,12,13] }, { o := .load 20 false 1 (.s 19), g := some (16, true), hs := [17,18,21,22,25,26], bf := [0,1,2,3,4,5,6,7,8,9,10,11,12,13,16] }, { o := .fld 21 (.s 1) 2, g := some (16, true), hs := [17,18,19,20,25,26], bf := [0,1,2,3,4,5,6,7,8,9,10,11,12,13] }, { o := .load 22 false 1 (.s 21), g := some (16, true), hs := [17,18,19,20,25,26], bf := [0,1,2,3,4,5,6,7,8,9,10,11,12,13,18] }, { o := .call 23 [1, 2, 3] (.f n_impl_SealContainer) [.s 18, .s 20, .s 22], g := some (16, true), hs := [25,26], ws := [1,2,3], bf := [0,1,2,3,4,5,6,7,8,9,10,11,12,13,14,15,16,17,18,19] }, { o := .fldv 24 (.s 23) 3 1 false, g := some (16, true), hs := [25,26], bf := [0,1,2,3,4,5,6,7,8,9,10,11,12,13,14,15,16,17,18,19,20] }, { o := .fld 25 (.s 1) 3, g := some (16, true), hs := [17,18,19,20,21,22,23,24], ho := [1,2,3], bf := [0,1,2,3,4,5,6,7,8,9,10,11,12,13] }, { o := .load 26 false 1 (.s 25), g := some (16, true), hs := [17,18,19,20,21,22,23,24], ho := [1,2,3], bf := [0,1,2,3,4,5,6,7,8,9,10,11,12,13,22] }, { o := .bin 27 false .eql (.s 24) (.s 26), g := some (16, true), bf := [0,1,2,3,4,5,6,7,8,9,10,11,12,13,14,15,16,17,18,19,20,21,22,23] }, { o := .pick 28 (.s 16) (.s 27) (.c (.bool false)), bf := [0,1,2,3,4,5,6,7,8,9,10,11,12,13,14,15,16,17,18,19,20,21,22,23,24] }, { o := .mv 2 (.s 28), bf := [0,1,2,3,4,5,6,7,8,9,10,11,12,13,14,15,16,17,18,19,20,21,22,23,24,25] }] [2])
.ret))
theorem c_impl_IsContainer (x : GContainer) (hs : x.size ≤ 1073741824) : Ctr Tryz.prog n_impl_IsContainer [aS x.enc] [rB (contOk x)] := by
  refine ctr_at (M := m_impl_IsContainer) (m := 4) (n := 29) (res := [(.tmp 2, [false])]) hmix Tryz.func116 rfl (by kernel_rfl) rfl (by kernel_rfl) (by kernel_rfl) (Nat.le_of_ble_eq_true rfl) ?_; unfold m_impl_IsContainer
  intro hb
  clear hb
  simp only [GContainer.size] at hs
  simp only [↓bk_bind, ↓bk_map, ↓bk_ite, ↓bk_some, ↓reduceIte, Nat.reduceEqDiff, Nat.reduceLT, Nat.reduceLeDiff, Nat.reduceAdd, Nat.reduceMul, reduceCtorEq, List.reduceReplicate, go_sem]
  repeat' first
    | (refine And.intro ?_ ?_ <;> intro h)
    | (apply callK_of (c_impl_IsScript _); simp only [↓bk_bind, ↓bk_map, ↓bk_ite, ↓bk_some, ↓reduceIte, Nat.reduceEqDiff, Nat.reduceLT, Nat.reduceLeDiff, Nat.reduceAdd, Nat.reduceMul, reduceCtorEq, List.reduceReplicate, go_sem])
    | (apply callK_of (c_impl_AreEntries _); simp only [↓bk_bind, ↓bk_map, ↓bk_ite, ↓bk_some, ↓reduceIte, Nat.reduceEqDiff, Nat.reduceLT, Nat.reduceLeDiff, Nat.reduceAdd, Nat.reduceMul, reduceCtorEq, List.reduceReplicate, go_sem])
    | (apply callK_of (c_impl_AreCaptures _); simp only [↓bk_bind, ↓bk_map, ↓bk_ite, ↓bk_some, ↓reduceIte, Nat.reduceEqDiff, Nat.reduceLT, Nat.reduceLeDiff, Nat.reduceAdd, Nat.reduceMul, reduceCtorEq, List.reduceReplicate, go_sem])
    | (apply callK_of (c_impl_SealContainer x.Script x.Entries x.Captures (by omega) (by omega) (by omega)); simp only [↓bk_bind, ↓bk_map, ↓bk_ite, ↓bk_some, ↓reduceIte, Nat.reduceEqDiff, Nat.reduceLT, Nat.reduceLeDiff, Nat.reduceAdd, Nat.reduceMul, reduceCtorEq, List.reduceReplicate, go_sem]; intros)
  all_goals (unfold contOk; simp_all)
def m_spec_IsContainer : MC :=
(.seq (pr [.box 1 0 (.s 0), .mv 2 (.c (.bool false))] [1])
(.seq (.dreg [{ o := .fld 3 (.s 1) 0 }, { o := .load 4 false 1 (.s 3), bf := [0] }, { o := .call 5 [] (.f n_spec_IsScript) [.s 4], bf := [0,1] }, { o := .mv 6 (.s 5), bf := [0,1,2] }, { o := .fld 7 (.s 1) 1, g := some (6, true), bf := [0,1,2,3] }, { o := .load 8 false 1 (.s 7), g := some (6, true), bf := [0,1,2,3,4] }, { o := .call 9 [] (.f n_spec_AreEntries) [.s 8], g := some (6, true), bf := [0,1,2,3,4,5] }, { o := .pick 10 (.s 6) (.s 9) (.c (.bool false)), bf := [0,1,2,3,4,5,6] }, { o := .mv 11 (.s 10), bf := [0,1,2,3,4,5,6,7] }, { o := .fld 12 (.s 1) 2, g := some (11, true), bf := [0,1,2,3,4,5,6,7,8] }, { o := .load 13 false 1 (.s 12), g := some (11, true), bf := [0,1,2,3,4,5,6,7,8,9] }, { o := .call 14 [] (.f n_spec_AreCaptures) [.s 13], g := some (11, true), bf := [0,1,2,3,4,5,6,7,8,9,10] }, { o := .pick 15 (.s 11) (.s 14) (.c (.bool false)), bf := [0,1,2,3,4,5,6,7,8,9,10,11] }, { o := .mv 16 (.s 15), bf := [0,1,2,3,4,5,6,7,8,9,10,11,12] }, { o := .fld 17 (.s 1) 0, g := some (16, true), hs := [19,20,21,22,25,26], bf := [0,1,2,3,4,5,6,7,8,9,10,11,12,13] }, { o := .load 18 false 1 (.s 17), g := some (16, true), hs := [19,20,21,22,25,26], bf := [0,1,2,3,4,5,6,7,8,9,10,11,12,13,14] }, { o := .fld 19 (.s 1) 1, g := some (16, true), hs := [17,18,21,22,25,26], bf := [0,1,2,3,4,5,6,7,8,9,10,11,12,13] }, { o := .load 20 false 1 (.s 19), g := some (16, true), hs := [17,18,21,22,25,26], bf := [0,1,2,3,4,5,6,7,8,9,10,11,12,13,16] }, { o := .fld 21 (.s 1) 2, g := some (16, true), hs := [17,18,19,20,25,26], bf := [0,1,2,3,4,5,6,7,8,9,10,11,12,13] }, { o := .load 22 false 1 (.s 21), g := some (16, true), hs := [17,18,19,20,25,26], bf := [0,1,2,3,4,5,6,7,8,9,10,11,12,13,18] }, { o := .call 23 [1, 2, 3] (.f n_spec_SealContainer) [.s 18, .s 20, .s 22], g := some (16, true), hs := [25,26], ws := [1,2,3], bf := [0,1,2,3,4,5,6,7,8,9,10,11,12,13,14,15,16,17,18,19] }, { o := .fldv 24 (.s 23) 3 1 false, g := some (16, true), hs := [25,26], bf := [0,1,2,3,4,5,6,7,8,9,10,11,12,13,14,15,16,17,18,19,20] }, { o := .fld 25 (.s 1) 3, g := some (16, true), hs := [17,18,19,20,21,22,23,24], ho := [1,2,3], bf := [0,1,2,3,4,5,6,7,8,9,10,11,12,13] }, { o := .load 26 false 1 (.s 25), g := some (16, true), hs := [17,18,19,20,21,22,23,24], ho := [1,2,3], bf := [0,1,2,3,4,5,6,7,8,9,10,11,12,13,22] }, { o := .bin 27 false .eql (.s 24) (.s 26), g := some (16, true), bf := [0,1,2,3,4,5,6,7,8,9,10,11,12,13,14,15,16,17,18,19,20,21,22,23] }, { o := .pick 28 (.s 16) (.s 27) (.c (.bool false)), bf := [0,1,2,3,4,5,6,7,8,9,10,11,12,13,14,15,16,17,18,19,20,21,22,23,24] }, { o := .mv 2 (.s 28), bf := [0,1,2,3,4,5,6,7,8,9,10,11,12,13,14,15,16,17,18,19,20,21,22,23,24,25] }] [2])
.ret))
theorem c_spec_IsContainer (x : GContainer) (hs : x.size ≤ 1073741824) : Ctr Tryz.prog n_spec_IsContainer [aS x.enc] [rB (contOk x)] := by
  refine ctr_at (M := m_spec_IsContainer) (m := 4) (n := 29) (res := [(.tmp 2, [false])]) hmix Tryz.func55 rfl (by kernel_rfl) rfl (by kernel_rfl) (by kernel_rfl) (Nat.le_of_ble_eq_true rfl) ?_; unfold m_spec_IsContainer
  intro hb
  clear hb
  simp only [GContainer.size] at hs
  simp only [↓bk_bind, ↓bk_map, ↓bk_ite, ↓bk_some, ↓reduceIte, Nat.reduceEqDiff, Nat.reduceLT, Nat.reduceLeDiff, Nat.reduceAdd, Nat.reduceMul, reduceCtorEq, List.reduceReplicate, go_sem]
  repeat' first
    | (refine And.intro ?_ ?_ <;> intro h)
    | (apply callK_of (c_spec_IsScript _); simp only [↓bk_bind, ↓bk_map, ↓bk_ite, ↓bk_some, ↓reduceIte, Nat.reduceEqDiff, Nat.reduceLT, Nat.reduceLeDiff, Nat.reduceAdd, Nat.reduceMul, reduceCtorEq, List.reduceReplicate, go_sem])
    | (apply callK_of (c_spec_AreEntries _); simp only [↓bk_bind, ↓bk_map, ↓bk_ite, ↓bk_some, ↓reduceIte, Nat.reduceEqDiff, Nat.reduceLT, Nat.reduceLeDiff, Nat.reduceAdd, Nat.reduceMul, reduceCtorEq, List.reduceReplicate, go_sem])
    | (apply callK_of (c_spec_AreCaptures _); simp only [↓bk_bind, ↓bk_map, ↓bk_ite, ↓bk_some, ↓reduceIte, Nat.reduceEqDiff, Nat.reduceLT, Nat.reduceLeDiff, Nat.reduceAdd, Nat.reduceMul, reduceCtorEq, List.reduceReplicate, go_sem])
    | (apply callK_of (c_spec_SealContainer x.Script x.Entries x.Captures (by omega) (by omega) (by omega)); simp only [↓bk_bind, ↓bk_map, ↓bk_ite, ↓bk_some, ↓reduceIte, Nat.reduceEqDiff, Nat.reduceLT, Nat.reduceLeDiff, Nat.reduceAdd, Nat.reduceMul, reduceCtorEq, List.reduceReplicate, go_sem]; intros)
  all_goals (unfold contOk; simp_all)
def m_impl_badContainer : MC :=
(.seq (pr [.box 1 0 (.s 0), .mv 2 (.c (.bool false))] [1])
(.seq (pr [.load 3 true 4 (.s 1), .call 4 [] (.f n_impl_IsContainer) [.s 3], .un 5 .not (.s 4), .mv 2 (.s 5)] [2])
.ret))
theorem c_impl_badContainer (x : GContainer) (hs : x.size ≤ 1073741824) : Ctr Tryz.prog n_impl_badContainer [aS x.enc] [rB (!contOk x)] := by
  refine ctr_at (M := m_impl_badContainer) (m := 1) (n := 6) (res := [(.tmp 2, [false])]) hmix Tryz.func62 rfl (by kernel_rfl) rfl (by kernel_rfl) (by kernel_rfl) (Nat.le_of_ble_eq_true rfl) ?_; unfold m_impl_badContainer
  intro hb
  clear hb
  simp only [↓bk_bind, ↓bk_map, ↓bk_ite, ↓bk_some, ↓reduceIte, Nat.reduceEqDiff, Nat.reduceLT, Nat.reduceLeDiff, Nat.reduceAdd, Nat.reduceMul, reduceCtorEq, List.reduceReplicate, go_sem]
  apply callK_of (c_impl_IsContainer x hs)
  simp only [↓bk_bind, ↓bk_map, ↓bk_ite, ↓bk_some, ↓reduceIte, Nat.reduceEqDiff, Nat.reduceLT, Nat.reduceLeDiff, Nat.reduceAdd, Nat.reduceMul, reduceCtorEq, List.reduceReplicate, go_sem]
/-- The index is that of all containers. -/
def whole (d : GDisk) : Bool := decide (d.Index = index d.Containers)
def diskOk (d : GDisk) : Bool := fewAll 6 contOk d.Containers && (fewAll 1 contOk d.Wanted && (whole d || (decide (0 < d.Containers.length) && decide (d.Index = index d.Containers.dropLast))))
theorem diskOk_no1 {d : GDisk} {k : Nat} {x : GContainer} (hx : d.Containers[k]? = some x) (h : contOk x = false) : false = diskOk d := by
  unfold diskOk; rw [← fewAll_at (n := 6) hx h, Bool.false_and]
theorem diskOk_no2 {d : GDisk} {k : Nat} {x : GContainer} (hx : d.Wanted[k]? = some x) (h : contOk x = false) : false = diskOk d := by
  unfold diskOk; rw [← fewAll_at (n := 1) hx h, Bool.false_and, Bool.and_false]
def m_impl_Disk_follows : MC :=
(.seq (pr [.box 1 0 (.s 0), .mv 2 (.c (.bool false))] [1])
(.seq (.dreg [{ o := .fld 3 (.s 1) 1, hs := [5,6,7], ho := [1] }, { o := .load 4 false 1 (.s 3), hs := [5,6,7], ho := [1], bf := [0] }, { o := .fld 5 (.s 1) 0, hs := [3,4] }, { o := .load 6 false 1 (.s 5), hs := [3,4], bf := [2] }, { o := .call 7 [1] (.f n_impl_BuildIndex) [.s 6], hs := [3,4], ws := [1], bf := [2,3] }, { o := .call 8 [] (.f n_slices_Equal_impl_Found_impl_Found) [.s 4, .s 7], bf := [0,1,2,3,4] }, { o := .mv 2 (.s 8), bf := [0,1,2,3,4,5] }] [2])
.ret))
theorem c_impl_follows (d : GDisk) (hs : d.size ≤ 1073741824) : Ctr Tryz.prog n_impl_Disk_follows [aS d.enc] [rB (whole d)] := by
  refine ctr_at (M := m_impl_Disk_follows) (m := 2) (n := 9) (res := [(.tmp 2, [false])]) hmix Tryz.func63 rfl (by kernel_rfl) rfl (by kernel_rfl) (by kernel_rfl) (Nat.le_of_ble_eq_true rfl) ?_; unfold m_impl_Disk_follows
  intro hb
  clear hb
  simp only [GDisk.size] at hs
  simp only [↓bk_bind, ↓bk_map, ↓bk_ite, ↓bk_some, ↓reduceIte, Nat.reduceEqDiff, Nat.reduceLT, Nat.reduceLeDiff, Nat.reduceAdd, Nat.reduceMul, reduceCtorEq, List.reduceReplicate, go_sem]
  apply callK_of (c_impl_BuildIndex d.Containers (by omega))
  simp only [↓bk_bind, ↓bk_map, ↓bk_ite, ↓bk_some, ↓reduceIte, Nat.reduceEqDiff, Nat.reduceLT, Nat.reduceLeDiff, Nat.reduceAdd, Nat.reduceMul, reduceCtorEq, List.reduceReplicate, go_sem]
  intros
  apply callK_of (c_slices_Equal_Found _ _)
  simp only [↓bk_bind, ↓bk_map, ↓bk_ite, ↓bk_some, ↓reduceIte, Nat.reduceEqDiff, Nat.reduceLT, Nat.reduceLeDiff, Nat.reduceAdd, Nat.reduceMul, reduceCtorEq, List.reduceReplicate, go_sem]
  intros
  rfl
def m_spec_l31Whole : MC :=
(.seq (pr [.box 1 0 (.s 0), .mv 2 (.c (.bool false))] [1])
(.seq (.dreg [{ o := .fld 3 (.s 1) 1, hs := [5,6,7], ho := [1] }, { o := .load 4 false 1 (.s 3), hs := [5,6,7], ho := [1], bf := [0] }, { o := .fld 5 (.s 1) 0, hs := [3,4] }, { o := .load 6 false 1 (.s 5), hs := [3,4], bf := [2] }, { o := .call 7 [1] (.f n_spec_BuildIndex) [.s 6], hs := [3,4], ws := [1], bf := [2,3] }, { o := .call 8 [] (.f n_spec_l31Same) [.s 4, .s 7], bf := [0,1,2,3,4] }, { o := .mv 2 (.s 8), bf := [0,1,2,3,4,5] }] [2])
.ret))
theorem c_spec_l31Whole (d : GDisk) (hs : d.size ≤ 1073741824) : Ctr Tryz.prog n_spec_l31Whole [aS d.enc] [rB (whole d)] := by
  refine ctr_at (M := m_spec_l31Whole) (m := 2) (n := 9) (res := [(.tmp 2, [false])]) hmix Tryz.func56 rfl (by kernel_rfl) rfl (by kernel_rfl) (by kernel_rfl) (Nat.le_of_ble_eq_true rfl) ?_; unfold m_spec_l31Whole
  intro hb
  clear hb
  simp only [GDisk.size] at hs
  simp only [↓bk_bind, ↓bk_map, ↓bk_ite, ↓bk_some, ↓reduceIte, Nat.reduceEqDiff, Nat.reduceLT, Nat.reduceLeDiff, Nat.reduceAdd, Nat.reduceMul, reduceCtorEq, List.reduceReplicate, go_sem]
  apply callK_of (c_spec_BuildIndex d.Containers (by omega))
  simp only [↓bk_bind, ↓bk_map, ↓bk_ite, ↓bk_some, ↓reduceIte, Nat.reduceEqDiff, Nat.reduceLT, Nat.reduceLeDiff, Nat.reduceAdd, Nat.reduceMul, reduceCtorEq, List.reduceReplicate, go_sem]
  intros
  apply callK_of (c_spec_l31Same _ _)
  simp only [↓bk_bind, ↓bk_map, ↓bk_ite, ↓bk_some, ↓reduceIte, Nat.reduceEqDiff, Nat.reduceLT, Nat.reduceLeDiff, Nat.reduceAdd, Nat.reduceMul, reduceCtorEq, List.reduceReplicate, go_sem]
  intros
  rfl
theorem take_sz {l : List GContainer} {n N : Nat} (h : l.length + (l.map GContainer.size).sum ≤ N) : (l.take n).length + ((l.take n).map GContainer.size).sum ≤ N := by
  have h1 := List.length_take_le n l
  have h2 := sum_take_le (f := GContainer.size) l n
  have h3 : (l.take n).length ≤ l.length := by rw [List.length_take]; omega
  omega
def m_impl_IsDisk : MC :=
(.seq (pr [.box 1 0 (.s 0), .mv 2 (.c (.bool false))] [1])
(.seq (pr [.fld 4 (.s 1) 0, .load 5 false 1 (.s 4), .len 6 false (.s 5), .mv 3 (.s 6)] [1,3])
(.seq (.dreg [{ o := .mv 7 (.s 3) }, { o := .bin 8 false .leq (.s 7) (.c (.int .i64 6)), bf := [0] }, { o := .mv 9 (.s 8), bf := [0,1] }, { o := .fld 10 (.s 1) 0, g := some (9, true), bf := [0,1,2] }, { o := .load 11 false 1 (.s 10), g := some (9, true), bf := [0,1,2,3] }, { o := .call 12 [] (.f n_slices_ContainsFunc_impl_Container_impl_Container) [.s 11, .f n_impl_badContainer], g := some (9, true), bf := [0,1,2,3,4] }, { o := .un 13 .not (.s 12), g := some (9, true), bf := [0,1,2,3,4,5] }, { o := .pick 14 (.s 9) (.s 13) (.c (.bool false)), bf := [0,1,2,3,4,5,6] }, { o := .mv 15 (.s 14), bf := [0,1,2,3,4,5,6,7] }, { o := .fld 16 (.s 1) 2, g := some (15, true), bf := [0,1,2,3,4,5,6,7,8] }, { o := .load 17 false 1 (.s 16), g := some (15, true), bf := [0,1,2,3,4,5,6,7,8,9] }, { o := .len 18 false (.s 17), g := some (15, true), bf := [0,1,2,3,4,5,6,7,8,9,10] }, { o := .bin 19 false .leq (.s 18) (.c (.int .i64 1)), g := some (15, true), bf := [0,1,2,3,4,5,6,7,8,9,10,11] }, { o := .pick 20 (.s 15) (.s 19) (.c (.bool false)), bf := [0,1,2,3,4,5,6,7,8,9,10,11,12] }, { o := .mv 21 (.s 20), bf := [0,1,2,3,4,5,6,7,8,9,10,11,12,13] }, { o := .fld 22 (.s 1) 2, g := some (21, true), bf := [0,1,2,3,4,5,6,7,8,9,10,11,12,13,14] }, { o := .load 23 false 1 (.s 22), g := some (21, true), bf := [0,1,2,3,4,5,6,7,8,9,10,11,12,13,14,15] }, { o := .call 24 [] (.f n_slices_ContainsFunc_impl_Container_impl_Container) [.s 23, .f n_impl_badContainer], g := some (21, true), bf := [0,1,2,3,4,5,6,7,8,9,10,11,12,13,14,15,16] }, { o := .un 25 .not (.s 24), g := some (21, true), bf := [0,1,2,3,4,5,6,7,8,9,10,11,12,13,14,15,16,17] }, { o := .pick 26 (.s 21) (.s 25) (.c (.bool false)), bf := [0,1,2,3,4,5,6,7,8,9,10,11,12,13,14,15,16,17,18] }, { o := .mv 27 (.s 26), bf := [0,1,2,3,4,5,6,7,8,9,10,11,12,13,14,15,16,17,18,19] }, { o := .load 28 true 3 (.s 1), g := some (27, true), bf := [0,1,2,3,4,5,6,7,8,9,10,11,12,13,14,15,16,17,18,19,20] }, { o := .call 29 [] (.f n_impl_Disk_follows) [.s 28], g := some (27, true), bf := [0,1,2,3,4,5,6,7,8,9,10,11,12,13,14,15,16,17,18,19,20,21] }, { o := .mv 30 (.s 29), g := some (27, true), bf := [0,1,2,3,4,5,6,7,8,9,10,11,12,13,14,15,16,17,18,19,20,21,22] }, { o := .mv 31 (.s 3), g := some (30, false), bf := [0,1,2,3,4,5,6,7,8,9,10,11,12,13,14,15,16,17,18,19,20,21,22,23] }, { o := .bin 32 false .gtr (.s 31) (.c (.int .i64 0)), g := some (30, false), bf := [0,1,2,3,4,5,6,7,8,9,10,11,12,13,14,15,16,17,18,19,20,21,22,23,24] }, { o := .mv 33 (.s 32), g := some (30, false), bf := [0,1,2,3,4,5,6,7,8,9,10,11,12,13,14,15,16,17,18,19,20,21,22,23,24,25] }, { o := .fld 34 (.s 1) 1, g := some (33, true), hs := [36,37,38,39,40,41], ho := [1], bf := [0,1,2,3,4,5,6,7,8,9,10,11,12,13,14,15,16,17,18,19,20,21,22,23,24,25,26] }, { o := .load 35 false 1 (.s 34), g := some (33, true), hs := [36,37,38,39,40,41], ho := [1], bf := [0,1,2,3,4,5,6,7,8,9,10,11,12,13,14,15,16,17,18,19,20,21,22,23,24,25,26,27] }, { o := .fld 36 (.s 1) 0, g := some (33, true), hs := [34,35,38,39], bf := [0,1,2,3,4,5,6,7,8,9,10,11,12,13,14,15,16,17,18,19,20,21,22,23,24,25,26] }, { o := .load 37 false 1 (.s 36), g := some (33, true), hs := [34,35,38,39], bf := [0,1,2,3,4,5,6,7,8,9,10,11,12,13,14,15,16,17,18,19,20,21,22,23,24,25,26,29] }, { o := .mv 38 (.s 3), g := some (33, true), hs := [34,35,36,37], bf := [0,1,2,3,4,5,6,7,8,9,10,11,12,13,14,15,16,17,18,19,20,21,22,23,24,25,26] }, { o := .bin 39 false .sub (.s 38) (.c (.int .i64 1)), g := some (33, true), hs := [34,35,36,37], bf := [0,1,2,3,4,5,6,7,8,9,10,11,12,13,14,15,16,17,18,19,20,21,22,23,24,25,26,31] }, { o := .slc 40 4 (.s 37) none (some (.s 39)) none, g := some (33, true), hs := [34,35], bf := [0,1,2,3,4,5,6,7,8,9,10,11,12,13,14,15,16,17,18,19,20,21,22,23,24,25,26,29,30,31,32] }, { o := .call 41 [1] (.f n_impl_BuildIndex) [.s 40], g := some (33, true), hs := [34,35], ws := [1], bf := [0,1,2,3,4,5,6,7,8,9,10,11,12,13,14,15,16,17,18,19,20,21,22,23,24,25,26,29,30,31,32,33] }, { o := .call 42 [] (.f n_slices_Equal_impl_Found_impl_Found) [.s 35, .s 41], g := some (33, true), bf := [0,1,2,3,4,5,6,7,8,9,10,11,12,13,14,15,16,17,18,19,20,21,22,23,24,25,26,27,28,29,30,31,32,33,34] }, { o := .pick 43 (.s 33) (.s 42) (.c (.bool false)), g := some (30, false), bf := [0,1,2,3,4,5,6,7,8,9,10,11,12,13,14,15,16,17,18,19,20,21,22,23,24,25,26,27,28,29,30,31,32,33,34,35] }, { o := .pick 44 (.s 30) (.c (.bool true)) (.s 43), g := some (27, true), bf := [0,1,2,3,4,5,6,7,8,9,10,11,12,13,14,15,16,17,18,19,20,21,22,23,24,25,26,27,28,29,30,31,32,33,34,35,36] }, { o := .pick 45 (.s 27) (.s 44) (.c (.bool false)), bf := [0,1,2,3,4,5,6,7,8,9,10,11,12,13,14,15,16,17,18,19,20,21,22,23,24,25,26,27,28,29,30,31,32,33,34,35,36,37] }, { o := .mv 2 (.s 45), bf := [0,1,2,3,4,5,6,7,8,9,10,11,12,13,14,15,16,17,18,19,20,21,22,23,24,25,26,27,28,29,30,31,32,33,34,35,36,37,38] }] [2])
.ret)))
set_option maxHeartbeats 1000000 in
theorem c_impl_IsDisk (d : GDisk) (hs : d.size ≤ 1073741824) : Ctr Tryz.prog n_impl_IsDisk [aS d.enc] [rB (diskOk d)] := by
  refine ctr_at (M := m_impl_IsDisk) (m := 2) (n := 46) (res := [(.tmp 2, [false])]) hmix Tryz.func16 rfl (by kernel_rfl) rfl (by kernel_rfl) (by kernel_rfl) (Nat.le_of_ble_eq_true rfl) ?_; unfold m_impl_IsDisk
  intro hb
  clear hb
  have hs' := hs
  simp only [GDisk.size] at hs
  have hx1 : ∀ x ∈ d.Containers, x.size ≤ 1073741824 := fun x hx => by have := mem_sum (f := GContainer.size) hx; omega
  have hx2 : ∀ x ∈ d.Wanted, x.size ≤ 1073741824 := fun x hx => by have := mem_sum (f := GContainer.size) hx; omega
  have hsz : d.Containers.length + (d.Containers.map GContainer.size).sum ≤ 1073741824 := by omega
  have hw1 : (d.Containers.length : Int) > 0 → IntKind.i64.wrap ((d.Containers.length : Int) - 1) = ((d.Containers.length - 1 : Nat) : Int) := fun h => by rw [wI (by omega) (by omega)]; omega
  obtain ⟨A, hA⟩ : ∃ A, A = d.Containers.all contOk := ⟨_, rfl⟩
  obtain ⟨B, hB⟩ : ∃ B, B = d.Wanted.all contOk := ⟨_, rfl⟩
  have hC : (d.Containers.any fun x => !contOk x) = !A := by rw [any_nots, hA]
  have hW : (d.Wanted.any fun x => !contOk x) = !B := by rw [any_nots, hB]
  simp only [↓bk_bind, ↓bk_map, ↓bk_ite, ↓bk_some, ↓reduceIte, Nat.reduceEqDiff, Nat.reduceLT, Nat.reduceLeDiff, Nat.reduceAdd, Nat.reduceMul, reduceCtorEq, List.reduceReplicate, go_sem]
  repeat' first
    | (refine And.intro ?_ ?_ <;> intro h)
    | (apply callK_of (c_slices_ContainsFunc_Container d.Containers _ [] (fun x => !contOk x) fun x hx => c_impl_badContainer x (hx1 x hx)); simp only [↓bk_bind, ↓bk_map, ↓bk_ite, ↓bk_some, ↓reduceIte, Nat.reduceEqDiff, Nat.reduceLT, Nat.reduceLeDiff, Nat.reduceAdd, Nat.reduceMul, reduceCtorEq, List.reduceReplicate, go_sem, hC])
    | (apply callK_of (c_slices_ContainsFunc_Container d.Wanted _ [] (fun x => !contOk x) fun x hx => c_impl_badContainer x (hx2 x hx)); simp only [↓bk_bind, ↓bk_map, ↓bk_ite, ↓bk_some, ↓reduceIte, Nat.reduceEqDiff, Nat.reduceLT, Nat.reduceLeDiff, Nat.reduceAdd, Nat.reduceMul, reduceCtorEq, List.reduceReplicate, go_sem, hW])
    | (apply callK_of (c_impl_follows d hs'); simp only [↓bk_bind, ↓bk_map, ↓bk_ite, ↓bk_some, ↓reduceIte, Nat.reduceEqDiff, Nat.reduceLT, Nat.reduceLeDiff, Nat.reduceAdd, Nat.reduceMul, reduceCtorEq, List.reduceReplicate, go_sem])
    | (rw [hw1 (by assumption), cutA (by omega)]; refine ⟨⟨by omega, by omega, by omega⟩, ?_⟩; apply callK_of (c_impl_BuildIndex _ (take_sz hsz)); simp only [↓bk_bind, ↓bk_map, ↓bk_ite, ↓bk_some, ↓reduceIte, Nat.reduceEqDiff, Nat.reduceLT, Nat.reduceLeDiff, Nat.reduceAdd, Nat.reduceMul, reduceCtorEq, List.reduceReplicate, go_sem]; intros; apply callK_of (c_slices_Equal_Found _ _); simp only [↓bk_bind, ↓bk_map, ↓bk_ite, ↓bk_some, ↓reduceIte, Nat.reduceEqDiff, Nat.reduceLT, Nat.reduceLeDiff, Nat.reduceAdd, Nat.reduceMul, reduceCtorEq, List.reduceReplicate, go_sem]; intros)
  all_goals (rw [diskOk, fewAll, fewAll, ← hA, ← hB, List.dropLast_eq_take]; clear hC hW hA hB hx1 hx2 hw1 hsz hs hs'; by_cases c1 : d.Containers.length ≤ 6 <;> by_cases c2 : d.Wanted.length ≤ 1 <;> by_cases c3 : 0 < d.Containers.length <;> simp_all <;> omega)
def m_spec_IsDisk : MC :=
(.seq (pr [.box 1 0 (.s 0), .mv 2 (.c (.bool false))] [1])
(.seq (.seq (pr [.mv 3 (.c (.int .i64 0))] [1,3])
(.block 0 (.loop ([1,3], [1]) (.seq (.seq (pr [.mv 6 (.s 3), .fld 7 (.s 1) 0, .load 8 false 1 (.s 7), .len 9 false (.s 8), .bin 10 false .lss (.s 6) (.s 9)] [1,3,10])
(.cond (.s 10) .skip (.exit 0)))
(.seq (.block 1 (.seq (pr [.fld 13 (.s 1) 0, .load 14 false 1 (.s 13), .mv 15 (.s 3), .idx 16 4 (.s 14) (.s 15), .load 17 true 4 (.s 16), .call 18 [] (.f n_spec_IsContainer) [.s 17], .un 19 .not (.s 18)] [1,3,19])
(.cond (.s 19) (.seq (pr [.mv 2 (.c (.bool false))] [2])
.ret) .skip)))
(pr [.mv 11 (.s 3), .bin 12 false .add (.s 11) (.c (.int .i64 1)), .mv 3 (.s 12)] [1,3]))))))
(.seq (.seq (pr [.mv 4 (.c (.int .i64 0))] [1,4])
(.block 2 (.loop ([1,4], [1]) (.seq (.seq (pr [.mv 20 (.s 4), .fld 21 (.s 1) 2, .load 22 false 1 (.s 21), .len 23 false (.s 22), .bin 24 false .lss (.s 20) (.s 23)] [1,4,24])
(.cond (.s 24) .skip (.exit 2)))
(.seq (.block 3 (.seq (pr [.fld 27 (.s 1) 2, .load 28 false 1 (.s 27), .mv 29 (.s 4), .idx 30 4 (.s 28) (.s 29), .load 31 true 4 (.s 30), .call 32 [] (.f n_spec_IsContainer) [.s 31], .un 33 .not (.s 32)] [1,4,33])
(.cond (.s 33) (.seq (pr [.mv 2 (.c (.bool false))] [2])
.ret) .skip)))
(pr [.mv 25 (.s 4), .bin 26 false .add (.s 25) (.c (.int .i64 1)), .mv 4 (.s 26)] [1,4]))))))
(.seq (pr [.fld 34 (.s 1) 0, .load 35 false 1 (.s 34), .len 36 false (.s 35), .mv 5 (.s 36)] [1,5])
(.seq (.dreg [{ o := .mv 37 (.s 5) }, { o := .bin 38 false .leq (.s 37) (.c (.int .i64 6)), bf := [0] }, { o := .mv 39 (.s 38), bf := [0,1] }, { o := .fld 40 (.s 1) 2, g := some (39, true), bf := [0,1,2] }, { o := .load 41 false 1 (.s 40), g := some (39, true), bf := [0,1,2,3] }, { o := .len 42 false (.s 41), g := some (39, true), bf := [0,1,2,3,4] }, { o := .bin 43 false .leq (.s 42) (.c (.int .i64 1)), g := some (39, true), bf := [0,1,2,3,4,5] }, { o := .pick 44 (.s 39) (.s 43) (.c (.bool false)), bf := [0,1,2,3,4,5,6] }, { o := .mv 45 (.s 44), bf := [0,1,2,3,4,5,6,7] }, { o := .load 46 true 3 (.s 1), g := some (45, true), bf := [0,1,2,3,4,5,6,7,8] }, { o := .call 47 [] (.f n_spec_l31Whole) [.s 46], g := some (45, true), bf := [0,1,2,3,4,5,6,7,8,9] }, { o := .mv 48 (.s 47), g := some (45, true), bf := [0,1,2,3,4,5,6,7,8,9,10] }, { o := .mv 49 (.s 5), g := some (48, false), bf := [0,1,2,3,4,5,6,7,8,9,10,11] }, { o := .bin 50 false .gtr (.s 49) (.c (.int .i64 0)), g := some (48, false), bf := [0,1,2,3,4,5,6,7,8,9,10,11,12] }, { o := .mv 51 (.s 50), g := some (48, false), bf := [0,1,2,3,4,5,6,7,8,9,10,11,12,13] }, { o := .fld 52 (.s 1) 1, g := some (51, true), hs := [54,55,56,57,58,59], ho := [1], bf := [0,1,2,3,4,5,6,7,8,9,10,11,12,13,14] }, { o := .load 53 false 1 (.s 52), g := some (51, true), hs := [54,55,56,57,58,59], ho := [1], bf := [0,1,2,3,4,5,6,7,8,9,10,11,12,13,14,15] }, { o := .fld 54 (.s 1) 0, g := some (51, true), hs := [52,53,56,57], bf := [0,1,2,3,4,5,6,7,8,9,10,11,12,13,14] }, { o := .load 55 false 1 (.s 54), g := some (51, true), hs := [52,53,56,57], bf := [0,1,2,3,4,5,6,7,8,9,10,11,12,13,14,17] }, { o := .mv 56 (.s 5), g := some (51, true), hs := [52,53,54,55], bf := [0,1,2,3,4,5,6,7,8,9,10,11,12,13,14] }, { o := .bin 57 false .sub (.s 56) (.c (.int .i64 1)), g := some (51, true), hs := [52,53,54,55], bf := [0,1,2,3,4,5,6,7,8,9,10,11,12,13,14,19] }, { o := .slc 58 4 (.s 55) none (some (.s 57)) none, g := some (51, true), hs := [52,53], bf := [0,1,2,3,4,5,6,7,8,9,10,11,12,13,14,17,18,19,20] }, { o := .call 59 [1] (.f n_spec_BuildIndex) [.s 58], g := some (51, true), hs := [52,53], ws := [1], bf := [0,1,2,3,4,5,6,7,8,9,10,11,12,13,14,17,18,19,20,21] }, { o := .call 60 [] (.f n_spec_l31Same) [.s 53, .s 59], g := some (51, true), bf := [0,1,2,3,4,5,6,7,8,9,10,11,12,13,14,15,16,17,18,19,20,21,22] }, { o := .pick 61 (.s 51) (.s 60) (.c (.bool false)), g := some (48, false), bf := [0,1,2,3,4,5,6,7,8,9,10,11,12,13,14,15,16,17,18,19,20,21,22,23] }, { o := .pick 62 (.s 48) (.c (.bool true)) (.s 61), g := some (45, true), bf := [0,1,2,3,4,5,6,7,8,9,10,11,12,13,14,15,16,17,18,19,20,21,22,23,24] }, { o := .pick 63 (.s 45) (.s 62) (.c (.bool false)), bf := [0,1,2,3,4,5,6,7,8,9,10,11,12,13,14,15,16,17,18,19,20,21,22,23,24,25] }, { o := .mv 2 (.s 63), bf := [0,1,2,3,4,5,6,7,8,9,10,11,12,13,14,15,16,17,18,19,20,21,22,23,24,25,26] }] [2])
.ret)))))
set_option maxHeartbeats 1000000 in
theorem c_spec_IsDisk (d : GDisk) (hs : d.size ≤ 1073741824) : Ctr Tryz.prog n_spec_IsDisk [aS d.enc] [rB (diskOk d)] := by
  refine ctr_at (M := m_spec_IsDisk) (m := 2) (n := 64) (res := [(.tmp 2, [false])]) hmix Tryz.func14 rfl (by kernel_rfl) rfl (by kernel_rfl) (by kernel_rfl) (Nat.le_of_ble_eq_true rfl) ?_; unfold m_spec_IsDisk
  intro hb
  clear hb
  have hs' := hs
  simp only [GDisk.size] at hs
  have hx1 : ∀ x ∈ d.Containers, x.size ≤ 1073741824 := fun x hx => by have := mem_sum (f := GContainer.size) hx; omega
  have hx2 : ∀ x ∈ d.Wanted, x.size ≤ 1073741824 := fun x hx => by have := mem_sum (f := GContainer.size) hx; omega
  have hsz : d.Containers.length + (d.Containers.map GContainer.size).sum ≤ 1073741824 := by omega
  have hw1 : (d.Containers.length : Int) > 0 → IntKind.i64.wrap ((d.Containers.length : Int) - 1) = ((d.Containers.length - 1 : Nat) : Int) := fun h => by rw [wI (by omega) (by omega)]; omega
  obtain ⟨A, hA⟩ : ∃ A, A = d.Containers.all contOk := ⟨_, rfl⟩
  obtain ⟨B, hB⟩ : ∃ B, B = d.Wanted.all contOk := ⟨_, rfl⟩
  have hC : (d.Containers.any fun x => !contOk x) = !A := by rw [any_nots, hA]
  have hW : (d.Wanted.any fun x => !contOk x) = !B := by rw [any_nots, hB]
  simp only [↓bk_bind, ↓bk_map, ↓bk_ite, ↓bk_some, ↓reduceIte, Nat.reduceEqDiff, Nat.reduceLT, Nat.reduceLeDiff, Nat.reduceAdd, Nat.reduceMul, reduceCtorEq, List.reduceReplicate, go_sem]
  refine loopK_rng d.Containers (fun k => [(3, vI k)]) (fun k => []) (fun k => (d.Containers.take k).all contOk = true) (by simp only [roomB]; omega) ?_
  simp only [↓bk_bind, ↓bk_map, ↓bk_ite, ↓bk_some, ↓reduceIte, Nat.reduceEqDiff, Nat.reduceLT, Nat.reduceLeDiff, Nat.reduceAdd, Nat.reduceMul, reduceCtorEq, List.reduceReplicate, go_sem]
  refine ⟨?_, by simp, ?_, ?_⟩
  · simp only [↓bk_bind, ↓bk_map, ↓bk_ite, ↓bk_some, ↓reduceIte, Nat.reduceEqDiff, Nat.reduceLT, Nat.reduceLeDiff, Nat.reduceAdd, Nat.reduceMul, reduceCtorEq, List.reduceReplicate, go_sem]
  · intro k x hx h h0 h1 hw
    simp only [↓bk_bind, ↓bk_map, ↓bk_ite, ↓bk_some, ↓reduceIte, Nat.reduceEqDiff, Nat.reduceLT, Nat.reduceLeDiff, Nat.reduceAdd, Nat.reduceMul, reduceCtorEq, List.reduceReplicate, go_sem, bk_eq hx, h0, h1, hw]
    apply callK_of (c_spec_IsContainer x (hx1 x (at_mem hx)))
    simp only [↓bk_bind, ↓bk_map, ↓bk_ite, ↓bk_some, ↓reduceIte, Nat.reduceEqDiff, Nat.reduceLT, Nat.reduceLeDiff, Nat.reduceAdd, Nat.reduceMul, reduceCtorEq, List.reduceReplicate, go_sem, hw]
    exact ⟨fun hn => diskOk_no1 hx hn, fun hn => all_step hx h hn⟩
  · intro hA'
    rw [List.take_length, ← hA] at hA'
    simp only [↓bk_bind, ↓bk_map, ↓bk_ite, ↓bk_some, ↓reduceIte, Nat.reduceEqDiff, Nat.reduceLT, Nat.reduceLeDiff, Nat.reduceAdd, Nat.reduceMul, reduceCtorEq, List.reduceReplicate, go_sem]
    refine loopK_rng d.Wanted (fun k => [(4, vI k)]) (fun k => []) (fun k => (d.Wanted.take k).all contOk = true) (by simp only [roomB]; omega) ?_
    simp only [↓bk_bind, ↓bk_map, ↓bk_ite, ↓bk_some, ↓reduceIte, Nat.reduceEqDiff, Nat.reduceLT, Nat.reduceLeDiff, Nat.reduceAdd, Nat.reduceMul, reduceCtorEq, List.reduceReplicate, go_sem]
    refine ⟨?_, by simp, ?_, ?_⟩
    · simp only [↓bk_bind, ↓bk_map, ↓bk_ite, ↓bk_some, ↓reduceIte, Nat.reduceEqDiff, Nat.reduceLT, Nat.reduceLeDiff, Nat.reduceAdd, Nat.reduceMul, reduceCtorEq, List.reduceReplicate, go_sem]
    · intro k x hx h h0 h1 hw
      simp only [↓bk_bind, ↓bk_map, ↓bk_ite, ↓bk_some, ↓reduceIte, Nat.reduceEqDiff, Nat.reduceLT, Nat.reduceLeDiff, Nat.reduceAdd, Nat.reduceMul, reduceCtorEq, List.reduceReplicate, go_sem, bk_eq hx, h0, h1, hw]
      apply callK_of (c_spec_IsContainer x (hx2 x (at_mem hx)))
      simp only [↓bk_bind, ↓bk_map, ↓bk_ite, ↓bk_some, ↓reduceIte, Nat.reduceEqDiff, Nat.reduceLT, Nat.reduceLeDiff, Nat.reduceAdd, Nat.reduceMul, reduceCtorEq, List.reduceReplicate, go_sem, hw]
      exact ⟨fun hn => diskOk_no2 hx hn, fun hn => all_step hx h hn⟩
    · intro hB'
      rw [List.take_length, ← hB] at hB'
      simp only [↓bk_bind, ↓bk_map, ↓bk_ite, ↓bk_some, ↓reduceIte, Nat.reduceEqDiff, Nat.reduceLT, Nat.reduceLeDiff, Nat.reduceAdd, Nat.reduceMul, reduceCtorEq, List.reduceReplicate, go_sem]
      repeat' first
        | (refine And.intro ?_ ?_ <;> intro h)
        | (apply callK_of (c_spec_l31Whole d hs'); simp only [↓bk_bind, ↓bk_map, ↓bk_ite, ↓bk_some, ↓reduceIte, Nat.reduceEqDiff, Nat.reduceLT, Nat.reduceLeDiff, Nat.reduceAdd, Nat.reduceMul, reduceCtorEq, List.reduceReplicate, go_sem])
        | (rw [hw1 (by assumption), cutA (by omega)]; refine ⟨⟨by omega, by omega, by omega⟩, ?_⟩; apply callK_of (c_spec_BuildIndex _ (take_sz hsz)); simp only [↓bk_bind, ↓bk_map, ↓bk_ite, ↓bk_some, ↓reduceIte, Nat.reduceEqDiff, Nat.reduceLT, Nat.reduceLeDiff, Nat.reduceAdd, Nat.reduceMul, reduceCtorEq, List.reduceReplicate, go_sem]; intros; apply callK_of (c_spec_l31Same _ _); simp only [↓bk_bind, ↓bk_map, ↓bk_ite, ↓bk_some, ↓reduceIte, Nat.reduceEqDiff, Nat.reduceLT, Nat.reduceLeDiff, Nat.reduceAdd, Nat.reduceMul, reduceCtorEq, List.reduceReplicate, go_sem]; intros)
      all_goals (rw [diskOk, fewAll, fewAll, ← hA, ← hB, List.dropLast_eq_take]; clear hC hW hA hB hx1 hx2 hw1 hsz hs hs'; by_cases c1 : d.Containers.length ≤ 6 <;> by_cases c2 : d.Wanted.length ≤ 1 <;> by_cases c3 : 0 < d.Containers.length <;> simp_all <;> omega)
end Go.Proofs.YtbnbgekjjbpljaaGreatR
namespace Go.Proofs.YtbnbgekjjbpljaaGreatR
open Go Go.RowKit Go.Proofs
set_option linter.unusedSimpArgs false
set_option linter.unusedVariables false
def recTo (d : GDisk) : GDisk := if diskOk d then ⟨d.Containers, index d.Containers, []⟩ else d
theorem recTo_size (d : GDisk) : (recTo d).size ≤ 2 * d.size := by
  have h : (index d.Containers).length ≤ (d.Containers.map GContainer.size).sum := by
    rw [index, Srt.len_isort]; exact len_fnds_le
  unfold recTo
  split
  · simp only [GDisk.size, List.length_nil, List.map_nil, List.sum_nil]; omega
  · omega
def firstOk (d : GDisk) (x : GContainer) : Bool := diskOk d && (contOk x && (whole d && (decide (d.Wanted.length = 0) && decide (d.Containers.length < 6))))
def firstTo (d : GDisk) (x : GContainer) : GDisk := if firstOk d x then ⟨d.Containers, d.Index, [x]⟩ else d
theorem firstTo_size (d : GDisk) (x : GContainer) : (firstTo d x).size ≤ d.size + (x.size + 1) := by
  unfold firstTo
  split
  · simp only [GDisk.size, List.length_cons, List.length_nil, List.map_cons, List.map_nil, List.sum_cons, List.sum_nil]; omega
  · omega
end Go.Proofs.YtbnbgekjjbpljaaGreatR
namespace Go.Proofs.YtbnbgekjjbpljaaGreatR
open Go Go.RowKit Go.Proofs
set_option linter.unusedSimpArgs false
set_option linter.unusedVariables false
@[go_sem] theorem ownT_sl {z : Nat} {es : List (List T)} : ownT (.sl z es) = true := rfl
@[go_sem] theorem ownT_sc {v : Value} : ownT (.sc v) = false := rfl
def nextStop (d : GDisk) : Bool := !diskOk d || (decide (0 < d.Wanted.length) && decide (6 ≤ d.Containers.length))
def nextOk (d : GDisk) : Bool := !nextStop d && (!whole d || decide (0 < d.Wanted.length))
def nextTo (d : GDisk) : GDisk :=
  if nextStop d then d else if whole d = false then { d with Index := index d.Containers }
  else match d.Wanted with
    | x :: _ => { d with Containers := d.Containers ++ [x], Wanted := [] }
    | [] => d
theorem next_size (d : GDisk) : (nextTo d).size ≤ 2 * d.size := by
  have hr := recTo_size d
  unfold nextTo
  split
  · omega
  · split
    · have hi : (index d.Containers).length ≤ (d.Containers.map GContainer.size).sum := by
        rw [index, Srt.len_isort]; exact len_fnds_le
      simp only [GDisk.size] at *
      omega
    · split
      · rename_i x l hx
        simp only [GDisk.size, hx, List.length_append, List.length_cons, List.length_nil, List.map_append, List.map_cons, List.map_nil, List.sum_append, List.sum_cons, List.sum_nil]
        omega
      · omega
def m_impl_WriteNext : MC :=
(.seq (pr [.box 1 0 (.s 0), .alloc 2 1 [.emp 4, .emp 6, .emp 4], .mv 3 (.c (.bool false))] [1,2])
(.seq (pr [.load 5 true 3 (.s 1), .call 6 [2, 3, 4] (.f n_impl_copyDisk) [.s 5], .alloc 4 5 [.emp 4, .emp 6, .emp 4], .store 3 (.s 4) (.s 6)] [1,2,4])
(.seq (.seq (.reg [{ o := .load 7 true 3 (.s 1) }, { o := .call 8 [] (.f n_impl_IsDisk) [.s 7] }, { o := .un 9 .not (.s 8) }, { o := .mv 10 (.s 9) }, { o := .fld 11 (.s 1) 2, g := some (10, false) }, { o := .load 12 false 1 (.s 11), g := some (10, false) }, { o := .len 13 false (.s 12), g := some (10, false) }, { o := .bin 14 false .gtr (.s 13) (.c (.int .i64 0)), g := some (10, false) }, { o := .mv 15 (.s 14), g := some (10, false) }, { o := .fld 16 (.s 1) 0, g := some (15, true) }, { o := .load 17 false 1 (.s 16), g := some (15, true) }, { o := .len 18 false (.s 17), g := some (15, true) }, { o := .bin 19 false .geq (.s 18) (.c (.int .i64 6)), g := some (15, true) }, { o := .pick 20 (.s 15) (.s 19) (.c (.bool false)), g := some (10, false) }, { o := .pick 21 (.s 10) (.c (.bool true)) (.s 20) }] [1,2,4,21])
(.cond (.s 21) (.seq (pr [.load 22 true 3 (.s 4), .store 3 (.s 2) (.s 22), .mv 3 (.c (.bool false))] [2,3])
.ret) .skip))
(.seq (.block 0 (.seq (pr [.load 25 true 3 (.s 1), .call 26 [] (.f n_impl_Disk_follows) [.s 25], .un 27 .not (.s 26), .mv 24 (.s 27)] [1,2,4,24])
(.cond (.s 24) (pr [.fld 28 (.s 1) 0, .load 29 false 1 (.s 28), .call 30 [6] (.f n_impl_BuildIndex) [.s 29], .fld 31 (.s 4) 1, .store 1 (.s 31) (.s 30)] [2,4]) (.seq (pr [.fld 33 (.s 1) 2, .load 34 false 1 (.s 33), .len 35 false (.s 34), .bin 36 false .gtr (.s 35) (.c (.int .i64 0)), .mv 32 (.s 36)] [2,4,32])
(.cond (.s 32) (.seq (.dregI [{ o := .fld 37 (.s 4) 0, hs := [1000000,39,40,41,42,43], ho := [4,7,8,9,10] }, { o := .load 38 false 1 (.s 37), hs := [1000000,39,40,41,42,43], ho := [4,7,8,9,10], bf := [0] }, { o := .fld 39 (.s 4) 2, hs := [1000000,37,38] }, { o := .load 40 false 1 (.s 39), hs := [1000000,37,38], bf := [2] }, { o := .idx 41 4 (.s 40) (.c (.int .i64 0)), hs := [1000000,37,38], bf := [2,3] }, { o := .loadM 42 4 [7, 8, 9] 4 (.s 41), hs := [1000000,37,38], ws := [4,7,8,9], bf := [2,3,4] }, { o := .lit 43 10 4 80 [.s 42], hs := [37,38], ws := [7,8,9,10], bf := [2,3,4,5] }, { o := .app 44 2 4 80 (.s 38) (.s 43), ws := [2,10], bf := [0,1,2,3,4,5,6] }, { o := .fld 45 (.s 4) 0, bf := [0,1,2,3,4,5,6,7] }, { o := .store 1 (.s 45) (.s 44), ws := [2,5], bf := [0,1,2,3,4,5,6,7,8] }] [2,4])
(pr [.fld 46 (.s 4) 2, .store 1 (.s 46) (.nil 4)] [2,4])) (.seq (pr [.load 23 true 3 (.s 4), .store 3 (.s 2) (.s 23), .mv 3 (.c (.bool false))] [2,3])
.ret))))))
(.seq (pr [.load 47 true 3 (.s 4), .store 3 (.s 2) (.s 47), .mv 3 (.c (.bool true))] [2,3])
.ret)))))
set_option maxHeartbeats 2000000 in
theorem c_impl_WriteNext (d : GDisk) (hs : d.size ≤ 1073741824) : Ctr Tryz.prog n_impl_WriteNext [aS d.enc] [rS (nextTo d).enc, rB (nextOk d)] := by
  refine ctr_at (M := m_impl_WriteNext) (m := 11) (n := 48) (res := [(.cell 2 true 3, [true, true, true]), (.tmp 3, [false])]) hmix Tryz.func45 rfl (by kernel_rfl) rfl (by kernel_rfl) (by kernel_rfl) (Nat.le_of_ble_eq_true rfl) ?_; unfold m_impl_WriteNext
  intro hb
  clear hb
  have hsc : d.Containers.length + (d.Containers.map GContainer.size).sum ≤ 1073741824 := by simp only [GDisk.size] at hs; omega
  simp only [↓bk_bind, ↓bk_map, ↓bk_ite, ↓bk_some, ↓reduceIte, Nat.reduceEqDiff, Nat.reduceLT, Nat.reduceLeDiff, Nat.reduceAdd, Nat.reduceMul, reduceCtorEq, List.reduceReplicate, go_sem]
  apply callK_of (c_impl_copyDisk d hs)
  simp only [↓bk_bind, ↓bk_map, ↓bk_ite, ↓bk_some, ↓reduceIte, Nat.reduceEqDiff, Nat.reduceLT, Nat.reduceLeDiff, Nat.reduceAdd, Nat.reduceMul, reduceCtorEq, List.reduceReplicate, go_sem]
  intros
  repeat' first
    | (refine And.intro ?_ ?_ <;> intro h)
    | (apply callK_of (c_impl_IsDisk d hs); simp only [↓bk_bind, ↓bk_map, ↓bk_ite, ↓bk_some, ↓reduceIte, Nat.reduceEqDiff, Nat.reduceLT, Nat.reduceLeDiff, Nat.reduceAdd, Nat.reduceMul, reduceCtorEq, List.reduceReplicate, go_sem])
    | (apply callK_of (c_impl_follows d hs); simp only [↓bk_bind, ↓bk_map, ↓bk_ite, ↓bk_some, ↓reduceIte, Nat.reduceEqDiff, Nat.reduceLT, Nat.reduceLeDiff, Nat.reduceAdd, Nat.reduceMul, reduceCtorEq, List.reduceReplicate, go_sem])
    | (apply callK_of (c_impl_BuildIndex d.Containers hsc); simp only [↓bk_bind, ↓bk_map, ↓bk_ite, ↓bk_some, ↓reduceIte, Nat.reduceEqDiff, Nat.reduceLT, Nat.reduceLeDiff, Nat.reduceAdd, Nat.reduceMul, reduceCtorEq, List.reduceReplicate, go_sem]; intros)
  all_goals
    first
      | (have hF : nextStop d = true := by
          clear hs hsc
          unfold nextStop
          by_cases c1 : 0 < d.Wanted.length <;> by_cases c2 : 6 ≤ d.Containers.length <;> simp_all <;> omega
         simp [nextTo, nextOk, hF]
         done)
      | (have hF : nextStop d = false := by
          clear hs hsc
          unfold nextStop
          by_cases c1 : 0 < d.Wanted.length <;> by_cases c2 : 6 ≤ d.Containers.length <;> simp_all <;> omega
         have hW : whole d = false := by assumption
         simp [nextTo, nextOk, hF, hW]
         done)
      | (have hF : nextStop d = false := by
          clear hs hsc
          unfold nextStop
          by_cases c1 : 0 < d.Wanted.length <;> by_cases c2 : 6 ≤ d.Containers.length <;> simp_all <;> omega
         have hW : whole d = true := by assumption
         have hN : d.Wanted = [] := List.length_eq_zero_iff.1 (by omega)
         simp [nextTo, nextOk, hF, hW, hN]
         done)
      | (have hF : nextStop d = false := by
          clear hs hsc
          unfold nextStop
          by_cases c1 : 0 < d.Wanted.length <;> by_cases c2 : 6 ≤ d.Containers.length <;> simp_all <;> omega
         have hW : whole d = true := by assumption
         obtain ⟨x, hx⟩ := at_some (l := d.Wanted) (k := 0) (by omega)
         have hlc : d.Containers.length ≤ 1073741824 := by omega
         refine ⟨⟨by omega, by omega⟩, ?_⟩
         rw [hx]
         simp only [↓bk_bind, ↓bk_map, ↓bk_ite, ↓bk_some, ↓reduceIte, Nat.reduceEqDiff, Nat.reduceLT, Nat.reduceLeDiff, Nat.reduceAdd, Nat.reduceMul, reduceCtorEq, List.reduceReplicate, go_sem]
         have eT : nextTo d = { d with Containers := d.Containers ++ [x], Wanted := [] } := by
          rcases hN : d.Wanted with _ | ⟨y, l⟩
          · rw [hN] at hx; simp at hx
          · rw [hN] at hx
            simp only [List.getElem?_cons_zero, Option.some.injEq] at hx
            subst hx
            simp [nextTo, hF, hW, hN]
         have eO : nextOk d = true := by simp [nextOk, hF, hW]; omega
         rw [eT, eO]
         first
          | exact ⟨by decide, by simp only [roomB]; omega, by simp, ⟨by simp [GContainer.enc], rfl, rfl⟩, rfl⟩
          | (simp only [roomB]; simp [GContainer.enc]; omega)
          | (refine ⟨by decide, by simp only [roomB]; omega, by simp, by decide, ⟨by simp [GContainer.enc], rfl, rfl⟩, rfl⟩))
def m_spec_WriteNext : MC :=
(.seq (pr [.box 1 0 (.s 0), .alloc 2 1 [.emp 4, .emp 6, .emp 4], .mv 3 (.c (.bool false))] [1,2])
(.seq (pr [.load 5 true 3 (.s 1), .call 6 [2, 3, 4] (.f n_spec_l31Copy) [.s 5], .alloc 4 5 [.emp 4, .emp 6, .emp 4], .store 3 (.s 4) (.s 6)] [1,2,4])
(.seq (.block 0 (.seq (.reg [{ o := .load 8 true 3 (.s 1) }, { o := .call 9 [] (.f n_spec_IsDisk) [.s 8] }, { o := .un 10 .not (.s 9) }, { o := .mv 11 (.s 10) }, { o := .fld 12 (.s 1) 2, g := some (11, false) }, { o := .load 13 false 1 (.s 12), g := some (11, false) }, { o := .len 14 false (.s 13), g := some (11, false) }, { o := .bin 15 false .gtr (.s 14) (.c (.int .i64 0)), g := some (11, false) }, { o := .mv 16 (.s 15), g := some (11, false) }, { o := .fld 17 (.s 1) 0, g := some (16, true) }, { o := .load 18 false 1 (.s 17), g := some (16, true) }, { o := .len 19 false (.s 18), g := some (16, true) }, { o := .bin 20 false .geq (.s 19) (.c (.int .i64 6)), g := some (16, true) }, { o := .pick 21 (.s 16) (.s 20) (.c (.bool false)), g := some (11, false) }, { o := .pick 22 (.s 11) (.c (.bool true)) (.s 21) }, { o := .mv 7 (.s 22) }] [1,2,4,7])
(.cond (.s 7) (.seq (pr [.load 23 true 3 (.s 4), .store 3 (.s 2) (.s 23), .mv 3 (.c (.bool false))] [2,3])
.ret) (.seq (.reg [{ o := .fld 25 (.s 1) 2 }, { o := .load 26 false 1 (.s 25) }, { o := .len 27 false (.s 26) }, { o := .bin 28 false .gtr (.s 27) (.c (.int .i64 0)) }, { o := .mv 29 (.s 28) }, { o := .load 30 true 3 (.s 1), g := some (29, true) }, { o := .call 31 [] (.f n_spec_l31Whole) [.s 30], g := some (29, true) }, { o := .pick 32 (.s 29) (.s 31) (.c (.bool false)) }, { o := .mv 24 (.s 32) }] [1,2,4,24])
(.cond (.s 24) (.seq (.dregI [{ o := .fld 33 (.s 4) 0, hs := [1000000,35,36,37,38,39], ho := [4,6,7,8,9,10] }, { o := .load 34 false 1 (.s 33), hs := [1000000,35,36,37,38,39], ho := [4,6,7,8,9,10], bf := [0] }, { o := .fld 35 (.s 4) 2, hs := [1000000,33,34] }, { o := .load 36 false 1 (.s 35), hs := [1000000,33,34], bf := [2] }, { o := .idx 37 4 (.s 36) (.c (.int .i64 0)), hs := [1000000,33,34], bf := [2,3] }, { o := .loadM 38 4 [6, 7, 8] 4 (.s 37), hs := [1000000,33,34], ws := [4,6,7,8,10], bf := [2,3,4] }, { o := .lit 39 9 4 80 [.s 38], hs := [33,34], ws := [6,7,8,9], bf := [2,3,4,5] }, { o := .app 40 2 4 80 (.s 34) (.s 39), ws := [2,9], bf := [0,1,2,3,4,5,6] }, { o := .fld 41 (.s 4) 0, bf := [0,1,2,3,4,5,6,7] }, { o := .store 1 (.s 41) (.s 40), ws := [2,5], bf := [0,1,2,3,4,5,6,7,8] }] [2,4])
(.seq (pr [.lit 42 10 4 80 [], .fld 43 (.s 4) 2, .store 1 (.s 43) (.s 42)] [2,4])
(.seq (pr [.load 44 true 3 (.s 4), .store 3 (.s 2) (.s 44), .mv 3 (.c (.bool true))] [2,3])
.ret))) (.seq (pr [.load 46 true 3 (.s 1), .call 47 [] (.f n_spec_l31Whole) [.s 46], .un 48 .not (.s 47), .mv 45 (.s 48)] [1,2,4,45])
(.cond (.s 45) (.seq (pr [.fld 49 (.s 1) 0, .load 50 false 1 (.s 49), .call 51 [11] (.f n_spec_BuildIndex) [.s 50], .fld 52 (.s 4) 1, .store 1 (.s 52) (.s 51)] [2,4])
(.seq (pr [.load 53 true 3 (.s 4), .store 3 (.s 2) (.s 53), .mv 3 (.c (.bool true))] [2,3])
.ret)) .skip)))))))
(.seq (pr [.load 54 true 3 (.s 4), .store 3 (.s 2) (.s 54), .mv 3 (.c (.bool false))] [2,3])
.ret))))
set_option maxHeartbeats 2000000 in
theorem c_spec_WriteNext (d : GDisk) (hs : d.size ≤ 1073741824) : Ctr Tryz.prog n_spec_WriteNext [aS d.enc] [rS (nextTo d).enc, rB (nextOk d)] := by
  refine ctr_at (M := m_spec_WriteNext) (m := 12) (n := 55) (res := [(.cell 2 true 3, [true, true, true]), (.tmp 3, [false])]) hmix Tryz.func44 rfl (by kernel_rfl) rfl (by kernel_rfl) (by kernel_rfl) (Nat.le_of_ble_eq_true rfl) ?_; unfold m_spec_WriteNext
  intro hb
  clear hb
  have hsc : d.Containers.length + (d.Containers.map GContainer.size).sum ≤ 1073741824 := by simp only [GDisk.size] at hs; omega
  simp only [↓bk_bind, ↓bk_map, ↓bk_ite, ↓bk_some, ↓reduceIte, Nat.reduceEqDiff, Nat.reduceLT, Nat.reduceLeDiff, Nat.reduceAdd, Nat.reduceMul, reduceCtorEq, List.reduceReplicate, go_sem]
  apply callK_of (c_spec_l31Copy d hs)
  simp only [↓bk_bind, ↓bk_map, ↓bk_ite, ↓bk_some, ↓reduceIte, Nat.reduceEqDiff, Nat.reduceLT, Nat.reduceLeDiff, Nat.reduceAdd, Nat.reduceMul, reduceCtorEq, List.reduceReplicate, go_sem]
  intros
  repeat' first
    | (refine And.intro ?_ ?_ <;> intro h)
    | (apply callK_of (c_spec_IsDisk d hs); simp only [↓bk_bind, ↓bk_map, ↓bk_ite, ↓bk_some, ↓reduceIte, Nat.reduceEqDiff, Nat.reduceLT, Nat.reduceLeDiff, Nat.reduceAdd, Nat.reduceMul, reduceCtorEq, List.reduceReplicate, go_sem])
    | (apply callK_of (c_spec_l31Whole d hs); simp only [↓bk_bind, ↓bk_map, ↓bk_ite, ↓bk_some, ↓reduceIte, Nat.reduceEqDiff, Nat.reduceLT, Nat.reduceLeDiff, Nat.reduceAdd, Nat.reduceMul, reduceCtorEq, List.reduceReplicate, go_sem])
    | (apply callK_of (c_spec_BuildIndex d.Containers hsc); simp only [↓bk_bind, ↓bk_map, ↓bk_ite, ↓bk_some, ↓reduceIte, Nat.reduceEqDiff, Nat.reduceLT, Nat.reduceLeDiff, Nat.reduceAdd, Nat.reduceMul, reduceCtorEq, List.reduceReplicate, go_sem]; intros)
  all_goals
    first
      | (have hF : nextStop d = true := by
          clear hs hsc
          unfold nextStop
          by_cases c1 : 0 < d.Wanted.length <;> by_cases c2 : 6 ≤ d.Containers.length <;> simp_all <;> omega
         simp [nextTo, nextOk, hF]
         done)
      | (have hF : nextStop d = false := by
          clear hs hsc
          unfold nextStop
          by_cases c1 : 0 < d.Wanted.length <;> by_cases c2 : 6 ≤ d.Containers.length <;> simp_all <;> omega
         have hW : whole d = false := by assumption
         simp [nextTo, nextOk, hF, hW]
         done)
      | (have hF : nextStop d = false := by
          clear hs hsc
          unfold nextStop
          by_cases c1 : 0 < d.Wanted.length <;> by_cases c2 : 6 ≤ d.Containers.length <;> simp_all <;> omega
         have hW : whole d = true := by assumption
         have hN : d.Wanted = [] := List.length_eq_zero_iff.1 (by omega)
         simp [nextTo, nextOk, hF, hW, hN]
         done)
      | (have hF : nextStop d = false := by
          clear hs hsc
          unfold nextStop
          by_cases c1 : 0 < d.Wanted.length <;> by_cases c2 : 6 ≤ d.Containers.length <;> simp_all <;> omega
         have hW : whole d = true := by assumption
         obtain ⟨x, hx⟩ := at_some (l := d.Wanted) (k := 0) (by omega)
         have hlc : d.Containers.length ≤ 1073741824 := by omega
         refine ⟨⟨by omega, by omega⟩, ?_⟩
         rw [hx]
         simp only [↓bk_bind, ↓bk_map, ↓bk_ite, ↓bk_some, ↓reduceIte, Nat.reduceEqDiff, Nat.reduceLT, Nat.reduceLeDiff, Nat.reduceAdd, Nat.reduceMul, reduceCtorEq, List.reduceReplicate, go_sem]
         have eT : nextTo d = { d with Containers := d.Containers ++ [x], Wanted := [] } := by
          rcases hN : d.Wanted with _ | ⟨y, l⟩
          · rw [hN] at hx; simp at hx
          · rw [hN] at hx
            simp only [List.getElem?_cons_zero, Option.some.injEq] at hx
            subst hx
            simp [nextTo, hF, hW, hN]
         have eO : nextOk d = true := by simp [nextOk, hF, hW]; omega
         rw [eT, eO]
         first
          | exact ⟨by decide, by simp only [roomB]; omega, by simp, ⟨by simp [GContainer.enc], rfl, rfl⟩, rfl⟩
          | (simp only [roomB]; simp [GContainer.enc]; omega)
          | (refine ⟨by decide, by simp only [roomB]; omega, by simp, by decide, ⟨by simp [GContainer.enc], rfl, rfl⟩, rfl⟩))
end Go.Proofs.YtbnbgekjjbpljaaGreatR
namespace Go.Proofs.YtbnbgekjjbpljaaGreatR
open Go Go.RowKit Go.Proofs
set_option linter.unusedSimpArgs false
set_option linter.unusedVariables false
def m_laws_FnExactWriteNext : MC :=
(.seq (pr [.box 1 0 (.s 0), .mv 2 (.c (.bool false))] [1])
(.seq (pr [.mv 3 (.c (.int .i64 1048576))] [1,3])
(.seq (pr [.load 14 true 3 (.s 1), .mv 15 (.s 3), .call 16 [] (.f n_laws_szDisk) [.s 14, .s 15], .mv 3 (.s 16)] [1,3])
(.seq (.seq (pr [.mv 17 (.s 3), .bin 18 false .lss (.s 17) (.c (.int .i64 0))] [1,18])
(.cond (.s 18) (.seq (pr [.mv 2 (.c (.bool true))] [2])
.ret) .skip))
(.seq (pr [.load 20 true 3 (.s 1), .call 21 [1, 2, 3] (.f n_laws_toDisk) [.s 20], .call 22 [4, 5, 6] (.f n_spec_WriteNext) [.s 21], .mv 19 (.s 22), .ext 23 (.s 19) 0, .ext 24 (.s 19) 1, .alloc 4 7 [.emp 4, .emp 6, .emp 4], .store 3 (.s 4) (.s 23), .mv 5 (.s 24)] [1,4,5])
(.seq (pr [.load 25 true 3 (.s 1), .call 26 [8, 9, 10] (.f n_laws_toDisk) [.s 25], .alloc 6 11 [.emp 4, .emp 6, .emp 4], .store 3 (.s 6) (.s 26)] [1,4,5,6])
(.seq (pr [.load 28 true 3 (.s 6), .call 29 [12, 13, 14] (.f n_impl_WriteNext) [.s 28], .mv 27 (.s 29), .ext 30 (.s 27) 0, .ext 31 (.s 27) 1, .alloc 7 15 [.emp 4, .emp 6, .emp 4], .store 3 (.s 7) (.s 30), .mv 8 (.s 31)] [1,4,5,6,7,8])
(.seq (.seq (.reg [{ o := .load 32 true 3 (.s 7) }, { o := .load 33 true 3 (.s 4) }, { o := .call 34 [] (.f n_laws_eqDisk) [.s 32, .s 33] }, { o := .un 35 .not (.s 34) }, { o := .mv 36 (.s 35) }, { o := .mv 37 (.s 8), g := some (36, false) }, { o := .mv 38 (.s 5), g := some (36, false) }, { o := .bin 39 true .neq (.s 37) (.s 38), g := some (36, false) }, { o := .pick 40 (.s 36) (.c (.bool true)) (.s 39) }] [1,4,5,6,7,8,40])
(.cond (.s 40) (.seq (pr [.mv 2 (.c (.bool false))] [2])
.ret) .skip))
(.seq (.seq (.dreg [{ o := .load 41 true 3 (.s 6), hs := [42,43], ho := [16,17,18] }, { o := .load 42 true 3 (.s 1), hs := [41] }, { o := .call 43 [16, 17, 18] (.f n_laws_toDisk) [.s 42], hs := [41], ws := [16,17,18], bf := [1] }, { o := .call 44 [] (.f n_laws_eqDisk) [.s 41, .s 43], bf := [0,1,2] }, { o := .un 45 .not (.s 44), bf := [0,1,2,3] }] [1,4,5,6,7,8,45])
(.cond (.s 45) (.seq (pr [.mv 2 (.c (.bool false))] [2])
.ret) .skip))
(.seq (pr [.mv 9 (.c (.int .i64 1))] [1,4,5,6,7,8,9])
(.seq (pr [.load 46 true 3 (.s 6), .mv 47 (.s 9), .callI 48 [] (.f n_laws_markDisk) [.s 46, .s 47] [8,9,10] [], .mv 9 (.s 48)] [1,4,5,7,8,9])
(.seq (.seq (.reg [{ o := .mv 49 (.s 9) }, { o := .bin 50 false .lss (.s 49) (.c (.int .i64 0)) }, { o := .mv 51 (.s 50) }, { o := .load 52 true 3 (.s 7), g := some (51, false) }, { o := .load 53 true 3 (.s 4), g := some (51, false) }, { o := .call 54 [] (.f n_laws_eqDisk) [.s 52, .s 53], g := some (51, false) }, { o := .un 55 .not (.s 54), g := some (51, false) }, { o := .pick 56 (.s 51) (.c (.bool true)) (.s 55) }, { o := .mv 57 (.s 56) }, { o := .mv 58 (.s 8), g := some (57, false) }, { o := .mv 59 (.s 5), g := some (57, false) }, { o := .bin 60 true .neq (.s 58) (.s 59), g := some (57, false) }, { o := .pick 61 (.s 57) (.c (.bool true)) (.s 60) }] [1,4,5,7,61])
(.cond (.s 61) (.seq (pr [.mv 2 (.c (.bool false))] [2])
.ret) .skip))
(.seq (pr [.mv 10 (.c (.int .i64 1))] [1,4,5,7,10])
(.seq (pr [.load 62 true 3 (.s 7), .mv 63 (.s 10), .callI 64 [] (.f n_laws_markDisk) [.s 62, .s 63] [12,13,14] [], .mv 10 (.s 64)] [1,4,5,7,10])
(.seq (pr [.mv 11 (.c (.int .i64 1))] [1,4,5,7,10,11])
(.seq (pr [.load 65 true 3 (.s 7), .mv 66 (.s 11), .call 67 [] (.f n_laws_heldDisk) [.s 65, .s 66], .mv 11 (.s 67)] [1,4,5,7,10,11])
(.seq (.seq (pr [.mv 68 (.s 11), .bin 69 false .lss (.s 68) (.c (.int .i64 0))] [1,4,5,7,10,11,69])
(.cond (.s 69) (.seq (pr [.mv 2 (.c (.bool false))] [2])
.ret) .skip))
(.seq (.seq (pr [.mv 70 (.s 11), .mv 71 (.s 10), .bin 72 false .neq (.s 70) (.s 71)] [1,4,5,7,10,72])
(.cond (.s 72) (.seq (pr [.mv 2 (.c (.bool false))] [2])
.ret) .skip))
(.seq (pr [.load 74 true 3 (.s 1), .call 75 [19, 20, 21] (.f n_laws_toDisk) [.s 74], .call 76 [22, 23, 24] (.f n_impl_WriteNext) [.s 75], .mv 73 (.s 76), .ext 77 (.s 73) 0, .ext 78 (.s 73) 1, .alloc 12 25 [.emp 4, .emp 6, .emp 4], .store 3 (.s 12) (.s 77), .mv 13 (.s 78)] [4,5,7,10,12,13])
(.seq (.seq (.reg [{ o := .load 79 true 3 (.s 12) }, { o := .load 80 true 3 (.s 4) }, { o := .call 81 [] (.f n_laws_eqDisk) [.s 79, .s 80] }, { o := .un 82 .not (.s 81) }, { o := .mv 83 (.s 82) }, { o := .mv 84 (.s 13), g := some (83, false) }, { o := .mv 85 (.s 5), g := some (83, false) }, { o := .bin 86 true .neq (.s 84) (.s 85), g := some (83, false) }, { o := .pick 87 (.s 83) (.c (.bool true)) (.s 86) }] [7,10,87])
(.cond (.s 87) (.seq (pr [.mv 2 (.c (.bool false))] [2])
.ret) .skip))
(.seq (pr [.mv 11 (.c (.int .i64 1))] [7,10,11])
(.seq (pr [.load 88 true 3 (.s 7), .mv 89 (.s 11), .call 90 [] (.f n_laws_heldDisk) [.s 88, .s 89], .mv 11 (.s 90)] [10,11])
(.seq (.seq (pr [.mv 91 (.s 11), .bin 92 false .lss (.s 91) (.c (.int .i64 0))] [10,11,92])
(.cond (.s 92) (.seq (pr [.mv 2 (.c (.bool false))] [2])
.ret) .skip))
(.seq (.seq (pr [.mv 93 (.s 11), .mv 94 (.s 10), .bin 95 false .neq (.s 93) (.s 94)] [95])
(.cond (.s 95) (.seq (pr [.mv 2 (.c (.bool false))] [2])
.ret) .skip))
(.seq (pr [.mv 2 (.c (.bool true))] [2])
.ret)))))))))))))))))))))))))
theorem c_laws_FnExactWriteNext (d : GDisk) : Ctr Tryz.prog n_laws_FnExactWriteNext [aS d.enc] [rB true] := by
  refine ctr_at (M := m_laws_FnExactWriteNext) (m := 26) (n := 96) (res := [(.tmp 2, [false])]) hmix Tryz.func10 rfl (by kernel_rfl) rfl (by kernel_rfl) (by kernel_rfl) (Nat.le_of_ble_eq_true rfl) ?_; unfold m_laws_FnExactWriteNext
  intro hb
  clear hb
  simp only [↓bk_bind, ↓bk_map, ↓bk_ite, ↓bk_some, ↓reduceIte, Nat.reduceEqDiff, Nat.reduceLT, Nat.reduceLeDiff, Nat.reduceAdd, Nat.reduceMul, reduceCtorEq, List.reduceReplicate, go_sem]
  apply callK_of (c_laws_szDisk d _ (by omega))
  simp only [↓bk_bind, ↓bk_map, ↓bk_ite, ↓bk_some, ↓reduceIte, Nat.reduceEqDiff, Nat.reduceLT, Nat.reduceLeDiff, Nat.reduceAdd, Nat.reduceMul, reduceCtorEq, List.reduceReplicate, go_sem]
  intro _ hz
  have hs := szr_ok hz
  have hc_d := GDisk.cts_le d
  have hr0 := GDisk.cts_le (nextTo d)
  have hl_next_size := next_size d
  apply callK_of (c_laws_toDisk d (by omega))
  simp only [↓bk_bind, ↓bk_map, ↓bk_ite, ↓bk_some, ↓reduceIte, Nat.reduceEqDiff, Nat.reduceLT, Nat.reduceLeDiff, Nat.reduceAdd, Nat.reduceMul, reduceCtorEq, List.reduceReplicate, go_sem]
  try intros
  apply callK_of (c_spec_WriteNext d (by omega))
  simp only [↓bk_bind, ↓bk_map, ↓bk_ite, ↓bk_some, ↓reduceIte, Nat.reduceEqDiff, Nat.reduceLT, Nat.reduceLeDiff, Nat.reduceAdd, Nat.reduceMul, reduceCtorEq, List.reduceReplicate, go_sem]
  try intros
  apply callK_of (c_laws_toDisk d (by omega))
  simp only [↓bk_bind, ↓bk_map, ↓bk_ite, ↓bk_some, ↓reduceIte, Nat.reduceEqDiff, Nat.reduceLT, Nat.reduceLeDiff, Nat.reduceAdd, Nat.reduceMul, reduceCtorEq, List.reduceReplicate, go_sem]
  try intros
  apply callK_of (c_impl_WriteNext d (by omega))
  simp only [↓bk_bind, ↓bk_map, ↓bk_ite, ↓bk_some, ↓reduceIte, Nat.reduceEqDiff, Nat.reduceLT, Nat.reduceLeDiff, Nat.reduceAdd, Nat.reduceMul, reduceCtorEq, List.reduceReplicate, go_sem]
  try intros
  apply callK_of (c_laws_eqDisk (nextTo d) (nextTo d))
  simp only [↓bk_bind, ↓bk_map, ↓bk_ite, ↓bk_some, ↓reduceIte, Nat.reduceEqDiff, Nat.reduceLT, Nat.reduceLeDiff, Nat.reduceAdd, Nat.reduceMul, reduceCtorEq, List.reduceReplicate, go_sem]
  try intros
  apply callK_of (c_laws_toDisk d (by omega))
  simp only [↓bk_bind, ↓bk_map, ↓bk_ite, ↓bk_some, ↓reduceIte, Nat.reduceEqDiff, Nat.reduceLT, Nat.reduceLeDiff, Nat.reduceAdd, Nat.reduceMul, reduceCtorEq, List.reduceReplicate, go_sem]
  try intros
  apply callK_of (c_laws_eqDisk d d)
  simp only [↓bk_bind, ↓bk_map, ↓bk_ite, ↓bk_some, ↓reduceIte, Nat.reduceEqDiff, Nat.reduceLT, Nat.reduceLeDiff, Nat.reduceAdd, Nat.reduceMul, reduceCtorEq, List.reduceReplicate, go_sem]
  try intros
  apply callIK_of (c_laws_markDisk d (1) (by omega) (by omega))
  simp only [↓bk_bind, ↓bk_map, ↓bk_ite, ↓bk_some, ↓reduceIte, Nat.reduceEqDiff, Nat.reduceLT, Nat.reduceLeDiff, Nat.reduceAdd, Nat.reduceMul, reduceCtorEq, List.reduceReplicate, go_sem]
  try intros
  have hk : ¬ ((1 + ((d).cts : Nat) : Int)) < 0 := by omega
  simp only [↓bk_bind, ↓bk_map, ↓bk_ite, ↓bk_some, ↓reduceIte, Nat.reduceEqDiff, Nat.reduceLT, Nat.reduceLeDiff, Nat.reduceAdd, Nat.reduceMul, reduceCtorEq, List.reduceReplicate, go_sem, hk]
  try intros
  apply callK_of (c_laws_eqDisk (nextTo d) (nextTo d))
  simp only [↓bk_bind, ↓bk_map, ↓bk_ite, ↓bk_some, ↓reduceIte, Nat.reduceEqDiff, Nat.reduceLT, Nat.reduceLeDiff, Nat.reduceAdd, Nat.reduceMul, reduceCtorEq, List.reduceReplicate, go_sem]
  try intros
  apply callIK_of (c_laws_markDisk (nextTo d) (1) (by omega) (by omega))
  simp only [↓bk_bind, ↓bk_map, ↓bk_ite, ↓bk_some, ↓reduceIte, Nat.reduceEqDiff, Nat.reduceLT, Nat.reduceLeDiff, Nat.reduceAdd, Nat.reduceMul, reduceCtorEq, List.reduceReplicate, go_sem]
  try intros
  apply callK_of (c_laws_heldDisk (nextTo d) (1) (by omega) (by omega))
  simp only [↓bk_bind, ↓bk_map, ↓bk_ite, ↓bk_some, ↓reduceIte, Nat.reduceEqDiff, Nat.reduceLT, Nat.reduceLeDiff, Nat.reduceAdd, Nat.reduceMul, reduceCtorEq, List.reduceReplicate, go_sem]
  have hq0 : ¬ ((1 + ((nextTo d).cts : Nat) : Int)) < 0 := by omega
  try simp only [↓bk_bind, ↓bk_map, ↓bk_ite, ↓bk_some, ↓reduceIte, Nat.reduceEqDiff, Nat.reduceLT, Nat.reduceLeDiff, Nat.reduceAdd, Nat.reduceMul, reduceCtorEq, List.reduceReplicate, go_sem, hq0]
  try intros
  apply callK_of (c_laws_toDisk d (by omega))
  simp only [↓bk_bind, ↓bk_map, ↓bk_ite, ↓bk_some, ↓reduceIte, Nat.reduceEqDiff, Nat.reduceLT, Nat.reduceLeDiff, Nat.reduceAdd, Nat.reduceMul, reduceCtorEq, List.reduceReplicate, go_sem]
  try intros
  apply callK_of (c_impl_WriteNext d (by omega))
  simp only [↓bk_bind, ↓bk_map, ↓bk_ite, ↓bk_some, ↓reduceIte, Nat.reduceEqDiff, Nat.reduceLT, Nat.reduceLeDiff, Nat.reduceAdd, Nat.reduceMul, reduceCtorEq, List.reduceReplicate, go_sem]
  try intros
  apply callK_of (c_laws_eqDisk (nextTo d) (nextTo d))
  simp only [↓bk_bind, ↓bk_map, ↓bk_ite, ↓bk_some, ↓reduceIte, Nat.reduceEqDiff, Nat.reduceLT, Nat.reduceLeDiff, Nat.reduceAdd, Nat.reduceMul, reduceCtorEq, List.reduceReplicate, go_sem]
  try intros
  apply callK_of (c_laws_heldDisk (nextTo d) (1) (by omega) (by omega))
  simp only [↓bk_bind, ↓bk_map, ↓bk_ite, ↓bk_some, ↓reduceIte, Nat.reduceEqDiff, Nat.reduceLT, Nat.reduceLeDiff, Nat.reduceAdd, Nat.reduceMul, reduceCtorEq, List.reduceReplicate, go_sem]
  have hq0 : ¬ ((1 + ((nextTo d).cts : Nat) : Int)) < 0 := by omega
  try simp only [↓bk_bind, ↓bk_map, ↓bk_ite, ↓bk_some, ↓reduceIte, Nat.reduceEqDiff, Nat.reduceLT, Nat.reduceLeDiff, Nat.reduceAdd, Nat.reduceMul, reduceCtorEq, List.reduceReplicate, go_sem, hq0]
  try intros
end Go.Proofs.YtbnbgekjjbpljaaGreatR
