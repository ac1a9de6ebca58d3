/- What the functions compute that the law of IsPlayable reaches: contracts, function by function. Conditions stand in each theorem. -/
import Derived.Test.YtbnbgekjjbpljaaGreatTIsPlayablea
namespace Go.Proofs.YtbnbgekjjbpljaaGreatR
open Go Go.RowKit Go.Proofs
set_option linter.unusedSimpArgs false
set_option linter.unusedVariables false
theorem any_nots {α : Type} {p : α → Bool} {l : List α} : (l.any fun x => !p x) = !l.all p := by
  induction l with
  | nil => rfl
  | cons x l ih => rw [List.any_cons, List.all_cons, ih]; cases p x <;> rfl
/-- All elements are so, and there are not too many. -/
def fewAll {α : Type} (n : Nat) (p : α → Bool) (l : List α) : Bool := decide (l.length ≤ n) && l.all p
theorem fewAll_no {α : Type} {n : Nat} {p : α → Bool} {l : List α} (h : ¬ l.length ≤ n) : false = fewAll n p l := by
  unfold fewAll; rw [decide_eq_false h]; rfl
theorem fewAll_yes {α : Type} {n : Nat} {p : α → Bool} {l : List α} (h : l.length ≤ n) : (!l.any fun x => !p x) = fewAll n p l := by
  unfold fewAll; rw [decide_eq_true h, any_nots, Bool.not_not]; rfl
theorem fewAll_at {α : Type} {n : Nat} {p : α → Bool} {l : List α} {k : Nat} {x : α} (hx : l[k]? = some x) (h : p x = false) : false = fewAll n p l := by
  unfold fewAll; rw [← all_not hx h, Bool.and_false]
theorem fewAll_end {α : Type} {n : Nat} {p : α → Bool} {l : List α} (h : l.all p = true) : decide (l.length ≤ n) = fewAll n p l := by
  unfold fewAll; rw [h, Bool.and_true]
theorem le_cast {n m : Nat} : decide ((n : Int) ≤ (m : Int)) = decide (n ≤ m) := by
  rw [Bool.eq_iff_iff]; simp only [decide_eq_true_eq]; omega
def opOk (o : GOp) : Bool := decide ((0 ≤ o.A ∧ o.A < 4) ∧ (
  (o.Kind = 1 ∧ (1 ≤ o.B ∧ o.B ≤ 9) ∧ (0 ≤ o.C ∧ o.C ≤ 99)) ∨
  ((o.Kind = 2 ∨ o.Kind = 3 ∨ o.Kind = 4) ∧ o.B = 0 ∧ o.C = 0) ∨
  (o.Kind = 5 ∧ (0 ≤ o.B ∧ o.B < 4) ∧ (0 ≤ o.C ∧ o.C < 4)) ∨
  (o.Kind = 6 ∧ (0 ≤ o.B ∧ o.B < 4) ∧ o.C = 0) ∨
  (o.Kind = 7 ∧ (1 ≤ o.B ∧ o.B ≤ 3) ∧ o.C = 0) ∨
  ((o.Kind = 8 ∨ o.Kind = 9) ∧ (0 ≤ o.B ∧ o.B < 3) ∧ o.C = 0)))
def scriptOk (l : List GOp) : Bool := fewAll 16 opOk l
def m_impl_isOp : MC :=
(.seq (pr [.box 1 0 (.s 0), .mv 2 (.c (.bool false))] [1])
(.seq (.seq (pr [.fld 3 (.s 1) 1, .load 4 false 1 (.s 3), .call 5 [] (.f n_impl_at) [.s 4, .c (.int .i64 4)], .un 6 .not (.s 5)] [1,6])
(.cond (.s 6) (.seq (pr [.mv 2 (.c (.bool false))] [2])
.ret) .skip))
(.seq (.seq (pr [.fld 7 (.s 1) 0, .load 8 false 1 (.s 7)] [1,8])
(.block 0 (.seq (pr [.bin 10 false .eql (.s 8) (.c (.int .i64 1)), .mv 9 (.s 10)] [1,8,9])
(.cond (.s 9) (.seq (.reg [{ o := .fld 11 (.s 1) 2 }, { o := .load 12 false 1 (.s 11) }, { o := .call 13 [] (.f n_impl_InRange) [.s 12, .c (.int .i64 1), .c (.int .i64 9)] }, { o := .mv 14 (.s 13) }, { o := .fld 15 (.s 1) 3, g := some (14, true) }, { o := .load 16 false 1 (.s 15), g := some (14, true) }, { o := .call 17 [] (.f n_impl_InRange) [.s 16, .c (.int .i64 0), .c (.int .i64 99)], g := some (14, true) }, { o := .pick 18 (.s 14) (.s 17) (.c (.bool false)) }, { o := .mv 2 (.s 18) }] [2])
.ret) (.seq (.seq (pr [.bin 20 false .eql (.s 8) (.c (.int .i64 2)), .mv 19 (.s 20)] [1,8,19])
(.cond (.s 19) .skip (.seq (pr [.bin 21 false .eql (.s 8) (.c (.int .i64 3)), .mv 19 (.s 21)] [1,8,19])
(.cond (.s 19) .skip (pr [.bin 22 false .eql (.s 8) (.c (.int .i64 4)), .mv 19 (.s 22)] [1,8,19])))))
(.cond (.s 19) (.seq (.reg [{ o := .fld 23 (.s 1) 2 }, { o := .load 24 false 1 (.s 23) }, { o := .bin 25 false .eql (.s 24) (.c (.int .i64 0)) }, { o := .mv 26 (.s 25) }, { o := .fld 27 (.s 1) 3, g := some (26, true) }, { o := .load 28 false 1 (.s 27), g := some (26, true) }, { o := .bin 29 false .eql (.s 28) (.c (.int .i64 0)), g := some (26, true) }, { o := .pick 30 (.s 26) (.s 29) (.c (.bool false)) }, { o := .mv 2 (.s 30) }] [2])
.ret) (.seq (pr [.bin 32 false .eql (.s 8) (.c (.int .i64 5)), .mv 31 (.s 32)] [1,8,31])
(.cond (.s 31) (.seq (.reg [{ o := .fld 33 (.s 1) 2 }, { o := .load 34 false 1 (.s 33) }, { o := .call 35 [] (.f n_impl_at) [.s 34, .c (.int .i64 4)] }, { o := .mv 36 (.s 35) }, { o := .fld 37 (.s 1) 3, g := some (36, true) }, { o := .load 38 false 1 (.s 37), g := some (36, true) }, { o := .call 39 [] (.f n_impl_at) [.s 38, .c (.int .i64 4)], g := some (36, true) }, { o := .pick 40 (.s 36) (.s 39) (.c (.bool false)) }, { o := .mv 2 (.s 40) }] [2])
.ret) (.seq (pr [.bin 42 false .eql (.s 8) (.c (.int .i64 6)), .mv 41 (.s 42)] [1,8,41])
(.cond (.s 41) (.seq (.reg [{ o := .fld 43 (.s 1) 2 }, { o := .load 44 false 1 (.s 43) }, { o := .call 45 [] (.f n_impl_at) [.s 44, .c (.int .i64 4)] }, { o := .mv 46 (.s 45) }, { o := .fld 47 (.s 1) 3, g := some (46, true) }, { o := .load 48 false 1 (.s 47), g := some (46, true) }, { o := .bin 49 false .eql (.s 48) (.c (.int .i64 0)), g := some (46, true) }, { o := .pick 50 (.s 46) (.s 49) (.c (.bool false)) }, { o := .mv 2 (.s 50) }] [2])
.ret) (.seq (pr [.bin 52 false .eql (.s 8) (.c (.int .i64 7)), .mv 51 (.s 52)] [1,8,51])
(.cond (.s 51) (.seq (.reg [{ o := .fld 53 (.s 1) 2 }, { o := .load 54 false 1 (.s 53) }, { o := .call 55 [] (.f n_impl_InRange) [.s 54, .c (.int .i64 1), .c (.int .i64 3)] }, { o := .mv 56 (.s 55) }, { o := .fld 57 (.s 1) 3, g := some (56, true) }, { o := .load 58 false 1 (.s 57), g := some (56, true) }, { o := .bin 59 false .eql (.s 58) (.c (.int .i64 0)), g := some (56, true) }, { o := .pick 60 (.s 56) (.s 59) (.c (.bool false)) }, { o := .mv 2 (.s 60) }] [2])
.ret) (.seq (.seq (pr [.bin 62 false .eql (.s 8) (.c (.int .i64 8)), .mv 61 (.s 62)] [1,8,61])
(.cond (.s 61) .skip (pr [.bin 63 false .eql (.s 8) (.c (.int .i64 9)), .mv 61 (.s 63)] [1,61])))
(.cond (.s 61) (.seq (.reg [{ o := .fld 64 (.s 1) 2 }, { o := .load 65 false 1 (.s 64) }, { o := .call 66 [] (.f n_impl_at) [.s 65, .c (.int .i64 3)] }, { o := .mv 67 (.s 66) }, { o := .fld 68 (.s 1) 3, g := some (67, true) }, { o := .load 69 false 1 (.s 68), g := some (67, true) }, { o := .bin 70 false .eql (.s 69) (.c (.int .i64 0)), g := some (67, true) }, { o := .pick 71 (.s 67) (.s 70) (.c (.bool false)) }, { o := .mv 2 (.s 71) }] [2])
.ret) .skip))))))))))))))
(.seq (pr [.mv 2 (.c (.bool false))] [2])
.ret))))
theorem c_impl_isOp (o : GOp) : Ctr Tryz.prog n_impl_isOp [aS o.enc] [rB (opOk o)] := by
  refine ctr_at (M := m_impl_isOp) (m := 1) (n := 72) (res := [(.tmp 2, [false])]) hmix Tryz.func208 rfl (by kernel_rfl) rfl (by kernel_rfl) (by kernel_rfl) (Nat.le_of_ble_eq_true rfl) ?_; unfold m_impl_isOp
  intro hb
  clear hb
  simp only [↓bk_bind, ↓bk_map, ↓bk_ite, ↓bk_some, ↓reduceIte, Nat.reduceEqDiff, Nat.reduceLT, Nat.reduceLeDiff, Nat.reduceAdd, Nat.reduceMul, reduceCtorEq, List.reduceReplicate, go_sem]
  repeat' first
    | (refine And.intro ?_ ?_ <;> intro h)
    | (apply callK_of (c_impl_at _ _); simp only [↓bk_bind, ↓bk_map, ↓bk_ite, ↓bk_some, ↓reduceIte, Nat.reduceEqDiff, Nat.reduceLT, Nat.reduceLeDiff, Nat.reduceAdd, Nat.reduceMul, reduceCtorEq, List.reduceReplicate, go_sem])
    | (apply callK_of (c_impl_InRange _ _ _); simp only [↓bk_bind, ↓bk_map, ↓bk_ite, ↓bk_some, ↓reduceIte, Nat.reduceEqDiff, Nat.reduceLT, Nat.reduceLeDiff, Nat.reduceAdd, Nat.reduceMul, reduceCtorEq, List.reduceReplicate, go_sem])
  all_goals (unfold opOk; first | (symm; rw [decide_eq_false_iff_not]; omega) | (symm; rw [decide_eq_true_eq]; omega) | (rw [Bool.eq_iff_iff]; simp only [decide_eq_true_eq, beq_iff_eq]; omega))
def m_spec_l10Ok : MC :=
(.seq (pr [.box 1 0 (.s 0), .mv 2 (.c (.bool false))] [1])
(.seq (pr [.mv 3 (.c (.int .i64 3))] [1,3])
(.seq (.seq (pr [.fld 4 (.s 1) 1, .load 5 false 1 (.s 4), .mv 6 (.s 3), .call 7 [] (.f n_spec_l1In) [.s 5, .c (.int .i64 0), .s 6], .un 8 .not (.s 7)] [1,3,8])
(.cond (.s 8) (.seq (pr [.mv 2 (.c (.bool false))] [2])
.ret) .skip))
(.seq (.seq (pr [.fld 9 (.s 1) 0, .load 10 false 1 (.s 9)] [1,3,10])
(.block 0 (.seq (pr [.bin 12 false .eql (.s 10) (.c (.int .i64 1)), .mv 11 (.s 12)] [1,3,10,11])
(.cond (.s 11) (.seq (.reg [{ o := .fld 13 (.s 1) 2 }, { o := .load 14 false 1 (.s 13) }, { o := .call 15 [] (.f n_spec_l1In) [.s 14, .c (.int .i64 1), .c (.int .i64 9)] }, { o := .mv 16 (.s 15) }, { o := .fld 17 (.s 1) 3, g := some (16, true) }, { o := .load 18 false 1 (.s 17), g := some (16, true) }, { o := .call 19 [] (.f n_spec_l1In) [.s 18, .c (.int .i64 0), .c (.int .i64 99)], g := some (16, true) }, { o := .pick 20 (.s 16) (.s 19) (.c (.bool false)) }, { o := .mv 2 (.s 20) }] [2])
.ret) (.seq (.seq (pr [.bin 22 false .eql (.s 10) (.c (.int .i64 2)), .mv 21 (.s 22)] [1,3,10,21])
(.cond (.s 21) .skip (.seq (pr [.bin 23 false .eql (.s 10) (.c (.int .i64 3)), .mv 21 (.s 23)] [1,3,10,21])
(.cond (.s 21) .skip (pr [.bin 24 false .eql (.s 10) (.c (.int .i64 4)), .mv 21 (.s 24)] [1,3,10,21])))))
(.cond (.s 21) (.seq (.reg [{ o := .fld 25 (.s 1) 2 }, { o := .load 26 false 1 (.s 25) }, { o := .bin 27 false .eql (.s 26) (.c (.int .i64 0)) }, { o := .mv 28 (.s 27) }, { o := .fld 29 (.s 1) 3, g := some (28, true) }, { o := .load 30 false 1 (.s 29), g := some (28, true) }, { o := .bin 31 false .eql (.s 30) (.c (.int .i64 0)), g := some (28, true) }, { o := .pick 32 (.s 28) (.s 31) (.c (.bool false)) }, { o := .mv 2 (.s 32) }] [2])
.ret) (.seq (pr [.bin 34 false .eql (.s 10) (.c (.int .i64 5)), .mv 33 (.s 34)] [1,3,10,33])
(.cond (.s 33) (.seq (.reg [{ o := .fld 35 (.s 1) 2 }, { o := .load 36 false 1 (.s 35) }, { o := .mv 37 (.s 3) }, { o := .call 38 [] (.f n_spec_l1In) [.s 36, .c (.int .i64 0), .s 37] }, { o := .mv 39 (.s 38) }, { o := .fld 40 (.s 1) 3, g := some (39, true) }, { o := .load 41 false 1 (.s 40), g := some (39, true) }, { o := .mv 42 (.s 3), g := some (39, true) }, { o := .call 43 [] (.f n_spec_l1In) [.s 41, .c (.int .i64 0), .s 42], g := some (39, true) }, { o := .pick 44 (.s 39) (.s 43) (.c (.bool false)) }, { o := .mv 2 (.s 44) }] [2])
.ret) (.seq (pr [.bin 46 false .eql (.s 10) (.c (.int .i64 6)), .mv 45 (.s 46)] [1,10,45])
(.cond (.s 45) (.seq (.reg [{ o := .fld 47 (.s 1) 2 }, { o := .load 48 false 1 (.s 47) }, { o := .call 49 [] (.f n_spec_l1In) [.s 48, .c (.int .i64 0), .c (.int .i64 3)] }, { o := .mv 50 (.s 49) }, { o := .fld 51 (.s 1) 3, g := some (50, true) }, { o := .load 52 false 1 (.s 51), g := some (50, true) }, { o := .bin 53 false .eql (.s 52) (.c (.int .i64 0)), g := some (50, true) }, { o := .pick 54 (.s 50) (.s 53) (.c (.bool false)) }, { o := .mv 2 (.s 54) }] [2])
.ret) (.seq (pr [.bin 56 false .eql (.s 10) (.c (.int .i64 7)), .mv 55 (.s 56)] [1,10,55])
(.cond (.s 55) (.seq (.reg [{ o := .fld 57 (.s 1) 2 }, { o := .load 58 false 1 (.s 57) }, { o := .call 59 [] (.f n_spec_l1In) [.s 58, .c (.int .i64 1), .c (.int .i64 3)] }, { o := .mv 60 (.s 59) }, { o := .fld 61 (.s 1) 3, g := some (60, true) }, { o := .load 62 false 1 (.s 61), g := some (60, true) }, { o := .bin 63 false .eql (.s 62) (.c (.int .i64 0)), g := some (60, true) }, { o := .pick 64 (.s 60) (.s 63) (.c (.bool false)) }, { o := .mv 2 (.s 64) }] [2])
.ret) (.seq (.seq (pr [.bin 66 false .eql (.s 10) (.c (.int .i64 8)), .mv 65 (.s 66)] [1,10,65])
(.cond (.s 65) .skip (pr [.bin 67 false .eql (.s 10) (.c (.int .i64 9)), .mv 65 (.s 67)] [1,65])))
(.cond (.s 65) (.seq (.reg [{ o := .fld 68 (.s 1) 2 }, { o := .load 69 false 1 (.s 68) }, { o := .call 70 [] (.f n_spec_l1In) [.s 69, .c (.int .i64 0), .c (.int .i64 2)] }, { o := .mv 71 (.s 70) }, { o := .fld 72 (.s 1) 3, g := some (71, true) }, { o := .load 73 false 1 (.s 72), g := some (71, true) }, { o := .bin 74 false .eql (.s 73) (.c (.int .i64 0)), g := some (71, true) }, { o := .pick 75 (.s 71) (.s 74) (.c (.bool false)) }, { o := .mv 2 (.s 75) }] [2])
.ret) .skip))))))))))))))
(.seq (pr [.mv 2 (.c (.bool false))] [2])
.ret)))))
theorem c_spec_l10Ok (o : GOp) : Ctr Tryz.prog n_spec_l10Ok [aS o.enc] [rB (opOk o)] := by
  refine ctr_at (M := m_spec_l10Ok) (m := 1) (n := 76) (res := [(.tmp 2, [false])]) hmix Tryz.func186 rfl (by kernel_rfl) rfl (by kernel_rfl) (by kernel_rfl) (Nat.le_of_ble_eq_true rfl) ?_; unfold m_spec_l10Ok
  intro hb
  clear hb
  simp only [↓bk_bind, ↓bk_map, ↓bk_ite, ↓bk_some, ↓reduceIte, Nat.reduceEqDiff, Nat.reduceLT, Nat.reduceLeDiff, Nat.reduceAdd, Nat.reduceMul, reduceCtorEq, List.reduceReplicate, go_sem]
  repeat' first
    | (refine And.intro ?_ ?_ <;> intro h)
    | (apply callK_of (c_spec_l1In _ _ _); simp only [↓bk_bind, ↓bk_map, ↓bk_ite, ↓bk_some, ↓reduceIte, Nat.reduceEqDiff, Nat.reduceLT, Nat.reduceLeDiff, Nat.reduceAdd, Nat.reduceMul, reduceCtorEq, List.reduceReplicate, go_sem])
  all_goals (unfold opOk; first | (symm; rw [decide_eq_false_iff_not]; omega) | (symm; rw [decide_eq_true_eq]; omega) | (rw [Bool.eq_iff_iff]; simp only [decide_eq_true_eq, beq_iff_eq]; omega))
def m_impl_IsScript_1 : MC :=
(.seq (pr [.box 1 0 (.s 0), .mv 2 (.c (.bool false))] [1])
(.seq (pr [.load 3 true 4 (.s 1), .call 4 [] (.f n_impl_isOp) [.s 3], .un 5 .not (.s 4), .mv 2 (.s 5)] [2])
.ret))
theorem c_impl_IsScript_1 (o : GOp) : Ctr Tryz.prog n_impl_IsScript_1 [aS o.enc] [rB (!opOk o)] := by
  refine ctr_at (M := m_impl_IsScript_1) (m := 1) (n := 6) (res := [(.tmp 2, [false])]) hmix Tryz.func207 rfl (by kernel_rfl) rfl (by kernel_rfl) (by kernel_rfl) (Nat.le_of_ble_eq_true rfl) ?_; unfold m_impl_IsScript_1
  intro hb
  clear hb
  simp only [↓bk_bind, ↓bk_map, ↓bk_ite, ↓bk_some, ↓reduceIte, Nat.reduceEqDiff, Nat.reduceLT, Nat.reduceLeDiff, Nat.reduceAdd, Nat.reduceMul, reduceCtorEq, List.reduceReplicate, go_sem]
  apply callK_of (c_impl_isOp _)
  simp only [↓bk_bind, ↓bk_map, ↓bk_ite, ↓bk_some, ↓reduceIte, Nat.reduceEqDiff, Nat.reduceLT, Nat.reduceLeDiff, Nat.reduceAdd, Nat.reduceMul, reduceCtorEq, List.reduceReplicate, go_sem]
def m_impl_IsScript : MC :=
(.seq (pr [.mv 2 (.c (.bool false))] [0])
(.seq (.reg [{ o := .mv 3 (.s 0) }, { o := .len 4 false (.s 3) }, { o := .bin 5 false .leq (.s 4) (.c (.int .i64 16)) }, { o := .mv 6 (.s 5) }, { o := .mv 7 (.s 0), g := some (6, true) }, { o := .call 8 [] (.f n_slices_ContainsFunc_impl_Op_impl_Op) [.s 7, .f n_impl_IsScript_1], g := some (6, true) }, { o := .un 9 .not (.s 8), g := some (6, true) }, { o := .pick 10 (.s 6) (.s 9) (.c (.bool false)) }, { o := .mv 2 (.s 10) }] [2])
.ret))
theorem c_impl_IsScript (l : List GOp) : Ctr Tryz.prog n_impl_IsScript [aL 4 (l.map GOp.enc)] [rB (scriptOk l)] := by
  refine ctr_at (M := m_impl_IsScript) (m := 0) (n := 11) (res := [(.tmp 2, [false])]) hmix Tryz.func171 rfl (by kernel_rfl) rfl (by kernel_rfl) (by kernel_rfl) (Nat.le_of_ble_eq_true rfl) ?_; unfold m_impl_IsScript
  intro hb
  clear hb
  simp only [↓bk_bind, ↓bk_map, ↓bk_ite, ↓bk_some, ↓reduceIte, Nat.reduceEqDiff, Nat.reduceLT, Nat.reduceLeDiff, Nat.reduceAdd, Nat.reduceMul, reduceCtorEq, List.reduceReplicate, go_sem]
  refine ⟨fun h => ?_, fun h => fewAll_no (by omega)⟩
  refine callK_of (c_slices_ContainsFunc_Op l _ [] (fun o => !opOk o) fun o _ => c_impl_IsScript_1 o) ?_
  simp only [↓bk_bind, ↓bk_map, ↓bk_ite, ↓bk_some, ↓reduceIte, Nat.reduceEqDiff, Nat.reduceLT, Nat.reduceLeDiff, Nat.reduceAdd, Nat.reduceMul, reduceCtorEq, List.reduceReplicate, go_sem]
  exact fewAll_yes (by omega)
def m_spec_IsScript : MC :=
(.seq (pr [.mv 2 (.c (.bool false))] [0])
(.seq (.seq (pr [.mv 3 (.c (.int .i64 0))] [0,3])
(.block 0 (.loop ([0,3], []) (.seq (.seq (pr [.mv 4 (.s 3), .mv 5 (.s 0), .len 6 false (.s 5), .bin 7 false .lss (.s 4) (.s 6)] [0,3,7])
(.cond (.s 7) .skip (.exit 0)))
(.seq (.block 1 (.seq (pr [.mv 10 (.s 0), .mv 11 (.s 3), .idx 12 4 (.s 10) (.s 11), .load 13 true 4 (.s 12), .call 14 [] (.f n_spec_l10Ok) [.s 13], .un 15 .not (.s 14)] [0,3,15])
(.cond (.s 15) (.seq (pr [.mv 2 (.c (.bool false))] [2])
.ret) .skip)))
(pr [.mv 8 (.s 3), .bin 9 false .add (.s 8) (.c (.int .i64 1)), .mv 3 (.s 9)] [0,3]))))))
(.seq (pr [.mv 16 (.s 0), .len 17 false (.s 16), .bin 18 false .leq (.s 17) (.c (.int .i64 16)), .mv 2 (.s 18)] [2])
.ret)))
theorem c_spec_IsScript (l : List GOp) : Ctr Tryz.prog n_spec_IsScript [aL 4 (l.map GOp.enc)] [rB (scriptOk l)] := by
  refine ctr_at (M := m_spec_IsScript) (m := 0) (n := 19) (res := [(.tmp 2, [false])]) hmix Tryz.func128 rfl (by kernel_rfl) rfl (by kernel_rfl) (by kernel_rfl) (Nat.le_of_ble_eq_true rfl) ?_; unfold m_spec_IsScript
  intro hb
  simp only [bdA, bdL, bdT, bdR, bdR_map, wfB_i64, wfB_bool, wfB_str, roomB, and_true, true_and, List.length_map] at hb
  have hl := hb.1
  clear hb
  simp only [↓bk_bind, ↓bk_map, ↓bk_ite, ↓bk_some, ↓reduceIte, Nat.reduceEqDiff, Nat.reduceLT, Nat.reduceLeDiff, Nat.reduceAdd, Nat.reduceMul, reduceCtorEq, List.reduceReplicate, go_sem]
  refine loopK_rng l (fun k => [(3, vI k)]) (fun k => []) (fun k => (l.take k).all opOk = true) hl ?_
  simp only [↓bk_bind, ↓bk_map, ↓bk_ite, ↓bk_some, ↓reduceIte, Nat.reduceEqDiff, Nat.reduceLT, Nat.reduceLeDiff, Nat.reduceAdd, Nat.reduceMul, reduceCtorEq, List.reduceReplicate, go_sem]
  refine ⟨?_, by simp, ?_, ?_⟩
  · simp only [↓bk_bind, ↓bk_map, ↓bk_ite, ↓bk_some, ↓reduceIte, Nat.reduceEqDiff, Nat.reduceLT, Nat.reduceLeDiff, Nat.reduceAdd, Nat.reduceMul, reduceCtorEq, List.reduceReplicate, go_sem]
  · intro k x hx h h0 h1 hw
    simp only [↓bk_bind, ↓bk_map, ↓bk_ite, ↓bk_some, ↓reduceIte, Nat.reduceEqDiff, Nat.reduceLT, Nat.reduceLeDiff, Nat.reduceAdd, Nat.reduceMul, reduceCtorEq, List.reduceReplicate, go_sem, bk_eq hx, h0, h1, hw]
    apply callK_of (c_spec_l10Ok _)
    simp only [↓bk_bind, ↓bk_map, ↓bk_ite, ↓bk_some, ↓reduceIte, Nat.reduceEqDiff, Nat.reduceLT, Nat.reduceLeDiff, Nat.reduceAdd, Nat.reduceMul, reduceCtorEq, List.reduceReplicate, go_sem, hw]
    exact ⟨fun hn => fewAll_at hx hn, fun hn => all_step hx h hn⟩
  · intro h
    simp only [↓bk_bind, ↓bk_map, ↓bk_ite, ↓bk_some, ↓reduceIte, Nat.reduceEqDiff, Nat.reduceLT, Nat.reduceLeDiff, Nat.reduceAdd, Nat.reduceMul, reduceCtorEq, List.reduceReplicate, go_sem]
    rw [List.take_length] at h
    exact le_cast.trans (fewAll_end h)
def asks (k : Int) : Bool := decide (1 ≤ k ∧ k ≤ 4)
def m_impl_Asks : MC :=
(.seq (pr [.mv 2 (.c (.bool false))] [0])
(.seq (pr [.mv 3 (.s 0), .call 4 [] (.f n_impl_InRange) [.s 3, .c (.int .i64 1), .c (.int .i64 4)], .mv 2 (.s 4)] [2])
.ret))
theorem c_impl_Asks (k : Int) : Ctr Tryz.prog n_impl_Asks [aI k] [rB (asks k)] := by
  refine ctr_at (M := m_impl_Asks) (m := 0) (n := 5) (res := [(.tmp 2, [false])]) hmix Tryz.func213 rfl (by kernel_rfl) rfl (by kernel_rfl) (by kernel_rfl) (Nat.le_of_ble_eq_true rfl) ?_; unfold m_impl_Asks
  intro hb
  clear hb
  simp only [↓bk_bind, ↓bk_map, ↓bk_ite, ↓bk_some, ↓reduceIte, Nat.reduceEqDiff, Nat.reduceLT, Nat.reduceLeDiff, Nat.reduceAdd, Nat.reduceMul, reduceCtorEq, List.reduceReplicate, go_sem]
  apply callK_of (c_impl_InRange _ _ _)
  simp only [↓bk_bind, ↓bk_map, ↓bk_ite, ↓bk_some, ↓reduceIte, Nat.reduceEqDiff, Nat.reduceLT, Nat.reduceLeDiff, Nat.reduceAdd, Nat.reduceMul, reduceCtorEq, List.reduceReplicate, go_sem]
  try rfl
def m_spec_Asks : MC :=
(.seq (pr [.mv 2 (.c (.bool false))] [0])
(.seq (pr [.mv 3 (.s 0), .call 4 [] (.f n_spec_l1In) [.s 3, .c (.int .i64 1), .c (.int .i64 4)], .mv 2 (.s 4)] [2])
.ret))
theorem c_spec_Asks (k : Int) : Ctr Tryz.prog n_spec_Asks [aI k] [rB (asks k)] := by
  refine ctr_at (M := m_spec_Asks) (m := 0) (n := 5) (res := [(.tmp 2, [false])]) hmix Tryz.func187 rfl (by kernel_rfl) rfl (by kernel_rfl) (by kernel_rfl) (Nat.le_of_ble_eq_true rfl) ?_; unfold m_spec_Asks
  intro hb
  clear hb
  simp only [↓bk_bind, ↓bk_map, ↓bk_ite, ↓bk_some, ↓reduceIte, Nat.reduceEqDiff, Nat.reduceLT, Nat.reduceLeDiff, Nat.reduceAdd, Nat.reduceMul, reduceCtorEq, List.reduceReplicate, go_sem]
  apply callK_of (c_spec_l1In _ _ _)
  simp only [↓bk_bind, ↓bk_map, ↓bk_ite, ↓bk_some, ↓reduceIte, Nat.reduceEqDiff, Nat.reduceLT, Nat.reduceLeDiff, Nat.reduceAdd, Nat.reduceMul, reduceCtorEq, List.reduceReplicate, go_sem]
  try rfl
def entOk (e : GEntry) : Bool := asks e.Kind && (decide (0 ≤ e.Value ∧ e.Value ≤ 999) && (if e.Kind = 1 then isAddr e.Address else noAddr e.Address))
def entsOk (l : List GEntry) : Bool := fewAll 16 entOk l
def m_impl_AreEntries_1 : MC :=
(.seq (pr [.box 1 0 (.s 0), .mv 2 (.c (.bool false))] [1])
(.seq (.seq (pr [.fld 3 (.s 1) 0, .load 4 false 1 (.s 3), .bin 5 false .eql (.s 4) (.c (.int .i64 1))] [1,5])
(.cond (.s 5) (.seq (.reg [{ o := .fld 6 (.s 1) 1 }, { o := .load 7 true 3 (.s 6) }, { o := .call 8 [] (.f n_impl_IsAddress) [.s 7] }, { o := .un 9 .not (.s 8) }, { o := .mv 10 (.s 9) }, { o := .fld 11 (.s 1) 4, g := some (10, false) }, { o := .load 12 false 1 (.s 11), g := some (10, false) }, { o := .call 13 [] (.f n_impl_InRange) [.s 12, .c (.int .i64 0), .c (.int .i64 999)], g := some (10, false) }, { o := .un 14 .not (.s 13), g := some (10, false) }, { o := .pick 15 (.s 10) (.c (.bool true)) (.s 14) }, { o := .mv 2 (.s 15) }] [2])
.ret) .skip))
(.seq (.reg [{ o := .fld 16 (.s 1) 0 }, { o := .load 17 false 1 (.s 16) }, { o := .call 18 [] (.f n_impl_Asks) [.s 17] }, { o := .un 19 .not (.s 18) }, { o := .mv 20 (.s 19) }, { o := .fld 21 (.s 1) 1, g := some (20, false) }, { o := .load 22 true 3 (.s 21), g := some (20, false) }, { o := .build 23 [.pl (.sc (.int .i64 0)), .pl (.sc (.int .i64 0)), .pl (.sc (.int .i64 0))] [], g := some (20, false) }, { o := .eqA 24 true [.i .i64, .i .i64, .i .i64] (.s 22) (.s 23), g := some (20, false) }, { o := .pick 25 (.s 20) (.c (.bool true)) (.s 24) }, { o := .mv 26 (.s 25) }, { o := .fld 27 (.s 1) 4, g := some (26, false) }, { o := .load 28 false 1 (.s 27), g := some (26, false) }, { o := .call 29 [] (.f n_impl_InRange) [.s 28, .c (.int .i64 0), .c (.int .i64 999)], g := some (26, false) }, { o := .un 30 .not (.s 29), g := some (26, false) }, { o := .pick 31 (.s 26) (.c (.bool true)) (.s 30) }, { o := .mv 2 (.s 31) }] [2])
.ret)))
theorem c_impl_AreEntries_1 (e : GEntry) : Ctr Tryz.prog n_impl_AreEntries_1 [aS e.enc] [rB (!entOk e)] := by
  refine ctr_at (M := m_impl_AreEntries_1) (m := 1) (n := 32) (res := [(.tmp 2, [false])]) hmix Tryz.func210 rfl (by kernel_rfl) rfl (by kernel_rfl) (by kernel_rfl) (Nat.le_of_ble_eq_true rfl) ?_; unfold m_impl_AreEntries_1
  intro hb
  clear hb
  simp only [↓bk_bind, ↓bk_map, ↓bk_ite, ↓bk_some, ↓reduceIte, Nat.reduceEqDiff, Nat.reduceLT, Nat.reduceLeDiff, Nat.reduceAdd, Nat.reduceMul, reduceCtorEq, List.reduceReplicate, go_sem]
  repeat' first
    | (refine And.intro ?_ ?_ <;> intro h)
    | (apply callK_of (c_impl_IsAddress _); simp only [↓bk_bind, ↓bk_map, ↓bk_ite, ↓bk_some, ↓reduceIte, Nat.reduceEqDiff, Nat.reduceLT, Nat.reduceLeDiff, Nat.reduceAdd, Nat.reduceMul, reduceCtorEq, List.reduceReplicate, go_sem])
    | (apply callK_of (c_impl_Asks _); simp only [↓bk_bind, ↓bk_map, ↓bk_ite, ↓bk_some, ↓reduceIte, Nat.reduceEqDiff, Nat.reduceLT, Nat.reduceLeDiff, Nat.reduceAdd, Nat.reduceMul, reduceCtorEq, List.reduceReplicate, go_sem])
    | (apply callK_of (c_impl_InRange _ _ _); simp only [↓bk_bind, ↓bk_map, ↓bk_ite, ↓bk_some, ↓reduceIte, Nat.reduceEqDiff, Nat.reduceLT, Nat.reduceLeDiff, Nat.reduceAdd, Nat.reduceMul, reduceCtorEq, List.reduceReplicate, go_sem])
  all_goals (simp_all [entOk, asks, noAddr]; try omega)
def m_impl_AreEntries : MC :=
(.seq (pr [.mv 2 (.c (.bool false))] [0])
(.seq (.reg [{ o := .mv 3 (.s 0) }, { o := .len 4 false (.s 3) }, { o := .bin 5 false .leq (.s 4) (.c (.int .i64 16)) }, { o := .mv 6 (.s 5) }, { o := .mv 7 (.s 0), g := some (6, true) }, { o := .call 8 [] (.f n_slices_ContainsFunc_impl_Entry_impl_Entry) [.s 7, .f n_impl_AreEntries_1], g := some (6, true) }, { o := .un 9 .not (.s 8), g := some (6, true) }, { o := .pick 10 (.s 6) (.s 9) (.c (.bool false)) }, { o := .mv 2 (.s 10) }] [2])
.ret))
theorem c_impl_AreEntries (l : List GEntry) : Ctr Tryz.prog n_impl_AreEntries [aL 5 (l.map GEntry.enc)] [rB (entsOk l)] := by
  refine ctr_at (M := m_impl_AreEntries) (m := 0) (n := 11) (res := [(.tmp 2, [false])]) hmix Tryz.func172 rfl (by kernel_rfl) rfl (by kernel_rfl) (by kernel_rfl) (Nat.le_of_ble_eq_true rfl) ?_; unfold m_impl_AreEntries
  intro hb
  clear hb
  simp only [↓bk_bind, ↓bk_map, ↓bk_ite, ↓bk_some, ↓reduceIte, Nat.reduceEqDiff, Nat.reduceLT, Nat.reduceLeDiff, Nat.reduceAdd, Nat.reduceMul, reduceCtorEq, List.reduceReplicate, go_sem]
  refine ⟨fun h => ?_, fun h => fewAll_no (by omega)⟩
  refine callK_of (c_slices_ContainsFunc_Entry l _ [] (fun o => !entOk o) fun o _ => c_impl_AreEntries_1 o) ?_
  simp only [↓bk_bind, ↓bk_map, ↓bk_ite, ↓bk_some, ↓reduceIte, Nat.reduceEqDiff, Nat.reduceLT, Nat.reduceLeDiff, Nat.reduceAdd, Nat.reduceMul, reduceCtorEq, List.reduceReplicate, go_sem]
  exact fewAll_yes (by omega)
def m_spec_AreEntries : MC :=
(.seq (pr [.mv 2 (.c (.bool false))] [0])
(.seq (.seq (pr [.mv 3 (.c (.int .i64 0))] [0,3])
(.block 0 (.loop ([0,3], [0]) (.seq (.seq (pr [.mv 5 (.s 3), .mv 6 (.s 0), .len 7 false (.s 6), .bin 8 false .lss (.s 5) (.s 7)] [0,3,8])
(.cond (.s 8) .skip (.exit 0)))
(.seq (.block 1 (.seq (pr [.mv 11 (.s 0), .mv 12 (.s 3), .idx 13 5 (.s 11) (.s 12), .load 14 true 5 (.s 13), .alloc 4 0 [.pl (.sc (.int .i64 0)), .pl (.sc (.int .i64 0)), .pl (.sc (.int .i64 0)), .pl (.sc (.int .i64 0)), .pl (.sc (.int .i64 0))], .store 5 (.s 4) (.s 14)] [0,3,4])
(.seq (.reg [{ o := .fld 15 (.s 4) 0 }, { o := .load 16 false 1 (.s 15) }, { o := .call 17 [] (.f n_spec_Asks) [.s 16] }, { o := .un 18 .not (.s 17) }, { o := .mv 19 (.s 18) }, { o := .fld 20 (.s 4) 4, g := some (19, false) }, { o := .load 21 false 1 (.s 20), g := some (19, false) }, { o := .call 22 [] (.f n_spec_l1In) [.s 21, .c (.int .i64 0), .c (.int .i64 999)], g := some (19, false) }, { o := .un 23 .not (.s 22), g := some (19, false) }, { o := .pick 24 (.s 19) (.c (.bool true)) (.s 23) }, { o := .mv 25 (.s 24) }, { o := .fld 26 (.s 4) 0, g := some (25, false) }, { o := .load 27 false 1 (.s 26), g := some (25, false) }, { o := .bin 28 false .eql (.s 27) (.c (.int .i64 1)), g := some (25, false) }, { o := .mv 29 (.s 28), g := some (25, false) }, { o := .fld 30 (.s 4) 1, g := some (29, true) }, { o := .load 31 true 3 (.s 30), g := some (29, true) }, { o := .call 32 [] (.f n_spec_IsAddress) [.s 31], g := some (29, true) }, { o := .un 33 .not (.s 32), g := some (29, true) }, { o := .pick 34 (.s 29) (.s 33) (.c (.bool false)), g := some (25, false) }, { o := .pick 35 (.s 25) (.c (.bool true)) (.s 34) }, { o := .mv 36 (.s 35) }, { o := .fld 37 (.s 4) 0, g := some (36, false) }, { o := .load 38 false 1 (.s 37), g := some (36, false) }, { o := .bin 39 false .neq (.s 38) (.c (.int .i64 1)), g := some (36, false) }, { o := .mv 40 (.s 39), g := some (36, false) }, { o := .fld 41 (.s 4) 1, g := some (40, true) }, { o := .load 42 true 3 (.s 41), g := some (40, true) }, { o := .build 43 [.pl (.sc (.int .i64 0)), .pl (.sc (.int .i64 0)), .pl (.sc (.int .i64 0))] [], g := some (40, true) }, { o := .eqA 44 true [.i .i64, .i .i64, .i .i64] (.s 42) (.s 43), g := some (40, true) }, { o := .pick 45 (.s 40) (.s 44) (.c (.bool false)), g := some (36, false) }, { o := .pick 46 (.s 36) (.c (.bool true)) (.s 45) }] [0,3,46])
(.cond (.s 46) (.seq (pr [.mv 2 (.c (.bool false))] [2])
.ret) .skip))))
(pr [.mv 9 (.s 3), .bin 10 false .add (.s 9) (.c (.int .i64 1)), .mv 3 (.s 10)] [0,3]))))))
(.seq (pr [.mv 47 (.s 0), .len 48 false (.s 47), .bin 49 false .leq (.s 48) (.c (.int .i64 16)), .mv 2 (.s 49)] [2])
.ret)))
theorem c_spec_AreEntries (l : List GEntry) : Ctr Tryz.prog n_spec_AreEntries [aL 5 (l.map GEntry.enc)] [rB (entsOk l)] := by
  refine ctr_at (M := m_spec_AreEntries) (m := 1) (n := 50) (res := [(.tmp 2, [false])]) hmix Tryz.func129 rfl (by kernel_rfl) rfl (by kernel_rfl) (by kernel_rfl) (Nat.le_of_ble_eq_true rfl) ?_; unfold m_spec_AreEntries
  intro hb
  simp only [bdA, bdL, bdT, bdR, bdR_map, wfB_i64, wfB_bool, wfB_str, roomB, and_true, true_and, List.length_map] at hb
  have hl := hb.1
  clear hb
  simp only [↓bk_bind, ↓bk_map, ↓bk_ite, ↓bk_some, ↓reduceIte, Nat.reduceEqDiff, Nat.reduceLT, Nat.reduceLeDiff, Nat.reduceAdd, Nat.reduceMul, reduceCtorEq, List.reduceReplicate, go_sem]
  refine loopK_rng l (fun k => [(3, vI k)]) (fun k => []) (fun k => (l.take k).all entOk = true) hl ?_
  simp only [↓bk_bind, ↓bk_map, ↓bk_ite, ↓bk_some, ↓reduceIte, Nat.reduceEqDiff, Nat.reduceLT, Nat.reduceLeDiff, Nat.reduceAdd, Nat.reduceMul, reduceCtorEq, List.reduceReplicate, go_sem]
  refine ⟨?_, by simp, ?_, ?_⟩
  · simp only [↓bk_bind, ↓bk_map, ↓bk_ite, ↓bk_some, ↓reduceIte, Nat.reduceEqDiff, Nat.reduceLT, Nat.reduceLeDiff, Nat.reduceAdd, Nat.reduceMul, reduceCtorEq, List.reduceReplicate, go_sem]
  · intro k x hx hT h0 h1 hw
    have hy : entOk x = true → (l.take (k + 1)).all entOk = true := fun hn => all_step hx hT hn
    have hn : entOk x = false → false = entsOk l := fun hn => fewAll_at hx hn
    clear hT
    simp only [↓bk_bind, ↓bk_map, ↓bk_ite, ↓bk_some, ↓reduceIte, Nat.reduceEqDiff, Nat.reduceLT, Nat.reduceLeDiff, Nat.reduceAdd, Nat.reduceMul, reduceCtorEq, List.reduceReplicate, go_sem, bk_eq hx, h0, h1, hw]
    repeat' first
      | (refine And.intro ?_ ?_ <;> intro h)
      | (apply callK_of (c_spec_IsAddress _); simp only [↓bk_bind, ↓bk_map, ↓bk_ite, ↓bk_some, ↓reduceIte, Nat.reduceEqDiff, Nat.reduceLT, Nat.reduceLeDiff, Nat.reduceAdd, Nat.reduceMul, reduceCtorEq, List.reduceReplicate, go_sem, bk_eq hx, h0, h1, hw])
      | (apply callK_of (c_spec_Asks _); simp only [↓bk_bind, ↓bk_map, ↓bk_ite, ↓bk_some, ↓reduceIte, Nat.reduceEqDiff, Nat.reduceLT, Nat.reduceLeDiff, Nat.reduceAdd, Nat.reduceMul, reduceCtorEq, List.reduceReplicate, go_sem, bk_eq hx, h0, h1, hw])
      | (apply callK_of (c_spec_l1In _ _ _); simp only [↓bk_bind, ↓bk_map, ↓bk_ite, ↓bk_some, ↓reduceIte, Nat.reduceEqDiff, Nat.reduceLT, Nat.reduceLeDiff, Nat.reduceAdd, Nat.reduceMul, reduceCtorEq, List.reduceReplicate, go_sem, bk_eq hx, h0, h1, hw])
    all_goals first | (apply hy; clear hy hn hx hw; simp_all [entOk, noAddr]; done) | (apply hn; clear hy hn hx hw; simp_all [entOk, noAddr]; done) | (apply hn; clear hy hn hx hw; unfold entOk; rw [decide_eq_false (by assumption)]; simp; done)
  · intro h
    simp only [↓bk_bind, ↓bk_map, ↓bk_ite, ↓bk_some, ↓reduceIte, Nat.reduceEqDiff, Nat.reduceLT, Nat.reduceLeDiff, Nat.reduceAdd, Nat.reduceMul, reduceCtorEq, List.reduceReplicate, go_sem]
    rw [List.take_length] at h
    exact le_cast.trans (fewAll_end h)
def capOk (c : GCapture) : Bool := isAddr c.Address && (decide (0 ≤ c.Tick ∧ c.Tick ≤ 2000) && isRes c.Resource)
def capsOk (l : List GCapture) : Bool := fewAll 20 capOk l
end Go.Proofs.YtbnbgekjjbpljaaGreatR
namespace Go.Proofs.YtbnbgekjjbpljaaGreatR
open Go Go.RowKit Go.Proofs
set_option linter.unusedSimpArgs false
set_option linter.unusedVariables false
theorem addrB {x y : GAddress} : (x.Host == y.Host && (x.Path == y.Path && x.Query == y.Query)) = decide (x = y) := by
  rw [Bool.eq_iff_iff]; simp [GAddress.eqv]
def m_spec_Max : MC :=
(.seq (pr [.mv 4 (.c (.int .i64 0))] [0,1])
(.seq (.seq (pr [.mv 5 (.s 1), .mv 6 (.s 0), .bin 7 false .gtr (.s 5) (.s 6)] [0,1,7])
(.cond (.s 7) (.seq (pr [.mv 8 (.s 1), .mv 4 (.s 8)] [4])
.ret) .skip))
(.seq (pr [.mv 9 (.s 0), .mv 4 (.s 9)] [4])
.ret)))
theorem c_spec_Max (x y : Int) : Ctr Tryz.prog n_spec_Max [aI x, aI y] [rI (if y > x then y else x)] := by
  refine ctr_at (M := m_spec_Max) (m := 0) (n := 10) (res := [(.tmp 4, [false])]) hmix Tryz.func121 rfl (by kernel_rfl) rfl (by kernel_rfl) (by kernel_rfl) (Nat.le_of_ble_eq_true rfl) ?_; unfold m_spec_Max
  intro hb
  clear hb
  simp only [↓bk_bind, ↓bk_map, ↓bk_ite, ↓bk_some, ↓reduceIte, Nat.reduceEqDiff, Nat.reduceLT, Nat.reduceLeDiff, Nat.reduceAdd, Nat.reduceMul, reduceCtorEq, List.reduceReplicate, go_sem]
  refine ⟨fun h => ?_, fun h => ?_⟩
  · rw [if_pos (by omega)]
  · rw [if_neg (by omega)]
def m_spec_Min : MC :=
(.seq (pr [.mv 4 (.c (.int .i64 0))] [0,1])
(.seq (.seq (pr [.mv 5 (.s 1), .mv 6 (.s 0), .bin 7 false .lss (.s 5) (.s 6)] [0,1,7])
(.cond (.s 7) (.seq (pr [.mv 8 (.s 1), .mv 4 (.s 8)] [4])
.ret) .skip))
(.seq (pr [.mv 9 (.s 0), .mv 4 (.s 9)] [4])
.ret)))
theorem c_spec_Min (x y : Int) : Ctr Tryz.prog n_spec_Min [aI x, aI y] [rI (if y < x then y else x)] := by
  refine ctr_at (M := m_spec_Min) (m := 0) (n := 10) (res := [(.tmp 4, [false])]) hmix Tryz.func247 rfl (by kernel_rfl) rfl (by kernel_rfl) (by kernel_rfl) (Nat.le_of_ble_eq_true rfl) ?_; unfold m_spec_Min
  intro hb
  clear hb
  simp only [↓bk_bind, ↓bk_map, ↓bk_ite, ↓bk_some, ↓reduceIte, Nat.reduceEqDiff, Nat.reduceLT, Nat.reduceLeDiff, Nat.reduceAdd, Nat.reduceMul, reduceCtorEq, List.reduceReplicate, go_sem]
  refine ⟨fun h => ?_, fun h => ?_⟩
  · rw [if_pos (by omega)]
  · rw [if_neg (by omega)]
end Go.Proofs.YtbnbgekjjbpljaaGreatR
namespace Go.Proofs.YtbnbgekjjbpljaaGreatR
open Go Go.RowKit Go.Proofs
set_option linter.unusedSimpArgs false
set_option linter.unusedVariables false
def zeros (n : Nat) : List Int := List.replicate n 0
theorem zeros_snoc {k : Nat} : zeros (k + 1) = zeros k ++ [0] := by
  unfold zeros; rw [List.replicate_succ']
def st0 : GState := ⟨0, zeros 4, zeros 3, zeros 4⟩
def m_spec_l11Zeros : MC :=
(.seq (pr [.nilo 2 0 1] [0])
(.seq (pr [.lit 5 0 1 8 [], .mv 3 (.s 5)] [0,3])
(.seq (.seq (pr [.mv 4 (.c (.int .i64 0))] [0,3,4])
(.block 0 (.loop ([0,3,4], [1]) (.seq (.seq (pr [.mv 6 (.s 4), .mv 7 (.s 0), .bin 8 false .lss (.s 6) (.s 7)] [0,3,4,8])
(.cond (.s 8) .skip (.exit 0)))
(.seq (.block 1 (pr [.mv 11 (.s 3), .lit 12 1 1 8 [.c (.int .i64 0)], .app 13 0 1 8 (.s 11) (.s 12), .mv 3 (.s 13)] [0,3,4]))
(pr [.mv 9 (.s 4), .bin 10 false .add (.s 9) (.c (.int .i64 1)), .mv 4 (.s 10)] [0,3,4]))))))
(.seq (pr [.mv 14 (.s 3), .mv 2 (.s 14)] [2])
.ret))))
theorem c_spec_l11Zeros (n : Nat) (hn : n ≤ 4) : Ctr Tryz.prog n_spec_l11Zeros [aI n] [rL 1 ((zeros n).map encI)] := by
  refine ctr_at (M := m_spec_l11Zeros) (m := 2) (n := 15) (res := [(.tmp 2, [true])]) hmix Tryz.func245 rfl (by kernel_rfl) rfl (by kernel_rfl) (by kernel_rfl) (Nat.le_of_ble_eq_true rfl) ?_; unfold m_spec_l11Zeros
  intro hb
  clear hb
  simp only [↓bk_bind, ↓bk_map, ↓bk_ite, ↓bk_some, ↓reduceIte, Nat.reduceEqDiff, Nat.reduceLT, Nat.reduceLeDiff, Nat.reduceAdd, Nat.reduceMul, reduceCtorEq, List.reduceReplicate, go_sem]
  refine loopK_up (fun k : Nat => [(3, .val false [.ref 0 0 1 0 (zeros k).length]), (4, vI k)]) (fun k => [(0, ⟨0, .row true 1 ((zeros k).map encI)⟩)]) (fun k => k ≤ n) (fun k => n - k) 0 ?_
  simp only [↓bk_bind, ↓bk_map, ↓bk_ite, ↓bk_some, ↓reduceIte, Nat.reduceEqDiff, Nat.reduceLT, Nat.reduceLeDiff, Nat.reduceAdd, Nat.reduceMul, reduceCtorEq, List.reduceReplicate, go_sem]
  refine ⟨?_, Nat.zero_le _, ?_⟩
  · simp only [↓bk_bind, ↓bk_map, ↓bk_ite, ↓bk_some, ↓reduceIte, Nat.reduceEqDiff, Nat.reduceLT, Nat.reduceLeDiff, Nat.reduceAdd, Nat.reduceMul, reduceCtorEq, List.reduceReplicate, go_sem]
    exact ⟨rfl, rfl⟩
  · intro k hk
    have hzl : (zeros k).length = k := by simp [zeros]
    have hw1 : IntKind.i64.wrap ((k : Int) + 1) = ((k + 1 : Nat) : Int) := by rw [wI (by omega) (by omega)]; omega
    simp only [↓bk_bind, ↓bk_map, ↓bk_ite, ↓bk_some, ↓reduceIte, Nat.reduceEqDiff, Nat.reduceLT, Nat.reduceLeDiff, Nat.reduceAdd, Nat.reduceMul, reduceCtorEq, List.reduceReplicate, go_sem, hw1]
    refine ⟨fun hlt => ⟨by decide, ?_⟩, fun hge => ?_⟩
    · exact ⟨by simp only [roomB]; omega, k + 1, ⟨⟨by simp [zeros], rfl⟩, by rw [zeros_snoc]; simp [encI]⟩, by omega, by omega⟩
    · rw [show k = n by omega]
def m_spec_StartState : MC :=
(.seq (pr [.alloc 0 0 [.pl (.sc (.int .i64 0)), .emp 1, .emp 1, .emp 1]] [0])
(.seq (pr [.call 1 [1] (.f n_spec_l11Zeros) [.c (.int .i64 4)], .call 2 [2] (.f n_spec_l11Zeros) [.c (.int .i64 3)], .call 3 [3] (.f n_spec_l11Zeros) [.c (.int .i64 4)], .build 4 [.pl (.sc (.int .i64 0)), .emp 1, .emp 1, .emp 1] [(1, 1, .s 1), (2, 1, .s 2), (3, 1, .s 3)], .store 4 (.s 0) (.s 4)] [0])
.ret))
theorem c_spec_StartState : Ctr Tryz.prog n_spec_StartState [] [rS st0.enc] := by
  refine ctr_at (M := m_spec_StartState) (m := 4) (n := 5) (res := [(.cell 0 true 4, [false, true, true, true])]) hmix Tryz.func228 rfl (by kernel_rfl) rfl (by kernel_rfl) (by kernel_rfl) (Nat.le_of_ble_eq_true rfl) ?_; unfold m_spec_StartState
  intro hb
  clear hb
  simp only [↓bk_bind, ↓bk_map, ↓bk_ite, ↓bk_some, ↓reduceIte, Nat.reduceEqDiff, Nat.reduceLT, Nat.reduceLeDiff, Nat.reduceAdd, Nat.reduceMul, reduceCtorEq, List.reduceReplicate, go_sem]
  apply callK_of (c_spec_l11Zeros 4 (by omega))
  simp only [↓bk_bind, ↓bk_map, ↓bk_ite, ↓bk_some, ↓reduceIte, Nat.reduceEqDiff, Nat.reduceLT, Nat.reduceLeDiff, Nat.reduceAdd, Nat.reduceMul, reduceCtorEq, List.reduceReplicate, go_sem]
  try intros
  apply callK_of (c_spec_l11Zeros 3 (by omega))
  simp only [↓bk_bind, ↓bk_map, ↓bk_ite, ↓bk_some, ↓reduceIte, Nat.reduceEqDiff, Nat.reduceLT, Nat.reduceLeDiff, Nat.reduceAdd, Nat.reduceMul, reduceCtorEq, List.reduceReplicate, go_sem]
  try intros
  apply callK_of (c_spec_l11Zeros 4 (by omega))
  simp only [↓bk_bind, ↓bk_map, ↓bk_ite, ↓bk_some, ↓reduceIte, Nat.reduceEqDiff, Nat.reduceLT, Nat.reduceLeDiff, Nat.reduceAdd, Nat.reduceMul, reduceCtorEq, List.reduceReplicate, go_sem]
  try intros
  exact ⟨rfl, rfl, rfl, rfl⟩
def m_impl_StartState : MC :=
(.seq (pr [.alloc 0 0 [.pl (.sc (.int .i64 0)), .emp 1, .emp 1, .emp 1]] [0])
(.seq (.dreg [{ o := .mk 1 1 1 8 [.sc (.int .i64 0)] (.c (.int .i64 4)), hs := [2,3], ho := [2,3], ws := [1] }, { o := .mk 2 2 1 8 [.sc (.int .i64 0)] (.c (.int .i64 3)), hs := [1,3], ho := [1,3], ws := [2] }, { o := .mk 3 3 1 8 [.sc (.int .i64 0)] (.c (.int .i64 4)), hs := [1,2], ho := [1,2], ws := [3] }, { o := .build 4 [.pl (.sc (.int .i64 0)), .emp 1, .emp 1, .emp 1] [(1, 1, .s 1), (2, 1, .s 2), (3, 1, .s 3)], bf := [0,1,2] }, { o := .store 4 (.s 0) (.s 4), ws := [0,1,2,3], bf := [0,1,2,3] }] [0])
.ret))
theorem c_impl_StartState : Ctr Tryz.prog n_impl_StartState [] [rS st0.enc] := by
  refine ctr_at (M := m_impl_StartState) (m := 4) (n := 5) (res := [(.cell 0 true 4, [false, true, true, true])]) hmix Tryz.func232 rfl (by kernel_rfl) rfl (by kernel_rfl) (by kernel_rfl) (Nat.le_of_ble_eq_true rfl) ?_; unfold m_impl_StartState
  intro hb
  clear hb
  simp only [↓bk_bind, ↓bk_map, ↓bk_ite, ↓bk_some, ↓reduceIte, Nat.reduceEqDiff, Nat.reduceLT, Nat.reduceLeDiff, Nat.reduceAdd, Nat.reduceMul, reduceCtorEq, List.reduceReplicate, go_sem]
  exact ⟨by simp only [roomB]; omega, by simp only [roomB]; omega, by simp only [roomB]; omega, rfl, rfl, rfl, rfl, rfl, rfl, rfl⟩
def m_impl_copyState : MC :=
(.seq (pr [.box 1 0 (.s 0), .alloc 2 1 [.pl (.sc (.int .i64 0)), .emp 1, .emp 1, .emp 1]] [1,2])
(.seq (.dreg [{ o := .fld 3 (.s 1) 0, hs := [5,6,7,8,9,10,11,12,13], ho := [2,3,4] }, { o := .load 4 false 1 (.s 3), hs := [5,6,7,8,9,10,11,12,13], ho := [2,3,4], bf := [0] }, { o := .fld 5 (.s 1) 1, hs := [3,4,8,9,11,12] }, { o := .load 6 false 1 (.s 5), hs := [3,4,8,9,11,12], bf := [2] }, { o := .call 7 [2] (.f n_slices_Clone_int_int) [.s 6], hs := [3,4,8,9,11,12], ws := [2], bf := [2,3] }, { o := .fld 8 (.s 1) 2, hs := [3,4,5,6,7,11,12], ho := [2] }, { o := .load 9 false 1 (.s 8), hs := [3,4,5,6,7,11,12], ho := [2], bf := [5] }, { o := .call 10 [3] (.f n_slices_Clone_int_int) [.s 9], hs := [3,4,11,12], ws := [3], bf := [2,3,4,5,6] }, { o := .fld 11 (.s 1) 3, hs := [3,4,5,6,7,8,9,10], ho := [2,3] }, { o := .load 12 false 1 (.s 11), hs := [3,4,5,6,7,8,9,10], ho := [2,3], bf := [8] }, { o := .call 13 [4] (.f n_slices_Clone_int_int) [.s 12], hs := [3,4], ws := [4], bf := [2,3,4,5,6,7,8,9] }, { o := .build 14 [.pl (.sc (.int .i64 0)), .emp 1, .emp 1, .emp 1] [(0, 1, .s 4), (1, 1, .s 7), (2, 1, .s 10), (3, 1, .s 13)], bf := [0,1,2,3,4,5,6,7,8,9,10] }, { o := .store 4 (.s 2) (.s 14), ws := [1,2,3,4], bf := [0,1,2,3,4,5,6,7,8,9,10,11] }] [2])
.ret))
theorem c_impl_copyState (s : GState) (hs : s.size ≤ 1073741824) : Ctr Tryz.prog n_impl_copyState [aS s.enc] [rS s.enc] := by
  refine ctr_at (M := m_impl_copyState) (m := 5) (n := 15) (res := [(.cell 2 true 4, [false, true, true, true])]) hmix Tryz.func203 rfl (by kernel_rfl) rfl (by kernel_rfl) (by kernel_rfl) (Nat.le_of_ble_eq_true rfl) ?_; unfold m_impl_copyState
  intro hb
  clear hb
  simp only [GState.size] at hs
  simp only [↓bk_bind, ↓bk_map, ↓bk_ite, ↓bk_some, ↓reduceIte, Nat.reduceEqDiff, Nat.reduceLT, Nat.reduceLeDiff, Nat.reduceAdd, Nat.reduceMul, reduceCtorEq, List.reduceReplicate, go_sem]
  apply callK_of (c_slices_Clone_int s.Regs (by omega))
  simp only [↓bk_bind, ↓bk_map, ↓bk_ite, ↓bk_some, ↓reduceIte, Nat.reduceEqDiff, Nat.reduceLT, Nat.reduceLeDiff, Nat.reduceAdd, Nat.reduceMul, reduceCtorEq, List.reduceReplicate, go_sem]
  try intros
  apply callK_of (c_slices_Clone_int s.Slots (by omega))
  simp only [↓bk_bind, ↓bk_map, ↓bk_ite, ↓bk_some, ↓reduceIte, Nat.reduceEqDiff, Nat.reduceLT, Nat.reduceLeDiff, Nat.reduceAdd, Nat.reduceMul, reduceCtorEq, List.reduceReplicate, go_sem]
  try intros
  apply callK_of (c_slices_Clone_int s.Nodes (by omega))
  simp only [↓bk_bind, ↓bk_map, ↓bk_ite, ↓bk_some, ↓reduceIte, Nat.reduceEqDiff, Nat.reduceLT, Nat.reduceLeDiff, Nat.reduceAdd, Nat.reduceMul, reduceCtorEq, List.reduceReplicate, go_sem]
  try intros
  try trivial
def m_spec_l11Copy : MC :=
(.seq (pr [.box 1 0 (.s 0), .alloc 2 1 [.pl (.sc (.int .i64 0)), .emp 1, .emp 1, .emp 1]] [1,2])
(.seq (.dreg [{ o := .fld 3 (.s 1) 0, hs := [5,6,7,8,9,10,11,12,13,14,15,16], ho := [2,3,4] }, { o := .load 4 false 1 (.s 3), hs := [5,6,7,8,9,10,11,12,13,14,15,16], ho := [2,3,4], bf := [0] }, { o := .lit 5 2 1 8 [], hs := [3,4,6,7,9,10,11,13,14,15], ho := [3,4], ws := [2] }, { o := .fld 6 (.s 1) 1, hs := [3,4,5,9,10,11,13,14,15], ho := [2,3,4] }, { o := .load 7 false 1 (.s 6), hs := [3,4,5,9,10,11,13,14,15], ho := [2,3,4], bf := [3] }, { o := .app 8 2 1 8 (.s 5) (.s 7), hs := [3,4,9,10,11,13,14,15], ho := [3,4], ws := [2], bf := [2,3,4] }, { o := .lit 9 3 1 8 [], hs := [3,4,5,6,7,8,10,11,13,14,15], ho := [2,4], ws := [3] }, { o := .fld 10 (.s 1) 2, hs := [3,4,5,6,7,8,9,13,14,15], ho := [2,3,4] }, { o := .load 11 false 1 (.s 10), hs := [3,4,5,6,7,8,9,13,14,15], ho := [2,3,4], bf := [7] }, { o := .app 12 3 1 8 (.s 9) (.s 11), hs := [3,4,13,14,15], ho := [4], ws := [3], bf := [2,3,4,5,6,7,8] }, { o := .lit 13 4 1 8 [], hs := [3,4,5,6,7,8,9,10,11,12,14,15], ho := [2,3], ws := [4] }, { o := .fld 14 (.s 1) 3, hs := [3,4,5,6,7,8,9,10,11,12,13], ho := [2,3,4] }, { o := .load 15 false 1 (.s 14), hs := [3,4,5,6,7,8,9,10,11,12,13], ho := [2,3,4], bf := [11] }, { o := .app 16 4 1 8 (.s 13) (.s 15), hs := [3,4], ws := [4], bf := [2,3,4,5,6,7,8,9,10,11,12] }, { o := .build 17 [.pl (.sc (.int .i64 0)), .emp 1, .emp 1, .emp 1] [(0, 1, .s 4), (1, 1, .s 8), (2, 1, .s 12), (3, 1, .s 16)], bf := [0,1,2,3,4,5,6,7,8,9,10,11,12,13] }, { o := .store 4 (.s 2) (.s 17), ws := [1,2,3,4], bf := [0,1,2,3,4,5,6,7,8,9,10,11,12,13,14] }] [2])
.ret))
theorem c_spec_l11Copy (s : GState) (hs : s.size ≤ 1073741824) : Ctr Tryz.prog n_spec_l11Copy [aS s.enc] [rS s.enc] := by
  refine ctr_at (M := m_spec_l11Copy) (m := 5) (n := 18) (res := [(.cell 2 true 4, [false, true, true, true])]) hmix Tryz.func200 rfl (by kernel_rfl) rfl (by kernel_rfl) (by kernel_rfl) (Nat.le_of_ble_eq_true rfl) ?_; unfold m_spec_l11Copy
  intro hb
  clear hb
  simp only [GState.size] at hs
  simp only [↓bk_bind, ↓bk_map, ↓bk_ite, ↓bk_some, ↓reduceIte, Nat.reduceEqDiff, Nat.reduceLT, Nat.reduceLeDiff, Nat.reduceAdd, Nat.reduceMul, reduceCtorEq, List.reduceReplicate, go_sem, ↓flat_of (f := encI) (fun _ => rfl) s.Regs, ↓flat_of (f := encI) (fun _ => rfl) s.Slots, ↓flat_of (f := encI) (fun _ => rfl) s.Nodes]
  simp only [roomB]
  omega
def stOk (s : GState) : Bool := decide (0 ≤ s.Pc ∧ s.Pc ≤ 19) && (decide (s.Regs.length = 4 ∧ s.Slots.length = 3 ∧ s.Nodes.length = 4) && (allIn s.Regs 0 999 && (allIn s.Slots 0 999 && allIn s.Nodes 0 999)))
def m_spec_l11All : MC :=
(.seq (pr [.mv 4 (.c (.bool false))] [0,1])
(.seq (.seq (pr [.mv 5 (.c (.int .i64 0))] [0,1,5])
(.block 0 (.loop ([0,1,5], []) (.seq (.seq (pr [.mv 6 (.s 5), .mv 7 (.s 0), .len 8 false (.s 7), .bin 9 false .lss (.s 6) (.s 8)] [0,1,5,9])
(.cond (.s 9) .skip (.exit 0)))
(.seq (.block 1 (.seq (pr [.mv 12 (.s 0), .mv 13 (.s 5), .idx 14 1 (.s 12) (.s 13), .load 15 false 1 (.s 14), .call 16 [] (.f n_spec_l1In) [.s 15, .c (.int .i64 0), .c (.int .i64 999)], .un 17 .not (.s 16)] [0,1,5,17])
(.cond (.s 17) (.seq (pr [.mv 4 (.c (.bool false))] [4])
.ret) .skip)))
(pr [.mv 10 (.s 5), .bin 11 false .add (.s 10) (.c (.int .i64 1)), .mv 5 (.s 11)] [0,1,5]))))))
(.seq (pr [.mv 18 (.s 0), .len 19 false (.s 18), .mv 20 (.s 1), .bin 21 false .eql (.s 19) (.s 20), .mv 4 (.s 21)] [4])
.ret)))
theorem c_spec_l11All (l : List Int) (n : Nat) : Ctr Tryz.prog n_spec_l11All [aL 1 (l.map encI), aI n] [rB (decide (l.length = n) && allIn l 0 999)] := by
  refine ctr_at (M := m_spec_l11All) (m := 0) (n := 22) (res := [(.tmp 4, [false])]) hmix Tryz.func253 rfl (by kernel_rfl) rfl (by kernel_rfl) (by kernel_rfl) (Nat.le_of_ble_eq_true rfl) ?_; unfold m_spec_l11All
  intro hb
  simp only [bdA, bdL, bdT, bdR, bdR_map, wfB_i64, wfB_bool, wfB_str, roomB, and_true, true_and, List.length_map] at hb
  obtain ⟨⟨hl, -⟩, -⟩ := hb
  simp only [↓bk_bind, ↓bk_map, ↓bk_ite, ↓bk_some, ↓reduceIte, Nat.reduceEqDiff, Nat.reduceLT, Nat.reduceLeDiff, Nat.reduceAdd, Nat.reduceMul, reduceCtorEq, List.reduceReplicate, go_sem]
  refine loopK_rng l (fun k => [(5, vI k)]) (fun k => []) (fun k => ((l.take k).all fun x => decide (0 ≤ x ∧ x ≤ 999)) = true) hl ?_
  simp only [↓bk_bind, ↓bk_map, ↓bk_ite, ↓bk_some, ↓reduceIte, Nat.reduceEqDiff, Nat.reduceLT, Nat.reduceLeDiff, Nat.reduceAdd, Nat.reduceMul, reduceCtorEq, List.reduceReplicate, go_sem]
  refine ⟨?_, by simp, ?_, ?_⟩
  · simp only [↓bk_bind, ↓bk_map, ↓bk_ite, ↓bk_some, ↓reduceIte, Nat.reduceEqDiff, Nat.reduceLT, Nat.reduceLeDiff, Nat.reduceAdd, Nat.reduceMul, reduceCtorEq, List.reduceReplicate, go_sem]
  · intro k x hx h h0 h1 hw
    simp only [↓bk_bind, ↓bk_map, ↓bk_ite, ↓bk_some, ↓reduceIte, Nat.reduceEqDiff, Nat.reduceLT, Nat.reduceLeDiff, Nat.reduceAdd, Nat.reduceMul, reduceCtorEq, List.reduceReplicate, go_sem, bk_eq hx, h0, h1, hw]
    refine callK_of (c_spec_l1In _ _ _) ?_
    simp only [↓bk_bind, ↓bk_map, ↓bk_ite, ↓bk_some, ↓reduceIte, Nat.reduceEqDiff, Nat.reduceLT, Nat.reduceLeDiff, Nat.reduceAdd, Nat.reduceMul, reduceCtorEq, List.reduceReplicate, go_sem, hw]
    refine ⟨fun hn => ?_, fun hn => all_step hx h (by simpa using hn)⟩
    rw [show allIn l 0 999 = false from (all_not hx (by simpa using hn)).symm, Bool.and_false]
  · intro h
    simp only [↓bk_bind, ↓bk_map, ↓bk_ite, ↓bk_some, ↓reduceIte, Nat.reduceEqDiff, Nat.reduceLT, Nat.reduceLeDiff, Nat.reduceAdd, Nat.reduceMul, reduceCtorEq, List.reduceReplicate, go_sem]
    rw [List.take_length] at h
    rw [show allIn l 0 999 = true from h, Bool.and_true, Bool.eq_iff_iff]
    simp only [decide_eq_true_eq, beq_iff_eq]
    omega
def m_impl_IsState : MC :=
(.seq (pr [.box 1 0 (.s 0), .mv 2 (.c (.bool false))] [1])
(.seq (.reg [{ o := .fld 3 (.s 1) 0 }, { o := .load 4 false 1 (.s 3) }, { o := .call 5 [] (.f n_impl_InRange) [.s 4, .c (.int .i64 0), .c (.int .i64 19)] }, { o := .mv 6 (.s 5) }, { o := .fld 7 (.s 1) 1, g := some (6, true) }, { o := .load 8 false 1 (.s 7), g := some (6, true) }, { o := .len 9 false (.s 8), g := some (6, true) }, { o := .bin 10 false .eql (.s 9) (.c (.int .i64 4)), g := some (6, true) }, { o := .pick 11 (.s 6) (.s 10) (.c (.bool false)) }, { o := .mv 12 (.s 11) }, { o := .fld 13 (.s 1) 2, g := some (12, true) }, { o := .load 14 false 1 (.s 13), g := some (12, true) }, { o := .len 15 false (.s 14), g := some (12, true) }, { o := .bin 16 false .eql (.s 15) (.c (.int .i64 3)), g := some (12, true) }, { o := .pick 17 (.s 12) (.s 16) (.c (.bool false)) }, { o := .mv 18 (.s 17) }, { o := .fld 19 (.s 1) 3, g := some (18, true) }, { o := .load 20 false 1 (.s 19), g := some (18, true) }, { o := .len 21 false (.s 20), g := some (18, true) }, { o := .bin 22 false .eql (.s 21) (.c (.int .i64 4)), g := some (18, true) }, { o := .pick 23 (.s 18) (.s 22) (.c (.bool false)) }, { o := .mv 24 (.s 23) }, { o := .fld 25 (.s 1) 1, g := some (24, true) }, { o := .load 26 false 1 (.s 25), g := some (24, true) }, { o := .call 27 [] (.f n_impl_allIn) [.s 26, .c (.int .i64 0), .c (.int .i64 999)], g := some (24, true) }, { o := .pick 28 (.s 24) (.s 27) (.c (.bool false)) }, { o := .mv 29 (.s 28) }, { o := .fld 30 (.s 1) 2, g := some (29, true) }, { o := .load 31 false 1 (.s 30), g := some (29, true) }, { o := .call 32 [] (.f n_impl_allIn) [.s 31, .c (.int .i64 0), .c (.int .i64 999)], g := some (29, true) }, { o := .pick 33 (.s 29) (.s 32) (.c (.bool false)) }, { o := .mv 34 (.s 33) }, { o := .fld 35 (.s 1) 3, g := some (34, true) }, { o := .load 36 false 1 (.s 35), g := some (34, true) }, { o := .call 37 [] (.f n_impl_allIn) [.s 36, .c (.int .i64 0), .c (.int .i64 999)], g := some (34, true) }, { o := .pick 38 (.s 34) (.s 37) (.c (.bool false)) }, { o := .mv 2 (.s 38) }] [2])
.ret))
theorem c_impl_IsState (s : GState) : Ctr Tryz.prog n_impl_IsState [aS s.enc] [rB (stOk s)] := by
  refine ctr_at (M := m_impl_IsState) (m := 1) (n := 39) (res := [(.tmp 2, [false])]) hmix Tryz.func252 rfl (by kernel_rfl) rfl (by kernel_rfl) (by kernel_rfl) (Nat.le_of_ble_eq_true rfl) ?_; unfold m_impl_IsState
  intro hb
  clear hb
  simp only [↓bk_bind, ↓bk_map, ↓bk_ite, ↓bk_some, ↓reduceIte, Nat.reduceEqDiff, Nat.reduceLT, Nat.reduceLeDiff, Nat.reduceAdd, Nat.reduceMul, reduceCtorEq, List.reduceReplicate, go_sem]
  repeat' first
    | (refine And.intro ?_ ?_ <;> intro h)
    | (apply callK_of (c_impl_InRange _ _ _); simp only [↓bk_bind, ↓bk_map, ↓bk_ite, ↓bk_some, ↓reduceIte, Nat.reduceEqDiff, Nat.reduceLT, Nat.reduceLeDiff, Nat.reduceAdd, Nat.reduceMul, reduceCtorEq, List.reduceReplicate, go_sem])
    | (apply callK_of (c_impl_allIn _ _ _); simp only [↓bk_bind, ↓bk_map, ↓bk_ite, ↓bk_some, ↓reduceIte, Nat.reduceEqDiff, Nat.reduceLT, Nat.reduceLeDiff, Nat.reduceAdd, Nat.reduceMul, reduceCtorEq, List.reduceReplicate, go_sem])
  all_goals (unfold stOk; by_cases c1 : s.Regs.length = 4 <;> by_cases c2 : s.Slots.length = 3 <;> by_cases c3 : s.Nodes.length = 4 <;> simp_all <;> omega)
def m_spec_IsState : MC :=
(.seq (pr [.box 1 0 (.s 0), .mv 2 (.c (.bool false))] [1])
(.seq (.reg [{ o := .fld 3 (.s 1) 0 }, { o := .load 4 false 1 (.s 3) }, { o := .call 5 [] (.f n_spec_l1In) [.s 4, .c (.int .i64 0), .c (.int .i64 19)] }, { o := .mv 6 (.s 5) }, { o := .fld 7 (.s 1) 1, g := some (6, true) }, { o := .load 8 false 1 (.s 7), g := some (6, true) }, { o := .call 9 [] (.f n_spec_l11All) [.s 8, .c (.int .i64 4)], g := some (6, true) }, { o := .pick 10 (.s 6) (.s 9) (.c (.bool false)) }, { o := .mv 11 (.s 10) }, { o := .fld 12 (.s 1) 2, g := some (11, true) }, { o := .load 13 false 1 (.s 12), g := some (11, true) }, { o := .call 14 [] (.f n_spec_l11All) [.s 13, .c (.int .i64 3)], g := some (11, true) }, { o := .pick 15 (.s 11) (.s 14) (.c (.bool false)) }, { o := .mv 16 (.s 15) }, { o := .fld 17 (.s 1) 3, g := some (16, true) }, { o := .load 18 false 1 (.s 17), g := some (16, true) }, { o := .call 19 [] (.f n_spec_l11All) [.s 18, .c (.int .i64 4)], g := some (16, true) }, { o := .pick 20 (.s 16) (.s 19) (.c (.bool false)) }, { o := .mv 2 (.s 20) }] [2])
.ret))
theorem c_spec_IsState (s : GState) : Ctr Tryz.prog n_spec_IsState [aS s.enc] [rB (stOk s)] := by
  refine ctr_at (M := m_spec_IsState) (m := 1) (n := 21) (res := [(.tmp 2, [false])]) hmix Tryz.func251 rfl (by kernel_rfl) rfl (by kernel_rfl) (by kernel_rfl) (Nat.le_of_ble_eq_true rfl) ?_; unfold m_spec_IsState
  intro hb
  clear hb
  simp only [↓bk_bind, ↓bk_map, ↓bk_ite, ↓bk_some, ↓reduceIte, Nat.reduceEqDiff, Nat.reduceLT, Nat.reduceLeDiff, Nat.reduceAdd, Nat.reduceMul, reduceCtorEq, List.reduceReplicate, go_sem]
  repeat' first
    | (refine And.intro ?_ ?_ <;> intro h)
    | (apply callK_of (c_spec_l1In _ _ _); simp only [↓bk_bind, ↓bk_map, ↓bk_ite, ↓bk_some, ↓reduceIte, Nat.reduceEqDiff, Nat.reduceLT, Nat.reduceLeDiff, Nat.reduceAdd, Nat.reduceMul, reduceCtorEq, List.reduceReplicate, go_sem])
    | (apply callK_of (c_spec_l11All s.Regs 4); simp only [↓bk_bind, ↓bk_map, ↓bk_ite, ↓bk_some, ↓reduceIte, Nat.reduceEqDiff, Nat.reduceLT, Nat.reduceLeDiff, Nat.reduceAdd, Nat.reduceMul, reduceCtorEq, List.reduceReplicate, go_sem])
    | (apply callK_of (c_spec_l11All s.Slots 3); simp only [↓bk_bind, ↓bk_map, ↓bk_ite, ↓bk_some, ↓reduceIte, Nat.reduceEqDiff, Nat.reduceLT, Nat.reduceLeDiff, Nat.reduceAdd, Nat.reduceMul, reduceCtorEq, List.reduceReplicate, go_sem])
    | (apply callK_of (c_spec_l11All s.Nodes 4); simp only [↓bk_bind, ↓bk_map, ↓bk_ite, ↓bk_some, ↓reduceIte, Nat.reduceEqDiff, Nat.reduceLT, Nat.reduceLeDiff, Nat.reduceAdd, Nat.reduceMul, reduceCtorEq, List.reduceReplicate, go_sem])
  all_goals (unfold stOk; by_cases c1 : s.Regs.length = 4 <;> by_cases c2 : s.Slots.length = 3 <;> by_cases c3 : s.Nodes.length = 4 <;> simp_all <;> omega)
end Go.Proofs.YtbnbgekjjbpljaaGreatR
namespace Go.Proofs.YtbnbgekjjbpljaaGreatR
open Go Go.RowKit Go.Proofs
set_option linter.unusedSimpArgs false
set_option linter.unusedVariables false
def canDo (l : List GOp) (s : GState) : Bool := scriptOk l && (stOk s && decide (s.Pc < l.length))
def zAt (l : List Int) (i : Int) : Int := (l[i.toNat]?).getD 0
def opAt (l : List GOp) (i : Int) : GOp := (l[i.toNat]?).getD ⟨0, 0, 0, 0⟩
theorem zAt_of {l : List Int} {i : Nat} {x : Int} (h : l[i]? = some x) : zAt l i = x := by simp [zAt, h]
structure Doing (l : List GOp) (s : GState) (k : Nat) (o : GOp) : Prop where
  pc : s.Pc = k
  op : l[k]? = some o
  at_ : opAt l s.Pc = o
  ok : opOk o = true
  lt : k < l.length
  few : l.length ≤ 16
  regs : s.Regs.length = 4
  slots : s.Slots.length = 3
  nodes : s.Nodes.length = 4
  rin : ∀ (i : Nat) (x : Int), s.Regs[i]? = some x → 0 ≤ x ∧ x ≤ 999
  sin : ∀ (i : Nat) (x : Int), s.Slots[i]? = some x → 0 ≤ x ∧ x ≤ 999
  nin : ∀ (i : Nat) (x : Int), s.Nodes[i]? = some x → 0 ≤ x ∧ x ≤ 999
theorem allIn_at {l : List Int} {a b : Int} (h : allIn l a b = true) (i : Nat) (x : Int) (hx : l[i]? = some x) : a ≤ x ∧ x ≤ b := by
  have := List.all_eq_true.1 h x (at_mem hx)
  simpa using this
theorem canDo_out {l : List GOp} {s : GState} (h : canDo l s = true) : ∃ k o, Doing l s k o := by
  simp only [canDo, scriptOk, fewAll, stOk, Bool.and_eq_true, decide_eq_true_eq] at h
  obtain ⟨⟨h1, h2⟩, ⟨⟨h3, h4⟩, ⟨h5, h6, h7⟩, h8, h9, h10⟩, h11⟩ := h
  obtain ⟨k, hk⟩ := Int.eq_ofNat_of_zero_le h3
  obtain ⟨o, ho⟩ := at_some (show k < l.length by omega)
  exact ⟨k, o, hk, ho, by simp [opAt, hk, ho], List.all_eq_true.1 h2 o (at_mem ho), by omega, h1, h5, h6, h7, allIn_at h8, allIn_at h9, allIn_at h10⟩
theorem opOk_cases {o : GOp} (h : opOk o = true) : ∃ i : Nat, i < 4 ∧ o.A = i ∧ (
    (o.Kind = 5 ∧ ∃ j m : Nat, j < 4 ∧ m < 4 ∧ o.B = j ∧ o.C = m) ∨ (o.Kind = 6 ∧ ∃ j : Nat, j < 4 ∧ o.B = j) ∨ (o.Kind = 7 ∧ 1 ≤ o.B ∧ o.B ≤ 3) ∨
    (o.Kind = 8 ∧ ∃ j : Nat, j < 3 ∧ o.B = j) ∨ (o.Kind = 9 ∧ ∃ j : Nat, j < 3 ∧ o.B = j) ∨ (1 ≤ o.Kind ∧ o.Kind ≤ 4)) := by
  simp only [opOk, decide_eq_true_eq] at h
  obtain ⟨⟨h1, h2⟩, h⟩ := h
  refine ⟨o.A.toNat, by omega, by omega, ?_⟩
  rcases h with h | h | ⟨h, h3, h4⟩ | ⟨h, h3, h4⟩ | h | ⟨h, h3, h4⟩
  · omega
  · omega
  · exact .inl ⟨h, o.B.toNat, o.C.toNat, by omega, by omega, by omega, by omega⟩
  · exact .inr (.inl ⟨h, o.B.toNat, by omega, by omega⟩)
  · omega
  · rcases h with h | h
    · exact .inr (.inr (.inr (.inl ⟨h, o.B.toNat, by omega, by omega⟩)))
    · exact .inr (.inr (.inr (.inr (.inl ⟨h, o.B.toNat, by omega, by omega⟩))))
def m_impl_canStep : MC :=
(.seq (pr [.box 3 0 (.s 1), .mv 4 (.c (.bool false))] [0,3])
(.seq (.reg [{ o := .mv 5 (.s 0) }, { o := .call 6 [] (.f n_impl_IsScript) [.s 5] }, { o := .mv 7 (.s 6) }, { o := .load 8 true 4 (.s 3), g := some (7, true) }, { o := .call 9 [] (.f n_impl_IsState) [.s 8], g := some (7, true) }, { o := .pick 10 (.s 7) (.s 9) (.c (.bool false)) }, { o := .mv 11 (.s 10) }, { o := .fld 12 (.s 3) 0, g := some (11, true) }, { o := .load 13 false 1 (.s 12), g := some (11, true) }, { o := .mv 14 (.s 0), g := some (11, true) }, { o := .len 15 false (.s 14), g := some (11, true) }, { o := .bin 16 false .lss (.s 13) (.s 15), g := some (11, true) }, { o := .pick 17 (.s 11) (.s 16) (.c (.bool false)) }, { o := .mv 4 (.s 17) }] [4])
.ret))
theorem c_impl_canStep (l : List GOp) (s : GState) : Ctr Tryz.prog n_impl_canStep [aL 4 (l.map GOp.enc), aS s.enc] [rB (canDo l s)] := by
  refine ctr_at (M := m_impl_canStep) (m := 1) (n := 18) (res := [(.tmp 4, [false])]) hmix Tryz.func248 rfl (by kernel_rfl) rfl (by kernel_rfl) (by kernel_rfl) (Nat.le_of_ble_eq_true rfl) ?_; unfold m_impl_canStep
  intro hb
  clear hb
  simp only [↓bk_bind, ↓bk_map, ↓bk_ite, ↓bk_some, ↓reduceIte, Nat.reduceEqDiff, Nat.reduceLT, Nat.reduceLeDiff, Nat.reduceAdd, Nat.reduceMul, reduceCtorEq, List.reduceReplicate, go_sem]
  repeat' first
    | (refine And.intro ?_ ?_ <;> intro h)
    | (apply callK_of (c_impl_IsScript _); simp only [↓bk_bind, ↓bk_map, ↓bk_ite, ↓bk_some, ↓reduceIte, Nat.reduceEqDiff, Nat.reduceLT, Nat.reduceLeDiff, Nat.reduceAdd, Nat.reduceMul, reduceCtorEq, List.reduceReplicate, go_sem])
    | (apply callK_of (c_impl_IsState s); simp only [↓bk_bind, ↓bk_map, ↓bk_ite, ↓bk_some, ↓reduceIte, Nat.reduceEqDiff, Nat.reduceLT, Nat.reduceLeDiff, Nat.reduceAdd, Nat.reduceMul, reduceCtorEq, List.reduceReplicate, go_sem])
  all_goals (unfold canDo; simp_all)
def m_spec_l11Can : MC :=
(.seq (pr [.box 3 0 (.s 1), .mv 4 (.c (.bool false))] [0,3])
(.seq (.reg [{ o := .mv 5 (.s 0) }, { o := .call 6 [] (.f n_spec_IsScript) [.s 5] }, { o := .mv 7 (.s 6) }, { o := .load 8 true 4 (.s 3), g := some (7, true) }, { o := .call 9 [] (.f n_spec_IsState) [.s 8], g := some (7, true) }, { o := .pick 10 (.s 7) (.s 9) (.c (.bool false)) }, { o := .mv 11 (.s 10) }, { o := .fld 12 (.s 3) 0, g := some (11, true) }, { o := .load 13 false 1 (.s 12), g := some (11, true) }, { o := .mv 14 (.s 0), g := some (11, true) }, { o := .len 15 false (.s 14), g := some (11, true) }, { o := .bin 16 false .lss (.s 13) (.s 15), g := some (11, true) }, { o := .pick 17 (.s 11) (.s 16) (.c (.bool false)) }, { o := .mv 4 (.s 17) }] [4])
.ret))
theorem c_spec_l11Can (l : List GOp) (s : GState) : Ctr Tryz.prog n_spec_l11Can [aL 4 (l.map GOp.enc), aS s.enc] [rB (canDo l s)] := by
  refine ctr_at (M := m_spec_l11Can) (m := 1) (n := 18) (res := [(.tmp 4, [false])]) hmix Tryz.func246 rfl (by kernel_rfl) rfl (by kernel_rfl) (by kernel_rfl) (Nat.le_of_ble_eq_true rfl) ?_; unfold m_spec_l11Can
  intro hb
  clear hb
  simp only [↓bk_bind, ↓bk_map, ↓bk_ite, ↓bk_some, ↓reduceIte, Nat.reduceEqDiff, Nat.reduceLT, Nat.reduceLeDiff, Nat.reduceAdd, Nat.reduceMul, reduceCtorEq, List.reduceReplicate, go_sem]
  repeat' first
    | (refine And.intro ?_ ?_ <;> intro h)
    | (apply callK_of (c_spec_IsScript _); simp only [↓bk_bind, ↓bk_map, ↓bk_ite, ↓bk_some, ↓reduceIte, Nat.reduceEqDiff, Nat.reduceLT, Nat.reduceLeDiff, Nat.reduceAdd, Nat.reduceMul, reduceCtorEq, List.reduceReplicate, go_sem])
    | (apply callK_of (c_spec_IsState s); simp only [↓bk_bind, ↓bk_map, ↓bk_ite, ↓bk_some, ↓reduceIte, Nat.reduceEqDiff, Nat.reduceLT, Nat.reduceLeDiff, Nat.reduceAdd, Nat.reduceMul, reduceCtorEq, List.reduceReplicate, go_sem])
  all_goals (unfold canDo; simp_all)
def wantOf (l : List GOp) (s : GState) : GWant := if canDo l s = true ∧ asks (opAt l s.Pc).Kind = true then ⟨(opAt l s.Pc).Kind, if (opAt l s.Pc).Kind = 1 then ⟨(opAt l s.Pc).B, (opAt l s.Pc).C, (zAt s.Regs (opAt l s.Pc).A).tmod 100⟩ else ⟨0, 0, 0⟩⟩ else ⟨0, ⟨0, 0, 0⟩⟩
theorem c100 : ¬ (100 : Int) = 0 := by decide
theorem c1000 : ¬ (1000 : Int) = 0 := by decide
def m_impl_WantOf : MC :=
(.seq (pr [.box 3 0 (.s 1), .alloc 4 1 [.pl (.sc (.int .i64 0)), .pl (.sc (.int .i64 0)), .pl (.sc (.int .i64 0)), .pl (.sc (.int .i64 0))]] [0,3,4])
(.seq (.seq (.reg [{ o := .mv 7 (.s 0) }, { o := .load 8 true 4 (.s 3) }, { o := .call 9 [] (.f n_impl_canStep) [.s 7, .s 8] }, { o := .un 10 .not (.s 9) }, { o := .mv 11 (.s 10) }, { o := .mv 12 (.s 0), g := some (11, false) }, { o := .fld 13 (.s 3) 0, g := some (11, false) }, { o := .load 14 false 1 (.s 13), g := some (11, false) }, { o := .idx 15 4 (.s 12) (.s 14), g := some (11, false) }, { o := .fld 16 (.s 15) 0, g := some (11, false) }, { o := .load 17 false 1 (.s 16), g := some (11, false) }, { o := .call 18 [] (.f n_impl_Asks) [.s 17], g := some (11, false) }, { o := .un 19 .not (.s 18), g := some (11, false) }, { o := .pick 20 (.s 11) (.c (.bool true)) (.s 19) }] [0,3,4,20])
(.cond (.s 20) (.seq (pr [.build 21 [.pl (.sc (.int .i64 0)), .pl (.sc (.int .i64 0)), .pl (.sc (.int .i64 0)), .pl (.sc (.int .i64 0))] [], .store 4 (.s 4) (.s 21)] [4])
.ret) .skip))
(.seq (pr [.mv 22 (.s 0), .fld 23 (.s 3) 0, .load 24 false 1 (.s 23), .idx 25 4 (.s 22) (.s 24), .load 26 true 4 (.s 25), .alloc 5 2 [.pl (.sc (.int .i64 0)), .pl (.sc (.int .i64 0)), .pl (.sc (.int .i64 0)), .pl (.sc (.int .i64 0))], .store 4 (.s 5) (.s 26)] [3,4,5])
(.seq (pr [.fld 27 (.s 5) 0, .load 28 false 1 (.s 27), .build 29 [.pl (.sc (.int .i64 0)), .pl (.sc (.int .i64 0)), .pl (.sc (.int .i64 0)), .pl (.sc (.int .i64 0))] [(0, 1, .s 28)], .alloc 6 3 [.pl (.sc (.int .i64 0)), .pl (.sc (.int .i64 0)), .pl (.sc (.int .i64 0)), .pl (.sc (.int .i64 0))], .store 4 (.s 6) (.s 29)] [3,4,5,6])
(.seq (.seq (pr [.fld 30 (.s 5) 0, .load 31 false 1 (.s 30), .bin 32 false .eql (.s 31) (.c (.int .i64 1))] [3,4,5,6,32])
(.cond (.s 32) (.dreg [{ o := .fld 33 (.s 5) 2, hs := [35,36,37,38,39,40,41,42,43] }, { o := .load 34 false 1 (.s 33), hs := [35,36,37,38,39,40,41,42,43], bf := [0] }, { o := .fld 35 (.s 5) 3, hs := [33,34,37,38,39,40,41,42,43] }, { o := .load 36 false 1 (.s 35), hs := [33,34,37,38,39,40,41,42,43], bf := [2] }, { o := .fld 37 (.s 3) 1, hs := [33,34,35,36,39,40] }, { o := .load 38 false 1 (.s 37), hs := [33,34,35,36,39,40], bf := [4] }, { o := .fld 39 (.s 5) 1, hs := [33,34,35,36,37,38] }, { o := .load 40 false 1 (.s 39), hs := [33,34,35,36,37,38], bf := [6] }, { o := .idx 41 1 (.s 38) (.s 40), hs := [33,34,35,36], bf := [4,5,6,7] }, { o := .load 42 false 1 (.s 41), hs := [33,34,35,36], bf := [4,5,6,7,8] }, { o := .bin 43 false .rem (.s 42) (.c (.int .i64 100)), hs := [33,34,35,36], bf := [4,5,6,7,8,9] }, { o := .build 44 [.pl (.sc (.int .i64 0)), .pl (.sc (.int .i64 0)), .pl (.sc (.int .i64 0))] [(0, 1, .s 34), (1, 1, .s 36), (2, 1, .s 43)], bf := [0,1,2,3,4,5,6,7,8,9,10] }, { o := .fld 45 (.s 6) 1, bf := [0,1,2,3,4,5,6,7,8,9,10,11] }, { o := .store 3 (.s 45) (.s 44), ws := [3], bf := [0,1,2,3,4,5,6,7,8,9,10,11,12] }] [4,6]) .skip))
(.seq (pr [.load 46 true 4 (.s 6), .store 4 (.s 4) (.s 46)] [4])
.ret))))))
theorem c_impl_WantOf (l : List GOp) (s : GState) : Ctr Tryz.prog n_impl_WantOf [aL 4 (l.map GOp.enc), aS s.enc] [rS (wantOf l s).enc] := by
  refine ctr_at (M := m_impl_WantOf) (m := 4) (n := 47) (res := [(.cell 4 true 4, [false, false, false, false])]) hmix Tryz.func234 rfl (by kernel_rfl) rfl (by kernel_rfl) (by kernel_rfl) (Nat.le_of_ble_eq_true rfl) ?_; unfold m_impl_WantOf
  intro hb
  clear hb
  simp only [↓bk_bind, ↓bk_map, ↓bk_ite, ↓bk_some, ↓reduceIte, Nat.reduceEqDiff, Nat.reduceLT, Nat.reduceLeDiff, Nat.reduceAdd, Nat.reduceMul, reduceCtorEq, List.reduceReplicate, go_sem]
  apply callK_of (c_impl_canStep l s)
  simp only [↓bk_bind, ↓bk_map, ↓bk_ite, ↓bk_some, ↓reduceIte, Nat.reduceEqDiff, Nat.reduceLT, Nat.reduceLeDiff, Nat.reduceAdd, Nat.reduceMul, reduceCtorEq, List.reduceReplicate, go_sem]
  refine And.intro ?_ ?_ <;> intro h
  · rw [wantOf, if_neg (by simp [h])]
    try exact ⟨rfl, rfl, rfl, rfl⟩
  · obtain ⟨k, o, D⟩ := canDo_out h
    obtain ⟨i, hi, hA, -⟩ := opOk_cases D.ok
    have hrl := D.regs
    obtain ⟨r, hr⟩ := at_some (show i < s.Regs.length by omega)
    have hp0 : (0 : Int) ≤ (k : Int) := by omega
    have hp1 : (k : Int) < l.length := by have := D.lt; omega
    have hi0 : (0 : Int) ≤ (i : Int) := by omega
    have hi1 : (i : Int) < s.Regs.length := by omega
    have hz : zAt s.Regs o.A = r := by rw [hA]; exact zAt_of hr
    have hW : wantOf l s = if asks o.Kind = true then ⟨o.Kind, if o.Kind = 1 then ⟨o.B, o.C, r.tmod 100⟩ else ⟨0, 0, 0⟩⟩ else ⟨0, ⟨0, 0, 0⟩⟩ := by
      simp only [wantOf, h, D.at_, hz, true_and]
    rw [hW]
    simp only [↓bk_bind, ↓bk_map, ↓bk_ite, ↓bk_some, ↓reduceIte, Nat.reduceEqDiff, Nat.reduceLT, Nat.reduceLeDiff, Nat.reduceAdd, Nat.reduceMul, reduceCtorEq, List.reduceReplicate, go_sem, D.pc, bk_eq D.op, hp0, hp1]
    apply callK_of (c_impl_Asks o.Kind)
    simp only [↓bk_bind, ↓bk_map, ↓bk_ite, ↓bk_some, ↓reduceIte, Nat.reduceEqDiff, Nat.reduceLT, Nat.reduceLeDiff, Nat.reduceAdd, Nat.reduceMul, reduceCtorEq, List.reduceReplicate, go_sem, D.pc, bk_eq D.op, hp0, hp1]
    refine And.intro ?_ ?_ <;> intro h2
    · rw [if_neg (by simp [h2])]
      try exact ⟨rfl, rfl, rfl, rfl⟩
    · rw [if_pos h2]
      refine And.intro ?_ ?_ <;> intro h3
      · simp only [↓bk_bind, ↓bk_map, ↓bk_ite, ↓bk_some, ↓reduceIte, Nat.reduceEqDiff, Nat.reduceLT, Nat.reduceLeDiff, Nat.reduceAdd, Nat.reduceMul, reduceCtorEq, List.reduceReplicate, go_sem, hA, bk_eq hr, hi0, hi1, h3, c100]
      · rw [if_neg h3]
        try exact ⟨rfl, rfl, rfl, rfl⟩
def m_spec_WantOf : MC :=
(.seq (pr [.box 3 0 (.s 1), .alloc 4 1 [.pl (.sc (.int .i64 0)), .pl (.sc (.int .i64 0)), .pl (.sc (.int .i64 0)), .pl (.sc (.int .i64 0))]] [0,3,4])
(.seq (.seq (.reg [{ o := .mv 7 (.s 0) }, { o := .load 8 true 4 (.s 3) }, { o := .call 9 [] (.f n_spec_l11Can) [.s 7, .s 8] }, { o := .un 10 .not (.s 9) }, { o := .mv 11 (.s 10) }, { o := .mv 12 (.s 0), g := some (11, false) }, { o := .fld 13 (.s 3) 0, g := some (11, false) }, { o := .load 14 false 1 (.s 13), g := some (11, false) }, { o := .idx 15 4 (.s 12) (.s 14), g := some (11, false) }, { o := .fld 16 (.s 15) 0, g := some (11, false) }, { o := .load 17 false 1 (.s 16), g := some (11, false) }, { o := .call 18 [] (.f n_spec_Asks) [.s 17], g := some (11, false) }, { o := .un 19 .not (.s 18), g := some (11, false) }, { o := .pick 20 (.s 11) (.c (.bool true)) (.s 19) }] [0,3,4,20])
(.cond (.s 20) (.seq (pr [.build 21 [.pl (.sc (.int .i64 0)), .pl (.sc (.int .i64 0)), .pl (.sc (.int .i64 0)), .pl (.sc (.int .i64 0))] [], .store 4 (.s 4) (.s 21)] [4])
.ret) .skip))
(.seq (pr [.mv 22 (.s 0), .fld 23 (.s 3) 0, .load 24 false 1 (.s 23), .idx 25 4 (.s 22) (.s 24), .load 26 true 4 (.s 25), .alloc 5 2 [.pl (.sc (.int .i64 0)), .pl (.sc (.int .i64 0)), .pl (.sc (.int .i64 0)), .pl (.sc (.int .i64 0))], .store 4 (.s 5) (.s 26)] [3,4,5])
(.seq (pr [.fld 27 (.s 5) 0, .load 28 false 1 (.s 27), .build 29 [.pl (.sc (.int .i64 0)), .pl (.sc (.int .i64 0)), .pl (.sc (.int .i64 0)), .pl (.sc (.int .i64 0))] [(0, 1, .s 28)], .alloc 6 3 [.pl (.sc (.int .i64 0)), .pl (.sc (.int .i64 0)), .pl (.sc (.int .i64 0)), .pl (.sc (.int .i64 0))], .store 4 (.s 6) (.s 29)] [3,4,5,6])
(.seq (.seq (pr [.fld 30 (.s 5) 0, .load 31 false 1 (.s 30), .bin 32 false .eql (.s 31) (.c (.int .i64 1))] [3,4,5,6,32])
(.cond (.s 32) (.dreg [{ o := .fld 33 (.s 5) 2, hs := [35,36,37,38,39,40,41,42,43] }, { o := .load 34 false 1 (.s 33), hs := [35,36,37,38,39,40,41,42,43], bf := [0] }, { o := .fld 35 (.s 5) 3, hs := [33,34,37,38,39,40,41,42,43] }, { o := .load 36 false 1 (.s 35), hs := [33,34,37,38,39,40,41,42,43], bf := [2] }, { o := .fld 37 (.s 3) 1, hs := [33,34,35,36,39,40] }, { o := .load 38 false 1 (.s 37), hs := [33,34,35,36,39,40], bf := [4] }, { o := .fld 39 (.s 5) 1, hs := [33,34,35,36,37,38] }, { o := .load 40 false 1 (.s 39), hs := [33,34,35,36,37,38], bf := [6] }, { o := .idx 41 1 (.s 38) (.s 40), hs := [33,34,35,36], bf := [4,5,6,7] }, { o := .load 42 false 1 (.s 41), hs := [33,34,35,36], bf := [4,5,6,7,8] }, { o := .bin 43 false .rem (.s 42) (.c (.int .i64 100)), hs := [33,34,35,36], bf := [4,5,6,7,8,9] }, { o := .build 44 [.pl (.sc (.int .i64 0)), .pl (.sc (.int .i64 0)), .pl (.sc (.int .i64 0))] [(0, 1, .s 34), (1, 1, .s 36), (2, 1, .s 43)], bf := [0,1,2,3,4,5,6,7,8,9,10] }, { o := .fld 45 (.s 6) 1, bf := [0,1,2,3,4,5,6,7,8,9,10,11] }, { o := .store 3 (.s 45) (.s 44), ws := [3], bf := [0,1,2,3,4,5,6,7,8,9,10,11,12] }] [4,6]) .skip))
(.seq (pr [.load 46 true 4 (.s 6), .store 4 (.s 4) (.s 46)] [4])
.ret))))))
theorem c_spec_WantOf (l : List GOp) (s : GState) : Ctr Tryz.prog n_spec_WantOf [aL 4 (l.map GOp.enc), aS s.enc] [rS (wantOf l s).enc] := by
  refine ctr_at (M := m_spec_WantOf) (m := 4) (n := 47) (res := [(.cell 4 true 4, [false, false, false, false])]) hmix Tryz.func230 rfl (by kernel_rfl) rfl (by kernel_rfl) (by kernel_rfl) (Nat.le_of_ble_eq_true rfl) ?_; unfold m_spec_WantOf
  intro hb
  clear hb
  simp only [↓bk_bind, ↓bk_map, ↓bk_ite, ↓bk_some, ↓reduceIte, Nat.reduceEqDiff, Nat.reduceLT, Nat.reduceLeDiff, Nat.reduceAdd, Nat.reduceMul, reduceCtorEq, List.reduceReplicate, go_sem]
  apply callK_of (c_spec_l11Can l s)
  simp only [↓bk_bind, ↓bk_map, ↓bk_ite, ↓bk_some, ↓reduceIte, Nat.reduceEqDiff, Nat.reduceLT, Nat.reduceLeDiff, Nat.reduceAdd, Nat.reduceMul, reduceCtorEq, List.reduceReplicate, go_sem]
  refine And.intro ?_ ?_ <;> intro h
  · rw [wantOf, if_neg (by simp [h])]
    try exact ⟨rfl, rfl, rfl, rfl⟩
  · obtain ⟨k, o, D⟩ := canDo_out h
    obtain ⟨i, hi, hA, -⟩ := opOk_cases D.ok
    have hrl := D.regs
    obtain ⟨r, hr⟩ := at_some (show i < s.Regs.length by omega)
    have hp0 : (0 : Int) ≤ (k : Int) := by omega
    have hp1 : (k : Int) < l.length := by have := D.lt; omega
    have hi0 : (0 : Int) ≤ (i : Int) := by omega
    have hi1 : (i : Int) < s.Regs.length := by omega
    have hz : zAt s.Regs o.A = r := by rw [hA]; exact zAt_of hr
    have hW : wantOf l s = if asks o.Kind = true then ⟨o.Kind, if o.Kind = 1 then ⟨o.B, o.C, r.tmod 100⟩ else ⟨0, 0, 0⟩⟩ else ⟨0, ⟨0, 0, 0⟩⟩ := by
      simp only [wantOf, h, D.at_, hz, true_and]
    rw [hW]
    simp only [↓bk_bind, ↓bk_map, ↓bk_ite, ↓bk_some, ↓reduceIte, Nat.reduceEqDiff, Nat.reduceLT, Nat.reduceLeDiff, Nat.reduceAdd, Nat.reduceMul, reduceCtorEq, List.reduceReplicate, go_sem, D.pc, bk_eq D.op, hp0, hp1]
    apply callK_of (c_spec_Asks o.Kind)
    simp only [↓bk_bind, ↓bk_map, ↓bk_ite, ↓bk_some, ↓reduceIte, Nat.reduceEqDiff, Nat.reduceLT, Nat.reduceLeDiff, Nat.reduceAdd, Nat.reduceMul, reduceCtorEq, List.reduceReplicate, go_sem, D.pc, bk_eq D.op, hp0, hp1]
    refine And.intro ?_ ?_ <;> intro h2
    · rw [if_neg (by simp [h2])]
      try exact ⟨rfl, rfl, rfl, rfl⟩
    · rw [if_pos h2]
      refine And.intro ?_ ?_ <;> intro h3
      · simp only [↓bk_bind, ↓bk_map, ↓bk_ite, ↓bk_some, ↓reduceIte, Nat.reduceEqDiff, Nat.reduceLT, Nat.reduceLeDiff, Nat.reduceAdd, Nat.reduceMul, reduceCtorEq, List.reduceReplicate, go_sem, hA, bk_eq hr, hi0, hi1, h3, c100]
      · rw [if_neg h3]
        try exact ⟨rfl, rfl, rfl, rfl⟩
end Go.Proofs.YtbnbgekjjbpljaaGreatR
namespace Go.Proofs.YtbnbgekjjbpljaaGreatR
open Go Go.RowKit Go.Proofs
set_option linter.unusedSimpArgs false
set_option linter.unusedVariables false
def clamp (v : Int) : Int := if 999 < (if 0 > v then 0 else v) then 999 else (if 0 > v then 0 else v)
theorem clamp_eq {v : Int} : (if (if v < 999 then v else 999) > 0 then (if v < 999 then v else 999) else 0) = clamp v := by
  unfold clamp; repeat' split
  all_goals omega
def pcTo (n : Int) : Int := IntKind.i64.wrap (n + 1)
def doOp (o : GOp) (s : GState) (v : Int) : GState :=
  if o.Kind = 5 then { s with Pc := pcTo s.Pc, Regs := s.Regs.set o.A.toNat ((IntKind.i64.wrap (zAt s.Regs o.B + zAt s.Regs o.C)).tmod 1000) }
  else if o.Kind = 6 then { s with Pc := pcTo s.Pc, Nodes := s.Nodes.set o.B.toNat (zAt s.Regs o.A) }
  else if o.Kind = 7 then { s with Pc := if (zAt s.Regs o.A).tmod 2 = 0 then IntKind.i64.wrap (pcTo s.Pc + o.B) else pcTo s.Pc }
  else if o.Kind = 8 then { s with Pc := pcTo s.Pc, Regs := s.Regs.set o.A.toNat (zAt s.Slots o.B) }
  else if o.Kind = 9 then { s with Pc := pcTo s.Pc, Slots := s.Slots.set o.B.toNat (zAt s.Regs o.A) }
  else { s with Pc := pcTo s.Pc, Regs := s.Regs.set o.A.toNat (clamp v) }
def stepTo (l : List GOp) (s : GState) (v : Int) : GState := if canDo l s then doOp (opAt l s.Pc) s v else s
theorem step_no {l : List GOp} {s : GState} {v : Int} (h : canDo l s = false) : stepTo l s v = s := by unfold stepTo; rw [h]; rfl
theorem step_yes {l : List GOp} {s : GState} {v : Int} {k : Nat} {o : GOp} (h : canDo l s = true) (D : Doing l s k o) : stepTo l s v = doOp o s v := by unfold stepTo; rw [h, D.at_]; rfl
theorem c2 : ¬ (2 : Int) = 0 := by decide
def m_impl_StepState : MC :=
(.seq (pr [.box 4 0 (.s 1), .alloc 6 1 [.pl (.sc (.int .i64 0)), .emp 1, .emp 1, .emp 1]] [0,2,4,6])
(.seq (pr [.load 9 true 4 (.s 4), .call 10 [2, 3, 4] (.f n_impl_copyState) [.s 9], .alloc 7 5 [.pl (.sc (.int .i64 0)), .emp 1, .emp 1, .emp 1], .store 4 (.s 7) (.s 10)] [0,2,4,6,7])
(.seq (.seq (pr [.mv 11 (.s 0), .load 12 true 4 (.s 4), .call 13 [] (.f n_impl_canStep) [.s 11, .s 12], .un 14 .not (.s 13)] [0,2,4,6,7,14])
(.cond (.s 14) (.seq (pr [.load 15 true 4 (.s 7), .store 4 (.s 6) (.s 15)] [6])
.ret) .skip))
(.seq (pr [.mv 16 (.s 0), .fld 17 (.s 4) 0, .load 18 false 1 (.s 17), .idx 19 4 (.s 16) (.s 18), .load 20 true 4 (.s 19), .alloc 8 6 [.pl (.sc (.int .i64 0)), .pl (.sc (.int .i64 0)), .pl (.sc (.int .i64 0)), .pl (.sc (.int .i64 0))], .store 4 (.s 8) (.s 20)] [2,4,6,7,8])
(.seq (pr [.fld 21 (.s 7) 0, .load 22 false 1 (.s 21), .bin 23 false .add (.s 22) (.c (.int .i64 1)), .fld 24 (.s 7) 0, .store 1 (.s 24) (.s 23)] [2,4,6,7,8])
(.seq (.seq (pr [.fld 25 (.s 8) 0, .load 26 false 1 (.s 25)] [2,4,6,7,8,26])
(.block 0 (.seq (pr [.bin 36 false .eql (.s 26) (.c (.int .i64 5)), .mv 35 (.s 36)] [2,4,6,7,8,26,35])
(.cond (.s 35) (.dreg [{ o := .fld 37 (.s 7) 1, hs := [39,40,41,42,43,44,45,46,47,48,49,50,51,52,53,54] }, { o := .load 38 false 1 (.s 37), hs := [39,40,41,42,43,44,45,46,47,48,49,50,51,52,53,54], bf := [0] }, { o := .fld 39 (.s 8) 1, hs := [37,38,41,42,43,44,45,46,47,48,49,50,51,52,53,54] }, { o := .load 40 false 1 (.s 39), hs := [37,38,41,42,43,44,45,46,47,48,49,50,51,52,53,54], bf := [2] }, { o := .fld 41 (.s 4) 1, hs := [37,38,39,40,43,44,47,48,49,50,51,52] }, { o := .load 42 false 1 (.s 41), hs := [37,38,39,40,43,44,47,48,49,50,51,52], bf := [4] }, { o := .fld 43 (.s 8) 2, hs := [37,38,39,40,41,42,47,48,49,50,51,52] }, { o := .load 44 false 1 (.s 43), hs := [37,38,39,40,41,42,47,48,49,50,51,52], bf := [6] }, { o := .idx 45 1 (.s 42) (.s 44), hs := [37,38,39,40,47,48,49,50,51,52], bf := [4,5,6,7] }, { o := .load 46 false 1 (.s 45), hs := [37,38,39,40,47,48,49,50,51,52], bf := [4,5,6,7,8] }, { o := .fld 47 (.s 4) 1, hs := [37,38,39,40,41,42,43,44,45,46,49,50] }, { o := .load 48 false 1 (.s 47), hs := [37,38,39,40,41,42,43,44,45,46,49,50], bf := [10] }, { o := .fld 49 (.s 8) 3, hs := [37,38,39,40,41,42,43,44,45,46,47,48] }, { o := .load 50 false 1 (.s 49), hs := [37,38,39,40,41,42,43,44,45,46,47,48], bf := [12] }, { o := .idx 51 1 (.s 48) (.s 50), hs := [37,38,39,40,41,42,43,44,45,46], bf := [10,11,12,13] }, { o := .load 52 false 1 (.s 51), hs := [37,38,39,40,41,42,43,44,45,46], bf := [10,11,12,13,14] }, { o := .bin 53 false .add (.s 46) (.s 52), hs := [37,38,39,40], bf := [4,5,6,7,8,9,10,11,12,13,14,15] }, { o := .bin 54 false .rem (.s 53) (.c (.int .i64 1000)), hs := [37,38,39,40], bf := [4,5,6,7,8,9,10,11,12,13,14,15,16] }, { o := .idx 55 1 (.s 38) (.s 40), bf := [0,1,2,3,4,5,6,7,8,9,10,11,12,13,14,15,16,17] }, { o := .store 1 (.s 55) (.s 54), ws := [2], bf := [0,1,2,3,4,5,6,7,8,9,10,11,12,13,14,15,16,17,18] }] [6,7]) (.seq (pr [.bin 57 false .eql (.s 26) (.c (.int .i64 6)), .mv 56 (.s 57)] [2,4,6,7,8,26,56])
(.cond (.s 56) (.dreg [{ o := .fld 58 (.s 7) 3, hs := [60,61,62,63,64,65,66,67] }, { o := .load 59 false 1 (.s 58), hs := [60,61,62,63,64,65,66,67], bf := [0] }, { o := .fld 60 (.s 8) 2, hs := [58,59,62,63,64,65,66,67] }, { o := .load 61 false 1 (.s 60), hs := [58,59,62,63,64,65,66,67], bf := [2] }, { o := .fld 62 (.s 4) 1, hs := [58,59,60,61,64,65] }, { o := .load 63 false 1 (.s 62), hs := [58,59,60,61,64,65], bf := [4] }, { o := .fld 64 (.s 8) 1, hs := [58,59,60,61,62,63] }, { o := .load 65 false 1 (.s 64), hs := [58,59,60,61,62,63], bf := [6] }, { o := .idx 66 1 (.s 63) (.s 65), hs := [58,59,60,61], bf := [4,5,6,7] }, { o := .load 67 false 1 (.s 66), hs := [58,59,60,61], bf := [4,5,6,7,8] }, { o := .idx 68 1 (.s 59) (.s 61), bf := [0,1,2,3,4,5,6,7,8,9] }, { o := .store 1 (.s 68) (.s 67), ws := [4], bf := [0,1,2,3,4,5,6,7,8,9,10] }] [6,7]) (.seq (pr [.bin 70 false .eql (.s 26) (.c (.int .i64 7)), .mv 69 (.s 70)] [2,4,6,7,8,26,69])
(.cond (.s 69) (.seq (pr [.fld 71 (.s 4) 1, .load 72 false 1 (.s 71), .fld 73 (.s 8) 1, .load 74 false 1 (.s 73), .idx 75 1 (.s 72) (.s 74), .load 76 false 1 (.s 75), .bin 77 false .rem (.s 76) (.c (.int .i64 2)), .bin 78 false .eql (.s 77) (.c (.int .i64 0))] [6,7,8,78])
(.cond (.s 78) (pr [.fld 79 (.s 7) 0, .load 80 false 1 (.s 79), .fld 81 (.s 8) 2, .load 82 false 1 (.s 81), .bin 83 false .add (.s 80) (.s 82), .fld 84 (.s 7) 0, .store 1 (.s 84) (.s 83)] [6,7]) .skip)) (.seq (pr [.bin 86 false .eql (.s 26) (.c (.int .i64 8)), .mv 85 (.s 86)] [2,4,6,7,8,26,85])
(.cond (.s 85) (.dreg [{ o := .fld 87 (.s 7) 1, hs := [89,90,91,92,93,94,95,96] }, { o := .load 88 false 1 (.s 87), hs := [89,90,91,92,93,94,95,96], bf := [0] }, { o := .fld 89 (.s 8) 1, hs := [87,88,91,92,93,94,95,96] }, { o := .load 90 false 1 (.s 89), hs := [87,88,91,92,93,94,95,96], bf := [2] }, { o := .fld 91 (.s 4) 2, hs := [87,88,89,90,93,94] }, { o := .load 92 false 1 (.s 91), hs := [87,88,89,90,93,94], bf := [4] }, { o := .fld 93 (.s 8) 2, hs := [87,88,89,90,91,92] }, { o := .load 94 false 1 (.s 93), hs := [87,88,89,90,91,92], bf := [6] }, { o := .idx 95 1 (.s 92) (.s 94), hs := [87,88,89,90], bf := [4,5,6,7] }, { o := .load 96 false 1 (.s 95), hs := [87,88,89,90], bf := [4,5,6,7,8] }, { o := .idx 97 1 (.s 88) (.s 90), bf := [0,1,2,3,4,5,6,7,8,9] }, { o := .store 1 (.s 97) (.s 96), ws := [2], bf := [0,1,2,3,4,5,6,7,8,9,10] }] [6,7]) (.seq (pr [.bin 99 false .eql (.s 26) (.c (.int .i64 9)), .mv 98 (.s 99)] [2,4,6,7,8,98])
(.cond (.s 98) (.dreg [{ o := .fld 100 (.s 7) 2, hs := [102,103,104,105,106,107,108,109] }, { o := .load 101 false 1 (.s 100), hs := [102,103,104,105,106,107,108,109], bf := [0] }, { o := .fld 102 (.s 8) 2, hs := [100,101,104,105,106,107,108,109] }, { o := .load 103 false 1 (.s 102), hs := [100,101,104,105,106,107,108,109], bf := [2] }, { o := .fld 104 (.s 4) 1, hs := [100,101,102,103,106,107] }, { o := .load 105 false 1 (.s 104), hs := [100,101,102,103,106,107], bf := [4] }, { o := .fld 106 (.s 8) 1, hs := [100,101,102,103,104,105] }, { o := .load 107 false 1 (.s 106), hs := [100,101,102,103,104,105], bf := [6] }, { o := .idx 108 1 (.s 105) (.s 107), hs := [100,101,102,103], bf := [4,5,6,7] }, { o := .load 109 false 1 (.s 108), hs := [100,101,102,103], bf := [4,5,6,7,8] }, { o := .idx 110 1 (.s 101) (.s 103), bf := [0,1,2,3,4,5,6,7,8,9] }, { o := .store 1 (.s 110) (.s 109), ws := [3], bf := [0,1,2,3,4,5,6,7,8,9,10] }] [6,7]) (pr [.fld 27 (.s 7) 1, .load 28 false 1 (.s 27), .fld 29 (.s 8) 1, .load 30 false 1 (.s 29), .mv 31 (.s 2), .mm 32 true (.s 31) (.c (.int .i64 0)), .mm 33 false (.s 32) (.c (.int .i64 999)), .idx 34 1 (.s 28) (.s 30), .store 1 (.s 34) (.s 33)] [6,7])))))))))))))
(.seq (pr [.load 111 true 4 (.s 7), .store 4 (.s 6) (.s 111)] [6])
.ret)))))))
set_option maxHeartbeats 1000000 in
theorem c_impl_StepState (l : List GOp) (s : GState) (v : Int) (hs : s.size ≤ 1073741824) : Ctr Tryz.prog n_impl_StepState [aL 4 (l.map GOp.enc), aS s.enc, aI v] [rS (stepTo l s v).enc] := by
  refine ctr_at (M := m_impl_StepState) (m := 7) (n := 112) (res := [(.cell 6 true 4, [false, true, true, true])]) hmix Tryz.func235 rfl (by kernel_rfl) rfl (by kernel_rfl) (by kernel_rfl) (Nat.le_of_ble_eq_true rfl) ?_; unfold m_impl_StepState
  intro hb
  clear hb
  simp only [↓bk_bind, ↓bk_map, ↓bk_ite, ↓bk_some, ↓reduceIte, Nat.reduceEqDiff, Nat.reduceLT, Nat.reduceLeDiff, Nat.reduceAdd, Nat.reduceMul, reduceCtorEq, List.reduceReplicate, go_sem]
  apply callK_of (c_impl_copyState s hs)
  simp only [↓bk_bind, ↓bk_map, ↓bk_ite, ↓bk_some, ↓reduceIte, Nat.reduceEqDiff, Nat.reduceLT, Nat.reduceLeDiff, Nat.reduceAdd, Nat.reduceMul, reduceCtorEq, List.reduceReplicate, go_sem]
  intros
  apply callK_of (c_impl_canStep l s)
  simp only [↓bk_bind, ↓bk_map, ↓bk_ite, ↓bk_some, ↓reduceIte, Nat.reduceEqDiff, Nat.reduceLT, Nat.reduceLeDiff, Nat.reduceAdd, Nat.reduceMul, reduceCtorEq, List.reduceReplicate, go_sem]
  refine And.intro ?_ ?_ <;> intro h
  · rw [step_no h]
    try exact ⟨rfl, rfl, rfl, rfl⟩
  · obtain ⟨k, o, D⟩ := canDo_out h
    rw [step_yes h D]
    obtain ⟨i, hi, hA, hk⟩ := opOk_cases D.ok
    have hrl := D.regs
    have hsl := D.slots
    have hnl := D.nodes
    obtain ⟨r, hr⟩ := at_some (show i < s.Regs.length by omega)
    have hp0 : (0 : Int) ≤ (k : Int) := by omega
    have hp1 : (k : Int) < l.length := by have := D.lt; omega
    have hi0 : (0 : Int) ≤ (i : Int) := by omega
    have hi1 : (i : Int) < s.Regs.length := by omega
    have hz : zAt s.Regs (i : Int) = r := zAt_of hr
    simp only [↓bk_bind, ↓bk_map, ↓bk_ite, ↓bk_some, ↓reduceIte, Nat.reduceEqDiff, Nat.reduceLT, Nat.reduceLeDiff, Nat.reduceAdd, Nat.reduceMul, reduceCtorEq, List.reduceReplicate, go_sem, D.pc, bk_eq D.op, hp0, hp1]
    rcases hk with ⟨hK, j, m, hj, hm, hB, hC⟩ | ⟨hK, j, hj, hB⟩ | ⟨hK, hB⟩ | ⟨hK, j, hj, hB⟩ | ⟨hK, j, hj, hB⟩ | hK
    · obtain ⟨rj, hrj⟩ := at_some (show j < s.Regs.length by omega)
      obtain ⟨rm, hrm⟩ := at_some (show m < s.Regs.length by omega)
      have hj0 : (0 : Int) ≤ (j : Int) := by omega
      have hj1 : (j : Int) < s.Regs.length := by omega
      have hm0 : (0 : Int) ≤ (m : Int) := by omega
      have hm1 : (m : Int) < s.Regs.length := by omega
      simp only [↓bk_bind, ↓bk_map, ↓bk_ite, ↓bk_some, ↓reduceIte, Nat.reduceEqDiff, Nat.reduceLT, Nat.reduceLeDiff, Nat.reduceAdd, Nat.reduceMul, reduceCtorEq, List.reduceReplicate, go_sem, hK, hA, hB, hC, hi0, hi1, hj0, hj1, hm0, hm1, bk_eq hrj, bk_eq hrm, bk_eq hr, Int.reduceEq, c1000]
      simp [doOp, hK, hA, hB, hC, pcTo, D.pc, zAt_of hrj, zAt_of hrm, encI, List.map_set]
    · obtain ⟨nj, hnj⟩ := at_some (show j < s.Nodes.length by omega)
      have hj0 : (0 : Int) ≤ (j : Int) := by omega
      have hj1 : (j : Int) < s.Nodes.length := by omega
      simp only [↓bk_bind, ↓bk_map, ↓bk_ite, ↓bk_some, ↓reduceIte, Nat.reduceEqDiff, Nat.reduceLT, Nat.reduceLeDiff, Nat.reduceAdd, Nat.reduceMul, reduceCtorEq, List.reduceReplicate, go_sem, hK, hA, hB, hi0, hi1, hj0, hj1, bk_eq hnj, bk_eq hr, Int.reduceEq]
      simp [doOp, hK, hA, hB, pcTo, D.pc, hz, encI, List.map_set]
    · simp only [↓bk_bind, ↓bk_map, ↓bk_ite, ↓bk_some, ↓reduceIte, Nat.reduceEqDiff, Nat.reduceLT, Nat.reduceLeDiff, Nat.reduceAdd, Nat.reduceMul, reduceCtorEq, List.reduceReplicate, go_sem, hK, hA, hi0, hi1, bk_eq hr, Int.reduceEq, c2]
      exact ⟨fun h7 => by simp [doOp, hK, hA, pcTo, D.pc, hz, h7], fun h7 => by simp [doOp, hK, hA, pcTo, D.pc, hz, h7]⟩
    · obtain ⟨sj, hsj⟩ := at_some (show j < s.Slots.length by omega)
      have hj0 : (0 : Int) ≤ (j : Int) := by omega
      have hj1 : (j : Int) < s.Slots.length := by omega
      simp only [↓bk_bind, ↓bk_map, ↓bk_ite, ↓bk_some, ↓reduceIte, Nat.reduceEqDiff, Nat.reduceLT, Nat.reduceLeDiff, Nat.reduceAdd, Nat.reduceMul, reduceCtorEq, List.reduceReplicate, go_sem, hK, hA, hB, hi0, hi1, hj0, hj1, bk_eq hsj, bk_eq hr, Int.reduceEq]
      simp [doOp, hK, hA, hB, pcTo, D.pc, zAt_of hsj, encI, List.map_set]
    · obtain ⟨sj, hsj⟩ := at_some (show j < s.Slots.length by omega)
      have hj0 : (0 : Int) ≤ (j : Int) := by omega
      have hj1 : (j : Int) < s.Slots.length := by omega
      simp only [↓bk_bind, ↓bk_map, ↓bk_ite, ↓bk_some, ↓reduceIte, Nat.reduceEqDiff, Nat.reduceLT, Nat.reduceLeDiff, Nat.reduceAdd, Nat.reduceMul, reduceCtorEq, List.reduceReplicate, go_sem, hK, hA, hB, hi0, hi1, hj0, hj1, bk_eq hsj, bk_eq hr, Int.reduceEq]
      simp [doOp, hK, hA, hB, pcTo, D.pc, hz, encI, List.map_set]
    · have k5 : ¬ o.Kind = 5 := by omega
      have k6 : ¬ o.Kind = 6 := by omega
      have k7 : ¬ o.Kind = 7 := by omega
      have k8 : ¬ o.Kind = 8 := by omega
      have k9 : ¬ o.Kind = 9 := by omega
      simp only [↓bk_bind, ↓bk_map, ↓bk_ite, ↓bk_some, ↓reduceIte, Nat.reduceEqDiff, Nat.reduceLT, Nat.reduceLeDiff, Nat.reduceAdd, Nat.reduceMul, reduceCtorEq, List.reduceReplicate, go_sem, k5, k6, k7, k8, k9, hA, hi0, hi1, bk_eq hr]
      simp [doOp, k5, k6, k7, k8, k9, hA, pcTo, D.pc, clamp, encI, List.map_set]
def m_spec_StepState : MC :=
(.seq (pr [.box 4 0 (.s 1), .alloc 6 1 [.pl (.sc (.int .i64 0)), .emp 1, .emp 1, .emp 1]] [0,2,4,6])
(.seq (pr [.load 9 true 4 (.s 4), .call 10 [2, 3, 4] (.f n_spec_l11Copy) [.s 9], .alloc 7 5 [.pl (.sc (.int .i64 0)), .emp 1, .emp 1, .emp 1], .store 4 (.s 7) (.s 10)] [0,2,4,6,7])
(.seq (.seq (pr [.mv 11 (.s 0), .load 12 true 4 (.s 4), .call 13 [] (.f n_spec_l11Can) [.s 11, .s 12], .un 14 .not (.s 13)] [0,2,4,6,7,14])
(.cond (.s 14) (.seq (pr [.load 15 true 4 (.s 7), .store 4 (.s 6) (.s 15)] [6])
.ret) .skip))
(.seq (pr [.mv 16 (.s 0), .fld 17 (.s 4) 0, .load 18 false 1 (.s 17), .idx 19 4 (.s 16) (.s 18), .load 20 true 4 (.s 19), .alloc 8 6 [.pl (.sc (.int .i64 0)), .pl (.sc (.int .i64 0)), .pl (.sc (.int .i64 0)), .pl (.sc (.int .i64 0))], .store 4 (.s 8) (.s 20)] [2,4,6,7,8])
(.seq (pr [.fld 21 (.s 4) 0, .load 22 false 1 (.s 21), .bin 23 false .add (.s 22) (.c (.int .i64 1)), .fld 24 (.s 7) 0, .store 1 (.s 24) (.s 23)] [2,4,6,7,8])
(.seq (.seq (pr [.fld 25 (.s 8) 0, .load 26 false 1 (.s 25)] [2,4,6,7,8,26])
(.block 0 (.seq (pr [.bin 36 false .eql (.s 26) (.c (.int .i64 5)), .mv 35 (.s 36)] [2,4,6,7,8,26,35])
(.cond (.s 35) (.dreg [{ o := .fld 37 (.s 7) 1, hs := [39,40,41,42,43,44,45,46,47,48,49,50,51,52,53,54] }, { o := .load 38 false 1 (.s 37), hs := [39,40,41,42,43,44,45,46,47,48,49,50,51,52,53,54], bf := [0] }, { o := .fld 39 (.s 8) 1, hs := [37,38,41,42,43,44,45,46,47,48,49,50,51,52,53,54] }, { o := .load 40 false 1 (.s 39), hs := [37,38,41,42,43,44,45,46,47,48,49,50,51,52,53,54], bf := [2] }, { o := .fld 41 (.s 4) 1, hs := [37,38,39,40,43,44,47,48,49,50,51,52] }, { o := .load 42 false 1 (.s 41), hs := [37,38,39,40,43,44,47,48,49,50,51,52], bf := [4] }, { o := .fld 43 (.s 8) 2, hs := [37,38,39,40,41,42,47,48,49,50,51,52] }, { o := .load 44 false 1 (.s 43), hs := [37,38,39,40,41,42,47,48,49,50,51,52], bf := [6] }, { o := .idx 45 1 (.s 42) (.s 44), hs := [37,38,39,40,47,48,49,50,51,52], bf := [4,5,6,7] }, { o := .load 46 false 1 (.s 45), hs := [37,38,39,40,47,48,49,50,51,52], bf := [4,5,6,7,8] }, { o := .fld 47 (.s 4) 1, hs := [37,38,39,40,41,42,43,44,45,46,49,50] }, { o := .load 48 false 1 (.s 47), hs := [37,38,39,40,41,42,43,44,45,46,49,50], bf := [10] }, { o := .fld 49 (.s 8) 3, hs := [37,38,39,40,41,42,43,44,45,46,47,48] }, { o := .load 50 false 1 (.s 49), hs := [37,38,39,40,41,42,43,44,45,46,47,48], bf := [12] }, { o := .idx 51 1 (.s 48) (.s 50), hs := [37,38,39,40,41,42,43,44,45,46], bf := [10,11,12,13] }, { o := .load 52 false 1 (.s 51), hs := [37,38,39,40,41,42,43,44,45,46], bf := [10,11,12,13,14] }, { o := .bin 53 false .add (.s 46) (.s 52), hs := [37,38,39,40], bf := [4,5,6,7,8,9,10,11,12,13,14,15] }, { o := .bin 54 false .rem (.s 53) (.c (.int .i64 1000)), hs := [37,38,39,40], bf := [4,5,6,7,8,9,10,11,12,13,14,15,16] }, { o := .idx 55 1 (.s 38) (.s 40), bf := [0,1,2,3,4,5,6,7,8,9,10,11,12,13,14,15,16,17] }, { o := .store 1 (.s 55) (.s 54), ws := [2], bf := [0,1,2,3,4,5,6,7,8,9,10,11,12,13,14,15,16,17,18] }] [6,7]) (.seq (pr [.bin 57 false .eql (.s 26) (.c (.int .i64 6)), .mv 56 (.s 57)] [2,4,6,7,8,26,56])
(.cond (.s 56) (.dreg [{ o := .fld 58 (.s 7) 3, hs := [60,61,62,63,64,65,66,67] }, { o := .load 59 false 1 (.s 58), hs := [60,61,62,63,64,65,66,67], bf := [0] }, { o := .fld 60 (.s 8) 2, hs := [58,59,62,63,64,65,66,67] }, { o := .load 61 false 1 (.s 60), hs := [58,59,62,63,64,65,66,67], bf := [2] }, { o := .fld 62 (.s 4) 1, hs := [58,59,60,61,64,65] }, { o := .load 63 false 1 (.s 62), hs := [58,59,60,61,64,65], bf := [4] }, { o := .fld 64 (.s 8) 1, hs := [58,59,60,61,62,63] }, { o := .load 65 false 1 (.s 64), hs := [58,59,60,61,62,63], bf := [6] }, { o := .idx 66 1 (.s 63) (.s 65), hs := [58,59,60,61], bf := [4,5,6,7] }, { o := .load 67 false 1 (.s 66), hs := [58,59,60,61], bf := [4,5,6,7,8] }, { o := .idx 68 1 (.s 59) (.s 61), bf := [0,1,2,3,4,5,6,7,8,9] }, { o := .store 1 (.s 68) (.s 67), ws := [4], bf := [0,1,2,3,4,5,6,7,8,9,10] }] [6,7]) (.seq (pr [.bin 70 false .eql (.s 26) (.c (.int .i64 7)), .mv 69 (.s 70)] [2,4,6,7,8,26,69])
(.cond (.s 69) (.seq (pr [.fld 71 (.s 4) 1, .load 72 false 1 (.s 71), .fld 73 (.s 8) 1, .load 74 false 1 (.s 73), .idx 75 1 (.s 72) (.s 74), .load 76 false 1 (.s 75), .bin 77 false .rem (.s 76) (.c (.int .i64 2)), .bin 78 false .eql (.s 77) (.c (.int .i64 0))] [4,6,7,8,78])
(.cond (.s 78) (pr [.fld 79 (.s 4) 0, .load 80 false 1 (.s 79), .bin 81 false .add (.s 80) (.c (.int .i64 1)), .fld 82 (.s 8) 2, .load 83 false 1 (.s 82), .bin 84 false .add (.s 81) (.s 83), .fld 85 (.s 7) 0, .store 1 (.s 85) (.s 84)] [6,7]) .skip)) (.seq (pr [.bin 87 false .eql (.s 26) (.c (.int .i64 8)), .mv 86 (.s 87)] [2,4,6,7,8,26,86])
(.cond (.s 86) (.dreg [{ o := .fld 88 (.s 7) 1, hs := [90,91,92,93,94,95,96,97] }, { o := .load 89 false 1 (.s 88), hs := [90,91,92,93,94,95,96,97], bf := [0] }, { o := .fld 90 (.s 8) 1, hs := [88,89,92,93,94,95,96,97] }, { o := .load 91 false 1 (.s 90), hs := [88,89,92,93,94,95,96,97], bf := [2] }, { o := .fld 92 (.s 4) 2, hs := [88,89,90,91,94,95] }, { o := .load 93 false 1 (.s 92), hs := [88,89,90,91,94,95], bf := [4] }, { o := .fld 94 (.s 8) 2, hs := [88,89,90,91,92,93] }, { o := .load 95 false 1 (.s 94), hs := [88,89,90,91,92,93], bf := [6] }, { o := .idx 96 1 (.s 93) (.s 95), hs := [88,89,90,91], bf := [4,5,6,7] }, { o := .load 97 false 1 (.s 96), hs := [88,89,90,91], bf := [4,5,6,7,8] }, { o := .idx 98 1 (.s 89) (.s 91), bf := [0,1,2,3,4,5,6,7,8,9] }, { o := .store 1 (.s 98) (.s 97), ws := [2], bf := [0,1,2,3,4,5,6,7,8,9,10] }] [6,7]) (.seq (pr [.bin 100 false .eql (.s 26) (.c (.int .i64 9)), .mv 99 (.s 100)] [2,4,6,7,8,99])
(.cond (.s 99) (.dreg [{ o := .fld 101 (.s 7) 2, hs := [103,104,105,106,107,108,109,110] }, { o := .load 102 false 1 (.s 101), hs := [103,104,105,106,107,108,109,110], bf := [0] }, { o := .fld 103 (.s 8) 2, hs := [101,102,105,106,107,108,109,110] }, { o := .load 104 false 1 (.s 103), hs := [101,102,105,106,107,108,109,110], bf := [2] }, { o := .fld 105 (.s 4) 1, hs := [101,102,103,104,107,108] }, { o := .load 106 false 1 (.s 105), hs := [101,102,103,104,107,108], bf := [4] }, { o := .fld 107 (.s 8) 1, hs := [101,102,103,104,105,106] }, { o := .load 108 false 1 (.s 107), hs := [101,102,103,104,105,106], bf := [6] }, { o := .idx 109 1 (.s 106) (.s 108), hs := [101,102,103,104], bf := [4,5,6,7] }, { o := .load 110 false 1 (.s 109), hs := [101,102,103,104], bf := [4,5,6,7,8] }, { o := .idx 111 1 (.s 102) (.s 104), bf := [0,1,2,3,4,5,6,7,8,9] }, { o := .store 1 (.s 111) (.s 110), ws := [3], bf := [0,1,2,3,4,5,6,7,8,9,10] }] [6,7]) (.dreg [{ o := .fld 27 (.s 7) 1, hs := [29,30,31,32,33] }, { o := .load 28 false 1 (.s 27), hs := [29,30,31,32,33], bf := [0] }, { o := .fld 29 (.s 8) 1, hs := [27,28,31,32,33] }, { o := .load 30 false 1 (.s 29), hs := [27,28,31,32,33], bf := [2] }, { o := .mv 31 (.s 2), hs := [27,28,29,30] }, { o := .call 32 [] (.f n_spec_Min) [.c (.int .i64 999), .s 31], hs := [27,28,29,30], bf := [4] }, { o := .call 33 [] (.f n_spec_Max) [.c (.int .i64 0), .s 32], hs := [27,28,29,30], bf := [4,5] }, { o := .idx 34 1 (.s 28) (.s 30), bf := [0,1,2,3,4,5,6] }, { o := .store 1 (.s 34) (.s 33), ws := [2], bf := [0,1,2,3,4,5,6,7] }] [6,7])))))))))))))
(.seq (pr [.load 112 true 4 (.s 7), .store 4 (.s 6) (.s 112)] [6])
.ret)))))))
set_option maxHeartbeats 1000000 in
theorem c_spec_StepState (l : List GOp) (s : GState) (v : Int) (hs : s.size ≤ 1073741824) : Ctr Tryz.prog n_spec_StepState [aL 4 (l.map GOp.enc), aS s.enc, aI v] [rS (stepTo l s v).enc] := by
  refine ctr_at (M := m_spec_StepState) (m := 7) (n := 113) (res := [(.cell 6 true 4, [false, true, true, true])]) hmix Tryz.func231 rfl (by kernel_rfl) rfl (by kernel_rfl) (by kernel_rfl) (Nat.le_of_ble_eq_true rfl) ?_; unfold m_spec_StepState
  intro hb
  clear hb
  simp only [↓bk_bind, ↓bk_map, ↓bk_ite, ↓bk_some, ↓reduceIte, Nat.reduceEqDiff, Nat.reduceLT, Nat.reduceLeDiff, Nat.reduceAdd, Nat.reduceMul, reduceCtorEq, List.reduceReplicate, go_sem]
  apply callK_of (c_spec_l11Copy s hs)
  simp only [↓bk_bind, ↓bk_map, ↓bk_ite, ↓bk_some, ↓reduceIte, Nat.reduceEqDiff, Nat.reduceLT, Nat.reduceLeDiff, Nat.reduceAdd, Nat.reduceMul, reduceCtorEq, List.reduceReplicate, go_sem]
  intros
  apply callK_of (c_spec_l11Can l s)
  simp only [↓bk_bind, ↓bk_map, ↓bk_ite, ↓bk_some, ↓reduceIte, Nat.reduceEqDiff, Nat.reduceLT, Nat.reduceLeDiff, Nat.reduceAdd, Nat.reduceMul, reduceCtorEq, List.reduceReplicate, go_sem]
  refine And.intro ?_ ?_ <;> intro h
  · rw [step_no h]
    try exact ⟨rfl, rfl, rfl, rfl⟩
  · obtain ⟨k, o, D⟩ := canDo_out h
    rw [step_yes h D]
    obtain ⟨i, hi, hA, hk⟩ := opOk_cases D.ok
    have hrl := D.regs
    have hsl := D.slots
    have hnl := D.nodes
    obtain ⟨r, hr⟩ := at_some (show i < s.Regs.length by omega)
    have hp0 : (0 : Int) ≤ (k : Int) := by omega
    have hp1 : (k : Int) < l.length := by have := D.lt; omega
    have hi0 : (0 : Int) ≤ (i : Int) := by omega
    have hi1 : (i : Int) < s.Regs.length := by omega
    have hz : zAt s.Regs (i : Int) = r := zAt_of hr
    simp only [↓bk_bind, ↓bk_map, ↓bk_ite, ↓bk_some, ↓reduceIte, Nat.reduceEqDiff, Nat.reduceLT, Nat.reduceLeDiff, Nat.reduceAdd, Nat.reduceMul, reduceCtorEq, List.reduceReplicate, go_sem, D.pc, bk_eq D.op, hp0, hp1]
    rcases hk with ⟨hK, j, m, hj, hm, hB, hC⟩ | ⟨hK, j, hj, hB⟩ | ⟨hK, hB⟩ | ⟨hK, j, hj, hB⟩ | ⟨hK, j, hj, hB⟩ | hK
    · obtain ⟨rj, hrj⟩ := at_some (show j < s.Regs.length by omega)
      obtain ⟨rm, hrm⟩ := at_some (show m < s.Regs.length by omega)
      have hj0 : (0 : Int) ≤ (j : Int) := by omega
      have hj1 : (j : Int) < s.Regs.length := by omega
      have hm0 : (0 : Int) ≤ (m : Int) := by omega
      have hm1 : (m : Int) < s.Regs.length := by omega
      simp only [↓bk_bind, ↓bk_map, ↓bk_ite, ↓bk_some, ↓reduceIte, Nat.reduceEqDiff, Nat.reduceLT, Nat.reduceLeDiff, Nat.reduceAdd, Nat.reduceMul, reduceCtorEq, List.reduceReplicate, go_sem, hK, hA, hB, hC, hi0, hi1, hj0, hj1, hm0, hm1, bk_eq hrj, bk_eq hrm, bk_eq hr, Int.reduceEq, c1000]
      simp [doOp, hK, hA, hB, hC, pcTo, D.pc, zAt_of hrj, zAt_of hrm, encI, List.map_set]
    · obtain ⟨nj, hnj⟩ := at_some (show j < s.Nodes.length by omega)
      have hj0 : (0 : Int) ≤ (j : Int) := by omega
      have hj1 : (j : Int) < s.Nodes.length := by omega
      simp only [↓bk_bind, ↓bk_map, ↓bk_ite, ↓bk_some, ↓reduceIte, Nat.reduceEqDiff, Nat.reduceLT, Nat.reduceLeDiff, Nat.reduceAdd, Nat.reduceMul, reduceCtorEq, List.reduceReplicate, go_sem, hK, hA, hB, hi0, hi1, hj0, hj1, bk_eq hnj, bk_eq hr, Int.reduceEq]
      simp [doOp, hK, hA, hB, pcTo, D.pc, hz, encI, List.map_set]
    · simp only [↓bk_bind, ↓bk_map, ↓bk_ite, ↓bk_some, ↓reduceIte, Nat.reduceEqDiff, Nat.reduceLT, Nat.reduceLeDiff, Nat.reduceAdd, Nat.reduceMul, reduceCtorEq, List.reduceReplicate, go_sem, hK, hA, hi0, hi1, bk_eq hr, Int.reduceEq, c2]
      exact ⟨fun h7 => by simp [doOp, hK, hA, pcTo, D.pc, hz, h7], fun h7 => by simp [doOp, hK, hA, pcTo, D.pc, hz, h7]⟩
    · obtain ⟨sj, hsj⟩ := at_some (show j < s.Slots.length by omega)
      have hj0 : (0 : Int) ≤ (j : Int) := by omega
      have hj1 : (j : Int) < s.Slots.length := by omega
      simp only [↓bk_bind, ↓bk_map, ↓bk_ite, ↓bk_some, ↓reduceIte, Nat.reduceEqDiff, Nat.reduceLT, Nat.reduceLeDiff, Nat.reduceAdd, Nat.reduceMul, reduceCtorEq, List.reduceReplicate, go_sem, hK, hA, hB, hi0, hi1, hj0, hj1, bk_eq hsj, bk_eq hr, Int.reduceEq]
      simp [doOp, hK, hA, hB, pcTo, D.pc, zAt_of hsj, encI, List.map_set]
    · obtain ⟨sj, hsj⟩ := at_some (show j < s.Slots.length by omega)
      have hj0 : (0 : Int) ≤ (j : Int) := by omega
      have hj1 : (j : Int) < s.Slots.length := by omega
      simp only [↓bk_bind, ↓bk_map, ↓bk_ite, ↓bk_some, ↓reduceIte, Nat.reduceEqDiff, Nat.reduceLT, Nat.reduceLeDiff, Nat.reduceAdd, Nat.reduceMul, reduceCtorEq, List.reduceReplicate, go_sem, hK, hA, hB, hi0, hi1, hj0, hj1, bk_eq hsj, bk_eq hr, Int.reduceEq]
      simp [doOp, hK, hA, hB, pcTo, D.pc, hz, encI, List.map_set]
    · have k5 : ¬ o.Kind = 5 := by omega
      have k6 : ¬ o.Kind = 6 := by omega
      have k7 : ¬ o.Kind = 7 := by omega
      have k8 : ¬ o.Kind = 8 := by omega
      have k9 : ¬ o.Kind = 9 := by omega
      simp only [↓bk_bind, ↓bk_map, ↓bk_ite, ↓bk_some, ↓reduceIte, Nat.reduceEqDiff, Nat.reduceLT, Nat.reduceLeDiff, Nat.reduceAdd, Nat.reduceMul, reduceCtorEq, List.reduceReplicate, go_sem, k5, k6, k7, k8, k9, hA, hi0, hi1, bk_eq hr]
      apply callK_of (c_spec_Min 999 v)
      simp only [↓bk_bind, ↓bk_map, ↓bk_ite, ↓bk_some, ↓reduceIte, Nat.reduceEqDiff, Nat.reduceLT, Nat.reduceLeDiff, Nat.reduceAdd, Nat.reduceMul, reduceCtorEq, List.reduceReplicate, go_sem]
      try intros
      apply callK_of (c_spec_Max 0 _)
      simp only [↓bk_bind, ↓bk_map, ↓bk_ite, ↓bk_some, ↓reduceIte, Nat.reduceEqDiff, Nat.reduceLT, Nat.reduceLeDiff, Nat.reduceAdd, Nat.reduceMul, reduceCtorEq, List.reduceReplicate, go_sem, k5, k6, k7, k8, k9, hA, hi0, hi1, bk_eq hr]
      try intros
      rw [clamp_eq]
      simp [doOp, k5, k6, k7, k8, k9, hA, pcTo, D.pc, encI, List.map_set]
end Go.Proofs.YtbnbgekjjbpljaaGreatR
namespace Go.Proofs.YtbnbgekjjbpljaaGreatR
open Go Go.RowKit Go.Proofs
set_option linter.unusedSimpArgs false
set_option linter.unusedVariables false
theorem allIn_set {l : List Int} {a b : Int} {i : Nat} {x : Int} (h : allIn l a b = true) (hx : a ≤ x ∧ x ≤ b) : allIn (l.set i x) a b = true := by
  refine List.all_eq_true.2 fun y hy => ?_
  rcases List.mem_or_eq_of_mem_set hy with hy | rfl
  · exact List.all_eq_true.1 h y hy
  · simpa using hx
theorem clamp_in (v : Int) : 0 ≤ clamp v ∧ clamp v ≤ 999 := by
  unfold clamp; repeat' split
  all_goals omega
theorem stOk_of {s : GState} (h0 : 0 ≤ s.Pc ∧ s.Pc ≤ 19) (h1 : s.Regs.length = 4) (h2 : s.Slots.length = 3) (h3 : s.Nodes.length = 4) (h4 : allIn s.Regs 0 999 = true) (h5 : allIn s.Slots 0 999 = true) (h6 : allIn s.Nodes 0 999 = true) : stOk s = true := by
  unfold stOk; simp [h0, h1, h2, h3, h4, h5, h6]
theorem stOk_out {s : GState} (h : stOk s = true) : (0 ≤ s.Pc ∧ s.Pc ≤ 19) ∧ s.Regs.length = 4 ∧ s.Slots.length = 3 ∧ s.Nodes.length = 4 ∧ allIn s.Regs 0 999 = true ∧ allIn s.Slots 0 999 = true ∧ allIn s.Nodes 0 999 = true := by
  simp only [stOk, Bool.and_eq_true, decide_eq_true_eq] at h
  exact ⟨h.1, h.2.1.1, h.2.1.2.1, h.2.1.2.2, h.2.2.1, h.2.2.2.1, h.2.2.2.2⟩
theorem doOp_ok {l : List GOp} {s : GState} {k : Nat} {o : GOp} {v : Int} (hs : stOk s = true) (D : Doing l s k o) : stOk (doOp o s v) = true ∧ s.Pc < (doOp o s v).Pc := by
  obtain ⟨h0, h1, h2, h3, h4, h5, h6⟩ := stOk_out hs
  obtain ⟨i, hi, hA, hk⟩ := opOk_cases D.ok
  have hpc := D.pc
  have hlt := D.lt
  have hfw := D.few
  have hp : pcTo s.Pc = s.Pc + 1 := wI (by omega) (by omega)
  obtain ⟨r, hr⟩ := at_some (show i < s.Regs.length by omega)
  have hz : zAt s.Regs o.A = r := by rw [hA]; exact zAt_of hr
  have hri := D.rin i r hr
  rcases hk with ⟨hK, j, m, hj, hm, hB, hC⟩ | ⟨hK, j, hj, hB⟩ | ⟨hK, hB⟩ | ⟨hK, j, hj, hB⟩ | ⟨hK, j, hj, hB⟩ | hK
  · obtain ⟨rj, hrj⟩ := at_some (show j < s.Regs.length by omega)
    obtain ⟨rm, hrm⟩ := at_some (show m < s.Regs.length by omega)
    have e1 : zAt s.Regs o.B = rj := by rw [hB]; exact zAt_of hrj
    have e2 : zAt s.Regs o.C = rm := by rw [hC]; exact zAt_of hrm
    have b1 := D.rin j rj hrj
    have b2 := D.rin m rm hrm
    have e3 : IntKind.i64.wrap (rj + rm) = rj + rm := wI (by omega) (by omega)
    simp only [doOp, hK, if_true, hp, e1, e2, e3]
    refine ⟨stOk_of (by simp only; omega) (by simp [h1]) h2 h3 (allIn_set h4 ?_) h5 h6, by omega⟩
    rw [Int.tmod_eq_emod_of_nonneg (by omega)]
    omega
  · simp only [doOp, hK, Int.reduceEq, if_false, if_true, hp, hz]
    exact ⟨stOk_of (by simp only; omega) h1 h2 (by simp [h3]) h4 h5 (allIn_set h6 hri), by omega⟩
  · have e4 : IntKind.i64.wrap (s.Pc + 1 + o.B) = s.Pc + 1 + o.B := wI (by omega) (by omega)
    simp only [doOp, hK, Int.reduceEq, if_false, if_true, hp, hz, e4]
    refine ⟨stOk_of (by simp only; split <;> omega) h1 h2 h3 h4 h5 h6, by split <;> omega⟩
  · obtain ⟨sj, hsj⟩ := at_some (show j < s.Slots.length by omega)
    have e1 : zAt s.Slots o.B = sj := by rw [hB]; exact zAt_of hsj
    simp only [doOp, hK, Int.reduceEq, if_false, if_true, hp, e1]
    exact ⟨stOk_of (by simp only; omega) (by simp [h1]) h2 h3 (allIn_set h4 (D.sin j sj hsj)) h5 h6, by omega⟩
  · simp only [doOp, hK, Int.reduceEq, if_false, if_true, hp, hz]
    exact ⟨stOk_of (by simp only; omega) h1 (by simp [h2]) h3 h4 (allIn_set h5 hri) h6, by omega⟩
  · have k5 : ¬ o.Kind = 5 := by omega
    have k6 : ¬ o.Kind = 6 := by omega
    have k7 : ¬ o.Kind = 7 := by omega
    have k8 : ¬ o.Kind = 8 := by omega
    have k9 : ¬ o.Kind = 9 := by omega
    simp only [doOp, k5, k6, k7, k8, k9, if_false, hp]
    exact ⟨stOk_of (by simp only; omega) (by simp [h1]) h2 h3 (allIn_set h4 (clamp_in v)) h5 h6, by omega⟩
theorem stepTo_ok {l : List GOp} {s : GState} {v : Int} (hs : stOk s = true) : stOk (stepTo l s v) = true := by
  cases h : canDo l s
  · rw [step_no h]; exact hs
  · obtain ⟨k, o, D⟩ := canDo_out h
    rw [step_yes h D]; exact (doOp_ok hs D).1
theorem stepTo_lt {l : List GOp} {s : GState} {v : Int} (hl : scriptOk l = true) (hs : stOk s = true) (hp : s.Pc < l.length) : s.Pc < (stepTo l s v).Pc := by
  have h : canDo l s = true := by unfold canDo; rw [hl, hs, decide_eq_true hp]; rfl
  obtain ⟨k, o, D⟩ := canDo_out h
  rw [step_yes h D]; exact (doOp_ok hs D).2
theorem stOk_size {s : GState} (h : stOk s = true) : s.size = 11 := by
  obtain ⟨h0, h1, h2, h3, -⟩ := stOk_out h
  simp only [GState.size]; omega
def playF (l : List GOp) (es : List GEntry) : Nat → Nat → GState → List GState → GPlayed × List GState
  | 0, n, s, tr => (⟨0, 0, s⟩, tr)
  | f + 1, n, s, tr =>
    if s.Pc ≥ l.length then (if n < es.length then ⟨1, n, s⟩ else ⟨0, 0, s⟩, tr)
    else if (wantOf l s).Kind = 0 then playF l es f n (stepTo l s 0) (tr ++ [stepTo l s 0])
    else match es[n]? with
      | none => (⟨2, n, s⟩, tr)
      | some e => if e.Kind = (wantOf l s).Kind ∧ e.Address = (wantOf l s).Address then playF l es f (n + 1) (stepTo l s e.Value) (tr ++ [stepTo l s e.Value]) else (⟨1, n, s⟩, tr)
def play (l : List GOp) (es : List GEntry) : GPlayed × List GState := if scriptOk l = true ∧ entsOk es = true then playF l es 20 0 st0 [st0] else (⟨2, 0, st0⟩, [st0])
theorem playF_ok {l : List GOp} {es : List GEntry} : ∀ {f n : Nat} {s : GState} {tr : List GState}, stOk s = true → stOk (playF l es f n s tr).1.State = true
  | 0, n, s, tr, h => h
  | f + 1, n, s, tr, h => by
    rw [playF]
    split
    · split <;> exact h
    · split
      · exact playF_ok (stepTo_ok h)
      · split
        · exact h
        · split
          · exact playF_ok (stepTo_ok h)
          · exact h
theorem st0_ok : stOk st0 = true := by decide
theorem play_ok (l : List GOp) (es : List GEntry) : stOk (play l es).1.State = true := by
  unfold play
  split
  · exact playF_ok st0_ok
  · exact st0_ok
theorem wantOf_kind (l : List GOp) (s : GState) : 0 ≤ (wantOf l s).Kind := by
  unfold wantOf
  split
  · rename_i h
    have := h.2
    simp only [asks, decide_eq_true_eq] at this
    simp only
    omega
  · simp
/-- A result that is nobody's own. -/
def rP (p : GPlayed) : RV := ⟨true, [(false, tI p.Code), (false, tI p.At), (false, tI p.State.Pc), (false, .sl 1 (p.State.Regs.map encI)), (false, .sl 1 (p.State.Slots.map encI)), (false, .sl 1 (p.State.Nodes.map encI))]⟩
def rT (tr : List GState) : RV := ⟨false, [(false, .sl 4 (tr.map GState.enc))]⟩
attribute [go_sem] rP rT
def m_impl_IsDone : MC :=
(.seq (pr [.box 3 0 (.s 1), .mv 4 (.c (.bool false))] [0,3])
(.seq (pr [.fld 5 (.s 3) 0, .load 6 false 1 (.s 5), .mv 7 (.s 0), .len 8 false (.s 7), .bin 9 false .geq (.s 6) (.s 8), .mv 4 (.s 9)] [4])
.ret))
theorem c_impl_IsDone (l : List GOp) (s : GState) : Ctr Tryz.prog n_impl_IsDone [aL 4 (l.map GOp.enc), aS s.enc] [rB (decide (s.Pc ≥ l.length))] := by
  refine ctr_at (M := m_impl_IsDone) (m := 1) (n := 10) (res := [(.tmp 4, [false])]) hmix Tryz.func233 rfl (by kernel_rfl) rfl (by kernel_rfl) (by kernel_rfl) (Nat.le_of_ble_eq_true rfl) ?_; unfold m_impl_IsDone
  intro hb
  clear hb
  simp only [↓bk_bind, ↓bk_map, ↓bk_ite, ↓bk_some, ↓reduceIte, Nat.reduceEqDiff, Nat.reduceLT, Nat.reduceLeDiff, Nat.reduceAdd, Nat.reduceMul, reduceCtorEq, List.reduceReplicate, go_sem]
def m_spec_IsDone : MC :=
(.seq (pr [.box 3 0 (.s 1), .mv 4 (.c (.bool false))] [0,3])
(.seq (pr [.fld 5 (.s 3) 0, .load 6 false 1 (.s 5), .mv 7 (.s 0), .len 8 false (.s 7), .bin 9 false .geq (.s 6) (.s 8), .mv 4 (.s 9)] [4])
.ret))
theorem c_spec_IsDone (l : List GOp) (s : GState) : Ctr Tryz.prog n_spec_IsDone [aL 4 (l.map GOp.enc), aS s.enc] [rB (decide (s.Pc ≥ l.length))] := by
  refine ctr_at (M := m_spec_IsDone) (m := 1) (n := 10) (res := [(.tmp 4, [false])]) hmix Tryz.func229 rfl (by kernel_rfl) rfl (by kernel_rfl) (by kernel_rfl) (Nat.le_of_ble_eq_true rfl) ?_; unfold m_spec_IsDone
  intro hb
  clear hb
  simp only [↓bk_bind, ↓bk_map, ↓bk_ite, ↓bk_some, ↓reduceIte, Nat.reduceEqDiff, Nat.reduceLT, Nat.reduceLeDiff, Nat.reduceAdd, Nat.reduceMul, reduceCtorEq, List.reduceReplicate, go_sem]
def m_impl_played : MC :=
(.seq (pr [.alloc 4 0 [.pl (.sc (.int .i64 0)), .pl (.sc (.int .i64 0)), .pl (.sc (.int .i64 0)), .emp 1, .emp 1, .emp 1], .nilo 5 1 4] [0,1,4])
(.seq (pr [.call 11 [2, 3, 4] (.f n_impl_StartState) [], .alloc 6 5 [.pl (.sc (.int .i64 0)), .emp 1, .emp 1, .emp 1], .store 4 (.s 6) (.s 11)] [0,1,4,6])
(.seq (pr [.load 12 true 4 (.s 6), .lit 13 1 4 80 [.s 12], .mv 7 (.s 13)] [0,1,4,6,7])
(.seq (.seq (.reg [{ o := .mv 14 (.s 0) }, { o := .call 15 [] (.f n_impl_IsScript) [.s 14] }, { o := .un 16 .not (.s 15) }, { o := .mv 17 (.s 16) }, { o := .mv 18 (.s 1), g := some (17, false) }, { o := .call 19 [] (.f n_impl_AreEntries) [.s 18], g := some (17, false) }, { o := .un 20 .not (.s 19), g := some (17, false) }, { o := .pick 21 (.s 17) (.c (.bool true)) (.s 20) }] [0,1,4,6,7,21])
(.cond (.s 21) (.seq (pr [.load 22 true 4 (.s 6), .build 23 [.pl (.sc (.int .i64 0)), .pl (.sc (.int .i64 0)), .pl (.sc (.int .i64 0)), .emp 1, .emp 1, .emp 1] [(0, 1, .c (.int .i64 2)), (1, 1, .c (.int .i64 0)), (2, 4, .s 22)], .mv 24 (.s 7), .store 6 (.s 4) (.s 23), .mv 5 (.s 24)] [4,5])
.ret) .skip))
(.seq (pr [.mv 8 (.c (.int .i64 0))] [0,1,4,6,7,8])
(.seq (.block 0 (.loop ([0,1,4,6,7,8], [6,7]) (.seq (.seq (pr [.mv 25 (.s 0), .load 26 true 4 (.s 6), .call 27 [] (.f n_impl_IsDone) [.s 25, .s 26], .un 28 .not (.s 27)] [0,1,4,6,7,8,28])
(.cond (.s 28) .skip (.exit 0)))
(.block 1 (.seq (pr [.mv 9 (.c (.int .i64 0))] [0,1,4,6,7,8,9])
(.seq (.seq (pr [.mv 29 (.s 0), .load 30 true 4 (.s 6), .call 31 [] (.f n_impl_WantOf) [.s 29, .s 30], .alloc 10 6 [.pl (.sc (.int .i64 0)), .pl (.sc (.int .i64 0)), .pl (.sc (.int .i64 0)), .pl (.sc (.int .i64 0))], .store 4 (.s 10) (.s 31)] [0,1,4,6,7,8,9,10])
(.seq (pr [.fld 32 (.s 10) 0, .load 33 false 1 (.s 32), .bin 34 false .neq (.s 33) (.c (.int .i64 0))] [0,1,4,6,7,8,9,10,34])
(.cond (.s 34) (.seq (.seq (pr [.mv 35 (.s 8), .mv 36 (.s 1), .len 37 false (.s 36), .bin 38 false .eql (.s 35) (.s 37)] [0,1,4,6,7,8,10,38])
(.cond (.s 38) (.seq (pr [.mv 39 (.s 8), .load 40 true 4 (.s 6), .build 41 [.pl (.sc (.int .i64 0)), .pl (.sc (.int .i64 0)), .pl (.sc (.int .i64 0)), .emp 1, .emp 1, .emp 1] [(0, 1, .c (.int .i64 2)), (1, 1, .s 39), (2, 4, .s 40)], .mv 42 (.s 7), .store 6 (.s 4) (.s 41), .mv 5 (.s 42)] [4,5])
.ret) .skip))
(.seq (.seq (.dreg [{ o := .mv 43 (.s 1), hs := [44,48,49] }, { o := .mv 44 (.s 8), hs := [43,48,49] }, { o := .idx 45 5 (.s 43) (.s 44), hs := [48,49], bf := [0,1] }, { o := .fld 46 (.s 45) 0, hs := [48,49], bf := [0,1,2] }, { o := .load 47 false 1 (.s 46), hs := [48,49], bf := [0,1,2,3] }, { o := .fld 48 (.s 10) 0, hs := [43,44,45,46,47] }, { o := .load 49 false 1 (.s 48), hs := [43,44,45,46,47], bf := [5] }, { o := .bin 50 false .neq (.s 47) (.s 49), bf := [0,1,2,3,4,5,6] }, { o := .mv 51 (.s 50), bf := [0,1,2,3,4,5,6,7] }, { o := .mv 52 (.s 1), g := some (51, false), hs := [53,57,58], bf := [0,1,2,3,4,5,6,7,8] }, { o := .mv 53 (.s 8), g := some (51, false), hs := [52,57,58], bf := [0,1,2,3,4,5,6,7,8] }, { o := .idx 54 5 (.s 52) (.s 53), g := some (51, false), hs := [57,58], bf := [0,1,2,3,4,5,6,7,8,9,10] }, { o := .fld 55 (.s 54) 1, g := some (51, false), hs := [57,58], bf := [0,1,2,3,4,5,6,7,8,9,10,11] }, { o := .load 56 true 3 (.s 55), g := some (51, false), hs := [57,58], bf := [0,1,2,3,4,5,6,7,8,9,10,11,12] }, { o := .fld 57 (.s 10) 1, g := some (51, false), hs := [52,53,54,55,56], bf := [0,1,2,3,4,5,6,7,8] }, { o := .load 58 true 3 (.s 57), g := some (51, false), hs := [52,53,54,55,56], bf := [0,1,2,3,4,5,6,7,8,14] }, { o := .eqA 59 true [.i .i64, .i .i64, .i .i64] (.s 56) (.s 58), g := some (51, false), bf := [0,1,2,3,4,5,6,7,8,9,10,11,12,13,14,15] }, { o := .pick 60 (.s 51) (.c (.bool true)) (.s 59), bf := [0,1,2,3,4,5,6,7,8,9,10,11,12,13,14,15,16] }] [0,1,4,6,7,8,60])
(.cond (.s 60) (.seq (pr [.mv 61 (.s 8), .load 62 true 4 (.s 6), .build 63 [.pl (.sc (.int .i64 0)), .pl (.sc (.int .i64 0)), .pl (.sc (.int .i64 0)), .emp 1, .emp 1, .emp 1] [(0, 1, .c (.int .i64 1)), (1, 1, .s 61), (2, 4, .s 62)], .mv 64 (.s 7), .store 6 (.s 4) (.s 63), .mv 5 (.s 64)] [4,5])
.ret) .skip))
(.seq (pr [.mv 65 (.s 1), .mv 66 (.s 8), .idx 67 5 (.s 65) (.s 66), .fld 68 (.s 67) 4, .load 69 false 1 (.s 68), .mv 9 (.s 69)] [0,1,4,6,7,8,9])
(pr [.mv 70 (.s 8), .bin 71 false .add (.s 70) (.c (.int .i64 1)), .mv 8 (.s 71)] [0,1,4,6,7,8,9])))) .skip)))
(.seq (pr [.mv 72 (.s 0), .load 73 true 4 (.s 6), .mv 74 (.s 9), .call 75 [2, 3, 4] (.f n_impl_StepState) [.s 72, .s 73, .s 74], .store 4 (.s 6) (.s 75)] [0,1,4,6,7,8])
(pr [.mv 76 (.s 7), .load 77 true 4 (.s 6), .lit 78 7 4 80 [.s 77], .app 79 1 4 80 (.s 76) (.s 78), .mv 7 (.s 79)] [0,1,4,6,7,8]))))))))
(.seq (.seq (pr [.mv 80 (.s 8), .mv 81 (.s 1), .len 82 false (.s 81), .bin 83 false .lss (.s 80) (.s 82)] [4,6,7,8,83])
(.cond (.s 83) (.seq (pr [.mv 84 (.s 8), .load 85 true 4 (.s 6), .build 86 [.pl (.sc (.int .i64 0)), .pl (.sc (.int .i64 0)), .pl (.sc (.int .i64 0)), .emp 1, .emp 1, .emp 1] [(0, 1, .c (.int .i64 1)), (1, 1, .s 84), (2, 4, .s 85)], .mv 87 (.s 7), .store 6 (.s 4) (.s 86), .mv 5 (.s 87)] [4,5])
.ret) .skip))
(.seq (pr [.load 88 true 4 (.s 6), .build 89 [.pl (.sc (.int .i64 0)), .pl (.sc (.int .i64 0)), .pl (.sc (.int .i64 0)), .emp 1, .emp 1, .emp 1] [(0, 1, .c (.int .i64 0)), (1, 1, .c (.int .i64 0)), (2, 4, .s 88)], .mv 90 (.s 7), .store 6 (.s 4) (.s 89), .mv 5 (.s 90)] [4,5])
.ret))))))))
set_option maxHeartbeats 2000000 in
theorem c_impl_played (l : List GOp) (es : List GEntry) : Ctr Tryz.prog n_impl_played [aL 4 (l.map GOp.enc), aL 5 (es.map GEntry.enc)] [rP (play l es).1, rT (play l es).2] := by
  refine ctr_at (M := m_impl_played) (m := 8) (n := 91) (res := [(.cell 4 true 6, [false, false, false, false, false, false]), (.tmp 5, [false])]) hmix Tryz.func202 rfl (by kernel_rfl) rfl (by kernel_rfl) (by kernel_rfl) (Nat.le_of_ble_eq_true rfl) ?_; unfold m_impl_played
  intro hb
  simp only [bdA, bdL, bdT, bdR, bdR_map, wfB_i64, wfB_bool, wfB_str, roomB, and_true, true_and, List.length_map] at hb
  have hel : es.length ≤ 140737488355328 := hb.2.1
  clear hb
  simp only [↓bk_bind, ↓bk_map, ↓bk_ite, ↓bk_some, ↓reduceIte, Nat.reduceEqDiff, Nat.reduceLT, Nat.reduceLeDiff, Nat.reduceAdd, Nat.reduceMul, reduceCtorEq, List.reduceReplicate, go_sem]
  apply callK_of c_impl_StartState
  simp only [↓bk_bind, ↓bk_map, ↓bk_ite, ↓bk_some, ↓reduceIte, Nat.reduceEqDiff, Nat.reduceLT, Nat.reduceLeDiff, Nat.reduceAdd, Nat.reduceMul, reduceCtorEq, List.reduceReplicate, go_sem]
  intros
  refine ⟨by decide, ?_⟩
  apply callK_of (c_impl_IsScript l)
  simp only [↓bk_bind, ↓bk_map, ↓bk_ite, ↓bk_some, ↓reduceIte, Nat.reduceEqDiff, Nat.reduceLT, Nat.reduceLeDiff, Nat.reduceAdd, Nat.reduceMul, reduceCtorEq, List.reduceReplicate, go_sem]
  repeat' first
    | (refine And.intro ?_ ?_ <;> intro h)
    | (apply callK_of (c_impl_AreEntries es); simp only [↓bk_bind, ↓bk_map, ↓bk_ite, ↓bk_some, ↓reduceIte, Nat.reduceEqDiff, Nat.reduceLT, Nat.reduceLeDiff, Nat.reduceAdd, Nat.reduceMul, reduceCtorEq, List.reduceReplicate, go_sem])
  · have hP : play l es = (⟨2, 0, st0⟩, [st0]) := by rw [play, if_neg (by simp_all)]
    rw [hP]
    exact ⟨⟨rfl, rfl, rfl, rfl, rfl, rfl⟩, rfl⟩
  · have hP : play l es = (⟨2, 0, st0⟩, [st0]) := by rw [play, if_neg (by simp_all)]
    rw [hP]
    exact ⟨⟨rfl, rfl, rfl, rfl, rfl, rfl⟩, rfl⟩
  · have hl : scriptOk l = true := by assumption
    have hfew : l.length ≤ 16 := by
      simp only [scriptOk, fewAll, Bool.and_eq_true, decide_eq_true_eq] at hl
      exact hl.1
    have hP : play l es = playF l es 20 0 st0 [st0] := by rw [play, if_pos (by simp_all)]
    refine loopK_up (ι := Nat × GState × List GState) (fun t => [(7, .val false [.ref 1 0 4 0 t.2.2.length]), (8, vI (t.1 : Nat))]) (fun t => [(1, ⟨0, .row true 4 (t.2.2.map GState.enc)⟩), (2, ⟨0, .lent 1 (t.2.1.Regs.map encI)⟩), (3, ⟨0, .lent 1 (t.2.1.Slots.map encI)⟩), (4, ⟨0, .lent 1 (t.2.1.Nodes.map encI)⟩), (5, ⟨0, .box [.pl (tI t.2.1.Pc), .ref 2 0 1 0 t.2.1.Regs.length, .ref 3 0 1 0 t.2.1.Slots.length, .ref 4 0 1 0 t.2.1.Nodes.length]⟩)])
      (fun t => stOk t.2.1 = true ∧ t.1 ≤ es.length ∧ ∃ f, l.length - t.2.1.Pc.toNat < f ∧ t.2.2.length + (l.length - t.2.1.Pc.toNat) ≤ 18 ∧ playF l es f t.1 t.2.1 t.2.2 = play l es) (fun t => l.length - t.2.1.Pc.toNat) (0, st0, [st0]) ?_
    simp only [↓bk_bind, ↓bk_map, ↓bk_ite, ↓bk_some, ↓reduceIte, Nat.reduceEqDiff, Nat.reduceLT, Nat.reduceLeDiff, Nat.reduceAdd, Nat.reduceMul, reduceCtorEq, List.reduceReplicate, go_sem]
    refine ⟨?_, ⟨st0_ok, Nat.zero_le _, 20, by simp only [st0]; omega, by simp only [st0, List.length_cons, List.length_nil]; omega, hP.symm⟩, ?_⟩
    · simp only [↓bk_bind, ↓bk_map, ↓bk_ite, ↓bk_some, ↓reduceIte, Nat.reduceEqDiff, Nat.reduceLT, Nat.reduceLeDiff, Nat.reduceAdd, Nat.reduceMul, reduceCtorEq, List.reduceReplicate, go_sem]
      try exact ⟨rfl, rfl⟩
      try trivial
    · rintro ⟨n, s, tr⟩ ⟨hs, hn, f, hf, htr, hp⟩
      simp only at hs hn hf htr hp
      obtain ⟨f, rfl⟩ : ∃ f', f = f' + 1 := ⟨f - 1, by omega⟩
      rw [playF] at hp
      have hsz := stOk_size hs
      have h0 := (stOk_out hs).1.1
      simp only [↓bk_bind, ↓bk_map, ↓bk_ite, ↓bk_some, ↓reduceIte, Nat.reduceEqDiff, Nat.reduceLT, Nat.reduceLeDiff, Nat.reduceAdd, Nat.reduceMul, reduceCtorEq, List.reduceReplicate, go_sem]
      apply callK_of (c_impl_IsDone l s)
      by_cases hd : s.Pc ≥ l.length
      · rw [if_pos hd] at hp
        simp only [↓bk_bind, ↓bk_map, ↓bk_ite, ↓bk_some, ↓reduceIte, Nat.reduceEqDiff, Nat.reduceLT, Nat.reduceLeDiff, Nat.reduceAdd, Nat.reduceMul, reduceCtorEq, List.reduceReplicate, go_sem, hd]
        refine ⟨fun hlt => ?_, fun hge => ?_⟩
        · rw [if_pos (by omega)] at hp
          rw [← hp]
          exact ⟨⟨rfl, rfl, rfl, rfl, rfl, rfl⟩, rfl⟩
        · rw [if_neg (by omega)] at hp
          rw [← hp]
          exact ⟨⟨rfl, rfl, rfl, rfl, rfl, rfl⟩, rfl⟩
      · rw [if_neg hd] at hp
        simp only [↓bk_bind, ↓bk_map, ↓bk_ite, ↓bk_some, ↓reduceIte, Nat.reduceEqDiff, Nat.reduceLT, Nat.reduceLeDiff, Nat.reduceAdd, Nat.reduceMul, reduceCtorEq, List.reduceReplicate, go_sem, hd]
        apply callK_of (c_impl_WantOf l s)
        simp only [↓bk_bind, ↓bk_map, ↓bk_ite, ↓bk_some, ↓reduceIte, Nat.reduceEqDiff, Nat.reduceLT, Nat.reduceLeDiff, Nat.reduceAdd, Nat.reduceMul, reduceCtorEq, List.reduceReplicate, go_sem]
        intros
        by_cases hw : (wantOf l s).Kind = 0
        · rw [if_pos hw] at hp
          have hlt := stepTo_lt (v := 0) hl hs (by omega)
          have hok := stepTo_ok (l := l) (v := 0) hs
          simp only [↓bk_bind, ↓bk_map, ↓bk_ite, ↓bk_some, ↓reduceIte, Nat.reduceEqDiff, Nat.reduceLT, Nat.reduceLeDiff, Nat.reduceAdd, Nat.reduceMul, reduceCtorEq, List.reduceReplicate, go_sem, hw]
          apply callK_of (c_impl_StepState l s 0 (by omega))
          simp only [↓bk_bind, ↓bk_map, ↓bk_ite, ↓bk_some, ↓reduceIte, Nat.reduceEqDiff, Nat.reduceLT, Nat.reduceLeDiff, Nat.reduceAdd, Nat.reduceMul, reduceCtorEq, List.reduceReplicate, go_sem]
          intros
          exact ⟨by decide, by simp only [roomB]; omega, (n, stepTo l s 0, tr ++ [stepTo l s 0]), ⟨⟨by simp, rfl⟩, by simp [GState.enc], rfl, rfl, rfl, rfl, rfl, rfl, rfl⟩, ⟨hok, hn, f, by simp only; omega, by simp only [List.length_append, List.length_cons, List.length_nil]; omega, hp⟩, by simp only; omega⟩
        · rw [if_neg hw] at hp
          have hw' : (wantOf l s).Kind > 0 := by have := wantOf_kind l s; omega
          by_cases hne : n = es.length
          · rw [List.getElem?_eq_none (by omega)] at hp
            simp only at hp
            subst hne
            have hne1 : (es.length : Int) = es.length := rfl
            have hne2 : (es.length : Int) ≥ es.length := Int.le_refl _
            simp only [↓bk_bind, ↓bk_map, ↓bk_ite, ↓bk_some, ↓reduceIte, Nat.reduceEqDiff, Nat.reduceLT, Nat.reduceLeDiff, Nat.reduceAdd, Nat.reduceMul, reduceCtorEq, List.reduceReplicate, go_sem, hw, hw', hne1]
            rw [← hp]
            exact ⟨⟨rfl, rfl, rfl, rfl, rfl, rfl⟩, rfl⟩
          · obtain ⟨e, he⟩ := at_some (show n < es.length by omega)
            rw [he] at hp
            simp only at hp
            have hne1 : ¬ (n : Int) = es.length := by omega
            have hne2 : ¬ (n : Int) ≥ es.length := by omega
            have hn0 : (0 : Int) ≤ (n : Int) := by omega
            have hn1 : (n : Int) < es.length := by omega
            have hwn : IntKind.i64.wrap ((n : Int) + 1) = ((n + 1 : Nat) : Int) := by rw [wI (by omega) (by omega)]; omega
            by_cases c1 : e.Kind = (wantOf l s).Kind
            · by_cases c2 : e.Address = (wantOf l s).Address
              · rw [if_pos ⟨c1, c2⟩] at hp
                have hdec := decide_eq_true c2
                have hlt := stepTo_lt (v := e.Value) hl hs (by omega)
                have hok := stepTo_ok (l := l) (v := e.Value) hs
                simp only [↓bk_bind, ↓bk_map, ↓bk_ite, ↓bk_some, ↓reduceIte, Nat.reduceEqDiff, Nat.reduceLT, Nat.reduceLeDiff, Nat.reduceAdd, Nat.reduceMul, reduceCtorEq, List.reduceReplicate, go_sem, hw, hw', hne1, hn0, hn1, bk_eq he, addrB, c1, hdec]
                apply callK_of (c_impl_StepState l s e.Value (by omega))
                simp only [↓bk_bind, ↓bk_map, ↓bk_ite, ↓bk_some, ↓reduceIte, Nat.reduceEqDiff, Nat.reduceLT, Nat.reduceLeDiff, Nat.reduceAdd, Nat.reduceMul, reduceCtorEq, List.reduceReplicate, go_sem, hwn]
                intros
                exact ⟨by decide, by simp only [roomB]; omega, (n + 1, stepTo l s e.Value, tr ++ [stepTo l s e.Value]), ⟨⟨by simp, rfl⟩, by simp [GState.enc], rfl, rfl, rfl, rfl, rfl, rfl, rfl⟩, ⟨hok, by simp only; omega, f, by simp only; omega, by simp only [List.length_append, List.length_cons, List.length_nil]; omega, hp⟩, by simp only; omega⟩
              · rw [if_neg (fun h => c2 h.2)] at hp
                have hdec := decide_eq_false c2
                simp only [↓bk_bind, ↓bk_map, ↓bk_ite, ↓bk_some, ↓reduceIte, Nat.reduceEqDiff, Nat.reduceLT, Nat.reduceLeDiff, Nat.reduceAdd, Nat.reduceMul, reduceCtorEq, List.reduceReplicate, go_sem, hw, hw', hne1, hn0, hn1, bk_eq he, addrB, c1, hdec]
                rw [← hp]
                exact ⟨⟨rfl, rfl, rfl, rfl, rfl, rfl⟩, rfl⟩
            · rw [if_neg (fun h => c1 h.1)] at hp
              simp only [↓bk_bind, ↓bk_map, ↓bk_ite, ↓bk_some, ↓reduceIte, Nat.reduceEqDiff, Nat.reduceLT, Nat.reduceLeDiff, Nat.reduceAdd, Nat.reduceMul, reduceCtorEq, List.reduceReplicate, go_sem, hw, hw', hne1, hn0, hn1, bk_eq he, addrB, c1]
              rw [← hp]
              exact ⟨⟨rfl, rfl, rfl, rfl, rfl, rfl⟩, rfl⟩
def m_spec_l14Run : MC :=
(.seq (pr [.alloc 4 0 [.pl (.sc (.int .i64 0)), .pl (.sc (.int .i64 0)), .pl (.sc (.int .i64 0)), .emp 1, .emp 1, .emp 1], .nilo 5 1 4] [0,1,4])
(.seq (pr [.call 11 [2, 3, 4] (.f n_spec_StartState) [], .alloc 6 5 [.pl (.sc (.int .i64 0)), .emp 1, .emp 1, .emp 1], .store 4 (.s 6) (.s 11)] [0,1,4,6])
(.seq (pr [.load 12 true 4 (.s 6), .lit 13 1 4 80 [.s 12], .mv 7 (.s 13)] [0,1,4,6,7])
(.seq (.seq (.reg [{ o := .mv 14 (.s 0) }, { o := .call 15 [] (.f n_spec_IsScript) [.s 14] }, { o := .un 16 .not (.s 15) }, { o := .mv 17 (.s 16) }, { o := .mv 18 (.s 1), g := some (17, false) }, { o := .call 19 [] (.f n_spec_AreEntries) [.s 18], g := some (17, false) }, { o := .un 20 .not (.s 19), g := some (17, false) }, { o := .pick 21 (.s 17) (.c (.bool true)) (.s 20) }] [0,1,4,6,7,21])
(.cond (.s 21) (.seq (pr [.load 22 true 4 (.s 6), .build 23 [.pl (.sc (.int .i64 0)), .pl (.sc (.int .i64 0)), .pl (.sc (.int .i64 0)), .emp 1, .emp 1, .emp 1] [(0, 1, .c (.int .i64 2)), (2, 4, .s 22)], .mv 24 (.s 7), .store 6 (.s 4) (.s 23), .mv 5 (.s 24)] [4,5])
.ret) .skip))
(.seq (pr [.mv 8 (.c (.int .i64 0))] [0,1,4,6,7,8])
(.seq (.block 0 (.loop ([0,1,4,6,7,8], [6,7]) (.seq (.seq (pr [.mv 25 (.s 0), .load 26 true 4 (.s 6), .call 27 [] (.f n_spec_IsDone) [.s 25, .s 26], .un 28 .not (.s 27)] [0,1,4,6,7,8,28])
(.cond (.s 28) .skip (.exit 0)))
(.block 1 (.seq (pr [.mv 29 (.s 0), .load 30 true 4 (.s 6), .call 31 [] (.f n_spec_WantOf) [.s 29, .s 30], .alloc 9 6 [.pl (.sc (.int .i64 0)), .pl (.sc (.int .i64 0)), .pl (.sc (.int .i64 0)), .pl (.sc (.int .i64 0))], .store 4 (.s 9) (.s 31)] [0,1,4,6,7,8,9])
(.seq (pr [.mv 10 (.c (.int .i64 0))] [0,1,4,6,7,8,9,10])
(.seq (.seq (pr [.fld 32 (.s 9) 0, .load 33 false 1 (.s 32), .bin 34 false .gtr (.s 33) (.c (.int .i64 0))] [0,1,4,6,7,8,9,10,34])
(.cond (.s 34) (.seq (.seq (pr [.mv 35 (.s 8), .mv 36 (.s 1), .len 37 false (.s 36), .bin 38 false .geq (.s 35) (.s 37)] [0,1,4,6,7,8,9,38])
(.cond (.s 38) (.seq (pr [.mv 39 (.s 8), .load 40 true 4 (.s 6), .build 41 [.pl (.sc (.int .i64 0)), .pl (.sc (.int .i64 0)), .pl (.sc (.int .i64 0)), .emp 1, .emp 1, .emp 1] [(0, 1, .c (.int .i64 2)), (1, 1, .s 39), (2, 4, .s 40)], .mv 42 (.s 7), .store 6 (.s 4) (.s 41), .mv 5 (.s 42)] [4,5])
.ret) .skip))
(.seq (.seq (.dreg [{ o := .mv 43 (.s 1), hs := [44,48,49] }, { o := .mv 44 (.s 8), hs := [43,48,49] }, { o := .idx 45 5 (.s 43) (.s 44), hs := [48,49], bf := [0,1] }, { o := .fld 46 (.s 45) 0, hs := [48,49], bf := [0,1,2] }, { o := .load 47 false 1 (.s 46), hs := [48,49], bf := [0,1,2,3] }, { o := .fld 48 (.s 9) 0, hs := [43,44,45,46,47] }, { o := .load 49 false 1 (.s 48), hs := [43,44,45,46,47], bf := [5] }, { o := .bin 50 false .neq (.s 47) (.s 49), bf := [0,1,2,3,4,5,6] }, { o := .mv 51 (.s 50), bf := [0,1,2,3,4,5,6,7] }, { o := .mv 52 (.s 1), g := some (51, false), hs := [53,57,58], bf := [0,1,2,3,4,5,6,7,8] }, { o := .mv 53 (.s 8), g := some (51, false), hs := [52,57,58], bf := [0,1,2,3,4,5,6,7,8] }, { o := .idx 54 5 (.s 52) (.s 53), g := some (51, false), hs := [57,58], bf := [0,1,2,3,4,5,6,7,8,9,10] }, { o := .fld 55 (.s 54) 1, g := some (51, false), hs := [57,58], bf := [0,1,2,3,4,5,6,7,8,9,10,11] }, { o := .load 56 true 3 (.s 55), g := some (51, false), hs := [57,58], bf := [0,1,2,3,4,5,6,7,8,9,10,11,12] }, { o := .fld 57 (.s 9) 1, g := some (51, false), hs := [52,53,54,55,56], bf := [0,1,2,3,4,5,6,7,8] }, { o := .load 58 true 3 (.s 57), g := some (51, false), hs := [52,53,54,55,56], bf := [0,1,2,3,4,5,6,7,8,14] }, { o := .eqA 59 true [.i .i64, .i .i64, .i .i64] (.s 56) (.s 58), g := some (51, false), bf := [0,1,2,3,4,5,6,7,8,9,10,11,12,13,14,15] }, { o := .pick 60 (.s 51) (.c (.bool true)) (.s 59), bf := [0,1,2,3,4,5,6,7,8,9,10,11,12,13,14,15,16] }] [0,1,4,6,7,8,60])
(.cond (.s 60) (.seq (pr [.mv 61 (.s 8), .load 62 true 4 (.s 6), .build 63 [.pl (.sc (.int .i64 0)), .pl (.sc (.int .i64 0)), .pl (.sc (.int .i64 0)), .emp 1, .emp 1, .emp 1] [(0, 1, .c (.int .i64 1)), (1, 1, .s 61), (2, 4, .s 62)], .mv 64 (.s 7), .store 6 (.s 4) (.s 63), .mv 5 (.s 64)] [4,5])
.ret) .skip))
(.seq (pr [.mv 65 (.s 1), .mv 66 (.s 8), .idx 67 5 (.s 65) (.s 66), .fld 68 (.s 67) 4, .load 69 false 1 (.s 68), .mv 10 (.s 69)] [0,1,4,6,7,8,10])
(pr [.mv 70 (.s 8), .bin 71 false .add (.s 70) (.c (.int .i64 1)), .mv 8 (.s 71)] [0,1,4,6,7,8,10])))) .skip))
(.seq (pr [.mv 72 (.s 0), .load 73 true 4 (.s 6), .mv 74 (.s 10), .call 75 [2, 3, 4] (.f n_spec_StepState) [.s 72, .s 73, .s 74], .store 4 (.s 6) (.s 75)] [0,1,4,6,7,8])
(pr [.mv 76 (.s 7), .load 77 true 4 (.s 6), .lit 78 7 4 80 [.s 77], .app 79 1 4 80 (.s 76) (.s 78), .mv 7 (.s 79)] [0,1,4,6,7,8])))))))))
(.seq (.seq (pr [.mv 80 (.s 8), .mv 81 (.s 1), .len 82 false (.s 81), .bin 83 false .lss (.s 80) (.s 82)] [4,6,7,8,83])
(.cond (.s 83) (.seq (pr [.mv 84 (.s 8), .load 85 true 4 (.s 6), .build 86 [.pl (.sc (.int .i64 0)), .pl (.sc (.int .i64 0)), .pl (.sc (.int .i64 0)), .emp 1, .emp 1, .emp 1] [(0, 1, .c (.int .i64 1)), (1, 1, .s 84), (2, 4, .s 85)], .mv 87 (.s 7), .store 6 (.s 4) (.s 86), .mv 5 (.s 87)] [4,5])
.ret) .skip))
(.seq (pr [.load 88 true 4 (.s 6), .build 89 [.pl (.sc (.int .i64 0)), .pl (.sc (.int .i64 0)), .pl (.sc (.int .i64 0)), .emp 1, .emp 1, .emp 1] [(2, 4, .s 88)], .mv 90 (.s 7), .store 6 (.s 4) (.s 89), .mv 5 (.s 90)] [4,5])
.ret))))))))
set_option maxHeartbeats 2000000 in
theorem c_spec_l14Run (l : List GOp) (es : List GEntry) : Ctr Tryz.prog n_spec_l14Run [aL 4 (l.map GOp.enc), aL 5 (es.map GEntry.enc)] [rP (play l es).1, rT (play l es).2] := by
  refine ctr_at (M := m_spec_l14Run) (m := 8) (n := 91) (res := [(.cell 4 true 6, [false, false, false, false, false, false]), (.tmp 5, [false])]) hmix Tryz.func199 rfl (by kernel_rfl) rfl (by kernel_rfl) (by kernel_rfl) (Nat.le_of_ble_eq_true rfl) ?_; unfold m_spec_l14Run
  intro hb
  simp only [bdA, bdL, bdT, bdR, bdR_map, wfB_i64, wfB_bool, wfB_str, roomB, and_true, true_and, List.length_map] at hb
  have hel : es.length ≤ 140737488355328 := hb.2.1
  clear hb
  simp only [↓bk_bind, ↓bk_map, ↓bk_ite, ↓bk_some, ↓reduceIte, Nat.reduceEqDiff, Nat.reduceLT, Nat.reduceLeDiff, Nat.reduceAdd, Nat.reduceMul, reduceCtorEq, List.reduceReplicate, go_sem]
  apply callK_of c_spec_StartState
  simp only [↓bk_bind, ↓bk_map, ↓bk_ite, ↓bk_some, ↓reduceIte, Nat.reduceEqDiff, Nat.reduceLT, Nat.reduceLeDiff, Nat.reduceAdd, Nat.reduceMul, reduceCtorEq, List.reduceReplicate, go_sem]
  intros
  refine ⟨by decide, ?_⟩
  apply callK_of (c_spec_IsScript l)
  simp only [↓bk_bind, ↓bk_map, ↓bk_ite, ↓bk_some, ↓reduceIte, Nat.reduceEqDiff, Nat.reduceLT, Nat.reduceLeDiff, Nat.reduceAdd, Nat.reduceMul, reduceCtorEq, List.reduceReplicate, go_sem]
  repeat' first
    | (refine And.intro ?_ ?_ <;> intro h)
    | (apply callK_of (c_spec_AreEntries es); simp only [↓bk_bind, ↓bk_map, ↓bk_ite, ↓bk_some, ↓reduceIte, Nat.reduceEqDiff, Nat.reduceLT, Nat.reduceLeDiff, Nat.reduceAdd, Nat.reduceMul, reduceCtorEq, List.reduceReplicate, go_sem])
  · have hP : play l es = (⟨2, 0, st0⟩, [st0]) := by rw [play, if_neg (by simp_all)]
    rw [hP]
    exact ⟨⟨rfl, rfl, rfl, rfl, rfl, rfl⟩, rfl⟩
  · have hP : play l es = (⟨2, 0, st0⟩, [st0]) := by rw [play, if_neg (by simp_all)]
    rw [hP]
    exact ⟨⟨rfl, rfl, rfl, rfl, rfl, rfl⟩, rfl⟩
  · have hl : scriptOk l = true := by assumption
    have hfew : l.length ≤ 16 := by
      simp only [scriptOk, fewAll, Bool.and_eq_true, decide_eq_true_eq] at hl
      exact hl.1
    have hP : play l es = playF l es 20 0 st0 [st0] := by rw [play, if_pos (by simp_all)]
    refine loopK_up (ι := Nat × GState × List GState) (fun t => [(7, .val false [.ref 1 0 4 0 t.2.2.length]), (8, vI (t.1 : Nat))]) (fun t => [(1, ⟨0, .row true 4 (t.2.2.map GState.enc)⟩), (2, ⟨0, .lent 1 (t.2.1.Regs.map encI)⟩), (3, ⟨0, .lent 1 (t.2.1.Slots.map encI)⟩), (4, ⟨0, .lent 1 (t.2.1.Nodes.map encI)⟩), (5, ⟨0, .box [.pl (tI t.2.1.Pc), .ref 2 0 1 0 t.2.1.Regs.length, .ref 3 0 1 0 t.2.1.Slots.length, .ref 4 0 1 0 t.2.1.Nodes.length]⟩)])
      (fun t => stOk t.2.1 = true ∧ t.1 ≤ es.length ∧ ∃ f, l.length - t.2.1.Pc.toNat < f ∧ t.2.2.length + (l.length - t.2.1.Pc.toNat) ≤ 18 ∧ playF l es f t.1 t.2.1 t.2.2 = play l es) (fun t => l.length - t.2.1.Pc.toNat) (0, st0, [st0]) ?_
    simp only [↓bk_bind, ↓bk_map, ↓bk_ite, ↓bk_some, ↓reduceIte, Nat.reduceEqDiff, Nat.reduceLT, Nat.reduceLeDiff, Nat.reduceAdd, Nat.reduceMul, reduceCtorEq, List.reduceReplicate, go_sem]
    refine ⟨?_, ⟨st0_ok, Nat.zero_le _, 20, by simp only [st0]; omega, by simp only [st0, List.length_cons, List.length_nil]; omega, hP.symm⟩, ?_⟩
    · simp only [↓bk_bind, ↓bk_map, ↓bk_ite, ↓bk_some, ↓reduceIte, Nat.reduceEqDiff, Nat.reduceLT, Nat.reduceLeDiff, Nat.reduceAdd, Nat.reduceMul, reduceCtorEq, List.reduceReplicate, go_sem]
      try exact ⟨rfl, rfl⟩
      try trivial
    · rintro ⟨n, s, tr⟩ ⟨hs, hn, f, hf, htr, hp⟩
      simp only at hs hn hf htr hp
      obtain ⟨f, rfl⟩ : ∃ f', f = f' + 1 := ⟨f - 1, by omega⟩
      rw [playF] at hp
      have hsz := stOk_size hs
      have h0 := (stOk_out hs).1.1
      simp only [↓bk_bind, ↓bk_map, ↓bk_ite, ↓bk_some, ↓reduceIte, Nat.reduceEqDiff, Nat.reduceLT, Nat.reduceLeDiff, Nat.reduceAdd, Nat.reduceMul, reduceCtorEq, List.reduceReplicate, go_sem]
      apply callK_of (c_spec_IsDone l s)
      by_cases hd : s.Pc ≥ l.length
      · rw [if_pos hd] at hp
        simp only [↓bk_bind, ↓bk_map, ↓bk_ite, ↓bk_some, ↓reduceIte, Nat.reduceEqDiff, Nat.reduceLT, Nat.reduceLeDiff, Nat.reduceAdd, Nat.reduceMul, reduceCtorEq, List.reduceReplicate, go_sem, hd]
        refine ⟨fun hlt => ?_, fun hge => ?_⟩
        · rw [if_pos (by omega)] at hp
          rw [← hp]
          exact ⟨⟨rfl, rfl, rfl, rfl, rfl, rfl⟩, rfl⟩
        · rw [if_neg (by omega)] at hp
          rw [← hp]
          exact ⟨⟨rfl, rfl, rfl, rfl, rfl, rfl⟩, rfl⟩
      · rw [if_neg hd] at hp
        simp only [↓bk_bind, ↓bk_map, ↓bk_ite, ↓bk_some, ↓reduceIte, Nat.reduceEqDiff, Nat.reduceLT, Nat.reduceLeDiff, Nat.reduceAdd, Nat.reduceMul, reduceCtorEq, List.reduceReplicate, go_sem, hd]
        apply callK_of (c_spec_WantOf l s)
        simp only [↓bk_bind, ↓bk_map, ↓bk_ite, ↓bk_some, ↓reduceIte, Nat.reduceEqDiff, Nat.reduceLT, Nat.reduceLeDiff, Nat.reduceAdd, Nat.reduceMul, reduceCtorEq, List.reduceReplicate, go_sem]
        intros
        by_cases hw : (wantOf l s).Kind = 0
        · rw [if_pos hw] at hp
          have hlt := stepTo_lt (v := 0) hl hs (by omega)
          have hok := stepTo_ok (l := l) (v := 0) hs
          simp only [↓bk_bind, ↓bk_map, ↓bk_ite, ↓bk_some, ↓reduceIte, Nat.reduceEqDiff, Nat.reduceLT, Nat.reduceLeDiff, Nat.reduceAdd, Nat.reduceMul, reduceCtorEq, List.reduceReplicate, go_sem, hw]
          apply callK_of (c_spec_StepState l s 0 (by omega))
          simp only [↓bk_bind, ↓bk_map, ↓bk_ite, ↓bk_some, ↓reduceIte, Nat.reduceEqDiff, Nat.reduceLT, Nat.reduceLeDiff, Nat.reduceAdd, Nat.reduceMul, reduceCtorEq, List.reduceReplicate, go_sem]
          intros
          exact ⟨by decide, by simp only [roomB]; omega, (n, stepTo l s 0, tr ++ [stepTo l s 0]), ⟨⟨by simp, rfl⟩, by simp [GState.enc], rfl, rfl, rfl, rfl, rfl, rfl, rfl⟩, ⟨hok, hn, f, by simp only; omega, by simp only [List.length_append, List.length_cons, List.length_nil]; omega, hp⟩, by simp only; omega⟩
        · rw [if_neg hw] at hp
          have hw' : (wantOf l s).Kind > 0 := by have := wantOf_kind l s; omega
          by_cases hne : n = es.length
          · rw [List.getElem?_eq_none (by omega)] at hp
            simp only at hp
            subst hne
            have hne1 : (es.length : Int) = es.length := rfl
            have hne2 : (es.length : Int) ≥ es.length := Int.le_refl _
            simp only [↓bk_bind, ↓bk_map, ↓bk_ite, ↓bk_some, ↓reduceIte, Nat.reduceEqDiff, Nat.reduceLT, Nat.reduceLeDiff, Nat.reduceAdd, Nat.reduceMul, reduceCtorEq, List.reduceReplicate, go_sem, hw, hw', hne2]
            rw [← hp]
            exact ⟨⟨rfl, rfl, rfl, rfl, rfl, rfl⟩, rfl⟩
          · obtain ⟨e, he⟩ := at_some (show n < es.length by omega)
            rw [he] at hp
            simp only at hp
            have hne1 : ¬ (n : Int) = es.length := by omega
            have hne2 : ¬ (n : Int) ≥ es.length := by omega
            have hn0 : (0 : Int) ≤ (n : Int) := by omega
            have hn1 : (n : Int) < es.length := by omega
            have hwn : IntKind.i64.wrap ((n : Int) + 1) = ((n + 1 : Nat) : Int) := by rw [wI (by omega) (by omega)]; omega
            by_cases c1 : e.Kind = (wantOf l s).Kind
            · by_cases c2 : e.Address = (wantOf l s).Address
              · rw [if_pos ⟨c1, c2⟩] at hp
                have hdec := decide_eq_true c2
                have hlt := stepTo_lt (v := e.Value) hl hs (by omega)
                have hok := stepTo_ok (l := l) (v := e.Value) hs
                simp only [↓bk_bind, ↓bk_map, ↓bk_ite, ↓bk_some, ↓reduceIte, Nat.reduceEqDiff, Nat.reduceLT, Nat.reduceLeDiff, Nat.reduceAdd, Nat.reduceMul, reduceCtorEq, List.reduceReplicate, go_sem, hw, hw', hne2, hn0, hn1, bk_eq he, addrB, c1, hdec]
                apply callK_of (c_spec_StepState l s e.Value (by omega))
                simp only [↓bk_bind, ↓bk_map, ↓bk_ite, ↓bk_some, ↓reduceIte, Nat.reduceEqDiff, Nat.reduceLT, Nat.reduceLeDiff, Nat.reduceAdd, Nat.reduceMul, reduceCtorEq, List.reduceReplicate, go_sem, hwn]
                intros
                exact ⟨by decide, by simp only [roomB]; omega, (n + 1, stepTo l s e.Value, tr ++ [stepTo l s e.Value]), ⟨⟨by simp, rfl⟩, by simp [GState.enc], rfl, rfl, rfl, rfl, rfl, rfl, rfl⟩, ⟨hok, by simp only; omega, f, by simp only; omega, by simp only [List.length_append, List.length_cons, List.length_nil]; omega, hp⟩, by simp only; omega⟩
              · rw [if_neg (fun h => c2 h.2)] at hp
                have hdec := decide_eq_false c2
                simp only [↓bk_bind, ↓bk_map, ↓bk_ite, ↓bk_some, ↓reduceIte, Nat.reduceEqDiff, Nat.reduceLT, Nat.reduceLeDiff, Nat.reduceAdd, Nat.reduceMul, reduceCtorEq, List.reduceReplicate, go_sem, hw, hw', hne2, hn0, hn1, bk_eq he, addrB, c1, hdec]
                rw [← hp]
                exact ⟨⟨rfl, rfl, rfl, rfl, rfl, rfl⟩, rfl⟩
            · rw [if_neg (fun h => c1 h.1)] at hp
              simp only [↓bk_bind, ↓bk_map, ↓bk_ite, ↓bk_some, ↓reduceIte, Nat.reduceEqDiff, Nat.reduceLT, Nat.reduceLeDiff, Nat.reduceAdd, Nat.reduceMul, reduceCtorEq, List.reduceReplicate, go_sem, hw, hw', hne2, hn0, hn1, bk_eq he, addrB, c1]
              rw [← hp]
              exact ⟨⟨rfl, rfl, rfl, rfl, rfl, rfl⟩, rfl⟩
end Go.Proofs.YtbnbgekjjbpljaaGreatR
namespace Go.Proofs.YtbnbgekjjbpljaaGreatR
open Go Go.RowKit Go.Proofs
set_option linter.unusedSimpArgs false
set_option linter.unusedVariables false
def m_impl_Replay : MC :=
(.seq (pr [.alloc 4 0 [.pl (.sc (.int .i64 0)), .pl (.sc (.int .i64 0)), .pl (.sc (.int .i64 0)), .emp 1, .emp 1, .emp 1]] [0,1,4])
(.seq (pr [.mv 8 (.s 0), .mv 9 (.s 1), .call 10 [] (.f n_impl_played) [.s 8, .s 9], .mv 7 (.s 10), .ext 11 (.s 7) 0, .ext 12 (.s 7) 1, .alloc 5 1 [.pl (.sc (.int .i64 0)), .pl (.sc (.int .i64 0)), .pl (.sc (.int .i64 0)), .emp 1, .emp 1, .emp 1], .store 6 (.s 5) (.s 11), .mv 6 (.s 12)] [4,5])
(.seq (pr [.fld 13 (.s 5) 2, .load 14 true 4 (.s 13), .call 15 [2, 3, 4] (.f n_impl_copyState) [.s 14], .fld 16 (.s 5) 2, .store 4 (.s 16) (.s 15)] [4,5])
(.seq (pr [.load 17 true 6 (.s 5), .store 6 (.s 4) (.s 17)] [4])
.ret))))
theorem c_impl_Replay (l : List GOp) (es : List GEntry) : Ctr Tryz.prog n_impl_Replay [aL 4 (l.map GOp.enc), aL 5 (es.map GEntry.enc)] [rS (play l es).1.enc] := by
  refine ctr_at (M := m_impl_Replay) (m := 5) (n := 18) (res := [(.cell 4 true 6, [false, false, false, true, true, true])]) hmix Tryz.func148 rfl (by kernel_rfl) rfl (by kernel_rfl) (by kernel_rfl) (Nat.le_of_ble_eq_true rfl) ?_; unfold m_impl_Replay
  intro hb
  clear hb
  have hz := stOk_size (play_ok l es)
  simp only [↓bk_bind, ↓bk_map, ↓bk_ite, ↓bk_some, ↓reduceIte, Nat.reduceEqDiff, Nat.reduceLT, Nat.reduceLeDiff, Nat.reduceAdd, Nat.reduceMul, reduceCtorEq, List.reduceReplicate, go_sem]
  apply callK_of (c_impl_played l es)
  simp only [↓bk_bind, ↓bk_map, ↓bk_ite, ↓bk_some, ↓reduceIte, Nat.reduceEqDiff, Nat.reduceLT, Nat.reduceLeDiff, Nat.reduceAdd, Nat.reduceMul, reduceCtorEq, List.reduceReplicate, go_sem]
  intros
  apply callK_of (c_impl_copyState (play l es).1.State (by omega))
  simp only [↓bk_bind, ↓bk_map, ↓bk_ite, ↓bk_some, ↓reduceIte, Nat.reduceEqDiff, Nat.reduceLT, Nat.reduceLeDiff, Nat.reduceAdd, Nat.reduceMul, reduceCtorEq, List.reduceReplicate, go_sem]
  try intros
  try trivial
def m_impl_PlayContainer : MC :=
(.seq (pr [.box 1 0 (.s 0), .alloc 2 1 [.pl (.sc (.int .i64 0)), .pl (.sc (.int .i64 0)), .pl (.sc (.int .i64 0)), .emp 1, .emp 1, .emp 1]] [1,2])
(.seq (pr [.fld 3 (.s 1) 0, .load 4 false 1 (.s 3), .fld 5 (.s 1) 1, .load 6 false 1 (.s 5), .call 7 [2, 3, 4] (.f n_impl_Replay) [.s 4, .s 6], .store 6 (.s 2) (.s 7)] [2])
.ret))
theorem c_impl_PlayContainer (x : GContainer) : Ctr Tryz.prog n_impl_PlayContainer [aS x.enc] [rS (play x.Script x.Entries).1.enc] := by
  refine ctr_at (M := m_impl_PlayContainer) (m := 5) (n := 8) (res := [(.cell 2 true 6, [false, false, false, true, true, true])]) hmix Tryz.func82 rfl (by kernel_rfl) rfl (by kernel_rfl) (by kernel_rfl) (Nat.le_of_ble_eq_true rfl) ?_; unfold m_impl_PlayContainer
  intro hb
  clear hb
  simp only [↓bk_bind, ↓bk_map, ↓bk_ite, ↓bk_some, ↓reduceIte, Nat.reduceEqDiff, Nat.reduceLT, Nat.reduceLeDiff, Nat.reduceAdd, Nat.reduceMul, reduceCtorEq, List.reduceReplicate, go_sem]
  apply callK_of (c_impl_Replay x.Script x.Entries)
  simp only [↓bk_bind, ↓bk_map, ↓bk_ite, ↓bk_some, ↓reduceIte, Nat.reduceEqDiff, Nat.reduceLT, Nat.reduceLeDiff, Nat.reduceAdd, Nat.reduceMul, reduceCtorEq, List.reduceReplicate, go_sem]
  try intros
  try trivial
def m_spec_Replay : MC :=
(.seq (pr [.alloc 4 0 [.pl (.sc (.int .i64 0)), .pl (.sc (.int .i64 0)), .pl (.sc (.int .i64 0)), .emp 1, .emp 1, .emp 1]] [0,1,4])
(.seq (pr [.mv 8 (.s 0), .mv 9 (.s 1), .call 10 [] (.f n_spec_l14Run) [.s 8, .s 9], .mv 7 (.s 10), .ext 11 (.s 7) 0, .ext 12 (.s 7) 1, .alloc 5 1 [.pl (.sc (.int .i64 0)), .pl (.sc (.int .i64 0)), .pl (.sc (.int .i64 0)), .emp 1, .emp 1, .emp 1], .store 6 (.s 5) (.s 11), .mv 6 (.s 12)] [4,5])
(.seq (pr [.fld 13 (.s 5) 2, .load 14 true 4 (.s 13), .call 15 [2, 3, 4] (.f n_spec_l11Copy) [.s 14], .fld 16 (.s 5) 2, .store 4 (.s 16) (.s 15)] [4,5])
(.seq (pr [.load 17 true 6 (.s 5), .store 6 (.s 4) (.s 17)] [4])
.ret))))
theorem c_spec_Replay (l : List GOp) (es : List GEntry) : Ctr Tryz.prog n_spec_Replay [aL 4 (l.map GOp.enc), aL 5 (es.map GEntry.enc)] [rS (play l es).1.enc] := by
  refine ctr_at (M := m_spec_Replay) (m := 5) (n := 18) (res := [(.cell 4 true 6, [false, false, false, true, true, true])]) hmix Tryz.func142 rfl (by kernel_rfl) rfl (by kernel_rfl) (by kernel_rfl) (Nat.le_of_ble_eq_true rfl) ?_; unfold m_spec_Replay
  intro hb
  clear hb
  have hz := stOk_size (play_ok l es)
  simp only [↓bk_bind, ↓bk_map, ↓bk_ite, ↓bk_some, ↓reduceIte, Nat.reduceEqDiff, Nat.reduceLT, Nat.reduceLeDiff, Nat.reduceAdd, Nat.reduceMul, reduceCtorEq, List.reduceReplicate, go_sem]
  apply callK_of (c_spec_l14Run l es)
  simp only [↓bk_bind, ↓bk_map, ↓bk_ite, ↓bk_some, ↓reduceIte, Nat.reduceEqDiff, Nat.reduceLT, Nat.reduceLeDiff, Nat.reduceAdd, Nat.reduceMul, reduceCtorEq, List.reduceReplicate, go_sem]
  intros
  apply callK_of (c_spec_l11Copy (play l es).1.State (by omega))
  simp only [↓bk_bind, ↓bk_map, ↓bk_ite, ↓bk_some, ↓reduceIte, Nat.reduceEqDiff, Nat.reduceLT, Nat.reduceLeDiff, Nat.reduceAdd, Nat.reduceMul, reduceCtorEq, List.reduceReplicate, go_sem]
  try intros
  try trivial
def m_spec_PlayContainer : MC :=
(.seq (pr [.box 1 0 (.s 0), .alloc 2 1 [.pl (.sc (.int .i64 0)), .pl (.sc (.int .i64 0)), .pl (.sc (.int .i64 0)), .emp 1, .emp 1, .emp 1]] [1,2])
(.seq (pr [.fld 3 (.s 1) 0, .load 4 false 1 (.s 3), .fld 5 (.s 1) 1, .load 6 false 1 (.s 5), .call 7 [2, 3, 4] (.f n_spec_Replay) [.s 4, .s 6], .store 6 (.s 2) (.s 7)] [2])
.ret))
theorem c_spec_PlayContainer (x : GContainer) : Ctr Tryz.prog n_spec_PlayContainer [aS x.enc] [rS (play x.Script x.Entries).1.enc] := by
  refine ctr_at (M := m_spec_PlayContainer) (m := 5) (n := 8) (res := [(.cell 2 true 6, [false, false, false, true, true, true])]) hmix Tryz.func74 rfl (by kernel_rfl) rfl (by kernel_rfl) (by kernel_rfl) (Nat.le_of_ble_eq_true rfl) ?_; unfold m_spec_PlayContainer
  intro hb
  clear hb
  simp only [↓bk_bind, ↓bk_map, ↓bk_ite, ↓bk_some, ↓reduceIte, Nat.reduceEqDiff, Nat.reduceLT, Nat.reduceLeDiff, Nat.reduceAdd, Nat.reduceMul, reduceCtorEq, List.reduceReplicate, go_sem]
  apply callK_of (c_spec_Replay x.Script x.Entries)
  simp only [↓bk_bind, ↓bk_map, ↓bk_ite, ↓bk_some, ↓reduceIte, Nat.reduceEqDiff, Nat.reduceLT, Nat.reduceLeDiff, Nat.reduceAdd, Nat.reduceMul, reduceCtorEq, List.reduceReplicate, go_sem]
  try intros
  try trivial
/-- A container that does not replay its visit. -/
def stray (x : GContainer) : Bool := (play x.Script x.Entries).1.Code != 0
def isPlayable (a : GArchive) : Bool := !a.Disk.Containers.any stray
def m_impl_IsPlayable_1 : MC :=
(.seq (pr [.box 1 0 (.s 0), .mv 2 (.c (.bool false))] [1])
(.seq (pr [.load 3 true 4 (.s 1), .call 4 [1, 2, 3] (.f n_impl_PlayContainer) [.s 3], .fldv 5 (.s 4) 0 1 false, .bin 6 false .neq (.s 5) (.c (.int .i64 0)), .mv 2 (.s 6)] [2])
.ret))
theorem c_impl_IsPlayable_1 (x : GContainer) : Ctr Tryz.prog n_impl_IsPlayable_1 [aS x.enc] [rB (stray x)] := by
  refine ctr_at (M := m_impl_IsPlayable_1) (m := 4) (n := 7) (res := [(.tmp 2, [false])]) hmix Tryz.func81 rfl (by kernel_rfl) rfl (by kernel_rfl) (by kernel_rfl) (Nat.le_of_ble_eq_true rfl) ?_; unfold m_impl_IsPlayable_1
  intro hb
  clear hb
  simp only [↓bk_bind, ↓bk_map, ↓bk_ite, ↓bk_some, ↓reduceIte, Nat.reduceEqDiff, Nat.reduceLT, Nat.reduceLeDiff, Nat.reduceAdd, Nat.reduceMul, reduceCtorEq, List.reduceReplicate, go_sem]
  apply callK_of (c_impl_PlayContainer x)
  simp only [↓bk_bind, ↓bk_map, ↓bk_ite, ↓bk_some, ↓reduceIte, Nat.reduceEqDiff, Nat.reduceLT, Nat.reduceLeDiff, Nat.reduceAdd, Nat.reduceMul, reduceCtorEq, List.reduceReplicate, go_sem]
  intros
  rfl
def m_impl_IsPlayable : MC :=
(.seq (pr [.box 1 0 (.s 0), .mv 2 (.c (.bool false))] [1])
(.seq (pr [.fld 3 (.s 1) 2, .fld 4 (.s 3) 0, .load 5 false 1 (.s 4), .call 6 [] (.f n_slices_ContainsFunc_impl_Container_impl_Container) [.s 5, .f n_impl_IsPlayable_1], .un 7 .not (.s 6), .mv 2 (.s 7)] [2])
.ret))
theorem c_impl_IsPlayable (a : GArchive) : Ctr Tryz.prog n_impl_IsPlayable [aS a.enc] [rB (isPlayable a)] := by
  refine ctr_at (M := m_impl_IsPlayable) (m := 1) (n := 8) (res := [(.tmp 2, [false])]) hmix Tryz.func21 rfl (by kernel_rfl) rfl (by kernel_rfl) (by kernel_rfl) (Nat.le_of_ble_eq_true rfl) ?_; unfold m_impl_IsPlayable
  intro hb
  clear hb
  simp only [↓bk_bind, ↓bk_map, ↓bk_ite, ↓bk_some, ↓reduceIte, Nat.reduceEqDiff, Nat.reduceLT, Nat.reduceLeDiff, Nat.reduceAdd, Nat.reduceMul, reduceCtorEq, List.reduceReplicate, go_sem]
  refine callK_of (c_slices_ContainsFunc_Container a.Disk.Containers _ [] stray fun x _ => c_impl_IsPlayable_1 x) ?_
  simp only [↓bk_bind, ↓bk_map, ↓bk_ite, ↓bk_some, ↓reduceIte, Nat.reduceEqDiff, Nat.reduceLT, Nat.reduceLeDiff, Nat.reduceAdd, Nat.reduceMul, reduceCtorEq, List.reduceReplicate, go_sem]
  try rfl
def m_spec_IsPlayable : MC :=
(.seq (pr [.box 1 0 (.s 0), .mv 2 (.c (.bool false))] [1])
(.seq (.seq (pr [.mv 3 (.c (.int .i64 0))] [1,3])
(.block 0 (.loop ([1,3], [1,2,3]) (.seq (.seq (pr [.mv 4 (.s 3), .fld 5 (.s 1) 2, .fld 6 (.s 5) 0, .load 7 false 1 (.s 6), .len 8 false (.s 7), .bin 9 false .lss (.s 4) (.s 8)] [1,3,9])
(.cond (.s 9) .skip (.exit 0)))
(.seq (.block 1 (.seq (pr [.fld 12 (.s 1) 2, .fld 13 (.s 12) 0, .load 14 false 1 (.s 13), .mv 15 (.s 3), .idx 16 4 (.s 14) (.s 15), .load 17 true 4 (.s 16), .call 18 [1, 2, 3] (.f n_spec_PlayContainer) [.s 17], .fldv 19 (.s 18) 0 1 false, .bin 20 false .neq (.s 19) (.c (.int .i64 0))] [1,3,20])
(.cond (.s 20) (.seq (pr [.mv 2 (.c (.bool false))] [2])
.ret) .skip)))
(pr [.mv 10 (.s 3), .bin 11 false .add (.s 10) (.c (.int .i64 1)), .mv 3 (.s 11)] [1,3]))))))
(.seq (pr [.mv 2 (.c (.bool true))] [2])
.ret)))
theorem c_spec_IsPlayable (a : GArchive) : Ctr Tryz.prog n_spec_IsPlayable [aS a.enc] [rB (isPlayable a)] := by
  refine ctr_at (M := m_spec_IsPlayable) (m := 4) (n := 21) (res := [(.tmp 2, [false])]) hmix Tryz.func19 rfl (by kernel_rfl) rfl (by kernel_rfl) (by kernel_rfl) (Nat.le_of_ble_eq_true rfl) ?_; unfold m_spec_IsPlayable
  intro hb
  simp only [GArchive.enc, bdA, bdL, bdT, bdR, bdR_map, wfB_i64, wfB_bool, wfB_str, roomB, and_true, true_and, List.length_map] at hb
  have hl := hb.2.2.1.1
  clear hb
  simp only [↓bk_bind, ↓bk_map, ↓bk_ite, ↓bk_some, ↓reduceIte, Nat.reduceEqDiff, Nat.reduceLT, Nat.reduceLeDiff, Nat.reduceAdd, Nat.reduceMul, reduceCtorEq, List.reduceReplicate, go_sem]
  refine loopK_rng a.Disk.Containers (fun k => [(3, vI k)]) (fun k => []) (fun k => (a.Disk.Containers.take k).any stray = false) (by simp only [roomB]; omega) ?_
  simp only [↓bk_bind, ↓bk_map, ↓bk_ite, ↓bk_some, ↓reduceIte, Nat.reduceEqDiff, Nat.reduceLT, Nat.reduceLeDiff, Nat.reduceAdd, Nat.reduceMul, reduceCtorEq, List.reduceReplicate, go_sem]
  refine ⟨?_, by simp, ?_, ?_⟩
  · simp only [↓bk_bind, ↓bk_map, ↓bk_ite, ↓bk_some, ↓reduceIte, Nat.reduceEqDiff, Nat.reduceLT, Nat.reduceLeDiff, Nat.reduceAdd, Nat.reduceMul, reduceCtorEq, List.reduceReplicate, go_sem]
  · intro k x hx h h0 h1 hw
    simp only [↓bk_bind, ↓bk_map, ↓bk_ite, ↓bk_some, ↓reduceIte, Nat.reduceEqDiff, Nat.reduceLT, Nat.reduceLeDiff, Nat.reduceAdd, Nat.reduceMul, reduceCtorEq, List.reduceReplicate, go_sem, bk_eq hx, h0, h1, hw]
    apply callK_of (c_spec_PlayContainer x)
    simp only [↓bk_bind, ↓bk_map, ↓bk_ite, ↓bk_some, ↓reduceIte, Nat.reduceEqDiff, Nat.reduceLT, Nat.reduceLeDiff, Nat.reduceAdd, Nat.reduceMul, reduceCtorEq, List.reduceReplicate, go_sem, bk_eq hx, h0, h1, hw]
    intros
    refine ⟨fun hn => ?_, fun hn => anyF_step hx h (by simp [stray, hn])⟩
    rw [isPlayable, any_here hx (by simp [stray, hn])]
    rfl
  · intro h
    rw [List.take_length] at h
    simp only [↓bk_bind, ↓bk_map, ↓bk_ite, ↓bk_some, ↓reduceIte, Nat.reduceEqDiff, Nat.reduceLT, Nat.reduceLeDiff, Nat.reduceAdd, Nat.reduceMul, reduceCtorEq, List.reduceReplicate, go_sem]
    rw [isPlayable, h]
    rfl
end Go.Proofs.YtbnbgekjjbpljaaGreatR
namespace Go.Proofs.YtbnbgekjjbpljaaGreatR
open Go Go.RowKit Go.Proofs
set_option linter.unusedSimpArgs false
set_option linter.unusedVariables false
def m_laws_FnExactIsPlayable : MC :=
(.seq (pr [.box 1 0 (.s 0), .mv 2 (.c (.bool false))] [1])
(.seq (pr [.mv 3 (.c (.int .i64 1048576))] [1,3])
(.seq (pr [.load 7 true 10 (.s 1), .mv 8 (.s 3), .call 9 [] (.f n_laws_szArchive) [.s 7, .s 8], .mv 3 (.s 9)] [1,3])
(.seq (.seq (pr [.mv 10 (.s 3), .bin 11 false .lss (.s 10) (.c (.int .i64 0))] [1,11])
(.cond (.s 11) (.seq (pr [.mv 2 (.c (.bool true))] [2])
.ret) .skip))
(.seq (pr [.load 12 true 10 (.s 1), .call 13 [1, 2, 3, 4, 5, 6, 7, 8, 9] (.f n_laws_toArchive) [.s 12], .call 14 [] (.f n_spec_IsPlayable) [.s 13], .mv 4 (.s 14)] [1,4])
(.seq (pr [.load 15 true 10 (.s 1), .call 16 [10, 11, 12, 13, 14, 15, 16, 17, 18] (.f n_laws_toArchive) [.s 15], .alloc 5 19 [.emp 9, .emp 4, .emp 4, .emp 6, .emp 4, .emp 5, .emp 4, .emp 1, .emp 4, .pl (.sc (.int .i64 0))], .store 10 (.s 5) (.s 16)] [1,4,5])
(.seq (pr [.load 17 true 10 (.s 5), .call 18 [] (.f n_impl_IsPlayable) [.s 17], .mv 6 (.s 18)] [1,4,5,6])
(.seq (.seq (pr [.mv 19 (.s 6), .mv 20 (.s 4), .bin 21 true .neq (.s 19) (.s 20)] [1,5,21])
(.cond (.s 21) (.seq (pr [.mv 2 (.c (.bool false))] [2])
.ret) .skip))
(.seq (.seq (.dreg [{ o := .load 22 true 10 (.s 5), hs := [23,24], ho := [20,21,22,23,24,25,26,27,28] }, { o := .load 23 true 10 (.s 1), hs := [22] }, { o := .call 24 [20, 21, 22, 23, 24, 25, 26, 27, 28] (.f n_laws_toArchive) [.s 23], hs := [22], ws := [20,21,22,23,24,25,26,27,28], bf := [1] }, { o := .call 25 [] (.f n_laws_eqArchive) [.s 22, .s 24], bf := [0,1,2] }, { o := .un 26 .not (.s 25), bf := [0,1,2,3] }] [26])
(.cond (.s 26) (.seq (pr [.mv 2 (.c (.bool false))] [2])
.ret) .skip))
(.seq (pr [.mv 2 (.c (.bool true))] [2])
.ret))))))))))
theorem c_laws_FnExactIsPlayable (a : GArchive) : Ctr Tryz.prog n_laws_FnExactIsPlayable [aS a.enc] [rB true] := by
  refine ctr_at (M := m_laws_FnExactIsPlayable) (m := 29) (n := 27) (res := [(.tmp 2, [false])]) hmix Tryz.func4 rfl (by kernel_rfl) rfl (by kernel_rfl) (by kernel_rfl) (Nat.le_of_ble_eq_true rfl) ?_; unfold m_laws_FnExactIsPlayable
  intro hb
  clear hb
  simp only [↓bk_bind, ↓bk_map, ↓bk_ite, ↓bk_some, ↓reduceIte, Nat.reduceEqDiff, Nat.reduceLT, Nat.reduceLeDiff, Nat.reduceAdd, Nat.reduceMul, reduceCtorEq, List.reduceReplicate, go_sem]
  apply callK_of (c_laws_szArchive a _ (by omega))
  simp only [↓bk_bind, ↓bk_map, ↓bk_ite, ↓bk_some, ↓reduceIte, Nat.reduceEqDiff, Nat.reduceLT, Nat.reduceLeDiff, Nat.reduceAdd, Nat.reduceMul, reduceCtorEq, List.reduceReplicate, go_sem]
  intro _ hz
  have hs := szr_ok hz
  have hc_a := GArchive.cts_le a
  apply callK_of (c_laws_toArchive a (by omega))
  simp only [↓bk_bind, ↓bk_map, ↓bk_ite, ↓bk_some, ↓reduceIte, Nat.reduceEqDiff, Nat.reduceLT, Nat.reduceLeDiff, Nat.reduceAdd, Nat.reduceMul, reduceCtorEq, List.reduceReplicate, go_sem]
  try intros
  apply callK_of (c_spec_IsPlayable a)
  simp only [↓bk_bind, ↓bk_map, ↓bk_ite, ↓bk_some, ↓reduceIte, Nat.reduceEqDiff, Nat.reduceLT, Nat.reduceLeDiff, Nat.reduceAdd, Nat.reduceMul, reduceCtorEq, List.reduceReplicate, go_sem]
  try intros
  apply callK_of (c_laws_toArchive a (by omega))
  simp only [↓bk_bind, ↓bk_map, ↓bk_ite, ↓bk_some, ↓reduceIte, Nat.reduceEqDiff, Nat.reduceLT, Nat.reduceLeDiff, Nat.reduceAdd, Nat.reduceMul, reduceCtorEq, List.reduceReplicate, go_sem]
  try intros
  apply callK_of (c_impl_IsPlayable a)
  simp only [↓bk_bind, ↓bk_map, ↓bk_ite, ↓bk_some, ↓reduceIte, Nat.reduceEqDiff, Nat.reduceLT, Nat.reduceLeDiff, Nat.reduceAdd, Nat.reduceMul, reduceCtorEq, List.reduceReplicate, go_sem]
  try intros
  apply callK_of (c_laws_toArchive a (by omega))
  simp only [↓bk_bind, ↓bk_map, ↓bk_ite, ↓bk_some, ↓reduceIte, Nat.reduceEqDiff, Nat.reduceLT, Nat.reduceLeDiff, Nat.reduceAdd, Nat.reduceMul, reduceCtorEq, List.reduceReplicate, go_sem]
  try intros
  apply callK_of (c_laws_eqArchive a a)
  simp only [↓bk_bind, ↓bk_map, ↓bk_ite, ↓bk_some, ↓reduceIte, Nat.reduceEqDiff, Nat.reduceLT, Nat.reduceLeDiff, Nat.reduceAdd, Nat.reduceMul, reduceCtorEq, List.reduceReplicate, go_sem]
  try intros
end Go.Proofs.YtbnbgekjjbpljaaGreatR
