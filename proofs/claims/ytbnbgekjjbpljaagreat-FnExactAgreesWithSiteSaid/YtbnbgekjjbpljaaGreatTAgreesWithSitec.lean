/- What the functions compute that the law of AgreesWithSite reaches: contracts, function by function. Conditions stand in each theorem. -/
import Derived.Test.YtbnbgekjjbpljaaGreatTAgreesWithSiteb
namespace Go.Proofs.YtbnbgekjjbpljaaGreatR
open Go Go.RowKit Go.Proofs
set_option linter.unusedSimpArgs false
set_option linter.unusedVariables false
def ansP (a : GAddress) (tick : Int) (v : GVersion) : Bool := decide (v.Address = a) && decide (v.From ≤ tick)
def noRes : GResource := ⟨4, [], ⟨0, 0, 0⟩⟩
def answer (l : List GVersion) (a : GAddress) (tick : Int) : GResource := l.foldl (fun r v => if ansP a tick v then v.Resource else r) noRes
theorem answer_snoc {l : List GVersion} {a : GAddress} {tick : Int} {k : Nat} {x : GVersion} (h : l[k]? = some x) : answer (l.take (k + 1)) a tick = if ansP a tick x then x.Resource else answer (l.take k) a tick := by
  rw [take_snoc h, answer, List.foldl_append]; rfl
theorem answer_body {a : GAddress} {tick : Int} : ∀ {l : List GVersion}, (answer l a tick).Body.length ≤ (l.map GVersion.size).sum := by
  intro l
  suffices H : ∀ (l : List GVersion) (r : GResource), (l.foldl (fun r v => if ansP a tick v then v.Resource else r) r).Body.length ≤ r.Body.length + (l.map GVersion.size).sum by
    have := H l noRes
    have e : noRes.Body.length = 0 := rfl
    rw [e, Nat.zero_add] at this
    exact this
  intro l
  induction l with
  | nil => intro r; simp
  | cons x l ih =>
    intro r
    rw [List.foldl_cons, List.map_cons, List.sum_cons]
    have := ih (if ansP a tick x then x.Resource else r)
    have h2 : (if ansP a tick x then x.Resource else r).Body.length ≤ r.Body.length + x.size := by
      split <;> simp only [GVersion.size, GResource.size] <;> omega
    omega
theorem hneg : ((0 : Int) - 1 ≥ 0) = False := by simp
/-- The three ways in which a version stands to a question. -/
theorem ansP_cases (a : GAddress) (tick : Int) (x : GVersion) : (ansP a tick x = true ∧ (x.Address.Host == a.Host && (x.Address.Path == a.Path && x.Address.Query == a.Query)) = true ∧ x.From ≤ tick) ∨
    (ansP a tick x = false ∧ (x.Address.Host == a.Host && (x.Address.Path == a.Path && x.Address.Query == a.Query)) = true ∧ ¬ x.From ≤ tick) ∨
    (ansP a tick x = false ∧ (x.Address.Host == a.Host && (x.Address.Path == a.Path && x.Address.Query == a.Query)) = false) := by
  rw [addrB]
  by_cases h1 : x.Address = a <;> by_cases h2 : x.From ≤ tick <;> simp [ansP, h1, h2]
def m_impl_AnswerAt : MC :=
(.seq (pr [.box 4 0 (.s 1), .alloc 6 1 [.pl (.sc (.int .i64 0)), .emp 1, .pl (.sc (.int .i64 0)), .pl (.sc (.int .i64 0)), .pl (.sc (.int .i64 0))]] [0,2,4,6])
(.seq (.seq (pr [.mv 8 (.s 0), .len 9 false (.s 8), .bin 10 false .sub (.s 9) (.c (.int .i64 1)), .mv 7 (.s 10)] [0,2,4,6,7])
(.block 0 (.loop ([0,2,4,6,7], []) (.seq (.seq (pr [.mv 11 (.s 7), .bin 12 false .geq (.s 11) (.c (.int .i64 0))] [0,2,4,6,7,12])
(.cond (.s 12) .skip (.exit 0)))
(.seq (.block 1 (.seq (.dreg [{ o := .mv 15 (.s 0), hs := [16,20] }, { o := .mv 16 (.s 7), hs := [15,20] }, { o := .idx 17 9 (.s 15) (.s 16), hs := [20], bf := [0,1] }, { o := .fld 18 (.s 17) 0, hs := [20], bf := [0,1,2] }, { o := .load 19 true 3 (.s 18), hs := [20], bf := [0,1,2,3] }, { o := .load 20 true 3 (.s 4), hs := [15,16,17,18,19] }, { o := .eqA 21 false [.i .i64, .i .i64, .i .i64] (.s 19) (.s 20), bf := [0,1,2,3,4,5] }, { o := .mv 22 (.s 21), bf := [0,1,2,3,4,5,6] }, { o := .mv 23 (.s 0), g := some (22, true), hs := [24,28], bf := [0,1,2,3,4,5,6,7] }, { o := .mv 24 (.s 7), g := some (22, true), hs := [23,28], bf := [0,1,2,3,4,5,6,7] }, { o := .idx 25 9 (.s 23) (.s 24), g := some (22, true), hs := [28], bf := [0,1,2,3,4,5,6,7,8,9] }, { o := .fld 26 (.s 25) 3, g := some (22, true), hs := [28], bf := [0,1,2,3,4,5,6,7,8,9,10] }, { o := .load 27 false 1 (.s 26), g := some (22, true), hs := [28], bf := [0,1,2,3,4,5,6,7,8,9,10,11] }, { o := .mv 28 (.s 2), g := some (22, true), hs := [23,24,25,26,27], bf := [0,1,2,3,4,5,6,7] }, { o := .bin 29 false .leq (.s 27) (.s 28), g := some (22, true), bf := [0,1,2,3,4,5,6,7,8,9,10,11,12,13] }, { o := .pick 30 (.s 22) (.s 29) (.c (.bool false)), bf := [0,1,2,3,4,5,6,7,8,9,10,11,12,13,14] }] [0,2,4,6,7,30])
(.cond (.s 30) (.seq (pr [.mv 31 (.s 0), .mv 32 (.s 7), .idx 33 9 (.s 31) (.s 32), .fld 34 (.s 33) 4, .load 35 true 5 (.s 34), .call 36 [2] (.f n_impl_copyResource) [.s 35], .store 5 (.s 6) (.s 36)] [6])
.ret) .skip)))
(pr [.mv 13 (.s 7), .bin 14 false .sub (.s 13) (.c (.int .i64 1)), .mv 7 (.s 14)] [0,2,4,6,7]))))))
(.seq (pr [.build 37 [.pl (.sc (.int .i64 0)), .emp 1, .pl (.sc (.int .i64 0)), .pl (.sc (.int .i64 0)), .pl (.sc (.int .i64 0))] [(0, 1, .c (.int .i64 4))], .store 5 (.s 6) (.s 37)] [6])
.ret)))
theorem c_impl_AnswerAt (l : List GVersion) (a : GAddress) (tick : Int) (hs : l.length + (l.map GVersion.size).sum ≤ 1073741824) : Ctr Tryz.prog n_impl_AnswerAt [aL 9 (l.map GVersion.enc), aS a.enc, aI tick] [rS (answer l a tick).enc] := by
  refine ctr_at (M := m_impl_AnswerAt) (m := 3) (n := 38) (res := [(.cell 6 true 5, [false, true, false, false, false])]) hmix Tryz.func158 rfl (by kernel_rfl) rfl (by kernel_rfl) (by kernel_rfl) (Nat.le_of_ble_eq_true rfl) ?_; unfold m_impl_AnswerAt
  intro hb
  clear hb
  simp only [↓bk_bind, ↓bk_map, ↓bk_ite, ↓bk_some, ↓reduceIte, Nat.reduceEqDiff, Nat.reduceLT, Nat.reduceLeDiff, Nat.reduceAdd, Nat.reduceMul, reduceCtorEq, List.reduceReplicate, go_sem]
  refine loopK_up (fun k : Nat => [(7, vI ((k : Int) - 1))]) (fun _ => []) (fun k => k ≤ l.length ∧ answer l a tick = answer (l.take k) a tick) (fun k => k) l.length ?_
  simp only [↓bk_bind, ↓bk_map, ↓bk_ite, ↓bk_some, ↓reduceIte, Nat.reduceEqDiff, Nat.reduceLT, Nat.reduceLeDiff, Nat.reduceAdd, Nat.reduceMul, reduceCtorEq, List.reduceReplicate, go_sem]
  refine ⟨?_, ⟨Nat.le_refl _, by rw [List.take_length]⟩, ?_⟩
  · simp only [↓bk_bind, ↓bk_map, ↓bk_ite, ↓bk_some, ↓reduceIte, Nat.reduceEqDiff, Nat.reduceLT, Nat.reduceLeDiff, Nat.reduceAdd, Nat.reduceMul, reduceCtorEq, List.reduceReplicate, go_sem]
    exact wI (by omega) (by omega)
  · rintro k ⟨hk, hd⟩
    cases k with
    | zero =>
      simp only [↓bk_bind, ↓bk_map, ↓bk_ite, ↓bk_some, ↓reduceIte, Nat.reduceEqDiff, Nat.reduceLT, Nat.reduceLeDiff, Nat.reduceAdd, Nat.reduceMul, reduceCtorEq, List.reduceReplicate, go_sem, hneg]
      rw [hd, List.take_zero]
      exact ⟨rfl, rfl, rfl, rfl, rfl⟩
    | succ k =>
      obtain ⟨x, hx⟩ := at_some (show k < l.length by omega)
      have e1 : ((k + 1 : Nat) : Int) - 1 = k := by omega
      have hx1 := mem_sum (f := GVersion.size) (at_mem hx)
      rw [answer_snoc hx] at hd
      simp only [e1]
      have hk0 : (k : Int) ≥ 0 := by omega
      have hk1 : (k : Int) < l.length := by omega
      have hk2 : (0 : Int) ≥ (k : Int) → k = 0 := by omega
      have hk3 : (0 : Int) ≤ (k : Int) := by omega
      rcases ansP_cases a tick x with ⟨hp, hA, hF⟩ | ⟨hp, hA, hF⟩ | ⟨hp, hA⟩
      · simp only [↓bk_bind, ↓bk_map, ↓bk_ite, ↓bk_some, ↓reduceIte, Nat.reduceEqDiff, Nat.reduceLT, Nat.reduceLeDiff, Nat.reduceAdd, Nat.reduceMul, reduceCtorEq, List.reduceReplicate, go_sem, bk_eq hx, hk0, hk1, hk3, hA, hF]
        apply callK_of (c_impl_copyResource x.Resource (by simp only [GVersion.size, GResource.size] at hx1; omega))
        simp only [↓bk_bind, ↓bk_map, ↓bk_ite, ↓bk_some, ↓reduceIte, Nat.reduceEqDiff, Nat.reduceLT, Nat.reduceLeDiff, Nat.reduceAdd, Nat.reduceMul, reduceCtorEq, List.reduceReplicate, go_sem]
        rw [hd, if_pos hp]
        try intros
        try exact ⟨rfl, rfl, rfl, rfl, rfl⟩
      · simp only [↓bk_bind, ↓bk_map, ↓bk_ite, ↓bk_some, ↓reduceIte, Nat.reduceEqDiff, Nat.reduceLT, Nat.reduceLeDiff, Nat.reduceAdd, Nat.reduceMul, reduceCtorEq, List.reduceReplicate, go_sem, bk_eq hx, hk0, hk1, hk3, hA, hF]
        rw [if_neg (by simp [hp])] at hd
        exact ⟨k, wI (by omega) (by omega), ⟨by omega, hd⟩, by omega⟩
      · simp only [↓bk_bind, ↓bk_map, ↓bk_ite, ↓bk_some, ↓reduceIte, Nat.reduceEqDiff, Nat.reduceLT, Nat.reduceLeDiff, Nat.reduceAdd, Nat.reduceMul, reduceCtorEq, List.reduceReplicate, go_sem, bk_eq hx, hk0, hk1, hk3, hA]
        rw [if_neg (by simp [hp])] at hd
        exact ⟨k, wI (by omega) (by omega), ⟨by omega, hd⟩, by omega⟩
def m_spec_AnswerAt : MC :=
(.seq (pr [.box 4 0 (.s 1), .alloc 6 1 [.pl (.sc (.int .i64 0)), .emp 1, .pl (.sc (.int .i64 0)), .pl (.sc (.int .i64 0)), .pl (.sc (.int .i64 0))]] [0,2,4,6])
(.seq (pr [.buildO 9 [.pl (.sc (.int .i64 0)), .emp 1, .pl (.sc (.int .i64 0)), .pl (.sc (.int .i64 0)), .pl (.sc (.int .i64 0))] [(0, 1, .c (.int .i64 4))] [none, some 2, none, none, none], .alloc 7 3 [.pl (.sc (.int .i64 0)), .emp 1, .pl (.sc (.int .i64 0)), .pl (.sc (.int .i64 0)), .pl (.sc (.int .i64 0))], .store 5 (.s 7) (.s 9)] [0,2,4,6,7])
(.seq (.seq (pr [.mv 8 (.c (.int .i64 0))] [0,2,4,6,7,8])
(.block 0 (.loop ([0,2,4,6,7,8], []) (.seq (.seq (pr [.mv 10 (.s 8), .mv 11 (.s 0), .len 12 false (.s 11), .bin 13 false .lss (.s 10) (.s 12)] [0,2,4,6,7,8,13])
(.cond (.s 13) .skip (.exit 0)))
(.seq (.block 1 (.seq (.dreg [{ o := .mv 16 (.s 0), hs := [17,21] }, { o := .mv 17 (.s 8), hs := [16,21] }, { o := .idx 18 9 (.s 16) (.s 17), hs := [21], bf := [0,1] }, { o := .fld 19 (.s 18) 0, hs := [21], bf := [0,1,2] }, { o := .load 20 true 3 (.s 19), hs := [21], bf := [0,1,2,3] }, { o := .load 21 true 3 (.s 4), hs := [16,17,18,19,20] }, { o := .eqA 22 false [.i .i64, .i .i64, .i .i64] (.s 20) (.s 21), bf := [0,1,2,3,4,5] }, { o := .mv 23 (.s 22), bf := [0,1,2,3,4,5,6] }, { o := .mv 24 (.s 0), g := some (23, true), hs := [25,29], bf := [0,1,2,3,4,5,6,7] }, { o := .mv 25 (.s 8), g := some (23, true), hs := [24,29], bf := [0,1,2,3,4,5,6,7] }, { o := .idx 26 9 (.s 24) (.s 25), g := some (23, true), hs := [29], bf := [0,1,2,3,4,5,6,7,8,9] }, { o := .fld 27 (.s 26) 3, g := some (23, true), hs := [29], bf := [0,1,2,3,4,5,6,7,8,9,10] }, { o := .load 28 false 1 (.s 27), g := some (23, true), hs := [29], bf := [0,1,2,3,4,5,6,7,8,9,10,11] }, { o := .mv 29 (.s 2), g := some (23, true), hs := [24,25,26,27,28], bf := [0,1,2,3,4,5,6,7] }, { o := .bin 30 false .leq (.s 28) (.s 29), g := some (23, true), bf := [0,1,2,3,4,5,6,7,8,9,10,11,12,13] }, { o := .pick 31 (.s 23) (.s 30) (.c (.bool false)), bf := [0,1,2,3,4,5,6,7,8,9,10,11,12,13,14] }] [0,2,4,6,7,8,31])
(.cond (.s 31) (pr [.mv 32 (.s 0), .mv 33 (.s 8), .idx 34 9 (.s 32) (.s 33), .fld 35 (.s 34) 4, .load 36 true 5 (.s 35), .call 37 [2] (.f n_spec_l5Copy) [.s 36], .store 5 (.s 7) (.s 37)] [0,2,4,6,7,8]) .skip)))
(pr [.mv 14 (.s 8), .bin 15 false .add (.s 14) (.c (.int .i64 1)), .mv 8 (.s 15)] [0,2,4,6,7,8]))))))
(.seq (pr [.load 38 true 5 (.s 7), .store 5 (.s 6) (.s 38)] [6])
.ret))))
theorem c_spec_AnswerAt (l : List GVersion) (a : GAddress) (tick : Int) (hs : l.length + (l.map GVersion.size).sum ≤ 1073741824) : Ctr Tryz.prog n_spec_AnswerAt [aL 9 (l.map GVersion.enc), aS a.enc, aI tick] [rS (answer l a tick).enc] := by
  refine ctr_at (M := m_spec_AnswerAt) (m := 4) (n := 39) (res := [(.cell 6 true 5, [false, true, false, false, false])]) hmix Tryz.func154 rfl (by kernel_rfl) rfl (by kernel_rfl) (by kernel_rfl) (Nat.le_of_ble_eq_true rfl) ?_; unfold m_spec_AnswerAt
  intro hb
  clear hb
  simp only [↓bk_bind, ↓bk_map, ↓bk_ite, ↓bk_some, ↓reduceIte, Nat.reduceEqDiff, Nat.reduceLT, Nat.reduceLeDiff, Nat.reduceAdd, Nat.reduceMul, reduceCtorEq, List.reduceReplicate, go_sem]
  refine loopK_rng l (fun k => [(8, vI k)]) (fun k => [(2, ⟨0, .row true 1 ((answer (l.take k) a tick).Body.map encI)⟩), (3, ⟨0, .box [.pl (tI (answer (l.take k) a tick).Kind), .ref 2 0 1 0 (answer (l.take k) a tick).Body.length, .pl (tI (answer (l.take k) a tick).To.Host), .pl (tI (answer (l.take k) a tick).To.Path), .pl (tI (answer (l.take k) a tick).To.Query)]⟩)]) (fun _ => True) (by simp only [roomB]; omega) ?_
  simp only [↓bk_bind, ↓bk_map, ↓bk_ite, ↓bk_some, ↓reduceIte, Nat.reduceEqDiff, Nat.reduceLT, Nat.reduceLeDiff, Nat.reduceAdd, Nat.reduceMul, reduceCtorEq, List.reduceReplicate, go_sem]
  refine ⟨?_, trivial, ?_, ?_⟩
  · simp only [↓bk_bind, ↓bk_map, ↓bk_ite, ↓bk_some, ↓reduceIte, Nat.reduceEqDiff, Nat.reduceLT, Nat.reduceLeDiff, Nat.reduceAdd, Nat.reduceMul, reduceCtorEq, List.reduceReplicate, go_sem, List.take_zero]
    exact ⟨rfl, rfl, rfl, rfl, rfl, rfl⟩
  · intro k x hx _ h0 h1 hw
    have hx1 := mem_sum (f := GVersion.size) (at_mem hx)
    have hsn := answer_snoc (a := a) (tick := tick) hx
    rcases ansP_cases a tick x with ⟨hp, hA, hF⟩ | ⟨hp, hA, hF⟩ | ⟨hp, hA⟩
    · rw [if_pos hp] at hsn
      simp only [↓bk_bind, ↓bk_map, ↓bk_ite, ↓bk_some, ↓reduceIte, Nat.reduceEqDiff, Nat.reduceLT, Nat.reduceLeDiff, Nat.reduceAdd, Nat.reduceMul, reduceCtorEq, List.reduceReplicate, go_sem, bk_eq hx, h0, h1, hw, hA, hF, hsn]
      apply callK_of (c_spec_l5Copy x.Resource (by simp only [GVersion.size, GResource.size] at hx1; omega))
      simp only [↓bk_bind, ↓bk_map, ↓bk_ite, ↓bk_some, ↓reduceIte, Nat.reduceEqDiff, Nat.reduceLT, Nat.reduceLeDiff, Nat.reduceAdd, Nat.reduceMul, reduceCtorEq, List.reduceReplicate, go_sem, hw]
      try intros
      try trivial
    · rw [if_neg (by simp [hp])] at hsn
      simp only [↓bk_bind, ↓bk_map, ↓bk_ite, ↓bk_some, ↓reduceIte, Nat.reduceEqDiff, Nat.reduceLT, Nat.reduceLeDiff, Nat.reduceAdd, Nat.reduceMul, reduceCtorEq, List.reduceReplicate, go_sem, bk_eq hx, h0, h1, hw, hA, hF, hsn]
      try trivial
    · rw [if_neg (by simp [hp])] at hsn
      simp only [↓bk_bind, ↓bk_map, ↓bk_ite, ↓bk_some, ↓reduceIte, Nat.reduceEqDiff, Nat.reduceLT, Nat.reduceLeDiff, Nat.reduceAdd, Nat.reduceMul, reduceCtorEq, List.reduceReplicate, go_sem, bk_eq hx, h0, h1, hw, hA, hsn]
      try trivial
  · intro _
    simp only [↓bk_bind, ↓bk_map, ↓bk_ite, ↓bk_some, ↓reduceIte, Nat.reduceEqDiff, Nat.reduceLT, Nat.reduceLeDiff, Nat.reduceAdd, Nat.reduceMul, reduceCtorEq, List.reduceReplicate, go_sem, List.take_length]
/-- Moved resources followed, n steps at most. -/
def followF (l : List GVersion) (tick : Int) : Nat → GResource → List GAddress → GResource × List GAddress
  | 0, r, q => (r, q)
  | n + 1, r, q => if r.Kind = 3 ∧ q.length ≤ 4 ∧ ¬ r.To ∈ q then followF l tick n (answer l r.To tick) (q ++ [r.To]) else (r, q)
def follow (l : List GVersion) (a : GAddress) (tick : Int) : GResource × List GAddress := followF l tick 5 (answer l a tick) [a]
theorem followF_go {l : List GVersion} {tick : Int} {r : GResource} {q : List GAddress} (h : r.Kind = 3 ∧ q.length ≤ 4 ∧ ¬ r.To ∈ q) : followF l tick (6 - q.length) r q = followF l tick (6 - (q ++ [r.To]).length) (answer l r.To tick) (q ++ [r.To]) := by
  have e : 6 - q.length = (6 - (q ++ [r.To]).length) + 1 := by rw [List.length_append]; simp only [List.length_cons, List.length_nil]; omega
  rw [e, followF, if_pos h]
theorem followF_stop {l : List GVersion} {tick : Int} {r : GResource} {q : List GAddress} (hq : q.length ≤ 5) (h : ¬ (r.Kind = 3 ∧ q.length ≤ 4 ∧ ¬ r.To ∈ q)) : followF l tick (6 - q.length) r q = (r, q) := by
  have e : 6 - q.length = (5 - q.length) + 1 := by omega
  rw [e, followF, if_neg h]
def m_spec_l9Has : MC :=
(.seq (pr [.box 3 0 (.s 1), .mv 4 (.c (.bool false))] [0,3])
(.seq (.seq (pr [.mv 5 (.c (.int .i64 0))] [0,3,5])
(.block 0 (.loop ([0,3,5], []) (.seq (.seq (pr [.mv 6 (.s 5), .mv 7 (.s 0), .len 8 false (.s 7), .bin 9 false .lss (.s 6) (.s 8)] [0,3,5,9])
(.cond (.s 9) .skip (.exit 0)))
(.seq (.block 1 (.seq (.dreg [{ o := .mv 12 (.s 0), hs := [13,16] }, { o := .mv 13 (.s 5), hs := [12,16] }, { o := .idx 14 3 (.s 12) (.s 13), hs := [16], bf := [0,1] }, { o := .load 15 true 3 (.s 14), hs := [16], bf := [0,1,2] }, { o := .load 16 true 3 (.s 3), hs := [12,13,14,15] }, { o := .eqA 17 false [.i .i64, .i .i64, .i .i64] (.s 15) (.s 16), bf := [0,1,2,3,4] }] [0,3,5,17])
(.cond (.s 17) (.seq (pr [.mv 4 (.c (.bool true))] [4])
.ret) .skip)))
(pr [.mv 10 (.s 5), .bin 11 false .add (.s 10) (.c (.int .i64 1)), .mv 5 (.s 11)] [0,3,5]))))))
(.seq (pr [.mv 4 (.c (.bool false))] [4])
.ret)))
theorem c_spec_l9Has (xs : List GAddress) (a : GAddress) : Ctr Tryz.prog n_spec_l9Has [aL 3 (xs.map GAddress.enc), aS a.enc] [rB (decide (a ∈ xs))] := by
  refine ctr_at (M := m_spec_l9Has) (m := 1) (n := 18) (res := [(.tmp 4, [false])]) hmix Tryz.func155 rfl (by kernel_rfl) rfl (by kernel_rfl) (by kernel_rfl) (Nat.le_of_ble_eq_true rfl) ?_; unfold m_spec_l9Has
  intro hb
  simp only [bdA, bdL, bdT, bdR, bdR_map, wfB_i64, wfB_bool, wfB_str, roomB, and_true, true_and, List.length_map] at hb
  have hl := hb.1
  clear hb
  simp only [↓bk_bind, ↓bk_map, ↓bk_ite, ↓bk_some, ↓reduceIte, Nat.reduceEqDiff, Nat.reduceLT, Nat.reduceLeDiff, Nat.reduceAdd, Nat.reduceMul, reduceCtorEq, List.reduceReplicate, go_sem]
  refine loopK_rng xs (fun k => [(5, vI k)]) (fun k => []) (fun k => ¬ a ∈ xs.take k) hl.1 ?_
  simp only [↓bk_bind, ↓bk_map, ↓bk_ite, ↓bk_some, ↓reduceIte, Nat.reduceEqDiff, Nat.reduceLT, Nat.reduceLeDiff, Nat.reduceAdd, Nat.reduceMul, reduceCtorEq, List.reduceReplicate, go_sem]
  refine ⟨?_, by simp, ?_, ?_⟩
  · simp only [↓bk_bind, ↓bk_map, ↓bk_ite, ↓bk_some, ↓reduceIte, Nat.reduceEqDiff, Nat.reduceLT, Nat.reduceLeDiff, Nat.reduceAdd, Nat.reduceMul, reduceCtorEq, List.reduceReplicate, go_sem]
  · intro k x hx h h0 h1 hw
    simp only [↓bk_bind, ↓bk_map, ↓bk_ite, ↓bk_some, ↓reduceIte, Nat.reduceEqDiff, Nat.reduceLT, Nat.reduceLeDiff, Nat.reduceAdd, Nat.reduceMul, reduceCtorEq, List.reduceReplicate, go_sem, bk_eq hx, h0, h1, hw, addrB]
    refine ⟨fun hy => ?_, fun hn => ?_⟩
    · have e : x = a := by simpa using hy
      exact (decide_eq_true (e ▸ at_mem hx)).symm
    · have e : ¬ x = a := by simpa using hn
      rw [take_snoc hx, List.mem_append, List.mem_singleton]
      rintro (hm | hm)
      · exact h hm
      · exact e hm.symm
  · intro h
    rw [List.take_length] at h
    simp only [↓bk_bind, ↓bk_map, ↓bk_ite, ↓bk_some, ↓reduceIte, Nat.reduceEqDiff, Nat.reduceLT, Nat.reduceLeDiff, Nat.reduceAdd, Nat.reduceMul, reduceCtorEq, List.reduceReplicate, go_sem]
    exact (decide_eq_false h).symm
def m_impl_FollowAt : MC :=
(.seq (pr [.box 4 0 (.s 1), .alloc 6 1 [.pl (.sc (.int .i64 0)), .emp 1, .pl (.sc (.int .i64 0)), .pl (.sc (.int .i64 0)), .pl (.sc (.int .i64 0))], .nilo 7 2 3] [0,2,4,6])
(.seq (pr [.mv 10 (.s 0), .load 11 true 3 (.s 4), .mv 12 (.s 2), .call 13 [3] (.f n_impl_AnswerAt) [.s 10, .s 11, .s 12], .alloc 8 4 [.pl (.sc (.int .i64 0)), .emp 1, .pl (.sc (.int .i64 0)), .pl (.sc (.int .i64 0)), .pl (.sc (.int .i64 0))], .store 5 (.s 8) (.s 13)] [0,2,4,6,8])
(.seq (pr [.load 14 true 3 (.s 4), .lit 15 2 3 24 [.s 14], .mv 9 (.s 15)] [0,2,6,8,9])
(.seq (.block 0 (.loop ([0,2,6,8,9], [0,5]) (.seq (.seq (.reg [{ o := .fld 16 (.s 8) 0 }, { o := .load 17 false 1 (.s 16) }, { o := .bin 18 false .eql (.s 17) (.c (.int .i64 3)) }, { o := .mv 19 (.s 18) }, { o := .mv 20 (.s 9), g := some (19, true) }, { o := .len 21 false (.s 20), g := some (19, true) }, { o := .bin 22 false .leq (.s 21) (.c (.int .i64 4)), g := some (19, true) }, { o := .pick 23 (.s 19) (.s 22) (.c (.bool false)) }, { o := .mv 24 (.s 23) }, { o := .mv 25 (.s 9), g := some (24, true) }, { o := .fld 26 (.s 8) 2, g := some (24, true) }, { o := .load 27 true 3 (.s 26), g := some (24, true) }, { o := .call 28 [] (.f n_slices_Contains_impl_Address_impl_Address) [.s 25, .s 27], g := some (24, true) }, { o := .un 29 .not (.s 28), g := some (24, true) }, { o := .pick 30 (.s 24) (.s 29) (.c (.bool false)) }] [0,2,6,8,9,30])
(.cond (.s 30) .skip (.exit 0)))
(.block 1 (.seq (pr [.mv 31 (.s 9), .fld 32 (.s 8) 2, .load 33 true 3 (.s 32), .lit 34 5 3 24 [.s 33], .app 35 2 3 24 (.s 31) (.s 34), .mv 9 (.s 35)] [0,2,6,8,9])
(pr [.mv 36 (.s 0), .fld 37 (.s 8) 2, .load 38 true 3 (.s 37), .mv 39 (.s 2), .call 40 [3] (.f n_impl_AnswerAt) [.s 36, .s 38, .s 39], .store 5 (.s 8) (.s 40)] [0,2,6,8,9]))))))
(.seq (pr [.load 41 true 5 (.s 8), .mv 42 (.s 9), .store 5 (.s 6) (.s 41), .mv 7 (.s 42)] [6,7])
.ret)))))
theorem c_impl_FollowAt (l : List GVersion) (a : GAddress) (tick : Int) (hs : l.length + (l.map GVersion.size).sum ≤ 1073741824) : Ctr Tryz.prog n_impl_FollowAt [aL 9 (l.map GVersion.enc), aS a.enc, aI tick] [rS (follow l a tick).1.enc, rL 3 ((follow l a tick).2.map GAddress.enc)] := by
  refine ctr_at (M := m_impl_FollowAt) (m := 6) (n := 43) (res := [(.cell 6 true 5, [false, true, false, false, false]), (.tmp 7, [true])]) hmix Tryz.func93 rfl (by kernel_rfl) rfl (by kernel_rfl) (by kernel_rfl) (Nat.le_of_ble_eq_true rfl) ?_; unfold m_impl_FollowAt
  intro hb
  clear hb
  simp only [↓bk_bind, ↓bk_map, ↓bk_ite, ↓bk_some, ↓reduceIte, Nat.reduceEqDiff, Nat.reduceLT, Nat.reduceLeDiff, Nat.reduceAdd, Nat.reduceMul, reduceCtorEq, List.reduceReplicate, go_sem]
  apply callK_of (c_impl_AnswerAt l a tick hs)
  simp only [↓bk_bind, ↓bk_map, ↓bk_ite, ↓bk_some, ↓reduceIte, Nat.reduceEqDiff, Nat.reduceLT, Nat.reduceLeDiff, Nat.reduceAdd, Nat.reduceMul, reduceCtorEq, List.reduceReplicate, go_sem]
  intros
  refine ⟨by decide, ?_⟩
  refine loopK_up (ι := GResource × List GAddress) (fun s => [(9, .val false [.ref 2 0 3 0 s.2.length])]) (fun s => [(2, ⟨0, .row true 3 (s.2.map GAddress.enc)⟩), (3, ⟨0, .row true 1 (s.1.Body.map encI)⟩), (4, ⟨0, .box [.pl (tI s.1.Kind), .ref 3 0 1 0 s.1.Body.length, .pl (tI s.1.To.Host), .pl (tI s.1.To.Path), .pl (tI s.1.To.Query)]⟩)]) (fun s => s.2.length ≤ 5 ∧ followF l tick (6 - s.2.length) s.1 s.2 = follow l a tick) (fun s => 6 - s.2.length) (answer l a tick, [a]) ?_
  simp only [↓bk_bind, ↓bk_map, ↓bk_ite, ↓bk_some, ↓reduceIte, Nat.reduceEqDiff, Nat.reduceLT, Nat.reduceLeDiff, Nat.reduceAdd, Nat.reduceMul, reduceCtorEq, List.reduceReplicate, go_sem]
  refine ⟨?_, ⟨by simp, rfl⟩, ?_⟩
  · simp only [↓bk_bind, ↓bk_map, ↓bk_ite, ↓bk_some, ↓reduceIte, Nat.reduceEqDiff, Nat.reduceLT, Nat.reduceLeDiff, Nat.reduceAdd, Nat.reduceMul, reduceCtorEq, List.reduceReplicate, go_sem]
    try trivial
  · rintro ⟨r, q⟩ ⟨hq, hf⟩
    simp only at hq hf
    by_cases c1 : r.Kind = 3
    · by_cases c2 : q.length ≤ 4
      · have c2' : (q.length : Int) ≤ 4 := by omega
        simp only [↓bk_bind, ↓bk_map, ↓bk_ite, ↓bk_some, ↓reduceIte, Nat.reduceEqDiff, Nat.reduceLT, Nat.reduceLeDiff, Nat.reduceAdd, Nat.reduceMul, reduceCtorEq, List.reduceReplicate, go_sem, c1, c2']
        apply callK_of (c_slices_Contains_Address q r.To)
        simp only [↓bk_bind, ↓bk_map, ↓bk_ite, ↓bk_some, ↓reduceIte, Nat.reduceEqDiff, Nat.reduceLT, Nat.reduceLeDiff, Nat.reduceAdd, Nat.reduceMul, reduceCtorEq, List.reduceReplicate, go_sem]
        refine ⟨fun c3 => ?_, fun c3 => ?_⟩
        · rw [followF_go ⟨c1, c2, c3⟩] at hf
          refine ⟨by decide, by simp only [roomB]; omega, ?_⟩
          apply callK_of (c_impl_AnswerAt l r.To tick hs)
          simp only [↓bk_bind, ↓bk_map, ↓bk_ite, ↓bk_some, ↓reduceIte, Nat.reduceEqDiff, Nat.reduceLT, Nat.reduceLeDiff, Nat.reduceAdd, Nat.reduceMul, reduceCtorEq, List.reduceReplicate, go_sem]
          intros
          refine ⟨(answer l r.To tick, q ++ [r.To]), ?_⟩
          exact ⟨⟨by simp, by simp [GAddress.enc], rfl, rfl, rfl, rfl, rfl, rfl⟩, ⟨by simp; omega, hf⟩, by simp; omega⟩
        · rw [followF_stop hq (fun hh => hh.2.2 c3)] at hf
          rw [← hf]
          exact ⟨⟨c1.symm, rfl, rfl, rfl, rfl⟩, rfl⟩
      · have c2' : ¬ (q.length : Int) ≤ 4 := by omega
        simp only [↓bk_bind, ↓bk_map, ↓bk_ite, ↓bk_some, ↓reduceIte, Nat.reduceEqDiff, Nat.reduceLT, Nat.reduceLeDiff, Nat.reduceAdd, Nat.reduceMul, reduceCtorEq, List.reduceReplicate, go_sem, c1, c2']
        rw [followF_stop hq (fun hh => c2 hh.2.1)] at hf
        rw [← hf]
        exact ⟨⟨c1.symm, rfl, rfl, rfl, rfl⟩, rfl⟩
    · simp only [↓bk_bind, ↓bk_map, ↓bk_ite, ↓bk_some, ↓reduceIte, Nat.reduceEqDiff, Nat.reduceLT, Nat.reduceLeDiff, Nat.reduceAdd, Nat.reduceMul, reduceCtorEq, List.reduceReplicate, go_sem, c1]
      rw [followF_stop hq (fun hh => c1 hh.1)] at hf
      rw [← hf]
      exact ⟨⟨rfl, rfl, rfl, rfl, rfl⟩, rfl⟩
def m_spec_FollowAt : MC :=
(.seq (pr [.box 4 0 (.s 1), .alloc 6 1 [.pl (.sc (.int .i64 0)), .emp 1, .pl (.sc (.int .i64 0)), .pl (.sc (.int .i64 0)), .pl (.sc (.int .i64 0))], .nilo 7 2 3] [0,2,4,6])
(.seq (pr [.load 10 true 3 (.s 4), .lit 11 2 3 24 [.s 10], .mv 8 (.s 11)] [0,2,4,6,8])
(.seq (pr [.mv 12 (.s 0), .load 13 true 3 (.s 4), .mv 14 (.s 2), .call 15 [3] (.f n_spec_AnswerAt) [.s 12, .s 13, .s 14], .alloc 9 4 [.pl (.sc (.int .i64 0)), .emp 1, .pl (.sc (.int .i64 0)), .pl (.sc (.int .i64 0)), .pl (.sc (.int .i64 0))], .store 5 (.s 9) (.s 15)] [0,2,6,8,9])
(.seq (.block 0 (.loop ([0,2,6,8,9], [0,5]) (.seq (.seq (.reg [{ o := .fld 16 (.s 9) 0 }, { o := .load 17 false 1 (.s 16) }, { o := .bin 18 false .eql (.s 17) (.c (.int .i64 3)) }, { o := .mv 19 (.s 18) }, { o := .mv 20 (.s 8), g := some (19, true) }, { o := .len 21 false (.s 20), g := some (19, true) }, { o := .bin 22 false .leq (.s 21) (.c (.int .i64 4)), g := some (19, true) }, { o := .pick 23 (.s 19) (.s 22) (.c (.bool false)) }, { o := .mv 24 (.s 23) }, { o := .mv 25 (.s 8), g := some (24, true) }, { o := .fld 26 (.s 9) 2, g := some (24, true) }, { o := .load 27 true 3 (.s 26), g := some (24, true) }, { o := .call 28 [] (.f n_spec_l9Has) [.s 25, .s 27], g := some (24, true) }, { o := .un 29 .not (.s 28), g := some (24, true) }, { o := .pick 30 (.s 24) (.s 29) (.c (.bool false)) }] [0,2,6,8,9,30])
(.cond (.s 30) .skip (.exit 0)))
(.block 1 (.seq (pr [.mv 31 (.s 8), .fld 32 (.s 9) 2, .load 33 true 3 (.s 32), .lit 34 5 3 24 [.s 33], .app 35 2 3 24 (.s 31) (.s 34), .mv 8 (.s 35)] [0,2,6,8,9])
(pr [.mv 36 (.s 0), .fld 37 (.s 9) 2, .load 38 true 3 (.s 37), .mv 39 (.s 2), .call 40 [3] (.f n_spec_AnswerAt) [.s 36, .s 38, .s 39], .store 5 (.s 9) (.s 40)] [0,2,6,8,9]))))))
(.seq (pr [.load 41 true 5 (.s 9), .mv 42 (.s 8), .store 5 (.s 6) (.s 41), .mv 7 (.s 42)] [6,7])
.ret)))))
theorem c_spec_FollowAt (l : List GVersion) (a : GAddress) (tick : Int) (hs : l.length + (l.map GVersion.size).sum ≤ 1073741824) : Ctr Tryz.prog n_spec_FollowAt [aL 9 (l.map GVersion.enc), aS a.enc, aI tick] [rS (follow l a tick).1.enc, rL 3 ((follow l a tick).2.map GAddress.enc)] := by
  refine ctr_at (M := m_spec_FollowAt) (m := 6) (n := 43) (res := [(.cell 6 true 5, [false, true, false, false, false]), (.tmp 7, [true])]) hmix Tryz.func89 rfl (by kernel_rfl) rfl (by kernel_rfl) (by kernel_rfl) (Nat.le_of_ble_eq_true rfl) ?_; unfold m_spec_FollowAt
  intro hb
  clear hb
  simp only [↓bk_bind, ↓bk_map, ↓bk_ite, ↓bk_some, ↓reduceIte, Nat.reduceEqDiff, Nat.reduceLT, Nat.reduceLeDiff, Nat.reduceAdd, Nat.reduceMul, reduceCtorEq, List.reduceReplicate, go_sem]
  refine ⟨by decide, ?_⟩
  apply callK_of (c_spec_AnswerAt l a tick hs)
  simp only [↓bk_bind, ↓bk_map, ↓bk_ite, ↓bk_some, ↓reduceIte, Nat.reduceEqDiff, Nat.reduceLT, Nat.reduceLeDiff, Nat.reduceAdd, Nat.reduceMul, reduceCtorEq, List.reduceReplicate, go_sem]
  intros
  refine loopK_up (ι := GResource × List GAddress) (fun s => [(8, .val false [.ref 2 0 3 0 s.2.length])]) (fun s => [(2, ⟨0, .row true 3 (s.2.map GAddress.enc)⟩), (3, ⟨0, .row true 1 (s.1.Body.map encI)⟩), (4, ⟨0, .box [.pl (tI s.1.Kind), .ref 3 0 1 0 s.1.Body.length, .pl (tI s.1.To.Host), .pl (tI s.1.To.Path), .pl (tI s.1.To.Query)]⟩)]) (fun s => s.2.length ≤ 5 ∧ followF l tick (6 - s.2.length) s.1 s.2 = follow l a tick) (fun s => 6 - s.2.length) (answer l a tick, [a]) ?_
  simp only [↓bk_bind, ↓bk_map, ↓bk_ite, ↓bk_some, ↓reduceIte, Nat.reduceEqDiff, Nat.reduceLT, Nat.reduceLeDiff, Nat.reduceAdd, Nat.reduceMul, reduceCtorEq, List.reduceReplicate, go_sem]
  refine ⟨?_, ⟨by simp, rfl⟩, ?_⟩
  · simp only [↓bk_bind, ↓bk_map, ↓bk_ite, ↓bk_some, ↓reduceIte, Nat.reduceEqDiff, Nat.reduceLT, Nat.reduceLeDiff, Nat.reduceAdd, Nat.reduceMul, reduceCtorEq, List.reduceReplicate, go_sem]
    try trivial
  · rintro ⟨r, q⟩ ⟨hq, hf⟩
    simp only at hq hf
    by_cases c1 : r.Kind = 3
    · by_cases c2 : q.length ≤ 4
      · have c2' : (q.length : Int) ≤ 4 := by omega
        simp only [↓bk_bind, ↓bk_map, ↓bk_ite, ↓bk_some, ↓reduceIte, Nat.reduceEqDiff, Nat.reduceLT, Nat.reduceLeDiff, Nat.reduceAdd, Nat.reduceMul, reduceCtorEq, List.reduceReplicate, go_sem, c1, c2']
        apply callK_of (c_spec_l9Has q r.To)
        simp only [↓bk_bind, ↓bk_map, ↓bk_ite, ↓bk_some, ↓reduceIte, Nat.reduceEqDiff, Nat.reduceLT, Nat.reduceLeDiff, Nat.reduceAdd, Nat.reduceMul, reduceCtorEq, List.reduceReplicate, go_sem]
        refine ⟨fun c3 => ?_, fun c3 => ?_⟩
        · rw [followF_go ⟨c1, c2, c3⟩] at hf
          refine ⟨by decide, by simp only [roomB]; omega, ?_⟩
          apply callK_of (c_spec_AnswerAt l r.To tick hs)
          simp only [↓bk_bind, ↓bk_map, ↓bk_ite, ↓bk_some, ↓reduceIte, Nat.reduceEqDiff, Nat.reduceLT, Nat.reduceLeDiff, Nat.reduceAdd, Nat.reduceMul, reduceCtorEq, List.reduceReplicate, go_sem]
          intros
          refine ⟨(answer l r.To tick, q ++ [r.To]), ?_⟩
          exact ⟨⟨by simp, by simp [GAddress.enc], rfl, rfl, rfl, rfl, rfl, rfl⟩, ⟨by simp; omega, hf⟩, by simp; omega⟩
        · rw [followF_stop hq (fun hh => hh.2.2 c3)] at hf
          rw [← hf]
          exact ⟨⟨c1.symm, rfl, rfl, rfl, rfl⟩, rfl⟩
      · have c2' : ¬ (q.length : Int) ≤ 4 := by omega
        simp only [↓bk_bind, ↓bk_map, ↓bk_ite, ↓bk_some, ↓reduceIte, Nat.reduceEqDiff, Nat.reduceLT, Nat.reduceLeDiff, Nat.reduceAdd, Nat.reduceMul, reduceCtorEq, List.reduceReplicate, go_sem, c1, c2']
        rw [followF_stop hq (fun hh => c2 hh.2.1)] at hf
        rw [← hf]
        exact ⟨⟨c1.symm, rfl, rfl, rfl, rfl⟩, rfl⟩
    · simp only [↓bk_bind, ↓bk_map, ↓bk_ite, ↓bk_some, ↓reduceIte, Nat.reduceEqDiff, Nat.reduceLT, Nat.reduceLeDiff, Nat.reduceAdd, Nat.reduceMul, reduceCtorEq, List.reduceReplicate, go_sem, c1]
      rw [followF_stop hq (fun hh => c1 hh.1)] at hf
      rw [← hf]
      exact ⟨⟨rfl, rfl, rfl, rfl, rfl⟩, rfl⟩
/-- A capture of the address that the site does not answer with. -/
def offends (a : GArchive) (x : GAddress) (c : GCapture) : Bool := decide (c.Address = x) && !decide ((follow a.Site x c.Tick).1 = c.Resource)
def agrees (a : GArchive) (x : GAddress) : Bool := !(served a).any (offends a x)
theorem site_sz {a : GArchive} (hs : a.size ≤ 1073741824) : a.Site.length + (a.Site.map GVersion.size).sum ≤ 1073741824 := by
  simp only [GArchive.size] at hs; omega
def m_impl_AgreesWithSite_1 : MC :=
(.seq (pr [.box 3 0 (.s 0), .mv 4 (.c (.bool false))] [1,2,3])
(.seq (pr [.fld 8 (.s 1) 0, .load 9 false 1 (.s 8), .load 10 true 3 (.s 2), .fld 11 (.s 3) 3, .load 12 false 1 (.s 11), .call 13 [1, 2] (.f n_impl_FollowAt) [.s 9, .s 10, .s 12], .mv 7 (.s 13), .ext 14 (.s 7) 0, .ext 15 (.s 7) 1, .alloc 5 3 [.pl (.sc (.int .i64 0)), .emp 1, .pl (.sc (.int .i64 0)), .pl (.sc (.int .i64 0)), .pl (.sc (.int .i64 0))], .store 5 (.s 5) (.s 14), .mv 6 (.s 15)] [2,3,5])
(.seq (.reg [{ o := .fld 16 (.s 3) 0 }, { o := .load 17 true 3 (.s 16) }, { o := .load 18 true 3 (.s 2) }, { o := .eqA 19 false [.i .i64, .i .i64, .i .i64] (.s 17) (.s 18) }, { o := .mv 20 (.s 19) }, { o := .load 21 true 5 (.s 5), g := some (20, true) }, { o := .fld 22 (.s 3) 4, g := some (20, true) }, { o := .load 23 true 5 (.s 22), g := some (20, true) }, { o := .call 24 [] (.f n_impl_EqualResources) [.s 21, .s 23], g := some (20, true) }, { o := .un 25 .not (.s 24), g := some (20, true) }, { o := .pick 26 (.s 20) (.s 25) (.c (.bool false)) }, { o := .mv 4 (.s 26) }] [4])
.ret)))
theorem c_impl_AgreesWithSite_1 (c : GCapture) (a : GArchive) (x : GAddress) (hs : a.size ≤ 1073741824) : Ctr Tryz.prog n_impl_AgreesWithSite_1 [aS c.enc, (false, [.pb a.enc]), (false, [.pb x.enc])] [rB (offends a x c)] := by
  refine ctr_at (M := m_impl_AgreesWithSite_1) (m := 4) (n := 27) (res := [(.tmp 4, [false])]) hmix Tryz.func92 rfl (by kernel_rfl) rfl (by kernel_rfl) (by kernel_rfl) (Nat.le_of_ble_eq_true rfl) ?_; unfold m_impl_AgreesWithSite_1
  intro hb
  clear hb
  simp only [↓bk_bind, ↓bk_map, ↓bk_ite, ↓bk_some, ↓reduceIte, Nat.reduceEqDiff, Nat.reduceLT, Nat.reduceLeDiff, Nat.reduceAdd, Nat.reduceMul, reduceCtorEq, List.reduceReplicate, go_sem]
  apply callK_of (c_impl_FollowAt a.Site x c.Tick (site_sz hs))
  simp only [↓bk_bind, ↓bk_map, ↓bk_ite, ↓bk_some, ↓reduceIte, Nat.reduceEqDiff, Nat.reduceLT, Nat.reduceLeDiff, Nat.reduceAdd, Nat.reduceMul, reduceCtorEq, List.reduceReplicate, go_sem, addrB]
  intros
  refine And.intro ?_ ?_ <;> intro h
  · apply callK_of (c_impl_EqualResources (follow a.Site x c.Tick).1 c.Resource)
    simp only [↓bk_bind, ↓bk_map, ↓bk_ite, ↓bk_some, ↓reduceIte, Nat.reduceEqDiff, Nat.reduceLT, Nat.reduceLeDiff, Nat.reduceAdd, Nat.reduceMul, reduceCtorEq, List.reduceReplicate, go_sem]
    have h' : c.Address = x := by simpa using h
    simp [offends, h']
  · have h' : ¬ c.Address = x := by simpa using h
    simp [offends, h']
def m_impl_AgreesWithSite : MC :=
(.seq (pr [.box 2 0 (.s 0), .box 3 1 (.s 1), .mv 4 (.c (.bool false))] [2,3])
(.seq (pr [.load 5 true 10 (.s 2), .call 6 [2] (.f n_impl_ServedCaptures) [.s 5], .clos 7 n_impl_AgreesWithSite_1 [2, 3], .call 8 [] (.f n_slices_ContainsFunc_impl_Capture_impl_Capture) [.s 6, .s 7], .un 9 .not (.s 8), .mv 4 (.s 9)] [4])
.ret))
theorem c_impl_AgreesWithSite (a : GArchive) (x : GAddress) (hs : a.size ≤ 1073741824) : Ctr Tryz.prog n_impl_AgreesWithSite [aS a.enc, aS x.enc] [rB (agrees a x)] := by
  refine ctr_at (M := m_impl_AgreesWithSite) (m := 3) (n := 10) (res := [(.tmp 4, [false])]) hmix Tryz.func27 rfl (by kernel_rfl) rfl (by kernel_rfl) (by kernel_rfl) (Nat.le_of_ble_eq_true rfl) ?_; unfold m_impl_AgreesWithSite
  intro hb
  clear hb
  simp only [↓bk_bind, ↓bk_map, ↓bk_ite, ↓bk_some, ↓reduceIte, Nat.reduceEqDiff, Nat.reduceLT, Nat.reduceLeDiff, Nat.reduceAdd, Nat.reduceMul, reduceCtorEq, List.reduceReplicate, go_sem]
  apply callK_of (c_impl_ServedCaptures a hs)
  simp only [↓bk_bind, ↓bk_map, ↓bk_ite, ↓bk_some, ↓reduceIte, Nat.reduceEqDiff, Nat.reduceLT, Nat.reduceLeDiff, Nat.reduceAdd, Nat.reduceMul, reduceCtorEq, List.reduceReplicate, go_sem]
  intros
  refine callK_of (c_slices_ContainsFunc_Capture (served a) _ [.pb a.enc, .pb x.enc] (offends a x) fun c _ => c_impl_AgreesWithSite_1 c a x hs) ?_
  simp only [↓bk_bind, ↓bk_map, ↓bk_ite, ↓bk_some, ↓reduceIte, Nat.reduceEqDiff, Nat.reduceLT, Nat.reduceLeDiff, Nat.reduceAdd, Nat.reduceMul, reduceCtorEq, List.reduceReplicate, go_sem]
  intros
  rfl
def m_spec_AgreesWithSite : MC :=
(.seq (pr [.box 2 0 (.s 0), .box 3 1 (.s 1), .mv 4 (.c (.bool false))] [2,3])
(.seq (pr [.load 9 true 10 (.s 2), .call 10 [2] (.f n_spec_ServedCaptures) [.s 9], .mv 5 (.s 10)] [2,3,5])
(.seq (.seq (pr [.mv 6 (.c (.int .i64 0))] [2,3,5,6])
(.block 0 (.loop ([2,3,5,6], [3,4,5]) (.seq (.seq (pr [.mv 11 (.s 6), .mv 12 (.s 5), .len 13 false (.s 12), .bin 14 false .lss (.s 11) (.s 13)] [2,3,5,6,14])
(.cond (.s 14) .skip (.exit 0)))
(.seq (.block 1 (.seq (.seq (.dreg [{ o := .mv 17 (.s 5), hs := [18,22] }, { o := .mv 18 (.s 6), hs := [17,22] }, { o := .idx 19 9 (.s 17) (.s 18), hs := [22], bf := [0,1] }, { o := .fld 20 (.s 19) 0, hs := [22], bf := [0,1,2] }, { o := .load 21 true 3 (.s 20), hs := [22], bf := [0,1,2,3] }, { o := .load 22 true 3 (.s 3), hs := [17,18,19,20,21] }, { o := .eqA 23 true [.i .i64, .i .i64, .i .i64] (.s 21) (.s 22), bf := [0,1,2,3,4,5] }] [2,3,5,6,23])
(.cond (.s 23) (.exit 1) .skip))
(.seq (.dreg [{ o := .fld 25 (.s 2) 0, hs := [7,27,28,29,30,31,32], ho := [5] }, { o := .load 26 false 1 (.s 25), hs := [7,27,28,29,30,31,32], ho := [5], bf := [0] }, { o := .load 27 true 3 (.s 3), hs := [7,25,26,28,29,30,31,32], ho := [5] }, { o := .mv 28 (.s 5), hs := [7,25,26,27,29], ho := [5] }, { o := .mv 29 (.s 6), hs := [7,25,26,27,28], ho := [5] }, { o := .idx 30 9 (.s 28) (.s 29), hs := [7,25,26,27], ho := [5], bf := [3,4] }, { o := .fld 31 (.s 30) 3, hs := [7,25,26,27], ho := [5], bf := [3,4,5] }, { o := .load 32 false 1 (.s 31), hs := [7,25,26,27], ho := [5], bf := [3,4,5,6] }, { o := .call 33 [3, 4] (.f n_spec_FollowAt) [.s 26, .s 27, .s 32], hs := [7], ho := [5], ws := [3,4], bf := [0,1,2,3,4,5,6,7] }, { o := .mv 24 (.s 33), hs := [7], ho := [5], bf := [0,1,2,3,4,5,6,7,8] }, { o := .ext 34 (.s 24) 0, hs := [7,35], ho := [5], bf := [0,1,2,3,4,5,6,7,8,9] }, { o := .ext 35 (.s 24) 1, hs := [7,34], ho := [3,5], bf := [0,1,2,3,4,5,6,7,8,9] }, { o := .alloc 7 5 [.pl (.sc (.int .i64 0)), .emp 1, .pl (.sc (.int .i64 0)), .pl (.sc (.int .i64 0)), .pl (.sc (.int .i64 0))], hs := [24,25,26,27,28,29,30,31,32,33,34,35], ho := [3,4], ws := [5] }, { o := .store 5 (.s 7) (.s 34), hs := [35], ws := [3,5], bf := [0,1,2,3,4,5,6,7,8,9,10,12] }, { o := .mv 8 (.s 35), bf := [0,1,2,3,4,5,6,7,8,9,10,11,12,13] }] [2,3,5,6,7])
(.seq (.dreg [{ o := .load 36 true 5 (.s 7), hs := [37,38,39,40,41] }, { o := .mv 37 (.s 5), hs := [36,38] }, { o := .mv 38 (.s 6), hs := [36,37] }, { o := .idx 39 9 (.s 37) (.s 38), hs := [36], bf := [1,2] }, { o := .fld 40 (.s 39) 4, hs := [36], bf := [1,2,3] }, { o := .load 41 true 5 (.s 40), hs := [36], bf := [1,2,3,4] }, { o := .call 42 [] (.f n_spec_EqualResources) [.s 36, .s 41], bf := [0,1,2,3,4,5] }, { o := .un 43 .not (.s 42), bf := [0,1,2,3,4,5,6] }] [2,3,5,6,43])
(.cond (.s 43) (.seq (pr [.mv 4 (.c (.bool false))] [4])
.ret) .skip)))))
(pr [.mv 15 (.s 6), .bin 16 false .add (.s 15) (.c (.int .i64 1)), .mv 6 (.s 16)] [2,3,5,6]))))))
(.seq (pr [.mv 4 (.c (.bool true))] [4])
.ret))))
theorem c_spec_AgreesWithSite (a : GArchive) (x : GAddress) (hs : a.size ≤ 1073741824) : Ctr Tryz.prog n_spec_AgreesWithSite [aS a.enc, aS x.enc] [rB (agrees a x)] := by
  refine ctr_at (M := m_spec_AgreesWithSite) (m := 6) (n := 44) (res := [(.tmp 4, [false])]) hmix Tryz.func25 rfl (by kernel_rfl) rfl (by kernel_rfl) (by kernel_rfl) (Nat.le_of_ble_eq_true rfl) ?_; unfold m_spec_AgreesWithSite
  intro hb
  clear hb
  simp only [↓bk_bind, ↓bk_map, ↓bk_ite, ↓bk_some, ↓reduceIte, Nat.reduceEqDiff, Nat.reduceLT, Nat.reduceLeDiff, Nat.reduceAdd, Nat.reduceMul, reduceCtorEq, List.reduceReplicate, go_sem]
  apply callK_of (c_spec_ServedCaptures a hs)
  simp only [↓bk_bind, ↓bk_map, ↓bk_ite, ↓bk_some, ↓reduceIte, Nat.reduceEqDiff, Nat.reduceLT, Nat.reduceLeDiff, Nat.reduceAdd, Nat.reduceMul, reduceCtorEq, List.reduceReplicate, go_sem]
  intros
  have hz := served_size a
  refine loopK_rng (served a) (fun k => [(6, vI k)]) (fun k => []) (fun k => ((served a).take k).any (offends a x) = false) (by simp only [roomB]; omega) ?_
  simp only [↓bk_bind, ↓bk_map, ↓bk_ite, ↓bk_some, ↓reduceIte, Nat.reduceEqDiff, Nat.reduceLT, Nat.reduceLeDiff, Nat.reduceAdd, Nat.reduceMul, reduceCtorEq, List.reduceReplicate, go_sem]
  refine ⟨?_, by simp, ?_, ?_⟩
  · simp only [↓bk_bind, ↓bk_map, ↓bk_ite, ↓bk_some, ↓reduceIte, Nat.reduceEqDiff, Nat.reduceLT, Nat.reduceLeDiff, Nat.reduceAdd, Nat.reduceMul, reduceCtorEq, List.reduceReplicate, go_sem]
  · intro k c hx h h0 h1 hw
    simp only [↓bk_bind, ↓bk_map, ↓bk_ite, ↓bk_some, ↓reduceIte, Nat.reduceEqDiff, Nat.reduceLT, Nat.reduceLeDiff, Nat.reduceAdd, Nat.reduceMul, reduceCtorEq, List.reduceReplicate, go_sem, bk_eq hx, h0, h1, hw, addrB]
    refine And.intro ?_ ?_ <;> intro hA
    · have hA' : ¬ c.Address = x := by simpa using hA
      exact anyF_step hx h (by simp [offends, hA'])
    · have hA' : c.Address = x := by simpa using hA
      apply callK_of (c_spec_FollowAt a.Site x c.Tick (site_sz hs))
      simp only [↓bk_bind, ↓bk_map, ↓bk_ite, ↓bk_some, ↓reduceIte, Nat.reduceEqDiff, Nat.reduceLT, Nat.reduceLeDiff, Nat.reduceAdd, Nat.reduceMul, reduceCtorEq, List.reduceReplicate, go_sem, bk_eq hx, h0, h1, hw]
      intros
      apply callK_of (c_spec_EqualResources (follow a.Site x c.Tick).1 c.Resource)
      simp only [↓bk_bind, ↓bk_map, ↓bk_ite, ↓bk_some, ↓reduceIte, Nat.reduceEqDiff, Nat.reduceLT, Nat.reduceLeDiff, Nat.reduceAdd, Nat.reduceMul, reduceCtorEq, List.reduceReplicate, go_sem, hw]
      refine ⟨fun hR => ?_, fun hR => anyF_step hx h (by simp [offends, hR])⟩
      rw [agrees, any_here hx (by simp [offends, hA', hR])]
      rfl
  · intro h
    rw [List.take_length] at h
    simp only [↓bk_bind, ↓bk_map, ↓bk_ite, ↓bk_some, ↓reduceIte, Nat.reduceEqDiff, Nat.reduceLT, Nat.reduceLeDiff, Nat.reduceAdd, Nat.reduceMul, reduceCtorEq, List.reduceReplicate, go_sem]
    rw [agrees, h]
    rfl
/-- The least moment. -/
def oldF (m : Int) (l : List GCapture) : Int := l.foldl (fun m c => if c.Tick < m then c.Tick else m) m
theorem oldF_snoc {m : Int} {l : List GCapture} {k : Nat} {x : GCapture} (h : l[k]? = some x) : oldF m (l.take (k + 1)) = if x.Tick < oldF m (l.take k) then x.Tick else oldF m (l.take k) := by
  rw [take_snoc h, oldF, List.foldl_append]; rfl
def oldest (l : List GCapture) : Int := match l with
  | [] => -1
  | x :: l => oldF x.Tick (x :: l)
theorem oldest_snoc {L : List GCapture} {k : Nat} {c : GCapture} (h : L[k]? = some c) : oldest (L.take (k + 1)) = if k = 0 ∨ c.Tick < oldest (L.take k) then c.Tick else oldest (L.take k) := by
  rcases L with _ | ⟨y, l⟩
  · simp at h
  · have e : oldest ((y :: l).take (k + 1)) = oldF y.Tick ((y :: l).take (k + 1)) := rfl
    rw [e, oldF_snoc h]
    cases k with
    | zero =>
      obtain rfl := Option.some.inj h
      simp [oldF]
    | succ k =>
      have e2 : oldest ((y :: l).take (k + 1)) = oldF y.Tick ((y :: l).take (k + 1)) := rfl
      rw [e2]
      by_cases hh : c.Tick < oldF y.Tick ((y :: l).take (k + 1))
      · rw [if_pos hh, if_pos (.inr hh)]
      · rw [if_neg hh, if_neg (fun h => h.elim (Nat.succ_ne_zero k) hh)]
end Go.Proofs.YtbnbgekjjbpljaaGreatR
namespace Go.Proofs.YtbnbgekjjbpljaaGreatR
open Go Go.RowKit Go.Proofs
set_option linter.unusedSimpArgs false
set_option linter.unusedVariables false
def m_laws_FnExactAgreesWithSite : MC :=
(.seq (pr [.box 2 0 (.s 0), .box 3 1 (.s 1), .mv 4 (.c (.bool false))] [2,3])
(.seq (pr [.mv 5 (.c (.int .i64 1048576))] [2,3,5])
(.seq (pr [.load 9 true 10 (.s 2), .mv 10 (.s 5), .call 11 [] (.f n_laws_szArchive) [.s 9, .s 10], .mv 5 (.s 11)] [2,3,5])
(.seq (.seq (pr [.mv 12 (.s 5), .bin 13 false .lss (.s 12) (.c (.int .i64 0))] [2,3,13])
(.cond (.s 13) (.seq (pr [.mv 4 (.c (.bool true))] [4])
.ret) .skip))
(.seq (.dreg [{ o := .load 14 true 10 (.s 2), hs := [16] }, { o := .call 15 [2, 3, 4, 5, 6, 7, 8, 9, 10] (.f n_laws_toArchive) [.s 14], hs := [16], ws := [2,3,4,5,6,7,8,9,10], bf := [0] }, { o := .load 16 true 3 (.s 3), hs := [14,15], ho := [2,3,4,5,6,7,8,9,10] }, { o := .call 17 [] (.f n_laws_toAddress) [.s 16], bf := [0,1,2] }, { o := .call 18 [] (.f n_spec_AgreesWithSite) [.s 15, .s 17], bf := [0,1,2,3] }, { o := .mv 6 (.s 18), bf := [0,1,2,3,4] }] [2,3,6])
(.seq (pr [.load 19 true 10 (.s 2), .call 20 [11, 12, 13, 14, 15, 16, 17, 18, 19] (.f n_laws_toArchive) [.s 19], .alloc 7 20 [.emp 9, .emp 4, .emp 4, .emp 6, .emp 4, .emp 5, .emp 4, .emp 1, .emp 4, .pl (.sc (.int .i64 0))], .store 10 (.s 7) (.s 20)] [2,3,6,7])
(.seq (.dreg [{ o := .load 21 true 10 (.s 7), hs := [22,23] }, { o := .load 22 true 3 (.s 3), hs := [21] }, { o := .call 23 [] (.f n_laws_toAddress) [.s 22], hs := [21], bf := [1] }, { o := .call 24 [] (.f n_impl_AgreesWithSite) [.s 21, .s 23], bf := [0,1,2] }, { o := .mv 8 (.s 24), bf := [0,1,2,3] }] [2,6,7,8])
(.seq (.seq (pr [.mv 25 (.s 8), .mv 26 (.s 6), .bin 27 true .neq (.s 25) (.s 26)] [2,7,27])
(.cond (.s 27) (.seq (pr [.mv 4 (.c (.bool false))] [4])
.ret) .skip))
(.seq (.seq (.dreg [{ o := .load 28 true 10 (.s 7), hs := [29,30], ho := [21,22,23,24,25,26,27,28,29] }, { o := .load 29 true 10 (.s 2), hs := [28] }, { o := .call 30 [21, 22, 23, 24, 25, 26, 27, 28, 29] (.f n_laws_toArchive) [.s 29], hs := [28], ws := [21,22,23,24,25,26,27,28,29], bf := [1] }, { o := .call 31 [] (.f n_laws_eqArchive) [.s 28, .s 30], bf := [0,1,2] }, { o := .un 32 .not (.s 31), bf := [0,1,2,3] }] [32])
(.cond (.s 32) (.seq (pr [.mv 4 (.c (.bool false))] [4])
.ret) .skip))
(.seq (pr [.mv 4 (.c (.bool true))] [4])
.ret))))))))))
theorem c_laws_FnExactAgreesWithSite (a : GArchive) (x : GAddress) : Ctr Tryz.prog n_laws_FnExactAgreesWithSite [aS a.enc, aS x.enc] [rB true] := by
  refine ctr_at (M := m_laws_FnExactAgreesWithSite) (m := 30) (n := 33) (res := [(.tmp 4, [false])]) hmix Tryz.func6 rfl (by kernel_rfl) rfl (by kernel_rfl) (by kernel_rfl) (Nat.le_of_ble_eq_true rfl) ?_; unfold m_laws_FnExactAgreesWithSite
  intro hb
  clear hb
  simp only [↓bk_bind, ↓bk_map, ↓bk_ite, ↓bk_some, ↓reduceIte, Nat.reduceEqDiff, Nat.reduceLT, Nat.reduceLeDiff, Nat.reduceAdd, Nat.reduceMul, reduceCtorEq, List.reduceReplicate, go_sem]
  apply callK_of (c_laws_szArchive a _ (by omega))
  simp only [↓bk_bind, ↓bk_map, ↓bk_ite, ↓bk_some, ↓reduceIte, Nat.reduceEqDiff, Nat.reduceLT, Nat.reduceLeDiff, Nat.reduceAdd, Nat.reduceMul, reduceCtorEq, List.reduceReplicate, go_sem]
  intro _ hz
  have hs := szr_ok hz
  have hc_a := GArchive.cts_le a
  apply callK_of (c_laws_toArchive a (by omega))
  simp only [↓bk_bind, ↓bk_map, ↓bk_ite, ↓bk_some, ↓reduceIte, Nat.reduceEqDiff, Nat.reduceLT, Nat.reduceLeDiff, Nat.reduceAdd, Nat.reduceMul, reduceCtorEq, List.reduceReplicate, go_sem]
  try intros
  apply callK_of (c_laws_toAddress x)
  simp only [↓bk_bind, ↓bk_map, ↓bk_ite, ↓bk_some, ↓reduceIte, Nat.reduceEqDiff, Nat.reduceLT, Nat.reduceLeDiff, Nat.reduceAdd, Nat.reduceMul, reduceCtorEq, List.reduceReplicate, go_sem]
  try intros
  apply callK_of (c_spec_AgreesWithSite a x (by omega))
  simp only [↓bk_bind, ↓bk_map, ↓bk_ite, ↓bk_some, ↓reduceIte, Nat.reduceEqDiff, Nat.reduceLT, Nat.reduceLeDiff, Nat.reduceAdd, Nat.reduceMul, reduceCtorEq, List.reduceReplicate, go_sem]
  try intros
  apply callK_of (c_laws_toArchive a (by omega))
  simp only [↓bk_bind, ↓bk_map, ↓bk_ite, ↓bk_some, ↓reduceIte, Nat.reduceEqDiff, Nat.reduceLT, Nat.reduceLeDiff, Nat.reduceAdd, Nat.reduceMul, reduceCtorEq, List.reduceReplicate, go_sem]
  try intros
  apply callK_of (c_laws_toAddress x)
  simp only [↓bk_bind, ↓bk_map, ↓bk_ite, ↓bk_some, ↓reduceIte, Nat.reduceEqDiff, Nat.reduceLT, Nat.reduceLeDiff, Nat.reduceAdd, Nat.reduceMul, reduceCtorEq, List.reduceReplicate, go_sem]
  try intros
  apply callK_of (c_impl_AgreesWithSite a x (by omega))
  simp only [↓bk_bind, ↓bk_map, ↓bk_ite, ↓bk_some, ↓reduceIte, Nat.reduceEqDiff, Nat.reduceLT, Nat.reduceLeDiff, Nat.reduceAdd, Nat.reduceMul, reduceCtorEq, List.reduceReplicate, go_sem]
  try intros
  apply callK_of (c_laws_toArchive a (by omega))
  simp only [↓bk_bind, ↓bk_map, ↓bk_ite, ↓bk_some, ↓reduceIte, Nat.reduceEqDiff, Nat.reduceLT, Nat.reduceLeDiff, Nat.reduceAdd, Nat.reduceMul, reduceCtorEq, List.reduceReplicate, go_sem]
  try intros
  apply callK_of (c_laws_eqArchive a a)
  simp only [↓bk_bind, ↓bk_map, ↓bk_ite, ↓bk_some, ↓reduceIte, Nat.reduceEqDiff, Nat.reduceLT, Nat.reduceLeDiff, Nat.reduceAdd, Nat.reduceMul, reduceCtorEq, List.reduceReplicate, go_sem]
  try intros
end Go.Proofs.YtbnbgekjjbpljaaGreatR
