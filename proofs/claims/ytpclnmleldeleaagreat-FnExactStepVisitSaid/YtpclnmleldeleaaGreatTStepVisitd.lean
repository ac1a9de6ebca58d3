/- What the functions compute that the laws of StepVisit reach: contracts. Conditions stand in each theorem. -/
import Derived.Test.YtpclnmleldeleaaGreatTStepVisitc
namespace Go.Proofs.YtpclnmleldeleaaGreatR
open Go Go.RowKit Go.Proofs
open Nat (reduceEqDiff reduceLT reduceLeDiff reduceAdd reduceMul)
open List (reduceReplicate)
set_option linter.unusedSimpArgs false
set_option linter.unusedVariables false
def visOk (v : GVisit) : Bool := siteOk v.Site && (decide (0 ≤ v.Tick ∧ v.Tick ≤ 1000) && (decide (0 ≤ v.Seed ∧ v.Seed ≤ 9999) && (decide (v.Inputs.length ≤ 8) && allIn v.Inputs 0 999)))
def m_impl_IsVisit : MC :=
(.seq (pr [.box 1 0 (.s 0), .mv 2 cF] [1])
(.seq (.reg [Za (.fld 3 (.s 1) 0), Za (.load 4 false 1 (.s 3)), Za (.call 5 [] (.f n_impl_IsSite) [.s 4]), Za (.mv 6 (.s 5)), Zb 6 true (.fld 7 (.s 1) 1), Zb 6 true (.load 8 false 1 (.s 7)), Zb 6 true (.call 9 [] (.f n_impl_InRange) [.s 8, .c (.int .i64 0), .c (.int .i64 1000)]), Za (.pick 10 (.s 6) (.s 9) cF), Za (.mv 11 (.s 10)), Zb 11 true (.fld 12 (.s 1) 2), Zb 11 true (.load 13 false 1 (.s 12)), Zb 11 true (.call 14 [] (.f n_impl_InRange) [.s 13, .c (.int .i64 0), .c (.int .i64 9999)]), Za (.pick 15 (.s 11) (.s 14) cF), Za (.mv 16 (.s 15)), Zb 16 true (.fld 17 (.s 1) 3), Zb 16 true (.load 18 false 1 (.s 17)), Zb 16 true (.len 19 false (.s 18)), Zb 16 true (.bin 20 false .leq (.s 19) (ci 8)), Za (.pick 21 (.s 16) (.s 20) cF), Za (.mv 22 (.s 21)), Zb 22 true (.fld 23 (.s 1) 3), Zb 22 true (.load 24 false 1 (.s 23)), Zb 22 true (.call 25 [] (.f n_impl_allIn) [.s 24, .c (.int .i64 0), .c (.int .i64 999)]), Za (.pick 26 (.s 22) (.s 25) cF), Za (.mv 2 (.s 26))] [2])
.ret))
theorem c_impl_IsVisit (v : GVisit) : Ctr Tryz.prog n_impl_IsVisit [aS v.enc] [rB (visOk v)] := by
 refine cA m_impl_IsVisit 1 27 [(.tmp 2, [false])] Tryz.func91 rfl rfl ?_; unfold m_impl_IsVisit
 intro hb
 clear hb
 simp only [↓reduceIte, reduceEqDiff, reduceLT, reduceLeDiff, reduceAdd, reduceCtorEq, go_sem]
 repeat' first
  | (refine And.intro ?_ ?_ <;> intro h)
  | (apply callK_of (c_impl_IsSite _); simp only [↓reduceIte, reduceEqDiff, reduceLT, reduceLeDiff, reduceAdd, reduceCtorEq, go_sem])
  | (apply callK_of (c_impl_InRange _ _ _); simp only [↓reduceIte, reduceEqDiff, reduceLT, reduceLeDiff, reduceAdd, reduceCtorEq, go_sem])
  | (apply callK_of (c_impl_allIn _ _ _); simp only [↓reduceIte, reduceEqDiff, reduceLT, go_sem])
 all_goals (unfold visOk; by_cases c1 : v.Inputs.length ≤ 8 <;> simp_all <;> omega)
def m_spec_IsVisit : MC :=
(.seq (pr [.box 1 0 (.s 0), .mv 2 cF] [1])
(.seq (.reg [Za (.fld 3 (.s 1) 0), Za (.load 4 false 1 (.s 3)), Za (.call 5 [] (.f n_spec_IsSite) [.s 4]), Za (.mv 6 (.s 5)), Zb 6 true (.fld 7 (.s 1) 1), Zb 6 true (.load 8 false 1 (.s 7)), Zb 6 true (.call 9 [] (.f n_spec_l1In) [.s 8, .c (.int .i64 0), .c (.int .i64 1000)]), Za (.pick 10 (.s 6) (.s 9) cF), Za (.mv 11 (.s 10)), Zb 11 true (.fld 12 (.s 1) 2), Zb 11 true (.load 13 false 1 (.s 12)), Zb 11 true (.call 14 [] (.f n_spec_l1In) [.s 13, .c (.int .i64 0), .c (.int .i64 9999)]), Za (.pick 15 (.s 11) (.s 14) cF), Za (.mv 16 (.s 15)), Zb 16 true (.fld 17 (.s 1) 3), Zb 16 true (.load 18 false 1 (.s 17)), Zb 16 true (.len 19 false (.s 18)), Zb 16 true (.bin 20 false .leq (.s 19) (ci 8)), Za (.pick 21 (.s 16) (.s 20) cF), Za (.mv 22 (.s 21)), Zb 22 true (.fld 23 (.s 1) 3), Zb 22 true (.load 24 false 1 (.s 23)), Zb 22 true (.fld 25 (.s 1) 3), Zb 22 true (.load 26 false 1 (.s 25)), Zb 22 true (.len 27 false (.s 26)), Zb 22 true (.call 28 [] (.f n_spec_l11All) [.s 24, .s 27]), Za (.pick 29 (.s 22) (.s 28) cF), Za (.mv 2 (.s 29))] [2])
.ret))
theorem c_spec_IsVisit (v : GVisit) : Ctr Tryz.prog n_spec_IsVisit [aS v.enc] [rB (visOk v)] := by
 refine cA m_spec_IsVisit 1 30 [(.tmp 2, [false])] Tryz.func155 rfl rfl ?_; unfold m_spec_IsVisit
 intro hb
 clear hb
 simp only [↓reduceIte, reduceEqDiff, reduceLT, reduceLeDiff, reduceAdd, reduceCtorEq, go_sem]
 repeat' first
  | (refine And.intro ?_ ?_ <;> intro h)
  | (apply callK_of (c_spec_IsSite _); simp only [↓reduceIte, reduceEqDiff, reduceLT, reduceLeDiff, reduceAdd, reduceCtorEq, go_sem])
  | (apply callK_of (c_spec_l1In _ _ _); simp only [↓reduceIte, reduceEqDiff, reduceLT, reduceLeDiff, reduceAdd, reduceCtorEq, go_sem])
  | (apply callK_of (c_spec_l11All v.Inputs v.Inputs.length); simp only [↓reduceIte, reduceEqDiff, reduceLT, go_sem])
 all_goals (unfold visOk; by_cases c1 : v.Inputs.length ≤ 8 <;> simp_all <;> omega)
def sumI (l : List Int) : Int := l.foldl (· + ·) 0
theorem sumI_snoc {l : List Int} {k : Nat} {x : Int} (h : l[k]? = some x) : sumI (l.take (k + 1)) = sumI (l.take k) + x := by
 rw [take_snoc h, sumI, List.foldl_append]; rfl
theorem sumI_in {l : List Int} (h : allIn l 0 255 = true) : ∀ k : Nat, 0 ≤ sumI (l.take k) ∧ sumI (l.take k) ≤ 255 * (k : Int)
 | 0 => by simp [sumI]
 | k + 1 => by
  have ih := sumI_in h k
  by_cases hk : k < l.length
  ·obtain ⟨x, hx⟩ := at_some hk
   rw [sumI_snoc hx]
   have := allIn_at h k x hx
   omega
  ·rw [List.take_of_length_le (by omega)] at ih ⊢
   omega
def hasVal (r : GResource) : Bool := isRes r && decide (r.Kind = 1 ∨ r.Kind = 2)
def valOf (r : GResource) : Int := if hasVal r then (if (sumI r.Body).tmod 1000 < 999 then (sumI r.Body).tmod 1000 + 1 else (sumI r.Body).tmod 1000) else 0
theorem hasVal_out {r : GResource} (h : hasVal r = true) : r.Body.length ≤ 6 ∧ allIn r.Body 0 255 = true ∧ (r.Kind = 1 ∨ r.Kind = 2) := by
 simp only [hasVal, Bool.and_eq_true, decide_eq_true_eq] at h
 obtain ⟨h1, h2⟩ := h
 unfold isRes at h1
 rw [if_pos h2] at h1
 simp only [Bool.and_eq_true, decide_eq_true_eq] at h1
 exact ⟨h1.1, h1.2.1, h2⟩
theorem tmod_step {s x : Int} (hs : 0 ≤ s) (hx : 0 ≤ x) : (s.tmod 1000 + x).tmod 1000 = (s + x).tmod 1000 := by
 rw [Int.tmod_eq_emod_of_nonneg hs, Int.tmod_eq_emod_of_nonneg (by omega), Int.tmod_eq_emod_of_nonneg (by omega)]
 omega
theorem tmod_in {s : Int} (hs : 0 ≤ s) : 0 ≤ s.tmod 1000 ∧ s.tmod 1000 ≤ 999 := by
 rw [Int.tmod_eq_emod_of_nonneg hs]; omega
def m_impl_hasBody : MC :=
(.seq (pr [.mv 2 cF] [0])
(.seq (.reg [Za (.mv 3 (.s 0)), Za (.bin 4 false .eql (.s 3) (ci 1)), Za (.mv 5 (.s 4)), Zb 5 false (.mv 6 (.s 0)), Zb 5 false (.bin 7 false .eql (.s 6) (ci 2)), Za (.pick 8 (.s 5) cT (.s 7)), Za (.mv 2 (.s 8))] [2])
.ret))
theorem c_impl_hasBody (k : Int) : Ctr Tryz.prog n_impl_hasBody [aI k] [rB (decide (k = 1 ∨ k = 2))] := by
 refine cA m_impl_hasBody 0 9 [(.tmp 2, [false])] Tryz.func309 rfl rfl ?_; unfold m_impl_hasBody
 intro hb
 clear hb
 simp only [↓reduceIte, reduceEqDiff, reduceLT, reduceCtorEq, go_sem]
 refine ⟨fun h => by simp [h], fun h => ?_⟩
 rw [Bool.eq_iff_iff]; simp [h]
def m_impl_ValueOfResource : MC :=
(.seq (pr [.box 1 0 (.s 0), .mv 2 (ci 0)] [1])
(.seq (.seq (.reg [Za (.load 6 true 5 (.s 1)), Za (.call 7 [] (.f n_impl_IsResource) [.s 6]), Za (.un 8 .not (.s 7)), Za (.mv 9 (.s 8)), Zb 9 false (.fld 10 (.s 1) 0), Zb 9 false (.load 11 false 1 (.s 10)), Zb 9 false (.call 12 [] (.f n_impl_hasBody) [.s 11]), Zb 9 false (.un 13 .not (.s 12)), Za (.pick 14 (.s 9) cT (.s 13))] [1,14])
(.cond (.s 14) (.seq (pr [.mv 2 (ci 0)] [2])
.ret) .skip))
(.seq (pr [.mv 3 (ci 0)] [1,3])
(.seq (.seq (pr [.fld 15 (.s 1) 1, .load 16 false 1 (.s 15), .len 17 false (.s 16), .mv 18 (ci 0)] [3,16,17,18])
(.block 0 (.loop ([3,16,17,18], [0]) (.seq (pr [.bin 19 false .lss (.s 18) (.s 17)] [3,16,17,18,19])
(.seq (.cond (.s 19) .skip (.exit 0))
(.seq (.block 1 (.seq (pr [.idx 20 1 (.s 16) (.s 18), .load 21 false 1 (.s 20), .mv 5 (.s 21)] [3,5,16,17,18])
(pr [.mv 22 (.s 3), .mv 23 (.s 5), .bin 24 false .add (.s 22) (.s 23), .mv 3 (.s 24)] [3,16,17,18])))
(pr [.bin 25 false .add (.s 18) (ci 1), .mv 18 (.s 25)] [3,16,17,18])))))))
(.seq (pr [.mv 26 (.s 3), .bin 27 false .rem (.s 26) (ci 1000), .mv 3 (.s 27)] [3])
(.seq (.seq (pr [.mv 28 (.s 3), .bin 29 false .lss (.s 28) (ci 999)] [3,29])
(.cond (.s 29) (pr [.mv 30 (.s 3), .bin 31 false .add (.s 30) (ci 1), .mv 3 (.s 31)] [3]) .skip))
(.seq (pr [.mv 32 (.s 3), .mv 2 (.s 32)] [2])
.ret)))))))
theorem c_impl_ValueOfResource (r : GResource) : Ctr Tryz.prog n_impl_ValueOfResource [aS r.enc] [rI (valOf r)] := by
 refine cA m_impl_ValueOfResource 1 33 [(.tmp 2, [false])] Tryz.func291 rfl rfl ?_; unfold m_impl_ValueOfResource
 intro hb
 clear hb
 simp only [↓reduceIte, reduceEqDiff, reduceLT, reduceAdd, go_sem]
 apply callK_of (c_impl_IsResource r)
 simp only [↓reduceIte, reduceEqDiff, reduceLT, reduceLeDiff, reduceAdd, reduceCtorEq, go_sem]
 cases hv : hasVal r
 ·have e0 : valOf r = 0 := by unfold valOf; rw [hv]; rfl
  rw [e0]
  refine ⟨fun h => rfl, fun h => ?_⟩
  have hk : decide (r.Kind = 1 ∨ r.Kind = 2) = false := by simp only [hasVal, h, Bool.true_and] at hv; exact hv
  apply callK_of (c_impl_hasBody r.Kind)
  simp only [↓reduceIte, reduceEqDiff, reduceLT, reduceCtorEq, go_sem, hk, h]
 ·obtain ⟨h1, h2, h3⟩ := hasVal_out hv
  have hres : isRes r = true := by simp only [hasVal, Bool.and_eq_true] at hv; exact hv.1
  have hdec : decide (r.Kind = 1 ∨ r.Kind = 2) = true := decide_eq_true h3
  simp only [reduceCtorEq, go_sem, hres]
  apply callK_of (c_impl_hasBody r.Kind)
  simp only [↓reduceIte, reduceEqDiff, reduceLT, reduceLeDiff, reduceAdd, reduceCtorEq, go_sem, hdec]
  refine loopK_rng r.Body (fun k => [(3, vI (sumI (r.Body.take k))), (18, vI k)]) (fun k => []) (fun _ => True) (by simp only [roomB]; omega) ?_
  simp only [↓reduceIte, reduceEqDiff, go_sem]
  refine ⟨?_, trivial, ?_, ?_⟩
  ·simp only [↓reduceIte, reduceEqDiff, reduceLT, go_sem, List.take_zero]
   try rfl
  ·intro k x hx _ h0 h1 hw
   have hk := sumI_in h2 k
   have hxi := allIn_at h2 k x hx
   have hkl := len_at hx
   have hws : IntKind.i64.wrap (sumI (r.Body.take k) + x) = sumI (r.Body.take k) + x := wI (by omega) (by omega)
   simp only [↓reduceIte, reduceEqDiff, reduceLT, reduceCtorEq, go_sem, bk_eq hx, h0, h1, hw, hws, sumI_snoc hx]
   try trivial
  ·intro _
   have hk := sumI_in h2 r.Body.length
   rw [List.take_length] at hk
   have hk2 := tmod_in hk.1
   have hws : IntKind.i64.wrap ((sumI r.Body).tmod 1000 + 1) = (sumI r.Body).tmod 1000 + 1 := wI (by omega) (by omega)
   simp only [↓reduceIte, reduceEqDiff, reduceLT, reduceCtorEq, go_sem, List.take_length, c1000, hws]
   have e1 : valOf r = if (sumI r.Body).tmod 1000 < 999 then (sumI r.Body).tmod 1000 + 1 else (sumI r.Body).tmod 1000 := by unfold valOf; rw [hv]; rfl
   rw [e1]
   refine ⟨fun h => by rw [if_pos h], fun h => by rw [if_neg h]⟩
def m_spec_ValueOfResource : MC :=
(.seq (pr [.box 1 0 (.s 0), .mv 2 (ci 0)] [1])
(.seq (.seq (.reg [Za (.load 5 true 5 (.s 1)), Za (.call 6 [] (.f n_spec_IsResource) [.s 5]), Za (.un 7 .not (.s 6)), Za (.mv 8 (.s 7)), Zb 8 false (.fld 9 (.s 1) 0), Zb 8 false (.load 10 false 1 (.s 9)), Zb 8 false (.bin 11 false .gtr (.s 10) (ci 2)), Za (.pick 12 (.s 8) cT (.s 11))] [1,12])
(.cond (.s 12) (.seq (pr [.mv 2 (ci 0)] [2])
.ret) .skip))
(.seq (pr [.mv 3 (ci 0)] [1,3])
(.seq (.seq (pr [.mv 4 (ci 0)] [1,3,4])
(.block 0 (.loop ([1,3,4], []) (.seq (.seq (pr [.mv 13 (.s 4), .fld 14 (.s 1) 1, .load 15 false 1 (.s 14), .len 16 false (.s 15), .bin 17 false .lss (.s 13) (.s 16)] [1,3,4,17])
(.cond (.s 17) .skip (.exit 0)))
(.seq (.block 1 (pr [.mv 20 (.s 3), .fld 21 (.s 1) 1, .load 22 false 1 (.s 21), .mv 23 (.s 4), .idx 24 1 (.s 22) (.s 23), .load 25 false 1 (.s 24), .bin 26 false .add (.s 20) (.s 25), .bin 27 false .rem (.s 26) (ci 1000), .mv 3 (.s 27)] [1,3,4]))
(pr [.mv 18 (.s 4), .bin 19 false .add (.s 18) (ci 1), .mv 4 (.s 19)] [1,3,4]))))))
(.seq (pr [.mv 28 (.s 3), .bin 29 false .add (.s 28) (ci 1), .call 30 [] (.f n_spec_Min) [.c (.int .i64 999), .s 29], .mv 2 (.s 30)] [2])
.ret)))))
theorem c_spec_ValueOfResource (r : GResource) : Ctr Tryz.prog n_spec_ValueOfResource [aS r.enc] [rI (valOf r)] := by
 refine cA m_spec_ValueOfResource 1 31 [(.tmp 2, [false])] Tryz.func288 rfl rfl ?_; unfold m_spec_ValueOfResource
 intro hb
 clear hb
 simp only [↓reduceIte, reduceEqDiff, reduceLT, reduceAdd, go_sem]
 apply callK_of (c_spec_IsResource r)
 simp only [↓reduceIte, reduceEqDiff, reduceLT, reduceLeDiff, reduceAdd, reduceCtorEq, go_sem]
 cases hv : hasVal r
 ·have e0 : valOf r = 0 := by unfold valOf; rw [hv]; rfl
  rw [e0]
  refine ⟨fun h => rfl, fun h => ⟨fun _ => rfl, fun hk => ?_⟩⟩
  have hk2 : ¬ (r.Kind = 1 ∨ r.Kind = 2) := by simpa [hasVal, h] using hv
  simp only [isRes, if_neg hk2] at h
  split at h <;> first | omega | (split at h <;> first | omega | cases h)
 ·obtain ⟨h1, h2, h3⟩ := hasVal_out hv
  have hres : isRes r = true := by simp only [hasVal, Bool.and_eq_true] at hv; exact hv.1
  have hkd : ¬ r.Kind > 2 := by omega
  simp only [reduceCtorEq, go_sem, hres, hkd]
  refine loopK_rng r.Body (fun k => [(3, vI ((sumI (r.Body.take k)).tmod 1000)), (4, vI k)]) (fun k => []) (fun _ => True) (by simp only [roomB]; omega) ?_
  simp only [↓reduceIte, reduceEqDiff, reduceCtorEq, go_sem]
  refine ⟨?_, trivial, ?_, ?_⟩
  ·simp only [↓reduceIte, reduceEqDiff, reduceLT, go_sem, List.take_zero]
   try rfl
  ·intro k x hx _ h0 h1 hw
   have hk := sumI_in h2 k
   have hxi := allIn_at h2 k x hx
   have hk2 := tmod_in hk.1
   have hws : IntKind.i64.wrap ((sumI (r.Body.take k)).tmod 1000 + x) = (sumI (r.Body.take k)).tmod 1000 + x := wI (by omega) (by omega)
   simp only [↓reduceIte, reduceEqDiff, reduceLT, reduceLeDiff, reduceAdd, reduceCtorEq, go_sem, bk_eq hx, h0, h1, hw, hws, sumI_snoc hx, c1000, tmod_step hk.1 hxi.1]
   try trivial
  ·intro _
   have hk := sumI_in h2 r.Body.length
   rw [List.take_length] at hk
   have hk2 := tmod_in hk.1
   have hws : IntKind.i64.wrap ((sumI r.Body).tmod 1000 + 1) = (sumI r.Body).tmod 1000 + 1 := wI (by omega) (by omega)
   simp only [↓reduceIte, reduceEqDiff, reduceLT, reduceLeDiff, reduceAdd, reduceCtorEq, go_sem, List.take_length, hws]
   apply callK_of (c_spec_Min 999 _)
   simp only [↓reduceIte, reduceEqDiff, reduceLT, go_sem]
   have e1 : valOf r = if (sumI r.Body).tmod 1000 < 999 then (sumI r.Body).tmod 1000 + 1 else (sumI r.Body).tmod 1000 := by unfold valOf; rw [hv]; rfl
   rw [e1]
   repeat' split
   all_goals omega
def mod1000 (v : Int) : Int := (IntKind.i64.wrap (v.tmod 1000 + 1000)).tmod 1000
theorem c_impl_Mod1000 (v : Int) : Ctr Tryz.prog n_impl_Mod [aI v, aI 1000] [rI (mod1000 v)] := by
 refine cA m_impl_Mod 0 15 [(.tmp 4, [false])] Tryz.func243 rfl rfl ?_; unfold m_impl_Mod
 intro hb
 clear hb
 simp only [↓reduceIte, reduceEqDiff, reduceLT, reduceCtorEq, go_sem]
 apply callK_of (c_impl_InRange _ _ _)
 simp only [↓reduceIte, reduceEqDiff, reduceLT, reduceCtorEq, go_sem, c1000]
 refine And.intro ?_ ?_ <;> intro h
 ·exact absurd (by decide) h
 ·rfl
theorem c_spec_Mod1000 (v : Int) : Ctr Tryz.prog n_spec_Mod [aI v, aI 1000] [rI (mod1000 v)] := by
 refine cA m_spec_Mod 0 15 [(.tmp 4, [false])] Tryz.func242 rfl rfl ?_; unfold m_spec_Mod
 intro hb
 clear hb
 simp only [↓reduceIte, reduceEqDiff, reduceLT, reduceCtorEq, go_sem]
 apply callK_of (c_spec_l1In _ _ _)
 simp only [↓reduceIte, reduceEqDiff, reduceLT, reduceCtorEq, go_sem, c1000]
 refine And.intro ?_ ?_ <;> intro h
 ·exact absurd (by decide) h
 ·rfl
def keyOk (k : Int) : Bool := decide (1 ≤ k ∧ k ≤ 2147483646)
def m_impl_IsValidKey : MC :=
(.seq (pr [.mv 2 cF] [0])
(.seq (pr [.mv 3 (.s 0), .call 4 [] (.f n_impl_InRange) [.s 3, .c (.int .i64 1), .c (.int .i64 2147483646)], .mv 2 (.s 4)] [2])
.ret))
theorem c_impl_IsValidKey (k : Int) : Ctr Tryz.prog n_impl_IsValidKey [aI k] [rB (keyOk k)] := by
 refine cA m_impl_IsValidKey 0 5 [(.tmp 2, [false])] Tryz.func171 rfl rfl ?_; unfold m_impl_IsValidKey
 intro hb
 clear hb
 simp only [↓reduceIte, reduceLT, reduceCtorEq, go_sem]
 apply callK_of (c_impl_InRange _ _ _)
 simp only [↓reduceIte, reduceEqDiff, reduceLT, go_sem]
 rfl
def m_spec_IsValidKey : MC :=
(.seq (pr [.mv 2 cF] [0])
(.seq (pr [.mv 3 (.s 0), .call 4 [] (.f n_spec_l1In) [.s 3, .c (.int .i64 1), .c (.int .i64 2147483646)], .mv 2 (.s 4)] [2])
.ret))
theorem c_spec_IsValidKey (k : Int) : Ctr Tryz.prog n_spec_IsValidKey [aI k] [rB (keyOk k)] := by
 refine cA m_spec_IsValidKey 0 5 [(.tmp 2, [false])] Tryz.func162 rfl rfl ?_; unfold m_spec_IsValidKey
 intro hb
 clear hb
 simp only [↓reduceIte, reduceLT, reduceCtorEq, go_sem]
 apply callK_of (c_spec_l1In _ _ _)
 simp only [↓reduceIte, reduceEqDiff, reduceLT, go_sem]
 rfl
def m_impl_KeyedHash : MC :=
(.seq (pr [.mv 4 (ci 0)] [0,1])
(.seq (pr [.mv 6 (.s 0), .lit 7 0 1 8 [.s 6], .mv 8 (.s 1), .app 9 0 1 8 (.s 7) (.s 8), .mv 5 (.s 9)] [0,5])
(.seq (pr [.mv 10 (.s 5), .mv 11 (.s 0), .lit 12 1 1 8 [.s 11], .app 13 0 1 8 (.s 10) (.s 12), .call 14 [] (.f n_impl_Hash) [.s 13], .mv 4 (.s 14)] [4])
.ret)))
theorem c_impl_KeyedHash (k : Int) (l : List Int) (hl : l.length ≤ 1073741824) : Ctr Tryz.prog n_impl_KeyedHash [aI k, aL 1 (l.map encI)] [rI (hashL (k :: (l ++ [k])))] := by
 refine cA m_impl_KeyedHash 2 15 [(.tmp 4, [false])] Tryz.func172 rfl rfl ?_; unfold m_impl_KeyedHash
 intro hb
 clear hb
 have ha : 1 + l.length = l.length + 1 := Nat.add_comm _ _
 have e : ([T.sc (Value.int IntKind.i64 k)] :: List.map encI l ++ [[T.sc (Value.int IntKind.i64 k)]]) = (k :: (l ++ [k])).map encI := by simp [encI]
 simp only [↓reduceIte, reduceEqDiff, reduceLT, reduceAdd, reduceMul, reduceCtorEq, go_sem, ↓flat_of (f := encI) (fun _ => rfl) l, ha, List.length_append, List.length_cons, List.length_map, List.length_nil, Nat.zero_add, e]
 refine ⟨by simp only [roomB]; omega, by simp only [roomB]; omega, by simp only [roomB]; omega, by simp only [roomB]; omega, ?_⟩
 rw [show [T.sc (Value.int IntKind.i64 k)] :: List.map encI (l ++ [k]) = (k :: (l ++ [k])).map encI from rfl]
 apply callK_of (c_impl_Hash (k :: (l ++ [k])))
 simp only [↓reduceIte, reduceEqDiff, reduceLT, go_sem]
def m_spec_KeyedHash : MC :=
(.seq (pr [.mv 4 (ci 0)] [0,1])
(.seq (pr [.mv 5 (.s 0), .lit 6 0 1 8 [.s 5], .mv 7 (.s 1), .app 8 0 1 8 (.s 6) (.s 7), .mv 9 (.s 0), .lit 10 1 1 8 [.s 9], .app 11 0 1 8 (.s 8) (.s 10), .call 12 [] (.f n_spec_Hash) [.s 11], .mv 4 (.s 12)] [4])
.ret))
theorem c_spec_KeyedHash (k : Int) (l : List Int) (hl : l.length ≤ 1073741824) : Ctr Tryz.prog n_spec_KeyedHash [aI k, aL 1 (l.map encI)] [rI (hashL (k :: (l ++ [k])))] := by
 refine cA m_spec_KeyedHash 2 13 [(.tmp 4, [false])] Tryz.func163 rfl rfl ?_; unfold m_spec_KeyedHash
 intro hb
 clear hb
 have ha : 1 + l.length = l.length + 1 := Nat.add_comm _ _
 have e : ([T.sc (Value.int IntKind.i64 k)] :: List.map encI l ++ [[T.sc (Value.int IntKind.i64 k)]]) = (k :: (l ++ [k])).map encI := by simp [encI]
 simp only [↓reduceIte, reduceEqDiff, reduceLT, reduceAdd, reduceMul, reduceCtorEq, go_sem, ↓flat_of (f := encI) (fun _ => rfl) l, ha, List.length_append, List.length_cons, List.length_map, List.length_nil, Nat.zero_add, e]
 refine ⟨by simp only [roomB]; omega, by simp only [roomB]; omega, by simp only [roomB]; omega, by simp only [roomB]; omega, ?_⟩
 rw [show [T.sc (Value.int IntKind.i64 k)] :: List.map encI (l ++ [k]) = (k :: (l ++ [k])).map encI from rfl]
 apply callK_of (c_spec_Hash (k :: (l ++ [k])))
 simp only [↓reduceIte, reduceEqDiff, reduceLT, go_sem]
def sealSt (k : Int) (s : GStatement) : GStatement := { s with Seal := if keyOk k then hashL [k, s.Witness, s.Digest, s.Tick, k] else 0 }
def m_impl_SealStatement : MC :=
(.seq (pr [.box 3 0 (.s 1), .alloc 4 1 [pz, pz, pz, pz]] [0,3,4])
(.seq (pr [.fld 5 (.s 3) 3, .store 1 (.s 5) (ci 0)] [0,3,4])
(.seq (.seq (pr [.mv 6 (.s 0), .call 7 [] (.f n_impl_IsValidKey) [.s 6]] [0,3,4,7])
(.cond (.s 7) (pr [.mv 8 (.s 0), .fld 9 (.s 3) 0, .load 10 false 1 (.s 9), .fld 11 (.s 3) 1, .load 12 false 1 (.s 11), .fld 13 (.s 3) 2, .load 14 false 1 (.s 13), .lit 15 2 1 8 [.s 10, .s 12, .s 14], .call 16 [] (.f n_impl_KeyedHash) [.s 8, .s 15], .fld 17 (.s 3) 3, .store 1 (.s 17) (.s 16)] [3,4]) .skip))
(.seq (pr [.load 18 true 4 (.s 3), .store 4 (.s 4) (.s 18)] [4])
.ret))))
theorem c_impl_SealStatement (k : Int) (s : GStatement) : Ctr Tryz.prog n_impl_SealStatement [aI k, aS s.enc] [rS (sealSt k s).enc] := by
 refine cA m_impl_SealStatement 3 19 [(.cell 4 true 4, [false, false, false, false])] Tryz.func94 rfl rfl ?_; unfold m_impl_SealStatement
 intro hb
 clear hb
 simp only [↓reduceIte, reduceEqDiff, reduceLT, reduceAdd, reduceCtorEq, go_sem]
 apply callK_of (c_impl_IsValidKey k)
 simp only [↓reduceIte, reduceEqDiff, reduceLT, reduceLeDiff, reduceAdd, reduceMul, reduceCtorEq, go_sem]
 refine And.intro ?_ ?_ <;> intro h
 ·refine ⟨⟨by decide, by decide⟩, ?_⟩
  apply callK_of (c_impl_KeyedHash k [s.Witness, s.Digest, s.Tick] (by simp))
  simp only [↓reduceIte, reduceEqDiff, reduceLT, reduceAdd, reduceCtorEq, go_sem]
  intros
  have e : sealSt k s = { s with Seal := hashL [k, s.Witness, s.Digest, s.Tick, k] } := by simp only [sealSt, if_pos h]
  rw [e]
  first | simp | trace_state
 ·have e : sealSt k s = { s with Seal := 0 } := by rw [sealSt, h, if_neg Bool.false_ne_true]
  rw [e]
  first | simp | trace_state
def m_spec_SealStatement : MC :=
(.seq (pr [.box 3 0 (.s 1), .alloc 4 1 [pz, pz, pz, pz]] [0,3,4])
(.seq (pr [.fld 5 (.s 3) 3, .store 1 (.s 5) (ci 0)] [0,3,4])
(.seq (.seq (pr [.mv 6 (.s 0), .call 7 [] (.f n_spec_IsValidKey) [.s 6]] [0,3,4,7])
(.cond (.s 7) (pr [.mv 8 (.s 0), .fld 9 (.s 3) 0, .load 10 false 1 (.s 9), .fld 11 (.s 3) 1, .load 12 false 1 (.s 11), .fld 13 (.s 3) 2, .load 14 false 1 (.s 13), .lit 15 2 1 8 [.s 10, .s 12, .s 14], .call 16 [] (.f n_spec_KeyedHash) [.s 8, .s 15], .fld 17 (.s 3) 3, .store 1 (.s 17) (.s 16)] [3,4]) .skip))
(.seq (pr [.load 18 true 4 (.s 3), .store 4 (.s 4) (.s 18)] [4])
.ret))))
theorem c_spec_SealStatement (k : Int) (s : GStatement) : Ctr Tryz.prog n_spec_SealStatement [aI k, aS s.enc] [rS (sealSt k s).enc] := by
 refine cA m_spec_SealStatement 3 19 [(.cell 4 true 4, [false, false, false, false])] Tryz.func90 rfl rfl ?_; unfold m_spec_SealStatement
 intro hb
 clear hb
 simp only [↓reduceIte, reduceEqDiff, reduceLT, reduceAdd, reduceCtorEq, go_sem]
 apply callK_of (c_spec_IsValidKey k)
 simp only [↓reduceIte, reduceEqDiff, reduceLT, reduceLeDiff, reduceAdd, reduceMul, reduceCtorEq, go_sem]
 refine And.intro ?_ ?_ <;> intro h
 ·refine ⟨⟨by decide, by decide⟩, ?_⟩
  apply callK_of (c_spec_KeyedHash k [s.Witness, s.Digest, s.Tick] (by simp))
  simp only [↓reduceIte, reduceEqDiff, reduceLT, reduceAdd, reduceCtorEq, go_sem]
  intros
  have e : sealSt k s = { s with Seal := hashL [k, s.Witness, s.Digest, s.Tick, k] } := by simp only [sealSt, if_pos h]
  rw [e]
  first | simp | trace_state
 ·have e : sealSt k s = { s with Seal := 0 } := by rw [sealSt, h, if_neg Bool.false_ne_true]
  rw [e]
  first | simp | trace_state
end Go.Proofs.YtpclnmleldeleaaGreatR
namespace Go.Proofs.YtpclnmleldeleaaGreatR
open Go Go.RowKit Go.Proofs
open Nat (reduceEqDiff reduceLT reduceLeDiff reduceAdd reduceMul)
open List (reduceReplicate)
set_option linter.unusedSimpArgs false
set_option linter.unusedVariables false
def liveVal (v : GVisit) (w : GWant) (n : Int) : Int := if visOk v = true ∧ 0 ≤ n ∧ n ≤ 100 then (
  if w.Kind = 1 then valOf (follow v.Site w.Address (IntKind.i64.wrap (v.Tick + n))).1
  else if w.Kind = 2 then (if IntKind.i64.wrap (v.Tick + n) < 999 then IntKind.i64.wrap (v.Tick + n) else 999)
  else if w.Kind = 3 then mod1000 (hashL [v.Seed, n])
  else if w.Kind = 4 then (if 0 < v.Inputs.length then zAt v.Inputs (n.tmod v.Inputs.length) else 0)
  else 0) else 0
def m_impl_LiveValue : MC :=
(.seq (pr [.box 3 0 (.s 0), .box 4 1 (.s 1), .mv 6 (ci 0)] [2,3,4])
(.seq (.seq (.reg [Za (.load 9 true 4 (.s 3)), Za (.call 10 [] (.f n_impl_IsVisit) [.s 9]), Za (.un 11 .not (.s 10)), Za (.mv 12 (.s 11)), Zb 12 false (.mv 13 (.s 2)), Zb 12 false (.call 14 [] (.f n_impl_InRange) [.s 13, .c (.int .i64 0), .c (.int .i64 100)]), Zb 12 false (.un 15 .not (.s 14)), Za (.pick 16 (.s 12) cT (.s 15))] [2,3,4,16])
(.cond (.s 16) (.seq (pr [.mv 6 (ci 0)] [6])
.ret) .skip))
(.seq (.seq (pr [.fld 17 (.s 4) 0, .load 18 false 1 (.s 17)] [2,3,4,18])
(.block 0 (.seq (pr [.bin 20 false .eql (.s 18) (ci 1), .mv 19 (.s 20)] [2,3,4,18,19])
(.cond (.s 19) (.seq (pr [.fld 22 (.s 3) 0, .load 23 false 1 (.s 22), .fld 24 (.s 4) 1, .load 25 true 3 (.s 24), .fld 26 (.s 3) 1, .load 27 false 1 (.s 26), .mv 28 (.s 2), .bin 29 false .add (.s 27) (.s 28), .call 30 [2, 3] (.f n_impl_FollowAt) [.s 23, .s 25, .s 29], .mv 21 (.s 30), .ext 31 (.s 21) 0, .ext 32 (.s 21) 1, .alloc 7 4 [pz, .emp 1, pz, pz, pz], .store 5 (.s 7) (.s 31), .mv 8 (.s 32)] [7])
(.seq (pr [.load 33 true 5 (.s 7), .call 34 [] (.f n_impl_ValueOfResource) [.s 33], .mv 6 (.s 34)] [6])
.ret)) (.seq (pr [.bin 36 false .eql (.s 18) (ci 2), .mv 35 (.s 36)] [2,3,18,35])
(.cond (.s 35) (.seq (pr [.fld 37 (.s 3) 1, .load 38 false 1 (.s 37), .mv 39 (.s 2), .bin 40 false .add (.s 38) (.s 39), .mm 41 false (ci 999) (.s 40), .mv 6 (.s 41)] [6])
.ret) (.seq (pr [.bin 43 false .eql (.s 18) (ci 3), .mv 42 (.s 43)] [2,3,18,42])
(.cond (.s 42) (.seq (pr [.fld 44 (.s 3) 2, .load 45 false 1 (.s 44), .mv 46 (.s 2), .lit 47 5 1 8 [.s 45, .s 46], .call 48 [] (.f n_impl_Hash) [.s 47], .call 49 [] (.f n_impl_Mod) [.s 48, .c (.int .i64 1000)], .mv 6 (.s 49)] [6])
.ret) (.seq (pr [.bin 51 false .eql (.s 18) (ci 4), .mv 50 (.s 51)] [2,3,50])
(.cond (.s 50) (.seq (pr [.fld 52 (.s 3) 3, .load 53 false 1 (.s 52), .len 54 false (.s 53), .bin 55 false .gtr (.s 54) (ci 0)] [2,3,55])
(.cond (.s 55) (.seq (.dreg [Zc [58,59,60,61,62] (.fld 56 (.s 3) 3), Zd [58,59,60,61,62] [0] (.load 57 false 1 (.s 56)), Zc [56,57,59,60,61] (.mv 58 (.s 2)), Zc [56,57,58] (.fld 59 (.s 3) 3), Zd [56,57,58] [3] (.load 60 false 1 (.s 59)), Zd [56,57,58] [3,4] (.len 61 false (.s 60)), Zd [56,57] [2,3,4,5] (.bin 62 false .rem (.s 58) (.s 61)), Ze (.range 7) (.idx 63 1 (.s 57) (.s 62)), Ze (.range 8) (.load 64 false 1 (.s 63)), Ze (.range 9) (.mv 6 (.s 64))] [6])
.ret) .skip)) .skip))))))))))
(.seq (pr [.mv 6 (ci 0)] [6])
.ret))))
theorem c_impl_LiveValue (v : GVisit) (w : GWant) (n : Nat) (hv : v.Site.length + (v.Site.map GVersion.size).sum ≤ 1073741824) : Ctr Tryz.prog n_impl_LiveValue [aS v.enc, aS w.enc, aI n] [rI (liveVal v w n)] := by
 refine cA m_impl_LiveValue 6 65 [(.tmp 6, [false])] Tryz.func265 rfl rfl ?_; unfold m_impl_LiveValue
 intro hb
 clear hb
 simp only [↓reduceIte, reduceEqDiff, reduceLT, reduceAdd, reduceCtorEq, go_sem]
 apply callK_of (c_impl_IsVisit v)
 simp only [↓reduceIte, reduceEqDiff, reduceLT, reduceCtorEq, go_sem]
 by_cases hc : visOk v = true ∧ 0 ≤ (n : Int) ∧ (n : Int) ≤ 100
 ·obtain ⟨c1, c2, c3⟩ := hc
  rw [liveVal, if_pos ⟨c1, c2, c3⟩]
  have hdec : decide ((0 : Int) ≤ (n : Int) ∧ (n : Int) ≤ 100) = true := decide_eq_true ⟨c2, c3⟩
  simp only [reduceCtorEq, go_sem, c1]
  apply callK_of (c_impl_InRange (n : Int) 0 100)
  simp only [↓reduceIte, reduceEqDiff, reduceLT, reduceLeDiff, reduceAdd, reduceMul, reduceCtorEq, go_sem, hdec]
  refine ⟨fun k1 => ?_, fun k1 => ?_⟩
  ·rw [if_pos k1]
   apply callK_of (c_impl_FollowAt v.Site w.Address _ hv)
   simp only [↓reduceIte, reduceEqDiff, reduceLT, reduceAdd, reduceCtorEq, go_sem]
   intros
   apply callK_of (c_impl_ValueOfResource _)
   simp only [↓reduceIte, reduceEqDiff, reduceLT, go_sem]
  rw [if_neg k1]
  refine ⟨fun k2 => by rw [if_pos k2], fun k2 => ?_⟩
  rw [if_neg k2]
  refine ⟨fun k3 => ?_, fun k3 => ?_⟩
  ·rw [if_pos k3]
   refine ⟨⟨by decide, by decide⟩, ?_⟩
   apply callK_of (c_impl_Hash [v.Seed, (n : Int)])
   simp only [↓reduceIte, reduceLT, go_sem]
   try intros
   apply callK_of (c_impl_Mod1000 _)
   simp only [↓reduceIte, reduceEqDiff, reduceLT, go_sem]
  rw [if_neg k3]
  refine ⟨fun k4 => ?_, fun k4 => ?_⟩
  ·rw [if_pos k4]
   refine ⟨fun k5 => ?_, fun k5 => ?_⟩
   ·rw [if_pos (show 0 < v.Inputs.length by omega)]
    obtain ⟨x, hx⟩ := at_some (l := v.Inputs) (k := n % v.Inputs.length) (Nat.mod_lt _ (by omega))
    have hm : (n : Int).tmod (v.Inputs.length : Int) = ((n % v.Inputs.length : Nat) : Int) := (Int.ofNat_tmod n _).symm
    have hz := zAt_of hx
    have hz0 : ¬ (v.Inputs.length : Int) = 0 := by omega
    have hz1 : (v.Inputs.length : Int) ≠ 0 := by omega
    have hlt := Nat.mod_lt n (show 0 < v.Inputs.length by omega)
    rw [if_neg hz0, hm]
    simp only [go_sem]
    refine ⟨⟨by omega, by omega⟩, ?_⟩
    rw [hx, hz]
    simp only [go_sem]
   ·rw [if_neg (show ¬ 0 < v.Inputs.length by omega)]
  ·rw [if_neg k4]
 ·have e0 : liveVal v w n = 0 := by rw [liveVal, if_neg hc]
  rw [e0]
  refine ⟨fun _ => rfl, fun h => ?_⟩
  have hk : decide ((0 : Int) ≤ (n : Int) ∧ (n : Int) ≤ 100) = false := decide_eq_false (fun hh => hc ⟨h, hh⟩)
  apply callK_of (c_impl_InRange (n : Int) 0 100)
  simp only [↓reduceIte, reduceEqDiff, reduceLT, reduceCtorEq, go_sem, hk]
def m_spec_LiveValue : MC :=
(.seq (pr [.box 3 0 (.s 0), .box 4 1 (.s 1), .mv 6 (ci 0)] [2,3,4])
(.seq (.seq (.reg [Za (.load 9 true 4 (.s 3)), Za (.call 10 [] (.f n_spec_IsVisit) [.s 9]), Za (.un 11 .not (.s 10)), Za (.mv 12 (.s 11)), Zb 12 false (.mv 13 (.s 2)), Zb 12 false (.call 14 [] (.f n_spec_l1In) [.s 13, .c (.int .i64 0), .c (.int .i64 100)]), Zb 12 false (.un 15 .not (.s 14)), Za (.pick 16 (.s 12) cT (.s 15))] [2,3,4,16])
(.cond (.s 16) (.seq (pr [.mv 6 (ci 0)] [6])
.ret) .skip))
(.seq (.seq (pr [.fld 17 (.s 4) 0, .load 18 false 1 (.s 17)] [2,3,4,18])
(.block 0 (.seq (pr [.bin 20 false .eql (.s 18) (ci 1), .mv 19 (.s 20)] [2,3,4,18,19])
(.cond (.s 19) (.seq (pr [.fld 22 (.s 3) 0, .load 23 false 1 (.s 22), .fld 24 (.s 4) 1, .load 25 true 3 (.s 24), .fld 26 (.s 3) 1, .load 27 false 1 (.s 26), .mv 28 (.s 2), .bin 29 false .add (.s 27) (.s 28), .call 30 [2, 3] (.f n_spec_FollowAt) [.s 23, .s 25, .s 29], .mv 21 (.s 30), .ext 31 (.s 21) 0, .ext 32 (.s 21) 1, .alloc 7 4 [pz, .emp 1, pz, pz, pz], .store 5 (.s 7) (.s 31), .mv 8 (.s 32)] [7])
(.seq (pr [.load 33 true 5 (.s 7), .call 34 [] (.f n_spec_ValueOfResource) [.s 33], .mv 6 (.s 34)] [6])
.ret)) (.seq (pr [.bin 36 false .eql (.s 18) (ci 2), .mv 35 (.s 36)] [2,3,18,35])
(.cond (.s 35) (.seq (pr [.fld 37 (.s 3) 1, .load 38 false 1 (.s 37), .mv 39 (.s 2), .bin 40 false .add (.s 38) (.s 39), .call 41 [] (.f n_spec_Min) [.c (.int .i64 999), .s 40], .mv 6 (.s 41)] [6])
.ret) (.seq (pr [.bin 43 false .eql (.s 18) (ci 3), .mv 42 (.s 43)] [2,3,18,42])
(.cond (.s 42) (.seq (pr [.fld 44 (.s 3) 2, .load 45 false 1 (.s 44), .mv 46 (.s 2), .lit 47 5 1 8 [.s 45, .s 46], .call 48 [] (.f n_spec_Hash) [.s 47], .call 49 [] (.f n_spec_Mod) [.s 48, .c (.int .i64 1000)], .mv 6 (.s 49)] [6])
.ret) (.seq (pr [.bin 51 false .eql (.s 18) (ci 4), .mv 50 (.s 51)] [2,3,50])
(.cond (.s 50) (.seq (pr [.fld 52 (.s 3) 3, .load 53 false 1 (.s 52), .len 54 false (.s 53), .bin 55 false .gtr (.s 54) (ci 0)] [2,3,55])
(.cond (.s 55) (.seq (.dreg [Zc [58,59,60,61,62] (.fld 56 (.s 3) 3), Zd [58,59,60,61,62] [0] (.load 57 false 1 (.s 56)), Zc [56,57,59,60,61] (.mv 58 (.s 2)), Zc [56,57,58] (.fld 59 (.s 3) 3), Zd [56,57,58] [3] (.load 60 false 1 (.s 59)), Zd [56,57,58] [3,4] (.len 61 false (.s 60)), Zd [56,57] [2,3,4,5] (.bin 62 false .rem (.s 58) (.s 61)), Ze (.range 7) (.idx 63 1 (.s 57) (.s 62)), Ze (.range 8) (.load 64 false 1 (.s 63)), Ze (.range 9) (.mv 6 (.s 64))] [6])
.ret) .skip)) .skip))))))))))
(.seq (pr [.mv 6 (ci 0)] [6])
.ret))))
theorem c_spec_LiveValue (v : GVisit) (w : GWant) (n : Nat) (hv : v.Site.length + (v.Site.map GVersion.size).sum ≤ 1073741824) : Ctr Tryz.prog n_spec_LiveValue [aS v.enc, aS w.enc, aI n] [rI (liveVal v w n)] := by
 refine cA m_spec_LiveValue 6 65 [(.tmp 6, [false])] Tryz.func256 rfl rfl ?_; unfold m_spec_LiveValue
 intro hb
 clear hb
 simp only [↓reduceIte, reduceEqDiff, reduceLT, reduceAdd, reduceCtorEq, go_sem]
 apply callK_of (c_spec_IsVisit v)
 simp only [↓reduceIte, reduceEqDiff, reduceLT, reduceCtorEq, go_sem]
 by_cases hc : visOk v = true ∧ 0 ≤ (n : Int) ∧ (n : Int) ≤ 100
 ·obtain ⟨c1, c2, c3⟩ := hc
  rw [liveVal, if_pos ⟨c1, c2, c3⟩]
  have hdec : decide ((0 : Int) ≤ (n : Int) ∧ (n : Int) ≤ 100) = true := decide_eq_true ⟨c2, c3⟩
  simp only [reduceCtorEq, go_sem, c1]
  apply callK_of (c_spec_l1In (n : Int) 0 100)
  simp only [↓reduceIte, reduceEqDiff, reduceLT, reduceLeDiff, reduceAdd, reduceMul, reduceCtorEq, go_sem, hdec]
  refine ⟨fun k1 => ?_, fun k1 => ?_⟩
  ·rw [if_pos k1]
   apply callK_of (c_spec_FollowAt v.Site w.Address _ hv)
   simp only [↓reduceIte, reduceEqDiff, reduceLT, reduceAdd, reduceCtorEq, go_sem]
   intros
   apply callK_of (c_spec_ValueOfResource _)
   simp only [↓reduceIte, reduceEqDiff, reduceLT, go_sem]
  rw [if_neg k1]
  refine ⟨fun k2 => ?_, fun k2 => ?_⟩
  ·rw [if_pos k2]
   apply callK_of (c_spec_Min 999 _)
   simp only [↓reduceIte, reduceEqDiff, reduceLT, go_sem]
   try intros
   repeat' split
   all_goals omega
  rw [if_neg k2]
  refine ⟨fun k3 => ?_, fun k3 => ?_⟩
  ·rw [if_pos k3]
   refine ⟨⟨by decide, by decide⟩, ?_⟩
   apply callK_of (c_spec_Hash [v.Seed, (n : Int)])
   simp only [↓reduceIte, reduceLT, go_sem]
   try intros
   apply callK_of (c_spec_Mod1000 _)
   simp only [↓reduceIte, reduceEqDiff, reduceLT, go_sem]
  rw [if_neg k3]
  refine ⟨fun k4 => ?_, fun k4 => ?_⟩
  ·rw [if_pos k4]
   refine ⟨fun k5 => ?_, fun k5 => ?_⟩
   ·rw [if_pos (show 0 < v.Inputs.length by omega)]
    obtain ⟨x, hx⟩ := at_some (l := v.Inputs) (k := n % v.Inputs.length) (Nat.mod_lt _ (by omega))
    have hm : (n : Int).tmod (v.Inputs.length : Int) = ((n % v.Inputs.length : Nat) : Int) := (Int.ofNat_tmod n _).symm
    have hz := zAt_of hx
    have hz0 : ¬ (v.Inputs.length : Int) = 0 := by omega
    have hz1 : (v.Inputs.length : Int) ≠ 0 := by omega
    have hlt := Nat.mod_lt n (show 0 < v.Inputs.length by omega)
    rw [if_neg hz0, hm]
    simp only [go_sem]
    refine ⟨⟨by omega, by omega⟩, ?_⟩
    rw [hx, hz]
    simp only [go_sem]
   ·rw [if_neg (show ¬ 0 < v.Inputs.length by omega)]
  ·rw [if_neg k4]
 ·have e0 : liveVal v w n = 0 := by rw [liveVal, if_neg hc]
  rw [e0]
  refine ⟨fun _ => rfl, fun h => ?_⟩
  have hk : decide ((0 : Int) ≤ (n : Int) ∧ (n : Int) ≤ 100) = false := decide_eq_false (fun hh => hc ⟨h, hh⟩)
  apply callK_of (c_spec_l1In (n : Int) 0 100)
  simp only [↓reduceIte, reduceEqDiff, reduceLT, reduceCtorEq, go_sem, hk]
def visF (l : List GOp) (v : GVisit) : Nat → GState → List GEntry → List GState → List GEntry × List GState
 | 0, s, es, tr => (es, tr)
 | f + 1, s, es, tr =>
  if s.Pc ≥ l.length then (es, tr)
  else if (wantOf l s).Kind = 0 then visF l v f (stepTo l s 0) es (tr ++ [stepTo l s 0])
  else visF l v f (stepTo l s (liveVal v (wantOf l s) es.length)) (es ++ [⟨(wantOf l s).Kind, (wantOf l s).Address, liveVal v (wantOf l s) es.length⟩]) (tr ++ [stepTo l s (liveVal v (wantOf l s) es.length)])
def visit (l : List GOp) (v : GVisit) : List GEntry × List GState := if scriptOk l = true ∧ visOk v = true then visF l v 20 st0 [] [st0] else ([], [st0])
theorem visF_len {l : List GOp} {v : GVisit} : ∀ {f : Nat} {s : GState} {es : List GEntry} {tr : List GState}, (visF l v f s es tr).1.length ≤ es.length + f ∧ tr.length ≤ (visF l v f s es tr).2.length
 | 0, s, es, tr => ⟨Nat.le_refl _, Nat.le_refl _⟩
 | f + 1, s, es, tr => by
  rw [visF]
  split
  ·exact ⟨by simp, Nat.le_refl _⟩
  ·split
   ·have := visF_len (l := l) (v := v) (f := f) (s := stepTo l s 0) (es := es) (tr := tr ++ [stepTo l s 0])
    simp only [List.length_append, List.length_cons, List.length_nil] at this
    omega
   ·have := visF_len (l := l) (v := v) (f := f) (s := stepTo l s (liveVal v (wantOf l s) es.length)) (es := es ++ [⟨(wantOf l s).Kind, (wantOf l s).Address, liveVal v (wantOf l s) es.length⟩]) (tr := tr ++ [stepTo l s (liveVal v (wantOf l s) es.length)])
    simp only [List.length_append, List.length_cons, List.length_nil] at this
    omega
theorem visF_ok {l : List GOp} {v : GVisit} : ∀ {f : Nat} {s : GState} {es : List GEntry} {tr : List GState}, stOk s = true → (∀ x ∈ tr, stOk x = true) → ∀ x ∈ (visF l v f s es tr).2, stOk x = true
 | 0, s, es, tr, _, h => h
 | f + 1, s, es, tr, hs, h => by
  rw [visF]
  have hn : ∀ u, ∀ x ∈ tr ++ [stepTo l s u], stOk x = true := fun u x hx => by
   rcases List.mem_append.1 hx with hx | hx
   ·exact h x hx
   ·rw [List.mem_singleton.1 hx]; exact stepTo_ok hs
  split
  ·exact h
  ·split
   ·exact visF_ok (stepTo_ok hs) (hn _)
   ·exact visF_ok (stepTo_ok hs) (hn _)
theorem visit_len (l : List GOp) (v : GVisit) : (visit l v).1.length ≤ 20 ∧ 1 ≤ (visit l v).2.length := by
 unfold visit
 split
 ·have := visF_len (l := l) (v := v) (f := 20) (s := st0) (es := []) (tr := [st0])
  simp only [List.length_nil, List.length_cons] at this
  omega
 ·simp
theorem visit_ok (l : List GOp) (v : GVisit) : ∀ x ∈ (visit l v).2, stOk x = true := by
 unfold visit
 split
 ·exact visF_ok st0_ok (by simp [st0_ok])
 ·simp [st0_ok]
structure VisI (l : List GOp) (v : GVisit) (s : GState) (es : List GEntry) (tr : List GState) : Prop where
 ok : stOk s = true
 len : tr.length ≤ 20 ∧ es.length ≤ 20
 run : scriptOk l = true → visOk v = true → ∃ f, l.length - s.Pc.toNat < f ∧ tr.length + (l.length - s.Pc.toNat) ≤ 18 ∧ es.length + (l.length - s.Pc.toNat) ≤ 18 ∧ visF l v f s es tr = visit l v
 bad : ¬ (scriptOk l = true ∧ visOk v = true) → (es, tr) = visit l v
theorem scriptOk_len {l : List GOp} (h : scriptOk l = true) : l.length ≤ 16 := by
 simp only [scriptOk, fewAll, Bool.and_eq_true, decide_eq_true_eq] at h
 exact h.1
theorem VisI.start (l : List GOp) (v : GVisit) : VisI l v st0 [] [st0] :=
 ⟨st0_ok, by simp, fun h1 h2 => ⟨20, by have := scriptOk_len h1; simp only [st0]; omega, by have := scriptOk_len h1; simp only [st0, List.length_cons, List.length_nil]; omega, by have := scriptOk_len h1; simp only [st0, List.length_nil]; omega, by rw [visit, if_pos ⟨h1, h2⟩]⟩, fun h => by rw [visit, if_neg h]⟩
section
variable {l : List GOp} {v : GVisit} {s : GState} {es : List GEntry} {tr : List GState}
theorem VisI.fin (h : VisI l v s es tr) (h1 : scriptOk l = true) (h2 : visOk v = true) (hd : s.Pc ≥ l.length) : (es, tr) = visit l v := by
 obtain ⟨f, hf, _, _, hp⟩ := h.run h1 h2
 obtain ⟨f, rfl⟩ : ∃ f', f = f' + 1 := ⟨f - 1, by omega⟩
 rw [visF, if_pos hd] at hp
 exact hp
theorem VisI.less (h : VisI l v s es tr) (h1 : scriptOk l = true) (h2 : visOk v = true) (hd : ¬ s.Pc ≥ l.length) (u : Int) : l.length - (stepTo l s u).Pc.toNat < l.length - s.Pc.toNat := by
 have h0 := (stOk_out h.ok).1.1
 have := stepTo_lt (v := u) h1 h.ok (by omega)
 omega
theorem VisI.step0 (h : VisI l v s es tr) (h1 : scriptOk l = true) (h2 : visOk v = true) (hd : ¬ s.Pc ≥ l.length) (hw : (wantOf l s).Kind = 0) : VisI l v (stepTo l s 0) es (tr ++ [stepTo l s 0]) := by
 obtain ⟨f, hf, ht, he, hp⟩ := h.run h1 h2
 obtain ⟨f, rfl⟩ : ∃ f', f = f' + 1 := ⟨f - 1, by omega⟩
 have hl := h.less h1 h2 hd 0
 rw [visF, if_neg hd, if_pos hw] at hp
 refine ⟨stepTo_ok h.ok, by simp only [List.length_append, List.length_cons, List.length_nil]; omega, fun _ _ => ⟨f, by omega, by simp only [List.length_append, List.length_cons, List.length_nil]; omega, by omega, hp⟩, fun hb => (hb ⟨h1, h2⟩).elim⟩
theorem VisI.step1 (h : VisI l v s es tr) (h1 : scriptOk l = true) (h2 : visOk v = true) (hd : ¬ s.Pc ≥ l.length) (hw : ¬ (wantOf l s).Kind = 0) :
  VisI l v (stepTo l s (liveVal v (wantOf l s) es.length)) (es ++ [⟨(wantOf l s).Kind, (wantOf l s).Address, liveVal v (wantOf l s) es.length⟩]) (tr ++ [stepTo l s (liveVal v (wantOf l s) es.length)]) := by
 obtain ⟨f, hf, ht, he, hp⟩ := h.run h1 h2
 obtain ⟨f, rfl⟩ : ∃ f', f = f' + 1 := ⟨f - 1, by omega⟩
 have hl := h.less h1 h2 hd (liveVal v (wantOf l s) es.length)
 rw [visF, if_neg hd, if_neg hw] at hp
 refine ⟨stepTo_ok h.ok, by simp only [List.length_append, List.length_cons, List.length_nil]; omega, fun _ _ => ⟨f, by omega, by simp only [List.length_append, List.length_cons, List.length_nil]; omega, by simp only [List.length_append, List.length_cons, List.length_nil]; omega, hp⟩, fun hb => (hb ⟨h1, h2⟩).elim⟩
end
def m_impl_visited : MC :=
(.seq (pr [.box 3 0 (.s 1), .nilo 4 1 5, .nilo 5 2 4] [0,3])
(.seq (pr [.call 11 [3, 4, 5] (.f n_impl_StartState) [], .alloc 6 6 [pz, .emp 1, .emp 1, .emp 1], .store 4 (.s 6) (.s 11)] [0,3,6])
(.seq (pr [.nilo 7 1 5] [0,3,6,7])
(.seq (pr [.load 12 true 4 (.s 6), .lit 13 2 4 80 [.s 12], .mv 8 (.s 13)] [0,3,6,7,8])
(.seq (.seq (.reg [Za (.mv 14 (.s 0)), Za (.call 15 [] (.f n_impl_IsScript) [.s 14]), Za (.un 16 .not (.s 15)), Za (.mv 17 (.s 16)), Zb 17 false (.load 18 true 4 (.s 3)), Zb 17 false (.call 19 [] (.f n_impl_IsVisit) [.s 18]), Zb 17 false (.un 20 .not (.s 19)), Za (.pick 21 (.s 17) cT (.s 20))] [0,3,6,7,8,21])
(.cond (.s 21) (.seq (pr [.mv 22 (.s 8), .nilo 4 1 5, .mv 5 (.s 22)] [4,5])
.ret) .skip))
(.seq (.block 0 (.loop ([0,3,6,7,8], [7,8,9]) (.seq (.seq (pr [.mv 23 (.s 0), .load 24 true 4 (.s 6), .call 25 [] (.f n_impl_IsDone) [.s 23, .s 24], .un 26 .not (.s 25)] [0,3,6,7,8,26])
(.cond (.s 26) .skip (.exit 0)))
(.block 1 (.seq (pr [.mv 9 (ci 0)] [0,3,6,7,8,9])
(.seq (.seq (pr [.mv 27 (.s 0), .load 28 true 4 (.s 6), .call 29 [] (.f n_impl_WantOf) [.s 27, .s 28], .alloc 10 7 [pz, pz, pz, pz], .store 4 (.s 10) (.s 29)] [0,3,6,7,8,9,10])
(.seq (pr [.fld 30 (.s 10) 0, .load 31 false 1 (.s 30), .bin 32 false .neq (.s 31) (ci 0)] [0,3,6,7,8,9,10,32])
(.cond (.s 32) (.seq (pr [.load 33 true 4 (.s 3), .load 34 true 4 (.s 10), .mv 35 (.s 7), .len 36 false (.s 35), .call 37 [] (.f n_impl_LiveValue) [.s 33, .s 34, .s 36], .mv 9 (.s 37)] [0,3,6,7,8,9,10])
(pr [.mv 38 (.s 7), .fld 39 (.s 10) 0, .load 40 false 1 (.s 39), .fld 41 (.s 10) 1, .load 42 true 3 (.s 41), .mv 43 (.s 9), .build 44 [pz, pz, pz, pz, pz] [(0, 1, .s 40), (1, 3, .s 42), (4, 1, .s 43)], .lit 45 8 5 40 [.s 44], .app 46 1 5 40 (.s 38) (.s 45), .mv 7 (.s 46)] [0,3,6,7,8,9])) .skip)))
(.seq (pr [.mv 47 (.s 0), .load 48 true 4 (.s 6), .mv 49 (.s 9), .call 50 [3, 4, 5] (.f n_impl_StepState) [.s 47, .s 48, .s 49], .store 4 (.s 6) (.s 50)] [0,3,6,7,8])
(pr [.mv 51 (.s 8), .load 52 true 4 (.s 6), .lit 53 9 4 80 [.s 52], .app 54 2 4 80 (.s 51) (.s 53), .mv 8 (.s 54)] [0,3,6,7,8]))))))))
(.seq (pr [.mv 55 (.s 7), .mv 56 (.s 8), .mv 4 (.s 55), .mv 5 (.s 56)] [4,5])
.ret)))))))
set_option maxHeartbeats 2000000 in
theorem c_impl_visited (l : List GOp) (v : GVisit) (hv : v.Site.length + (v.Site.map GVersion.size).sum ≤ 1073741824) : Ctr Tryz.prog n_impl_visited [aL 4 (l.map GOp.enc), aS v.enc] [rL 5 ((visit l v).1.map GEntry.enc), rL 4 ((visit l v).2.map GState.enc)] := by
 refine cA m_impl_visited 10 57 [(.tmp 4, [true]), (.tmp 5, [true])] Tryz.func223 rfl rfl ?_; unfold m_impl_visited
 intro hb
 clear hb
 simp only [↓reduceIte, reduceEqDiff, reduceLT, reduceAdd, reduceCtorEq, go_sem]
 apply callK_of c_impl_StartState
 simp only [↓reduceIte, reduceEqDiff, reduceLT, reduceAdd, reduceMul, reduceCtorEq, go_sem]
 intros
 refine ⟨by decide, ?_⟩
 apply callK_of (c_impl_IsScript l)
 simp only [↓reduceIte, reduceEqDiff, reduceLT, reduceAdd, reduceCtorEq, go_sem]
 repeat' first
  | (refine And.intro ?_ ?_ <;> intro h)
  | (apply callK_of (c_impl_IsVisit v); simp only [↓reduceIte, reduceEqDiff, reduceLT, reduceAdd, reduceCtorEq, go_sem])
 ·have hP : visit l v = ([], [st0]) := by rw [visit, if_neg (by simp_all)]
  rw [hP]
  try exact ⟨rfl, rfl⟩
  try trivial
 ·have hP : visit l v = ([], [st0]) := by rw [visit, if_neg (by simp_all)]
  rw [hP]
  try exact ⟨rfl, rfl⟩
  try trivial
 ·have hl : scriptOk l = true := by assumption
  have hv2 : visOk v = true := by assumption
  refine loopK_up (ι := GState × List GEntry × List GState) (fun t => [(7, .val false [.ref 1 0 5 0 t.2.1.length]), (8, .val false [.ref 2 0 4 0 t.2.2.length])]) (fun t => [(1, ⟨0, .row true 5 (t.2.1.map GEntry.enc)⟩), (2, ⟨0, .row true 4 (t.2.2.map GState.enc)⟩), (3, ⟨0, .lent 1 (t.1.Regs.map encI)⟩), (4, ⟨0, .lent 1 (t.1.Slots.map encI)⟩), (5, ⟨0, .lent 1 (t.1.Nodes.map encI)⟩), (6, ⟨0, .box [.pl (tI t.1.Pc), .ref 3 0 1 0 t.1.Regs.length, .ref 4 0 1 0 t.1.Slots.length, .ref 5 0 1 0 t.1.Nodes.length]⟩)])
   (fun t => VisI l v t.1 t.2.1 t.2.2) (fun t => l.length - t.1.Pc.toNat) (st0, [], [st0]) ?_
  simp only [↓reduceIte, reduceEqDiff, reduceAdd, reduceCtorEq, go_sem]
  refine ⟨?_, VisI.start l v, ?_⟩
  ·simp only [↓reduceIte, reduceEqDiff, reduceLT, reduceCtorEq, go_sem]
   try exact ⟨rfl, rfl⟩
   try trivial
  ·rintro ⟨s, es, tr⟩ hI
   simp only at hI
   have hs := hI.ok
   have hsz := stOk_size hs
   have h0 := (stOk_out hs).1.1
   have hlt := hI.len
   simp only [↓reduceIte, reduceEqDiff, reduceLT, reduceAdd, reduceCtorEq, go_sem]
   apply callK_of (c_impl_IsDone l s)
   by_cases hd : s.Pc ≥ l.length
   ·have hf := hI.fin hl hv2 hd
    simp only [↓reduceIte, reduceEqDiff, reduceLT, reduceCtorEq, go_sem, hd]
    rw [← hf]
    try exact ⟨rfl, rfl⟩
    try trivial
   ·simp only [↓reduceIte, reduceEqDiff, reduceLT, reduceAdd, reduceCtorEq, go_sem, hd]
    apply callK_of (c_impl_WantOf l s)
    simp only [↓reduceIte, reduceEqDiff, reduceLT, reduceLeDiff, reduceAdd, reduceCtorEq, go_sem]
    intros
    by_cases hw : (wantOf l s).Kind = 0
    ·simp only [go_sem, hw]
     apply callK_of (c_impl_StepState l s 0 (by omega))
     simp only [↓reduceIte, reduceEqDiff, reduceLT, reduceAdd, reduceMul, reduceCtorEq, go_sem]
     intros
     refine ⟨by decide, by simp only [roomB]; omega, (stepTo l s 0, es, tr ++ [stepTo l s 0]), ⟨⟨rfl, by simp⟩, rfl, by simp [GState.enc], rfl, rfl, rfl, rfl, rfl, rfl, rfl⟩, hI.step0 hl hv2 hd hw, hI.less hl hv2 hd _⟩
    ·have hw' : (wantOf l s).Kind > 0 := by have := wantOf_kind l s; omega
     simp only [go_sem, hw]
     apply callK_of (c_impl_LiveValue v (wantOf l s) es.length hv)
     simp only [↓reduceIte, reduceEqDiff, reduceLT, reduceLeDiff, reduceAdd, reduceMul, reduceCtorEq, go_sem]
     try intros
     refine ⟨by decide, by simp only [roomB]; omega, ?_⟩
     apply callK_of (c_impl_StepState l s (liveVal v (wantOf l s) es.length) (by omega))
     simp only [↓reduceIte, reduceEqDiff, reduceLT, reduceAdd, reduceMul, reduceCtorEq, go_sem]
     intros
     refine ⟨by decide, by simp only [roomB]; omega, (stepTo l s (liveVal v (wantOf l s) es.length), es ++ [⟨(wantOf l s).Kind, (wantOf l s).Address, liveVal v (wantOf l s) es.length⟩], tr ++ [stepTo l s (liveVal v (wantOf l s) es.length)]), ⟨⟨by simp, by simp⟩, by simp [GEntry.enc], by simp [GState.enc], rfl, rfl, rfl, rfl, rfl, rfl, rfl⟩, hI.step1 hl hv2 hd hw, hI.less hl hv2 hd _⟩
def m_spec_l13Run : MC :=
(.seq (pr [.box 3 0 (.s 1), .nilo 4 1 5, .nilo 5 2 4] [0,3])
(.seq (pr [.lit 11 1 5 40 [], .mv 6 (.s 11)] [0,3,6])
(.seq (pr [.call 12 [3, 4, 5] (.f n_spec_StartState) [], .alloc 7 6 [pz, .emp 1, .emp 1, .emp 1], .store 4 (.s 7) (.s 12)] [0,3,6,7])
(.seq (pr [.load 13 true 4 (.s 7), .lit 14 2 4 80 [.s 13], .mv 8 (.s 14)] [0,3,6,7,8])
(.seq (.block 0 (.loop ([0,3,6,7,8], [7,8,9]) (.seq (.seq (.reg [Za (.mv 15 (.s 0)), Za (.call 16 [] (.f n_spec_IsScript) [.s 15]), Za (.mv 17 (.s 16)), Zb 17 true (.load 18 true 4 (.s 3)), Zb 17 true (.call 19 [] (.f n_spec_IsVisit) [.s 18]), Za (.pick 20 (.s 17) (.s 19) cF), Za (.mv 21 (.s 20)), Zb 21 true (.mv 22 (.s 0)), Zb 21 true (.load 23 true 4 (.s 7)), Zb 21 true (.call 24 [] (.f n_spec_IsDone) [.s 22, .s 23]), Zb 21 true (.un 25 .not (.s 24)), Za (.pick 26 (.s 21) (.s 25) cF)] [0,3,6,7,8,26])
(.cond (.s 26) .skip (.exit 0)))
(.block 1 (.seq (pr [.mv 27 (.s 0), .load 28 true 4 (.s 7), .call 29 [] (.f n_spec_WantOf) [.s 27, .s 28], .alloc 9 7 [pz, pz, pz, pz], .store 4 (.s 9) (.s 29)] [0,3,6,7,8,9])
(.seq (pr [.mv 10 (ci 0)] [0,3,6,7,8,9,10])
(.seq (.seq (pr [.fld 30 (.s 9) 0, .load 31 false 1 (.s 30), .bin 32 false .gtr (.s 31) (ci 0)] [0,3,6,7,8,9,10,32])
(.cond (.s 32) (.seq (pr [.load 33 true 4 (.s 3), .load 34 true 4 (.s 9), .mv 35 (.s 6), .len 36 false (.s 35), .call 37 [] (.f n_spec_LiveValue) [.s 33, .s 34, .s 36], .mv 10 (.s 37)] [0,3,6,7,8,9,10])
(pr [.mv 38 (.s 6), .fld 39 (.s 9) 0, .load 40 false 1 (.s 39), .fld 41 (.s 9) 1, .load 42 true 3 (.s 41), .mv 43 (.s 10), .build 44 [pz, pz, pz, pz, pz] [(0, 1, .s 40), (1, 3, .s 42), (4, 1, .s 43)], .lit 45 8 5 40 [.s 44], .app 46 1 5 40 (.s 38) (.s 45), .mv 6 (.s 46)] [0,3,6,7,8,10])) .skip))
(.seq (pr [.mv 47 (.s 0), .load 48 true 4 (.s 7), .mv 49 (.s 10), .call 50 [3, 4, 5] (.f n_spec_StepState) [.s 47, .s 48, .s 49], .store 4 (.s 7) (.s 50)] [0,3,6,7,8])
(pr [.mv 51 (.s 8), .load 52 true 4 (.s 7), .lit 53 9 4 80 [.s 52], .app 54 2 4 80 (.s 51) (.s 53), .mv 8 (.s 54)] [0,3,6,7,8])))))))))
(.seq (pr [.mv 55 (.s 6), .mv 56 (.s 8), .mv 4 (.s 55), .mv 5 (.s 56)] [4,5])
.ret))))))
set_option maxHeartbeats 2000000 in
theorem c_spec_l13Run (l : List GOp) (v : GVisit) (hv : v.Site.length + (v.Site.map GVersion.size).sum ≤ 1073741824) : Ctr Tryz.prog n_spec_l13Run [aL 4 (l.map GOp.enc), aS v.enc] [rL 5 ((visit l v).1.map GEntry.enc), rL 4 ((visit l v).2.map GState.enc)] := by
 refine cA m_spec_l13Run 10 57 [(.tmp 4, [true]), (.tmp 5, [true])] Tryz.func214 rfl rfl ?_; unfold m_spec_l13Run
 intro hb
 clear hb
 simp only [↓reduceIte, reduceEqDiff, reduceLT, reduceAdd, reduceMul, reduceCtorEq, go_sem]
 apply callK_of c_spec_StartState
 simp only [↓reduceIte, reduceEqDiff, reduceLT, reduceAdd, reduceMul, reduceCtorEq, go_sem]
 intros
 refine ⟨by decide, ?_⟩
 refine loopK_up (ι := GState × List GEntry × List GState) (fun t => [(6, .val false [.ref 1 0 5 0 t.2.1.length]), (8, .val false [.ref 2 0 4 0 t.2.2.length])]) (fun t => [(1, ⟨0, .row true 5 (t.2.1.map GEntry.enc)⟩), (2, ⟨0, .row true 4 (t.2.2.map GState.enc)⟩), (3, ⟨0, .lent 1 (t.1.Regs.map encI)⟩), (4, ⟨0, .lent 1 (t.1.Slots.map encI)⟩), (5, ⟨0, .lent 1 (t.1.Nodes.map encI)⟩), (6, ⟨0, .box [.pl (tI t.1.Pc), .ref 3 0 1 0 t.1.Regs.length, .ref 4 0 1 0 t.1.Slots.length, .ref 5 0 1 0 t.1.Nodes.length]⟩)])
  (fun t => VisI l v t.1 t.2.1 t.2.2) (fun t => l.length - t.1.Pc.toNat) (st0, [], [st0]) ?_
 simp only [↓reduceIte, reduceEqDiff, reduceAdd, reduceCtorEq, go_sem]
 refine ⟨?_, VisI.start l v, ?_⟩
 ·simp only [↓reduceIte, reduceEqDiff, reduceLT, reduceCtorEq, go_sem]
  try exact ⟨rfl, rfl⟩
  try trivial
 ·rintro ⟨s, es, tr⟩ hI
  simp only at hI
  have hs := hI.ok
  have hsz := stOk_size hs
  have h0 := (stOk_out hs).1.1
  have hlt := hI.len
  simp only [↓reduceIte, reduceEqDiff, reduceLT, reduceCtorEq, go_sem]
  apply callK_of (c_spec_IsScript l)
  by_cases hval : scriptOk l = true ∧ visOk v = true
  ·obtain ⟨hl, hv2⟩ := hval
   simp only [↓reduceIte, reduceEqDiff, reduceLT, reduceAdd, reduceCtorEq, go_sem, hl]
   apply callK_of (c_spec_IsVisit v)
   simp only [↓reduceIte, reduceEqDiff, reduceLT, reduceAdd, reduceCtorEq, go_sem, hv2]
   apply callK_of (c_spec_IsDone l s)
   by_cases hd : s.Pc ≥ l.length
   ·have hf := hI.fin hl hv2 hd
    simp only [↓reduceIte, reduceEqDiff, reduceLT, reduceCtorEq, go_sem, hd]
    rw [← hf]
    try exact ⟨rfl, rfl⟩
    try trivial
   ·simp only [↓reduceIte, reduceEqDiff, reduceLT, reduceAdd, reduceCtorEq, go_sem, hd]
    apply callK_of (c_spec_WantOf l s)
    simp only [↓reduceIte, reduceEqDiff, reduceLT, reduceLeDiff, reduceAdd, reduceCtorEq, go_sem]
    intros
    by_cases hw : (wantOf l s).Kind = 0
    ·simp only [go_sem, hw]
     apply callK_of (c_spec_StepState l s 0 (by omega))
     simp only [↓reduceIte, reduceEqDiff, reduceLT, reduceAdd, reduceMul, reduceCtorEq, go_sem]
     intros
     refine ⟨by decide, by simp only [roomB]; omega, (stepTo l s 0, es, tr ++ [stepTo l s 0]), ⟨⟨rfl, by simp⟩, rfl, by simp [GState.enc], rfl, rfl, rfl, rfl, rfl, rfl, rfl⟩, hI.step0 hl hv2 hd hw, hI.less hl hv2 hd _⟩
    ·have hw' : (wantOf l s).Kind > 0 := by have := wantOf_kind l s; omega
     simp only [go_sem, hw']
     apply callK_of (c_spec_LiveValue v (wantOf l s) es.length hv)
     simp only [↓reduceIte, reduceEqDiff, reduceLT, reduceLeDiff, reduceAdd, reduceMul, reduceCtorEq, go_sem]
     try intros
     refine ⟨by decide, by simp only [roomB]; omega, ?_⟩
     apply callK_of (c_spec_StepState l s (liveVal v (wantOf l s) es.length) (by omega))
     simp only [↓reduceIte, reduceEqDiff, reduceLT, reduceAdd, reduceMul, reduceCtorEq, go_sem]
     intros
     refine ⟨by decide, by simp only [roomB]; omega, (stepTo l s (liveVal v (wantOf l s) es.length), es ++ [⟨(wantOf l s).Kind, (wantOf l s).Address, liveVal v (wantOf l s) es.length⟩], tr ++ [stepTo l s (liveVal v (wantOf l s) es.length)]), ⟨⟨by simp, by simp⟩, by simp [GEntry.enc], by simp [GState.enc], rfl, rfl, rfl, rfl, rfl, rfl, rfl⟩, hI.step1 hl hv2 hd hw, hI.less hl hv2 hd _⟩
  ·have hf := hI.bad hval
   rw [← hf]
   simp only [↓reduceIte, reduceEqDiff, reduceLT, reduceAdd, reduceCtorEq, go_sem]
   intro h
   have hvb : visOk v = false := by
    cases hh : visOk v
    ·rfl
    ·exact (hval ⟨h, hh⟩).elim
   apply callK_of (c_spec_IsVisit v)
   simp only [↓reduceIte, reduceEqDiff, reduceLT, reduceCtorEq, go_sem, hvb, h]
   all_goals trace_state
end Go.Proofs.YtpclnmleldeleaaGreatR
namespace Go.Proofs.YtpclnmleldeleaaGreatR
open Go Go.RowKit Go.Proofs
open Nat (reduceEqDiff reduceLT reduceLeDiff reduceAdd reduceMul)
open List (reduceReplicate)
set_option linter.unusedSimpArgs false
set_option linter.unusedVariables false
def lastSt (l : List GState) : GState := (l[l.length - 1]?).getD st0
theorem lastSt_at {l : List GState} {x : GState} (h : l[l.length - 1]? = some x) : lastSt l = x := by rw [lastSt, h]; rfl
def m_impl_last : MC :=
(.seq (pr [.alloc 2 0 [pz, .emp 1, .emp 1, .emp 1]] [0,2])
(.seq (pr [.mv 3 (.s 0), .mv 4 (.s 0), .len 5 false (.s 4), .bin 6 false .sub (.s 5) (ci 1), .idx 7 4 (.s 3) (.s 6), .load 8 true 4 (.s 7), .call 9 [1, 2, 3] (.f n_impl_copyState) [.s 8], .store 4 (.s 2) (.s 9)] [2])
.ret))
theorem c_impl_last (l : List GState) (h1 : 1 ≤ l.length) (h2 : ∀ x ∈ l, stOk x = true) : Ctr Tryz.prog n_impl_last [aL 4 (l.map GState.enc)] [rS (lastSt l).enc] := by
 refine cA m_impl_last 4 10 [(.cell 2 true 4, [false, true, true, true])] Tryz.func224 rfl rfl ?_; unfold m_impl_last
 intro hb
 simp only [bdA, bdL, bdT, bdR_map, roomB, and_true, List.length_map] at hb
 have hl := hb.1
 clear hb
 obtain ⟨x, hx⟩ := at_some (l := l) (k := l.length - 1) (by omega)
 have hsz := stOk_size (h2 x (at_mem hx))
 have hw1 : IntKind.i64.wrap ((l.length : Int) - 1) = ((l.length - 1 : Nat) : Int) := by rw [wI (by omega) (by omega)]; omega
 have hlt : ((l.length - 1 : Nat) : Int) < (l.length : Int) := by omega
 rw [lastSt_at hx]
 simp only [↓reduceIte, reduceEqDiff, reduceLT, reduceAdd, reduceCtorEq, go_sem, hw1, bk_eq hx, hlt]
 refine ⟨by omega, ?_⟩
 apply callK_of (c_impl_copyState x (by omega))
 simp only [↓reduceIte, reduceEqDiff, reduceLT, reduceAdd, reduceCtorEq, go_sem]
def m_impl_RecordVisit : MC :=
(.seq (pr [.box 3 0 (.s 1), .nilo 4 1 5, .alloc 5 2 [pz, .emp 1, .emp 1, .emp 1]] [0,3,5])
(.seq (pr [.mv 9 (.s 0), .load 10 true 4 (.s 3), .call 11 [1, 3] (.f n_impl_visited) [.s 9, .s 10], .mv 8 (.s 11), .ext 12 (.s 8) 0, .ext 13 (.s 8) 1, .mv 6 (.s 12), .mv 7 (.s 13)] [5,6,7])
(.seq (pr [.mv 14 (.s 6), .mv 15 (.s 7), .call 16 [4, 5, 6] (.f n_impl_last) [.s 15], .mv 4 (.s 14), .store 4 (.s 5) (.s 16)] [4,5])
.ret)))
theorem c_impl_RecordVisit (l : List GOp) (v : GVisit) (hv : v.Site.length + (v.Site.map GVersion.size).sum ≤ 1073741824) : Ctr Tryz.prog n_impl_RecordVisit [aL 4 (l.map GOp.enc), aS v.enc] [rL 5 ((visit l v).1.map GEntry.enc), rS (lastSt (visit l v).2).enc] := by
 refine cA m_impl_RecordVisit 7 17 [(.tmp 4, [true]), (.cell 5 true 4, [false, true, true, true])] Tryz.func165 rfl rfl ?_; unfold m_impl_RecordVisit
 intro hb
 clear hb
 simp only [↓reduceIte, reduceEqDiff, reduceLT, reduceAdd, reduceCtorEq, go_sem]
 apply callK_of (c_impl_visited l v hv)
 simp only [↓reduceIte, reduceEqDiff, reduceLT, reduceAdd, reduceCtorEq, go_sem]
 intros
 apply callK_of (c_impl_last (visit l v).2 (visit_len l v).2 (visit_ok l v))
 simp only [↓reduceIte, reduceEqDiff, reduceLT, reduceAdd, reduceCtorEq, go_sem]
def m_spec_RecordVisit : MC :=
(.seq (pr [.box 3 0 (.s 1), .nilo 4 1 5, .alloc 5 2 [pz, .emp 1, .emp 1, .emp 1]] [0,3,5])
(.seq (pr [.mv 9 (.s 0), .load 10 true 4 (.s 3), .call 11 [1, 3] (.f n_spec_l13Run) [.s 9, .s 10], .mv 8 (.s 11), .ext 12 (.s 8) 0, .ext 13 (.s 8) 1, .mv 6 (.s 12), .mv 7 (.s 13)] [5,6,7])
(.seq (pr [.mv 14 (.s 6), .mv 15 (.s 7), .mv 16 (.s 7), .len 17 false (.s 16), .bin 18 false .sub (.s 17) (ci 1), .idx 19 4 (.s 15) (.s 18), .load 20 true 4 (.s 19), .call 21 [4, 5, 6] (.f n_spec_l11Copy) [.s 20], .mv 4 (.s 14), .store 4 (.s 5) (.s 21)] [4,5])
.ret)))
theorem c_spec_RecordVisit (l : List GOp) (v : GVisit) (hv : v.Site.length + (v.Site.map GVersion.size).sum ≤ 1073741824) : Ctr Tryz.prog n_spec_RecordVisit [aL 4 (l.map GOp.enc), aS v.enc] [rL 5 ((visit l v).1.map GEntry.enc), rS (lastSt (visit l v).2).enc] := by
 refine cA m_spec_RecordVisit 7 22 [(.tmp 4, [true]), (.cell 5 true 4, [false, true, true, true])] Tryz.func156 rfl rfl ?_; unfold m_spec_RecordVisit
 intro hb
 clear hb
 simp only [↓reduceIte, reduceEqDiff, reduceLT, reduceAdd, reduceCtorEq, go_sem]
 apply callK_of (c_spec_l13Run l v hv)
 simp only [↓reduceIte, reduceEqDiff, reduceLT, reduceAdd, reduceCtorEq, go_sem]
 intros
 have h1 := (visit_len l v).2
 have hrb : roomB = 140737488355328 := rfl
 obtain ⟨x, hx⟩ := at_some (l := (visit l v).2) (k := (visit l v).2.length - 1) (by omega)
 have hsz := stOk_size (visit_ok l v x (at_mem hx))
 have hlt : (((visit l v).2.length - 1 : Nat) : Int) < ((visit l v).2.length : Int) := by omega
 rw [lastSt_at hx]
 have hw1 : IntKind.i64.wrap (((visit l v).2.length : Int) - 1) = (((visit l v).2.length - 1 : Nat) : Int) := by rw [wI (by omega) (by omega)]; omega
 simp only [go_sem, hw1, bk_eq hx, hlt]
 refine ⟨by omega, ?_⟩
 apply callK_of (c_spec_l11Copy x (by omega))
 simp only [↓reduceIte, reduceEqDiff, reduceLT, reduceAdd, reduceCtorEq, go_sem]
def capAt (v : GVisit) (k : Nat) (e : GEntry) : List GCapture := if e.Kind = 1 then [⟨e.Address, IntKind.i64.wrap (v.Tick + k), (follow v.Site e.Address (IntKind.i64.wrap (v.Tick + k))).1⟩] else []
def capsUp (v : GVisit) (es : List GEntry) : Nat → List GCapture
 | 0 => []
 | k + 1 => capsUp v es k ++ (match es[k]? with | some e => capAt v k e | none => [])
def capsV (v : GVisit) (es : List GEntry) : List GCapture := capsUp v es es.length
theorem capsUp_yes {v : GVisit} {es : List GEntry} {k : Nat} {e : GEntry} (h : es[k]? = some e) (h1 : e.Kind = 1) : capsUp v es (k + 1) = capsUp v es k ++ [⟨e.Address, IntKind.i64.wrap (v.Tick + k), (follow v.Site e.Address (IntKind.i64.wrap (v.Tick + k))).1⟩] := by
 rw [capsUp, h]; simp only [capAt, if_pos h1]
theorem capsUp_no {v : GVisit} {es : List GEntry} {k : Nat} {e : GEntry} (h : es[k]? = some e) (h1 : ¬ e.Kind = 1) : capsUp v es (k + 1) = capsUp v es k := by
 rw [capsUp, h]; simp only [capAt, if_neg h1, List.append_nil]
theorem capsUp_len {v : GVisit} {es : List GEntry} : ∀ k, (capsUp v es k).length ≤ k
 | 0 => Nat.le_refl _
 | k + 1 => by
  have ih := capsUp_len (v := v) (es := es) k
  rw [capsUp, List.length_append]
  have : (match es[k]? with | some e => capAt v k e | none => []).length ≤ 1 := by
   split
   ·unfold capAt; split <;> simp
   ·simp
  omega
def m_impl_CapturesOf : MC :=
(.seq (pr [.box 3 0 (.s 1), .nilo 4 1 9] [0,3])
(.seq (pr [.mv 13 (.s 0), .load 14 true 4 (.s 3), .call 15 [2, 3, 4, 5] (.f n_impl_RecordVisit) [.s 13, .s 14], .mv 12 (.s 15), .ext 16 (.s 12) 0, .ext 17 (.s 12) 1, .alloc 6 6 [pz, .emp 1, .emp 1, .emp 1], .mv 5 (.s 16), .store 4 (.s 6) (.s 17)] [3,5])
(.seq (pr [.nilo 7 1 9] [3,5,7])
(.seq (.seq (pr [.mv 18 (.s 5), .len 19 false (.s 18), .mv 20 (ci 0)] [3,7,18,19,20])
(.block 0 (.loop ([3,7,18,19,20], [3,4,5,6,7,8,9,10,11]) (.seq (pr [.bin 21 false .lss (.s 20) (.s 19)] [3,7,18,19,20,21])
(.seq (.cond (.s 21) .skip (.exit 0))
(.seq (.block 1 (.seq (pr [.mv 22 (.s 20), .idx 23 5 (.s 18) (.s 20), .load 24 true 5 (.s 23), .alloc 9 7 [pz, pz, pz, pz, pz], .mv 8 (.s 22), .store 5 (.s 9) (.s 24)] [3,7,8,9,18,19,20])
(.seq (pr [.fld 25 (.s 9) 0, .load 26 false 1 (.s 25), .bin 27 false .eql (.s 26) (ci 1)] [3,7,8,9,18,19,20,27])
(.cond (.s 27) (.seq (pr [.fld 29 (.s 3) 0, .load 30 false 1 (.s 29), .fld 31 (.s 9) 1, .load 32 true 3 (.s 31), .fld 33 (.s 3) 1, .load 34 false 1 (.s 33), .mv 35 (.s 8), .bin 36 false .add (.s 34) (.s 35), .call 37 [8, 9] (.f n_impl_FollowAt) [.s 30, .s 32, .s 36], .mv 28 (.s 37), .ext 38 (.s 28) 0, .ext 39 (.s 28) 1, .alloc 10 10 [pz, .emp 1, pz, pz, pz], .store 5 (.s 10) (.s 38), .mv 11 (.s 39)] [3,7,8,9,10,18,19,20])
(pr [.mv 40 (.s 7), .fld 41 (.s 9) 1, .load 42 true 3 (.s 41), .fld 43 (.s 3) 1, .load 44 false 1 (.s 43), .mv 45 (.s 8), .bin 46 false .add (.s 44) (.s 45), .load 47 true 5 (.s 10), .build 48 [pz, pz, pz, pz, pz, .emp 1, pz, pz, pz] [(0, 3, .s 42), (3, 1, .s 46), (4, 5, .s 47)], .lit 49 11 9 88 [.s 48], .app 50 1 9 88 (.s 40) (.s 49), .mv 7 (.s 50)] [3,7,18,19,20])) .skip))))
(pr [.bin 51 false .add (.s 20) (ci 1), .mv 20 (.s 51)] [3,7,18,19,20])))))))
(.seq (pr [.mv 52 (.s 7), .mv 4 (.s 52)] [4])
.ret)))))
theorem c_impl_CapturesOf (l : List GOp) (v : GVisit) (hv : v.Site.length + (v.Site.map GVersion.size).sum ≤ 1073741824) : Ctr Tryz.prog n_impl_CapturesOf [aL 4 (l.map GOp.enc), aS v.enc] [rL 9 ((capsV v (visit l v).1).map GCapture.enc)] := by
 refine cA m_impl_CapturesOf 12 53 [(.tmp 4, [true])] Tryz.func167 rfl rfl ?_; unfold m_impl_CapturesOf
 intro hb
 clear hb
 simp only [↓reduceIte, reduceEqDiff, reduceLT, reduceAdd, reduceCtorEq, go_sem]
 apply callK_of (c_impl_RecordVisit l v hv)
 simp only [↓reduceIte, reduceEqDiff, reduceLT, reduceAdd, reduceCtorEq, go_sem]
 intros
 have hn := (visit_len l v).1
 generalize (visit l v).1 = es at *
 refine loopK_rng es (fun k => [(7, .val false [.ref 1 0 9 0 (capsUp v es k).length]), (20, vI k)]) (fun k => [(1, ⟨0, .row true 9 ((capsUp v es k).map GCapture.enc)⟩)]) (fun _ => True) (by simp only [roomB]; omega) ?_
 simp only [↓reduceIte, reduceEqDiff, reduceAdd, reduceCtorEq, go_sem]
 refine ⟨?_, trivial, ?_, ?_⟩
 ·simp only [↓reduceIte, reduceEqDiff, reduceLT, go_sem, capsUp]
  try exact ⟨rfl, rfl⟩
 ·intro k e hx _ h0 h1 hw
  have hl := capsUp_len (v := v) (es := es) k
  have hk := len_at hx
  simp only [↓reduceIte, reduceEqDiff, reduceLT, reduceLeDiff, reduceAdd, reduceCtorEq, go_sem, bk_eq hx, h0, h1, hw]
  refine ⟨fun hA => ?_, fun hA => ?_⟩
  ·apply callK_of (c_impl_FollowAt v.Site e.Address _ hv)
   simp only [↓reduceIte, reduceEqDiff, reduceLT, reduceLeDiff, reduceAdd, reduceMul, reduceCtorEq, go_sem, capsUp_yes hx hA, hw, List.length_append]
   intros
   exact ⟨by decide, by simp only [roomB]; omega, by rw [List.map_append]; rfl⟩
  ·simp only [go_sem, capsUp_no hx hA]
 ·intro _
  simp only [↓reduceIte, reduceEqDiff, reduceLT, reduceCtorEq, go_sem]
  rfl
def m_spec_CapturesOf : MC :=
(.seq (pr [.box 3 0 (.s 1), .nilo 4 1 9] [0,3])
(.seq (pr [.lit 11 1 9 88 [], .mv 5 (.s 11)] [0,3,5])
(.seq (pr [.mv 13 (.s 0), .load 14 true 4 (.s 3), .call 15 [2, 3, 4, 5] (.f n_spec_RecordVisit) [.s 13, .s 14], .mv 12 (.s 15), .ext 16 (.s 12) 0, .ext 17 (.s 12) 1, .alloc 7 6 [pz, .emp 1, .emp 1, .emp 1], .mv 6 (.s 16), .store 4 (.s 7) (.s 17)] [3,5,6])
(.seq (.seq (pr [.mv 8 (ci 0)] [3,5,6,8])
(.block 0 (.loop ([3,5,6,8], [3,4,5,6,7,8,9,10]) (.seq (.seq (pr [.mv 18 (.s 8), .mv 19 (.s 6), .len 20 false (.s 19), .bin 21 false .lss (.s 18) (.s 20)] [3,5,6,8,21])
(.cond (.s 21) .skip (.exit 0)))
(.seq (.block 1 (.seq (pr [.mv 24 (.s 6), .mv 25 (.s 8), .idx 26 5 (.s 24) (.s 25), .fld 27 (.s 26) 0, .load 28 false 1 (.s 27), .bin 29 false .eql (.s 28) (ci 1)] [3,5,6,8,29])
(.cond (.s 29) (.seq (.dreg [Zf [9,33,34,35,36,37,38,39,40,41] [9] (.fld 31 (.s 3) 0), Zg [9,33,34,35,36,37,38,39,40,41] [9] [0] (.load 32 false 1 (.s 31)), Zf [9,31,32,34,38,39,40,41] [9] (.mv 33 (.s 6)), Zf [9,31,32,33,38,39,40,41] [9] (.mv 34 (.s 8)), Zg [9,31,32,38,39,40,41] [9] [2,3] (.idx 35 5 (.s 33) (.s 34)), Zg [9,31,32,38,39,40,41] [9] [2,3,4] (.fld 36 (.s 35) 1), Zg [9,31,32,38,39,40,41] [9] [2,3,4,5] (.load 37 true 3 (.s 36)), Zf [9,31,32,33,34,35,36,37,40] [9] (.fld 38 (.s 3) 1), Zg [9,31,32,33,34,35,36,37,40] [9] [7] (.load 39 false 1 (.s 38)), Zf [9,31,32,33,34,35,36,37,38,39] [9] (.mv 40 (.s 8)), Zg [9,31,32,33,34,35,36,37] [9] [7,8,9] (.bin 41 false .add (.s 39) (.s 40)), { o := .call 42 [7, 8] (.f n_spec_FollowAt) [.s 32, .s 37, .s 41], hs := [9], ho := [9], ws := [7,8], bf := (.range 11) }, Zg [9] [9] (.range 12) (.mv 30 (.s 42)), Zg [9,44] [9] (.range 13) (.ext 43 (.s 30) 0), Zg [9,43] [7,9] (.range 13) (.ext 44 (.s 30) 1), { o := .alloc 9 9 [pz, .emp 1, pz, pz, pz], hs := [30,31,32,33,34,35,36,37,38,39,40,41,42,43,44], ho := [7,8], ws := [9] }, { o := .store 5 (.s 9) (.s 43), hs := [44], ws := [7,9], bf := [0,1,2,3,4,5,6,7,8,9,10,11,12,13,15] }, Ze (.range 17) (.mv 10 (.s 44))] [3,5,6,8,9])
(.dreg [Zf [46,47,48,49,50,51,52,53,54,55,56,57] [7,10] (.mv 45 (.s 5)), Zc [45,47,51,52,53,54,55] (.mv 46 (.s 6)), Zc [45,46,51,52,53,54,55] (.mv 47 (.s 8)), Zd [45,51,52,53,54,55] [1,2] (.idx 48 5 (.s 46) (.s 47)), Zd [45,51,52,53,54,55] [1,2,3] (.fld 49 (.s 48) 1), Zd [45,51,52,53,54,55] [1,2,3,4] (.load 50 true 3 (.s 49)), Zc [45,46,47,48,49,50,53,55] (.fld 51 (.s 3) 1), Zd [45,46,47,48,49,50,53,55] [6] (.load 52 false 1 (.s 51)), Zc [45,46,47,48,49,50,51,52,55] (.mv 53 (.s 8)), Zd [45,46,47,48,49,50,55] [6,7,8] (.bin 54 false .add (.s 52) (.s 53)), Zc [45,46,47,48,49,50,51,52,53,54] (.load 55 true 5 (.s 9)), Zd [45] [1,2,3,4,5,6,7,8,9,10] (.build 56 [pz, pz, pz, pz, pz, .emp 1, pz, pz, pz] [(0, 3, .s 50), (3, 1, .s 54), (4, 5, .s 55)]), { o := .lit 57 10 9 88 [.s 56], hs := [45], ws := [7,10], bf := [1,2,3,4,5,6,7,8,9,10,11] }, { o := .app 58 1 9 88 (.s 45) (.s 57), ws := [1,10], bf := (.range 13) }, Ze (.range 14) (.mv 5 (.s 58))] [3,5,6,8])) .skip)))
(pr [.mv 22 (.s 8), .bin 23 false .add (.s 22) (ci 1), .mv 8 (.s 23)] [3,5,6,8]))))))
(.seq (pr [.mv 59 (.s 5), .mv 4 (.s 59)] [4])
.ret)))))
theorem c_spec_CapturesOf (l : List GOp) (v : GVisit) (hv : v.Site.length + (v.Site.map GVersion.size).sum ≤ 1073741824) : Ctr Tryz.prog n_spec_CapturesOf [aL 4 (l.map GOp.enc), aS v.enc] [rL 9 ((capsV v (visit l v).1).map GCapture.enc)] := by
 refine cA m_spec_CapturesOf 11 60 [(.tmp 4, [true])] Tryz.func158 rfl rfl ?_; unfold m_spec_CapturesOf
 intro hb
 clear hb
 simp only [↓reduceIte, reduceEqDiff, reduceLT, reduceAdd, reduceMul, reduceCtorEq, go_sem]
 apply callK_of (c_spec_RecordVisit l v hv)
 simp only [↓reduceIte, reduceEqDiff, reduceLT, reduceAdd, reduceCtorEq, go_sem]
 intros
 have hn := (visit_len l v).1
 generalize (visit l v).1 = es at *
 refine loopK_rng es (fun k => [(5, .val false [.ref 1 0 9 0 (capsUp v es k).length]), (8, vI k)]) (fun k => [(1, ⟨0, .row true 9 ((capsUp v es k).map GCapture.enc)⟩)]) (fun _ => True) (by simp only [roomB]; omega) ?_
 simp only [↓reduceIte, reduceEqDiff, reduceAdd, reduceCtorEq, go_sem]
 refine ⟨?_, trivial, ?_, ?_⟩
 ·simp only [↓reduceIte, reduceEqDiff, reduceLT, go_sem, capsUp]
  try exact ⟨rfl, rfl⟩
 ·intro k e hx _ h0 h1 hw
  have hl := capsUp_len (v := v) (es := es) k
  have hk := len_at hx
  simp only [↓reduceIte, reduceEqDiff, reduceLT, reduceLeDiff, reduceAdd, reduceCtorEq, go_sem, bk_eq hx, h0, h1, hw]
  refine ⟨fun hA => ?_, fun hA => ?_⟩
  ·apply callK_of (c_spec_FollowAt v.Site e.Address _ hv)
   simp only [↓reduceIte, reduceEqDiff, reduceLT, reduceLeDiff, reduceAdd, reduceMul, reduceCtorEq, go_sem, bk_eq hx, h0, h1, capsUp_yes hx hA, hw, List.length_append]
   intros
   exact ⟨by decide, by simp only [roomB]; omega, by rw [List.map_append]; rfl⟩
  ·simp only [go_sem, capsUp_no hx hA]
 ·intro _
  simp only [↓reduceIte, reduceEqDiff, reduceLT, reduceCtorEq, go_sem]
  rfl
theorem followF_body {l : List GVersion} {tick : Int} : ∀ {n : Nat} {r : GResource} {q : List GAddress}, r.Body.length ≤ (l.map GVersion.size).sum → (followF l tick n r q).1.Body.length ≤ (l.map GVersion.size).sum
 | 0, r, q, h => h
 | n + 1, r, q, h => by
  rw [followF]
  split
  ·exact followF_body answer_body
  ·exact h
theorem follow_body {l : List GVersion} {tick : Int} {a : GAddress} : (follow l a tick).1.Body.length ≤ (l.map GVersion.size).sum := followF_body answer_body
theorem capsUp_size {v : GVisit} {es : List GEntry} : ∀ k, ((capsUp v es k).map GCapture.size).sum ≤ k * (v.Site.map GVersion.size).sum
 | 0 => by simp [capsUp]
 | k + 1 => by
  have ih := capsUp_size (v := v) (es := es) k
  rw [capsUp, List.map_append, List.sum_append, Nat.succ_mul]
  have : ((match es[k]? with | some e => capAt v k e | none => []).map GCapture.size).sum ≤ (v.Site.map GVersion.size).sum := by
   split
   ·unfold capAt
    split
    ·simp only [List.map_cons, List.map_nil, List.sum_cons, List.sum_nil, GCapture.size, GResource.size]
     have := follow_body (l := v.Site) (tick := IntKind.i64.wrap (v.Tick + k)) (a := (by assumption : GEntry).Address)
     omega
    ·simp
   ·simp
  omega
def madeC (l : List GOp) (v : GVisit) : GContainer := ⟨l, (visit l v).1, capsV v (visit l v).1, sealRoot l (visit l v).1 (capsV v (visit l v).1)⟩
def emptyC : GContainer := ⟨[], [], [], 0⟩
def canVisit (l : List GOp) (v : GVisit) : Bool := scriptOk l && visOk v
def contVisit (l : List GOp) (v : GVisit) : GContainer := if canVisit l v then madeC l v else emptyC
theorem capsV_sz {v : GVisit} {es : List GEntry} (hn : es.length ≤ 20) (hv : (v.Site.map GVersion.size).sum ≤ 16777216) : (capsV v es).length + ((capsV v es).map GCapture.size).sum ≤ 335544340 := by
 have h1 := capsUp_len (v := v) (es := es) es.length
 have h2 := capsUp_size (v := v) (es := es) es.length
 have h3 : es.length * (v.Site.map GVersion.size).sum ≤ 20 * 16777216 := Nat.mul_le_mul hn hv
 unfold capsV
 omega
def m_impl_ContainVisit : MC :=
(.seq (pr [.box 3 0 (.s 1), .alloc 4 1 [.emp 4, .emp 5, .emp 9, pz], .mv 5 cF] [0,3,4])
(.seq (.seq (.reg [Za (.mv 8 (.s 0)), Za (.call 9 [] (.f n_impl_IsScript) [.s 8]), Za (.un 10 .not (.s 9)), Za (.mv 11 (.s 10)), Zb 11 false (.load 12 true 4 (.s 3)), Zb 11 false (.call 13 [] (.f n_impl_IsVisit) [.s 12]), Zb 11 false (.un 14 .not (.s 13)), Za (.pick 15 (.s 11) cT (.s 14))] [0,3,4,15])
(.cond (.s 15) (.seq (pr [.build 16 [.emp 4, .emp 5, .emp 9, pz] [], .store 4 (.s 4) (.s 16), .mv 5 cF] [4,5])
.ret) .skip))
(.seq (pr [.mv 18 (.s 0), .load 19 true 4 (.s 3), .call 20 [2, 3, 4, 5] (.f n_impl_RecordVisit) [.s 18, .s 19], .mv 17 (.s 20), .ext 21 (.s 17) 0, .ext 22 (.s 17) 1, .alloc 7 6 [pz, .emp 1, .emp 1, .emp 1], .mv 6 (.s 21), .store 4 (.s 7) (.s 22)] [0,3,4,6])
(.seq (pr [.mv 23 (.s 0), .mv 24 (.s 6), .mv 25 (.s 0), .load 26 true 4 (.s 3), .call 27 [7] (.f n_impl_CapturesOf) [.s 25, .s 26], .call 28 [8, 9, 10] (.f n_impl_SealContainer) [.s 23, .s 24, .s 27], .store 4 (.s 4) (.s 28), .mv 5 cT] [4,5])
.ret))))
theorem c_impl_ContainVisit (l : List GOp) (v : GVisit) (hl : l.length ≤ 1073741824) (hv : v.Site.length + (v.Site.map GVersion.size).sum ≤ 16777216) : Ctr Tryz.prog n_impl_ContainVisit [aL 4 (l.map GOp.enc), aS v.enc] [rS (contVisit l v).enc, rB (canVisit l v)] := by
 refine cA m_impl_ContainVisit 11 29 [(.cell 4 true 4, [true, true, true, false]), (.tmp 5, [false])] Tryz.func92 rfl rfl ?_; unfold m_impl_ContainVisit
 intro hb
 clear hb
 simp only [↓reduceIte, reduceEqDiff, reduceLT, reduceAdd, reduceCtorEq, go_sem]
 apply callK_of (c_impl_IsScript l)
 simp only [↓reduceIte, reduceEqDiff, reduceLT, reduceAdd, reduceCtorEq, go_sem]
 repeat' first
  | (refine And.intro ?_ ?_ <;> intro h)
  | (apply callK_of (c_impl_IsVisit v); simp only [↓reduceIte, reduceEqDiff, reduceLT, reduceAdd, reduceCtorEq, go_sem])
 ·have hc : canVisit l v = false := by unfold canVisit; simp_all
  rw [contVisit, hc]
  exact ⟨⟨rfl, rfl, rfl, rfl⟩, rfl⟩
 ·have hc : canVisit l v = false := by unfold canVisit; simp_all
  rw [contVisit, hc]
  exact ⟨⟨rfl, rfl, rfl, rfl⟩, rfl⟩
 ·have hc : canVisit l v = true := by unfold canVisit; simp_all
  have hn := (visit_len l v).1
  have hz := capsV_sz hn (v := v) (by omega)
  apply callK_of (c_impl_RecordVisit l v (by omega))
  simp only [↓reduceIte, reduceEqDiff, reduceLT, reduceAdd, reduceCtorEq, go_sem]
  intros
  apply callK_of (c_impl_CapturesOf l v (by omega))
  simp only [↓reduceIte, reduceEqDiff, reduceLT, reduceAdd, reduceCtorEq, go_sem]
  intros
  apply callK_of (c_impl_SealContainer l (visit l v).1 (capsV v (visit l v).1) hl (by omega) (by omega))
  simp only [↓reduceIte, reduceEqDiff, reduceLT, reduceAdd, reduceCtorEq, go_sem]
  intros
  rw [contVisit, hc, if_pos rfl]
  exact ⟨⟨rfl, rfl, rfl, rfl⟩, rfl⟩
def m_spec_ContainVisit : MC :=
(.seq (pr [.box 3 0 (.s 1), .alloc 4 1 [.emp 4, .emp 5, .emp 9, pz], .mv 5 cF] [0,3,4])
(.seq (.seq (.reg [Za (.mv 8 (.s 0)), Za (.call 9 [] (.f n_spec_IsScript) [.s 8]), Za (.un 10 .not (.s 9)), Za (.mv 11 (.s 10)), Zb 11 false (.load 12 true 4 (.s 3)), Zb 11 false (.call 13 [] (.f n_spec_IsVisit) [.s 12]), Zb 11 false (.un 14 .not (.s 13)), Za (.pick 15 (.s 11) cT (.s 14))] [0,3,4,15])
(.cond (.s 15) (.seq (pr [.build 16 [.emp 4, .emp 5, .emp 9, pz] [], .store 4 (.s 4) (.s 16), .mv 5 cF] [4,5])
.ret) .skip))
(.seq (pr [.mv 18 (.s 0), .load 19 true 4 (.s 3), .call 20 [2, 3, 4, 5] (.f n_spec_RecordVisit) [.s 18, .s 19], .mv 17 (.s 20), .ext 21 (.s 17) 0, .ext 22 (.s 17) 1, .alloc 7 6 [pz, .emp 1, .emp 1, .emp 1], .mv 6 (.s 21), .store 4 (.s 7) (.s 22)] [0,3,4,6])
(.seq (pr [.mv 23 (.s 0), .mv 24 (.s 6), .mv 25 (.s 0), .load 26 true 4 (.s 3), .call 27 [7] (.f n_spec_CapturesOf) [.s 25, .s 26], .call 28 [8, 9, 10] (.f n_spec_SealContainer) [.s 23, .s 24, .s 27], .store 4 (.s 4) (.s 28), .mv 5 cT] [4,5])
.ret))))
theorem c_spec_ContainVisit (l : List GOp) (v : GVisit) (hl : l.length ≤ 1073741824) (hv : v.Site.length + (v.Site.map GVersion.size).sum ≤ 16777216) : Ctr Tryz.prog n_spec_ContainVisit [aL 4 (l.map GOp.enc), aS v.enc] [rS (contVisit l v).enc, rB (canVisit l v)] := by
 refine cA m_spec_ContainVisit 11 29 [(.cell 4 true 4, [true, true, true, false]), (.tmp 5, [false])] Tryz.func88 rfl rfl ?_; unfold m_spec_ContainVisit
 intro hb
 clear hb
 simp only [↓reduceIte, reduceEqDiff, reduceLT, reduceAdd, reduceCtorEq, go_sem]
 apply callK_of (c_spec_IsScript l)
 simp only [↓reduceIte, reduceEqDiff, reduceLT, reduceAdd, reduceCtorEq, go_sem]
 repeat' first
  | (refine And.intro ?_ ?_ <;> intro h)
  | (apply callK_of (c_spec_IsVisit v); simp only [↓reduceIte, reduceEqDiff, reduceLT, reduceAdd, reduceCtorEq, go_sem])
 ·have hc : canVisit l v = false := by unfold canVisit; simp_all
  rw [contVisit, hc]
  exact ⟨⟨rfl, rfl, rfl, rfl⟩, rfl⟩
 ·have hc : canVisit l v = false := by unfold canVisit; simp_all
  rw [contVisit, hc]
  exact ⟨⟨rfl, rfl, rfl, rfl⟩, rfl⟩
 ·have hc : canVisit l v = true := by unfold canVisit; simp_all
  have hn := (visit_len l v).1
  have hz := capsV_sz hn (v := v) (by omega)
  apply callK_of (c_spec_RecordVisit l v (by omega))
  simp only [↓reduceIte, reduceEqDiff, reduceLT, reduceAdd, reduceCtorEq, go_sem]
  intros
  apply callK_of (c_spec_CapturesOf l v (by omega))
  simp only [↓reduceIte, reduceEqDiff, reduceLT, reduceAdd, reduceCtorEq, go_sem]
  intros
  apply callK_of (c_spec_SealContainer l (visit l v).1 (capsV v (visit l v).1) hl (by omega) (by omega))
  simp only [↓reduceIte, reduceEqDiff, reduceLT, reduceAdd, reduceCtorEq, go_sem]
  intros
  rw [contVisit, hc, if_pos rfl]
  exact ⟨⟨rfl, rfl, rfl, rfl⟩, rfl⟩
end Go.Proofs.YtpclnmleldeleaaGreatR
namespace Go.Proofs.YtpclnmleldeleaaGreatR
open Go Go.RowKit Go.Proofs
open Nat (reduceEqDiff reduceLT reduceLeDiff reduceAdd reduceMul)
open List (reduceReplicate)
set_option linter.unusedSimpArgs false
set_option linter.unusedVariables false
def visOf (a : GArchive) (seed : Int) (ins : List Int) : GVisit := ⟨a.Site, a.Now, seed, ins⟩
def sealAt (a : GArchive) (root : Int) (k : Nat) (key : Int) : GStatement := sealSt key ⟨k, root, a.Now, 0⟩
def sealsUp (a : GArchive) (root : Int) : Nat → List GStatement
 | 0 => []
 | k + 1 => sealsUp a root k ++ (match a.Keys[k]? with | some key => [sealAt a root k key] | none => [])
theorem sealsUp_at {a : GArchive} {root : Int} {k : Nat} {key : Int} (h : a.Keys[k]? = some key) : sealsUp a root (k + 1) = sealsUp a root k ++ [sealAt a root k key] := by
 rw [sealsUp, h]
theorem sealsUp_len {a : GArchive} {root : Int} : ∀ k, (sealsUp a root k).length ≤ k
 | 0 => Nat.le_refl _
 | k + 1 => by
  have ih := sealsUp_len (a := a) (root := root) k
  rw [sealsUp, List.length_append]
  split <;> simp <;> omega
def visitOk (a : GArchive) (seed : Int) (ins : List Int) : Bool := canVisit a.Script (visOf a seed ins) && (decide (a.Statements.length + a.Keys.length ≤ 40) && firstOk a.Disk (madeC a.Script (visOf a seed ins)))
def visitTo (a : GArchive) (seed : Int) (ins : List Int) : GArchive :=
 if visitOk a seed ins then { a with Disk := firstTo a.Disk (madeC a.Script (visOf a seed ins)), Statements := a.Statements ++ sealsUp a (madeC a.Script (visOf a seed ins)).Root a.Keys.length } else a
theorem emptyC_no : contOk emptyC = false := by decide
theorem firstOk_empty (d : GDisk) : firstOk d emptyC = false := by simp [firstOk, emptyC_no]
theorem contVisit_size {l : List GOp} {v : GVisit} (hl : l.length ≤ 16777216) (hv : (v.Site.map GVersion.size).sum ≤ 16777216) : (contVisit l v).size ≤ 500000000 := by
 unfold contVisit
 split
 ·have hn := (visit_len l v).1
  have hz := capsV_sz hn (v := v) hv
  simp only [GContainer.size, madeC]
  omega
 ·decide
theorem visit_size {a : GArchive} (seed : Int) (ins : List Int) (hs : a.size ≤ 16777216) : (visitTo a seed ins).size ≤ 600000000 := by
 unfold visitTo
 split
 ·have hsA := hs
  simp only [GArchive.size] at hsA
  have hv : ((visOf a seed ins).Site.map GVersion.size).sum ≤ 16777216 := by simp only [visOf]; omega
  have hn := (visit_len a.Script (visOf a seed ins)).1
  have hz := capsV_sz hn (v := visOf a seed ins) hv
  have hf := firstTo_size a.Disk (madeC a.Script (visOf a seed ins))
  have hm : (madeC a.Script (visOf a seed ins)).size ≤ 500000000 := by simp only [GContainer.size, madeC]; omega
  have hl := sealsUp_len (a := a) (root := (madeC a.Script (visOf a seed ins)).Root) a.Keys.length
  simp only [GArchive.size, List.length_append] at *
  omega
 ·omega
def m_impl_StepVisit : MC :=
(.seq (pr [.box 3 0 (.s 0), .alloc 6 1 [.emp 9, .emp 4, .emp 4, .emp 6, .emp 4, .emp 5, .emp 4, .emp 1, .emp 4, pz], .mv 7 cF] [1,2,3,6])
(.seq (pr [.load 16 true 10 (.s 3), .call 17 [2, 3, 4, 5, 6, 7, 8, 9, 10] (.f n_impl_copyArchive) [.s 16], .alloc 8 11 [.emp 9, .emp 4, .emp 4, .emp 6, .emp 4, .emp 5, .emp 4, .emp 1, .emp 4, pz], .store 10 (.s 8) (.s 17)] [1,2,3,6,8])
(.seq (pr [.fld 18 (.s 3) 0, .load 19 false 1 (.s 18), .fld 20 (.s 3) 9, .load 21 false 1 (.s 20), .mv 22 (.s 1), .mv 23 (.s 2), .build 24 [.emp 9, pz, pz, .emp 1] [(0, 1, .s 19), (1, 1, .s 21), (2, 1, .s 22), (3, 1, .s 23)], .alloc 9 12 [.emp 9, pz, pz, .emp 1], .store 4 (.s 9) (.s 24)] [3,6,8,9])
(.seq (.seq (pr [.load 25 true 4 (.s 9), .call 26 [] (.f n_impl_IsVisit) [.s 25], .un 27 .not (.s 26)] [3,6,8,9,27])
(.cond (.s 27) (.seq (pr [.load 28 true 10 (.s 8), .store 10 (.s 6) (.s 28), .mv 7 cF] [6,7])
.ret) .skip))
(.seq (pr [.fld 30 (.s 3) 1, .load 31 false 1 (.s 30), .load 32 true 4 (.s 9), .call 33 [13, 14, 15] (.f n_impl_ContainVisit) [.s 31, .s 32], .mv 29 (.s 33), .ext 34 (.s 29) 0, .ext 35 (.s 29) 1, .alloc 10 16 [.emp 4, .emp 5, .emp 9, pz], .store 4 (.s 10) (.s 34), .mv 11 (.s 35)] [3,6,8,10])
(.seq (pr [.fld 37 (.s 3) 2, .load 38 true 3 (.s 37), .load 39 true 4 (.s 10), .call 40 [17, 18, 19] (.f n_impl_WriteFirst) [.s 38, .s 39], .mv 36 (.s 40), .ext 41 (.s 36) 0, .ext 42 (.s 36) 1, .alloc 12 20 [.emp 4, .emp 6, .emp 4], .store 3 (.s 12) (.s 41), .mv 13 (.s 42)] [3,6,8,10,12,13])
(.seq (.seq (.reg [Za (.mv 43 (.s 13)), Za (.un 44 .not (.s 43)), Za (.mv 45 (.s 44)), Zb 45 false (.fld 46 (.s 3) 8), Zb 45 false (.load 47 false 1 (.s 46)), Zb 45 false (.len 48 false (.s 47)), Zb 45 false (.fld 49 (.s 3) 7), Zb 45 false (.load 50 false 1 (.s 49)), Zb 45 false (.len 51 false (.s 50)), Zb 45 false (.bin 52 false .add (.s 48) (.s 51)), Zb 45 false (.bin 53 false .gtr (.s 52) (ci 40)), Za (.pick 54 (.s 45) cT (.s 53))] [3,6,8,10,12,54])
(.cond (.s 54) (.seq (pr [.load 55 true 10 (.s 8), .store 10 (.s 6) (.s 55), .mv 7 cF] [6,7])
.ret) .skip))
(.seq (pr [.load 56 true 3 (.s 12), .fld 57 (.s 8) 2, .store 3 (.s 57) (.s 56)] [3,6,8,10])
(.seq (.seq (pr [.fld 58 (.s 3) 7, .load 59 false 1 (.s 58), .len 60 false (.s 59), .mv 61 (ci 0)] [3,6,8,10,59,60,61])
(.block 0 (.loop ([3,6,8,10,59,60,61], [12,20,21]) (.seq (pr [.bin 62 false .lss (.s 61) (.s 60)] [3,6,8,10,59,60,61,62])
(.seq (.cond (.s 62) .skip (.exit 0))
(.seq (.block 1 (.seq (pr [.mv 63 (.s 61), .idx 64 1 (.s 59) (.s 61), .load 65 false 1 (.s 64), .mv 14 (.s 63), .mv 15 (.s 65)] [3,6,8,10,14,15,59,60,61])
(.dreg [Zf [68,69,70,71,72,73,74,75,76] [21] (.fld 66 (.s 8) 8), Zg [68,69,70,71,72,73,74,75,76] [21] [0] (.load 67 false 1 (.s 66)), Zc [66,67,69,70,71,72,73,74] (.mv 68 (.s 15)), Zc [66,67,68,70,71,72,73] (.mv 69 (.s 14)), Zc [66,67,68,69,72,73] (.fld 70 (.s 10) 3), Zd [66,67,68,69,72,73] [4] (.load 71 false 1 (.s 70)), Zc [66,67,68,69,70,71] (.fld 72 (.s 3) 9), Zd [66,67,68,69,70,71] [6] (.load 73 false 1 (.s 72)), Zd [66,67,68] [3,4,5,6,7] (.build 74 [pz, pz, pz, pz] [(0, 1, .s 69), (1, 1, .s 71), (2, 1, .s 73)]), Zd [66,67] [2,3,4,5,6,7,8] (.call 75 [] (.f n_impl_SealStatement) [.s 68, .s 74]), { o := .lit 76 21 4 32 [.s 75], hs := [66,67], ws := [21], bf := [2,3,4,5,6,7,8,9] }, { o := .app 77 10 4 32 (.s 67) (.s 76), ws := [10], bf := (.range 11) }, Ze (.range 12) (.fld 78 (.s 8) 8), { o := .store 1 (.s 78) (.s 77), ws := [10,11], bf := (.range 13) }] [3,6,8,10,59,60,61])))
(pr [.bin 79 false .add (.s 61) (ci 1), .mv 61 (.s 79)] [3,6,8,10,59,60,61])))))))
(.seq (pr [.load 80 true 10 (.s 8), .store 10 (.s 6) (.s 80), .mv 7 cT] [6,7])
.ret))))))))))
set_option maxHeartbeats 2000000 in
theorem c_impl_StepVisit (a : GArchive) (seed : Int) (ins : List Int) (hs : a.size ≤ 16777216) : Ctr Tryz.prog n_impl_StepVisit [aS a.enc, aI seed, aL 1 (ins.map encI)] [rS (visitTo a seed ins).enc, rB (visitOk a seed ins)] := by
 refine cA m_impl_StepVisit 22 81 [(.cell 6 true 10, [true, true, true, true, true, true, true, true, true, false]), (.tmp 7, [false])] Tryz.func26 rfl rfl ?_; unfold m_impl_StepVisit
 intro hb
 clear hb
 have hsA := hs
 simp only [GArchive.size] at hsA
 have hl : a.Script.length ≤ 16777216 := by omega
 have hv : (visOf a seed ins).Site.length + ((visOf a seed ins).Site.map GVersion.size).sum ≤ 16777216 := by simp only [visOf]; omega
 have hd : a.Disk.size ≤ 16777216 := by omega
 have hx := contVisit_size (l := a.Script) (v := visOf a seed ins) hl (by omega)
 have hw40 : IntKind.i64.wrap ((a.Statements.length : Int) + a.Keys.length) = ((a.Statements.length + a.Keys.length : Nat) : Int) := by rw [wI (by omega) (by omega)]; omega
 simp only [↓reduceIte, reduceEqDiff, reduceLT, reduceAdd, reduceCtorEq, go_sem]
 apply callK_of (c_impl_copyArchive a (by omega))
 simp only [↓reduceIte, reduceEqDiff, reduceLT, reduceLeDiff, reduceAdd, reduceCtorEq, go_sem]
 intros
 apply callK_of (c_impl_IsVisit (visOf a seed ins))
 simp only [↓reduceIte, reduceEqDiff, reduceLT, reduceLeDiff, reduceAdd, reduceCtorEq, go_sem]
 refine ⟨fun h1 => ?_, fun h1 => ?_⟩
 ·have hF : visitOk a seed ins = false := by simp [visitOk, canVisit, h1]
  rw [visitTo, hF]
  exact ⟨⟨rfl, rfl, rfl, rfl, rfl, rfl, rfl, rfl, rfl, rfl⟩, rfl⟩
 apply callK_of (c_impl_ContainVisit a.Script (visOf a seed ins) (by omega) hv)
 simp only [↓reduceIte, reduceEqDiff, reduceLT, reduceLeDiff, reduceAdd, reduceCtorEq, go_sem]
 intros
 apply callK_of (c_impl_WriteFirst a.Disk (contVisit a.Script (visOf a seed ins)) (by omega) (by omega))
 simp only [↓reduceIte, reduceEqDiff, reduceLT, reduceLeDiff, reduceAdd, reduceCtorEq, go_sem, hw40]
 intros
 refine ⟨fun h2 => ?_, fun h2 => ⟨fun h3 => ?_, fun h3 => ?_⟩⟩
 ·have hF : visitOk a seed ins = false := by
   cases hc : canVisit a.Script (visOf a seed ins)
   ·simp [visitOk, hc]
   ·rw [contVisit, hc, if_pos rfl] at h2
    simp [visitOk, h2]
  rw [visitTo, hF]
  exact ⟨⟨rfl, rfl, rfl, rfl, rfl, rfl, rfl, rfl, rfl, rfl⟩, rfl⟩
 ·have hF : visitOk a seed ins = false := by
   have : ¬ a.Statements.length + a.Keys.length ≤ 40 := by omega
   simp [visitOk, this]
  rw [visitTo, hF]
  exact ⟨⟨rfl, rfl, rfl, rfl, rfl, rfl, rfl, rfl, rfl, rfl⟩, rfl⟩
 have hc : canVisit a.Script (visOf a seed ins) = true := by
  cases hc : canVisit a.Script (visOf a seed ins)
  ·rw [contVisit, hc, if_neg Bool.false_ne_true, firstOk_empty] at h2; cases h2
  ·rfl
 rw [show contVisit a.Script (visOf a seed ins) = madeC a.Script (visOf a seed ins) by rw [contVisit, hc, if_pos rfl]] at h2 hx ⊢
 have hT : visitOk a seed ins = true := by
  have : a.Statements.length + a.Keys.length ≤ 40 := by omega
  simp [visitOk, hc, h2, this]
 have eT : visitTo a seed ins = { a with Disk := firstTo a.Disk (madeC a.Script (visOf a seed ins)), Statements := a.Statements ++ sealsUp a (madeC a.Script (visOf a seed ins)).Root a.Keys.length } := by rw [visitTo, if_pos hT]
 rw [eT, hT]
 generalize firstTo a.Disk (madeC a.Script (visOf a seed ins)) = d
 generalize madeC a.Script (visOf a seed ins) = x at hx ⊢
 have h40 : a.Statements.length + a.Keys.length ≤ 40 := by omega
 refine loopK_rng a.Keys (fun k => [(61, vI k)]) (fun k => [(10, ⟨0, .row true 4 ((a.Statements ++ sealsUp a x.Root k).map GStatement.enc)⟩), (11, ⟨0, .box [.ref 2 0 9 0 a.Site.length, .ref 3 0 4 0 a.Script.length, .ref 17 0 4 0 d.Containers.length, .ref 18 0 6 0 d.Index.length, .ref 19 0 4 0 d.Wanted.length, .ref 7 0 5 0 a.Exclusions.length, .ref 8 0 4 0 a.Libraries.length, .ref 9 0 1 0 a.Keys.length, .ref 10 0 4 0 (a.Statements ++ sealsUp a x.Root k).length, .pl (tI a.Now)]⟩)]) (fun _ => True) (by simp only [roomB]; omega) ?_
 simp only [↓reduceIte, reduceEqDiff, reduceAdd, reduceCtorEq, go_sem]
 refine ⟨?_, trivial, ?_, ?_⟩
 ·simp only [↓reduceIte, reduceEqDiff, reduceLT, go_sem, sealsUp, List.append_nil]
  try exact ⟨rfl, rfl⟩
 ·intro k key hk _ h0 h1 hw
  have hsl := sealsUp_len (a := a) (root := x.Root) k
  have hkl := len_at hk
  simp only [↓reduceIte, reduceEqDiff, reduceLT, reduceLeDiff, reduceAdd, reduceCtorEq, go_sem, bk_eq hk, h0, h1]
  apply callK_of (c_impl_SealStatement key ⟨k, x.Root, a.Now, 0⟩)
  simp only [↓reduceIte, reduceEqDiff, reduceLT, reduceLeDiff, reduceAdd, reduceMul, reduceCtorEq, go_sem, hw]
  try intros
  rw [sealsUp_at hk]
  refine ⟨by decide, by simp only [roomB, List.length_append]; omega, fun _ => ⟨?_, ?_⟩⟩
  ·rw [← List.append_assoc]; exact (List.map_append (f := GStatement.enc) (l₁ := a.Statements ++ sealsUp a x.Root k) (l₂ := [sealAt a x.Root k key])).symm
  ·simp only [List.length_append, List.length_cons, List.length_nil]; omega
 ·intro _
  simp only [↓reduceIte, reduceEqDiff, reduceLT, reduceAdd, reduceCtorEq, go_sem]
def m_spec_StepVisit : MC :=
(.seq (pr [.box 3 0 (.s 0), .alloc 6 1 [.emp 9, .emp 4, .emp 4, .emp 6, .emp 4, .emp 5, .emp 4, .emp 1, .emp 4, pz], .mv 7 cF] [1,2,3,6])
(.seq (pr [.load 15 true 10 (.s 3), .call 16 [2, 3, 4, 5, 6, 7, 8, 9, 10] (.f n_spec_l32Copy) [.s 15], .alloc 8 11 [.emp 9, .emp 4, .emp 4, .emp 6, .emp 4, .emp 5, .emp 4, .emp 1, .emp 4, pz], .store 10 (.s 8) (.s 16)] [1,2,3,6,8])
(.seq (pr [.fld 17 (.s 3) 0, .load 18 false 1 (.s 17), .fld 19 (.s 3) 9, .load 20 false 1 (.s 19), .mv 21 (.s 1), .mv 22 (.s 2), .build 23 [.emp 9, pz, pz, .emp 1] [(0, 1, .s 18), (1, 1, .s 20), (2, 1, .s 21), (3, 1, .s 22)], .alloc 9 12 [.emp 9, pz, pz, .emp 1], .store 4 (.s 9) (.s 23)] [3,6,8,9])
(.seq (pr [.fld 25 (.s 3) 1, .load 26 false 1 (.s 25), .load 27 true 4 (.s 9), .call 28 [13, 14, 15] (.f n_spec_ContainVisit) [.s 26, .s 27], .mv 24 (.s 28), .ext 29 (.s 24) 0, .ext 30 (.s 24) 1, .alloc 10 16 [.emp 4, .emp 5, .emp 9, pz], .store 4 (.s 10) (.s 29), .mv 11 (.s 30)] [3,6,8,10,11])
(.seq (.seq (.reg [Za (.mv 31 (.s 11)), Za (.un 32 .not (.s 31)), Za (.mv 33 (.s 32)), Zb 33 false (.fld 34 (.s 3) 8), Zb 33 false (.load 35 false 1 (.s 34)), Zb 33 false (.len 36 false (.s 35)), Zb 33 false (.fld 37 (.s 3) 7), Zb 33 false (.load 38 false 1 (.s 37)), Zb 33 false (.len 39 false (.s 38)), Zb 33 false (.bin 40 false .add (.s 36) (.s 39)), Zb 33 false (.bin 41 false .gtr (.s 40) (ci 40)), Za (.pick 42 (.s 33) cT (.s 41))] [3,6,8,10,42])
(.cond (.s 42) (.seq (pr [.load 43 true 10 (.s 8), .store 10 (.s 6) (.s 43), .mv 7 cF] [6,7])
.ret) .skip))
(.seq (pr [.fld 45 (.s 3) 2, .load 46 true 3 (.s 45), .load 47 true 4 (.s 10), .call 48 [17, 18, 19] (.f n_spec_WriteFirst) [.s 46, .s 47], .mv 44 (.s 48), .ext 49 (.s 44) 0, .ext 50 (.s 44) 1, .alloc 12 20 [.emp 4, .emp 6, .emp 4], .store 3 (.s 12) (.s 49), .mv 13 (.s 50)] [3,6,8,10,12,13])
(.seq (.seq (pr [.mv 51 (.s 13), .un 52 .not (.s 51)] [3,6,8,10,12,52])
(.cond (.s 52) (.seq (pr [.load 53 true 10 (.s 8), .store 10 (.s 6) (.s 53), .mv 7 cF] [6,7])
.ret) .skip))
(.seq (pr [.load 54 true 3 (.s 12), .fld 55 (.s 8) 2, .store 3 (.s 55) (.s 54)] [3,6,8,10])
(.seq (.seq (pr [.mv 14 (ci 0)] [3,6,8,10,14])
(.block 0 (.loop ([3,6,8,10,14], [12,20,21]) (.seq (.seq (pr [.mv 56 (.s 14), .fld 57 (.s 3) 7, .load 58 false 1 (.s 57), .len 59 false (.s 58), .bin 60 false .lss (.s 56) (.s 59)] [3,6,8,10,14,60])
(.cond (.s 60) .skip (.exit 0)))
(.seq (.block 1 (.dreg [Zf [65,66,67,68,69,70,71,72,73,74,75,76,77] [21] (.fld 63 (.s 8) 8), Zg [65,66,67,68,69,70,71,72,73,74,75,76,77] [21] [0] (.load 64 false 1 (.s 63)), Zc [63,64,67,70,71,72,73,74,75] (.fld 65 (.s 3) 7), Zd [63,64,67,70,71,72,73,74,75] [2] (.load 66 false 1 (.s 65)), Zc [63,64,65,66,70,71,72,73,74,75] (.mv 67 (.s 14)), Zd [63,64,70,71,72,73,74,75] [2,3,4] (.idx 68 1 (.s 66) (.s 67)), Zd [63,64,70,71,72,73,74,75] [2,3,4,5] (.load 69 false 1 (.s 68)), Zc [63,64,65,66,67,68,69,71,72,73,74] (.mv 70 (.s 14)), Zc [63,64,65,66,67,68,69,70,73,74] (.fld 71 (.s 10) 3), Zd [63,64,65,66,67,68,69,70,73,74] [8] (.load 72 false 1 (.s 71)), Zc [63,64,65,66,67,68,69,70,71,72] (.fld 73 (.s 3) 9), Zd [63,64,65,66,67,68,69,70,71,72] [10] (.load 74 false 1 (.s 73)), Zd [63,64,65,66,67,68,69] [7,8,9,10,11] (.build 75 [pz, pz, pz, pz] [(0, 1, .s 70), (1, 1, .s 72), (2, 1, .s 74)]), Zd [63,64] [2,3,4,5,6,7,8,9,10,11,12] (.call 76 [] (.f n_spec_SealStatement) [.s 69, .s 75]), { o := .lit 77 21 4 32 [.s 76], hs := [63,64], ws := [21], bf := [2,3,4,5,6,7,8,9,10,11,12,13] }, { o := .app 78 10 4 32 (.s 64) (.s 77), ws := [10], bf := (.range 15) }, Ze (.range 16) (.fld 79 (.s 8) 8), { o := .store 1 (.s 79) (.s 78), ws := [10,11], bf := (.range 17) }] [3,6,8,10,14]))
(pr [.mv 61 (.s 14), .bin 62 false .add (.s 61) (ci 1), .mv 14 (.s 62)] [3,6,8,10,14]))))))
(.seq (pr [.load 80 true 10 (.s 8), .store 10 (.s 6) (.s 80), .mv 7 cT] [6,7])
.ret))))))))))
set_option maxHeartbeats 2000000 in
theorem c_spec_StepVisit (a : GArchive) (seed : Int) (ins : List Int) (hs : a.size ≤ 16777216) : Ctr Tryz.prog n_spec_StepVisit [aS a.enc, aI seed, aL 1 (ins.map encI)] [rS (visitTo a seed ins).enc, rB (visitOk a seed ins)] := by
 refine cA m_spec_StepVisit 22 81 [(.cell 6 true 10, [true, true, true, true, true, true, true, true, true, false]), (.tmp 7, [false])] Tryz.func24 rfl rfl ?_; unfold m_spec_StepVisit
 intro hb
 clear hb
 have hsA := hs
 simp only [GArchive.size] at hsA
 have hl : a.Script.length ≤ 16777216 := by omega
 have hv : (visOf a seed ins).Site.length + ((visOf a seed ins).Site.map GVersion.size).sum ≤ 16777216 := by simp only [visOf]; omega
 have hd : a.Disk.size ≤ 16777216 := by omega
 have hx := contVisit_size (l := a.Script) (v := visOf a seed ins) hl (by omega)
 have hw40 : IntKind.i64.wrap ((a.Statements.length : Int) + a.Keys.length) = ((a.Statements.length + a.Keys.length : Nat) : Int) := by rw [wI (by omega) (by omega)]; omega
 simp only [↓reduceIte, reduceEqDiff, reduceLT, reduceAdd, reduceCtorEq, go_sem]
 apply callK_of (c_spec_l32Copy a (by omega))
 simp only [↓reduceIte, reduceEqDiff, reduceLT, reduceLeDiff, reduceAdd, reduceCtorEq, go_sem]
 intros
 apply callK_of (c_spec_ContainVisit a.Script (visOf a seed ins) (by omega) hv)
 simp only [↓reduceIte, reduceEqDiff, reduceLT, reduceLeDiff, reduceAdd, reduceCtorEq, go_sem, hw40]
 intros
 refine ⟨fun h1 => ?_, fun h1 => ⟨fun h2 => ?_, fun h2 => ?_⟩⟩
 ·have hF : visitOk a seed ins = false := by simp [visitOk, h1]
  rw [visitTo, hF]
  exact ⟨⟨rfl, rfl, rfl, rfl, rfl, rfl, rfl, rfl, rfl, rfl⟩, rfl⟩
 ·have hF : visitOk a seed ins = false := by
   have : ¬ a.Statements.length + a.Keys.length ≤ 40 := by omega
   simp [visitOk, this]
  rw [visitTo, hF]
  exact ⟨⟨rfl, rfl, rfl, rfl, rfl, rfl, rfl, rfl, rfl, rfl⟩, rfl⟩
 apply callK_of (c_spec_WriteFirst a.Disk (contVisit a.Script (visOf a seed ins)) (by omega) (by omega))
 simp only [↓reduceIte, reduceEqDiff, reduceLT, reduceLeDiff, reduceAdd, reduceCtorEq, go_sem]
 intros
 rw [show contVisit a.Script (visOf a seed ins) = madeC a.Script (visOf a seed ins) by rw [contVisit, h1, if_pos rfl]] at hx ⊢
 refine ⟨fun h3 => ?_, fun h3 => ?_⟩
 ·have hF : visitOk a seed ins = false := by simp [visitOk, h3]
  rw [visitTo, hF]
  exact ⟨⟨rfl, rfl, rfl, rfl, rfl, rfl, rfl, rfl, rfl, rfl⟩, rfl⟩
 have hT : visitOk a seed ins = true := by
  have : a.Statements.length + a.Keys.length ≤ 40 := by omega
  simp [visitOk, h1, h3, this]
 have eT : visitTo a seed ins = { a with Disk := firstTo a.Disk (madeC a.Script (visOf a seed ins)), Statements := a.Statements ++ sealsUp a (madeC a.Script (visOf a seed ins)).Root a.Keys.length } := by rw [visitTo, if_pos hT]
 rw [eT, hT]
 generalize firstTo a.Disk (madeC a.Script (visOf a seed ins)) = d
 generalize madeC a.Script (visOf a seed ins) = x at hx ⊢
 have h40 : a.Statements.length + a.Keys.length ≤ 40 := by omega
 refine loopK_rng a.Keys (fun k => [(14, vI k)]) (fun k => [(10, ⟨0, .row true 4 ((a.Statements ++ sealsUp a x.Root k).map GStatement.enc)⟩), (11, ⟨0, .box [.ref 2 0 9 0 a.Site.length, .ref 3 0 4 0 a.Script.length, .ref 17 0 4 0 d.Containers.length, .ref 18 0 6 0 d.Index.length, .ref 19 0 4 0 d.Wanted.length, .ref 7 0 5 0 a.Exclusions.length, .ref 8 0 4 0 a.Libraries.length, .ref 9 0 1 0 a.Keys.length, .ref 10 0 4 0 (a.Statements ++ sealsUp a x.Root k).length, .pl (tI a.Now)]⟩)]) (fun _ => True) (by simp only [roomB]; omega) ?_
 simp only [↓reduceIte, reduceEqDiff, reduceAdd, reduceCtorEq, go_sem]
 refine ⟨?_, trivial, ?_, ?_⟩
 ·simp only [↓reduceIte, reduceEqDiff, reduceLT, go_sem, sealsUp, List.append_nil]
  try exact ⟨rfl, rfl⟩
 ·intro k key hk _ h0 h1 hw
  have hsl := sealsUp_len (a := a) (root := x.Root) k
  have hkl := len_at hk
  simp only [↓reduceIte, reduceEqDiff, reduceLT, reduceLeDiff, reduceAdd, reduceCtorEq, go_sem, bk_eq hk, h0, h1]
  apply callK_of (c_spec_SealStatement key ⟨k, x.Root, a.Now, 0⟩)
  simp only [↓reduceIte, reduceEqDiff, reduceLT, reduceLeDiff, reduceAdd, reduceMul, reduceCtorEq, go_sem, hw]
  try intros
  rw [sealsUp_at hk]
  refine ⟨by decide, by simp only [roomB, List.length_append]; omega, fun _ => ⟨?_, ?_⟩⟩
  ·rw [← List.append_assoc]; exact (List.map_append (f := GStatement.enc) (l₁ := a.Statements ++ sealsUp a x.Root k) (l₂ := [sealAt a x.Root k key])).symm
  ·simp only [List.length_append, List.length_cons, List.length_nil]; omega
 ·intro _
  simp only [↓reduceIte, reduceEqDiff, reduceLT, reduceLeDiff, reduceAdd, reduceCtorEq, go_sem]
end Go.Proofs.YtpclnmleldeleaaGreatR
namespace Go.Proofs.YtpclnmleldeleaaGreatR
open Go Go.RowKit Go.Proofs
open Nat (reduceEqDiff reduceLT reduceLeDiff reduceAdd reduceMul)
open List (reduceReplicate)
set_option linter.unusedSimpArgs false
set_option linter.unusedVariables false
def m_laws_FnExactStepVisit : MC :=
(.seq (pr [.box 3 0 (.s 0), .mv 6 cF] [1,2,3])
(.seq (.seq (pr [.mv 19 (.s 2), .len 20 false (.s 19), .bin 21 false .gtr (.s 20) (ci 1048576)] [1,2,3,21])
(.cond (.s 21) (.seq (pr [.mv 6 cT] [6])
.ret) .skip))
(.seq (pr [.mv 7 (ci 1048576)] [1,2,3,7])
(.seq (pr [.load 22 true 10 (.s 3), .mv 23 (.s 7), .call 24 [] (.f n_laws_szArchive) [.s 22, .s 23], .mv 7 (.s 24)] [1,2,3,7])
(.seq (.seq (pr [.mv 25 (.s 7), .bin 26 false .lss (.s 25) (ci 0)] [1,2,3,26])
(.cond (.s 26) (.seq (pr [.mv 6 cT] [6])
.ret) .skip))
(.seq (pr [.load 28 true 10 (.s 3), .call 29 [1, 2, 3, 4, 5, 6, 7, 8, 9] (.f n_laws_toArchive) [.s 28], .mv 30 (.s 1), .mv 31 (.s 2), .call 32 [10] (.f n_laws_toIntS) [.s 31], .call 33 [11, 12, 13, 14, 15, 16, 17, 18, 19] (.f n_spec_StepVisit) [.s 29, .s 30, .s 32], .mv 27 (.s 33), .ext 34 (.s 27) 0, .ext 35 (.s 27) 1, .alloc 8 20 [.emp 9, .emp 4, .emp 4, .emp 6, .emp 4, .emp 5, .emp 4, .emp 1, .emp 4, pz], .store 10 (.s 8) (.s 34), .mv 9 (.s 35)] [1,2,3,8,9])
(.seq (pr [.load 36 true 10 (.s 3), .call 37 [21, 22, 23, 24, 25, 26, 27, 28, 29] (.f n_laws_toArchive) [.s 36], .alloc 10 30 [.emp 9, .emp 4, .emp 4, .emp 6, .emp 4, .emp 5, .emp 4, .emp 1, .emp 4, pz], .store 10 (.s 10) (.s 37)] [1,2,3,8,9,10])
(.seq (pr [.mv 38 (.s 2), .call 39 [31] (.f n_laws_toIntS) [.s 38], .mv 11 (.s 39)] [1,2,3,8,9,10,11])
(.seq (pr [.load 41 true 10 (.s 10), .mv 42 (.s 1), .mv 43 (.s 11), .call 44 [32, 33, 34, 35, 36, 37, 38, 39, 40] (.f n_impl_StepVisit) [.s 41, .s 42, .s 43], .mv 40 (.s 44), .ext 45 (.s 40) 0, .ext 46 (.s 40) 1, .alloc 12 41 [.emp 9, .emp 4, .emp 4, .emp 6, .emp 4, .emp 5, .emp 4, .emp 1, .emp 4, pz], .store 10 (.s 12) (.s 45), .mv 13 (.s 46)] [1,2,3,8,9,10,11,12,13])
(.seq (.seq (.reg [Za (.load 47 true 10 (.s 12)), Za (.load 48 true 10 (.s 8)), Za (.call 49 [] (.f n_laws_eqArchive) [.s 47, .s 48]), Za (.un 50 .not (.s 49)), Za (.mv 51 (.s 50)), Zb 51 false (.mv 52 (.s 13)), Zb 51 false (.mv 53 (.s 9)), Zb 51 false (.bin 54 true .neq (.s 52) (.s 53)), Za (.pick 55 (.s 51) cT (.s 54))] [1,2,3,8,9,10,11,12,13,55])
(.cond (.s 55) (.seq (pr [.mv 6 cF] [6])
.ret) .skip))
(.seq (.seq (.dreg [Zf [57,58] [42,43,44,45,46,47,48,49,50] (.load 56 true 10 (.s 10)), Zc [56] (.load 57 true 10 (.s 3)), { o := .call 58 [42, 43, 44, 45, 46, 47, 48, 49, 50] (.f n_laws_toArchive) [.s 57], hs := [56], ws := [42,43,44,45,46,47,48,49,50], bf := [1] }, Ze [0,1,2] (.call 59 [] (.f n_laws_eqArchive) [.s 56, .s 58]), Ze (.range 4) (.un 60 .not (.s 59))] [1,2,3,8,9,10,11,12,13,60])
(.cond (.s 60) (.seq (pr [.mv 6 cF] [6])
.ret) .skip))
(.seq (.seq (pr [.mv 61 (.s 11), .mv 62 (.s 2), .call 63 [51] (.f n_laws_toIntS) [.s 62], .call 64 [] (.f n_laws_eqIntS) [.s 61, .s 63], .un 65 .not (.s 64)] [1,2,3,8,9,10,11,12,13,65])
(.cond (.s 65) (.seq (pr [.mv 6 cF] [6])
.ret) .skip))
(.seq (pr [.mv 14 (ci 1)] [1,2,3,8,9,10,11,12,13,14])
(.seq (pr [.load 66 true 10 (.s 10), .mv 67 (.s 14), .callI 68 [] (.f n_laws_markArchive) [.s 66, .s 67] [21,22,23,24,25,26,27,28,29] [], .mv 14 (.s 68)] [1,2,3,8,9,11,12,13,14])
(.seq (pr [.mv 69 (.s 11), .mv 70 (.s 14), .callI 71 [] (.f n_laws_markIntS) [.s 69, .s 70] [31] [], .mv 14 (.s 71)] [1,2,3,8,9,12,13,14])
(.seq (.seq (.reg [Za (.mv 72 (.s 14)), Za (.bin 73 false .lss (.s 72) (ci 0)), Za (.mv 74 (.s 73)), Zb 74 false (.load 75 true 10 (.s 12)), Zb 74 false (.load 76 true 10 (.s 8)), Zb 74 false (.call 77 [] (.f n_laws_eqArchive) [.s 75, .s 76]), Zb 74 false (.un 78 .not (.s 77)), Za (.pick 79 (.s 74) cT (.s 78)), Za (.mv 80 (.s 79)), Zb 80 false (.mv 81 (.s 13)), Zb 80 false (.mv 82 (.s 9)), Zb 80 false (.bin 83 true .neq (.s 81) (.s 82)), Za (.pick 84 (.s 80) cT (.s 83))] [1,2,3,8,9,12,84])
(.cond (.s 84) (.seq (pr [.mv 6 cF] [6])
.ret) .skip))
(.seq (pr [.mv 15 (ci 1)] [1,2,3,8,9,12,15])
(.seq (pr [.load 85 true 10 (.s 12), .mv 86 (.s 15), .callI 87 [] (.f n_laws_markArchive) [.s 85, .s 86] [32,33,34,35,36,37,38,39,40] [], .mv 15 (.s 87)] [1,2,3,8,9,12,15])
(.seq (pr [.mv 16 (ci 1)] [1,2,3,8,9,12,15,16])
(.seq (pr [.load 88 true 10 (.s 12), .mv 89 (.s 16), .call 90 [] (.f n_laws_heldArchive) [.s 88, .s 89], .mv 16 (.s 90)] [1,2,3,8,9,12,15,16])
(.seq (.seq (pr [.mv 91 (.s 16), .bin 92 false .lss (.s 91) (ci 0)] [1,2,3,8,9,12,15,16,92])
(.cond (.s 92) (.seq (pr [.mv 6 cF] [6])
.ret) .skip))
(.seq (.seq (pr [.mv 93 (.s 16), .mv 94 (.s 15), .bin 95 false .neq (.s 93) (.s 94)] [1,2,3,8,9,12,15,95])
(.cond (.s 95) (.seq (pr [.mv 6 cF] [6])
.ret) .skip))
(.seq (pr [.load 97 true 10 (.s 3), .call 98 [52, 53, 54, 55, 56, 57, 58, 59, 60] (.f n_laws_toArchive) [.s 97], .mv 99 (.s 1), .mv 100 (.s 2), .call 101 [61] (.f n_laws_toIntS) [.s 100], .call 102 [62, 63, 64, 65, 66, 67, 68, 69, 70] (.f n_impl_StepVisit) [.s 98, .s 99, .s 101], .mv 96 (.s 102), .ext 103 (.s 96) 0, .ext 104 (.s 96) 1, .alloc 17 71 [.emp 9, .emp 4, .emp 4, .emp 6, .emp 4, .emp 5, .emp 4, .emp 1, .emp 4, pz], .store 10 (.s 17) (.s 103), .mv 18 (.s 104)] [8,9,12,15,17,18])
(.seq (.seq (.reg [Za (.load 105 true 10 (.s 17)), Za (.load 106 true 10 (.s 8)), Za (.call 107 [] (.f n_laws_eqArchive) [.s 105, .s 106]), Za (.un 108 .not (.s 107)), Za (.mv 109 (.s 108)), Zb 109 false (.mv 110 (.s 18)), Zb 109 false (.mv 111 (.s 9)), Zb 109 false (.bin 112 true .neq (.s 110) (.s 111)), Za (.pick 113 (.s 109) cT (.s 112))] [12,15,113])
(.cond (.s 113) (.seq (pr [.mv 6 cF] [6])
.ret) .skip))
(.seq (pr [.mv 16 (ci 1)] [12,15,16])
(.seq (pr [.load 114 true 10 (.s 12), .mv 115 (.s 16), .call 116 [] (.f n_laws_heldArchive) [.s 114, .s 115], .mv 16 (.s 116)] [15,16])
(.seq (.seq (pr [.mv 117 (.s 16), .bin 118 false .lss (.s 117) (ci 0)] [15,16,118])
(.cond (.s 118) (.seq (pr [.mv 6 cF] [6])
.ret) .skip))
(.seq (.seq (pr [.mv 119 (.s 16), .mv 120 (.s 15), .bin 121 false .neq (.s 119) (.s 120)] [121])
(.cond (.s 121) (.seq (pr [.mv 6 cF] [6])
.ret) .skip))
(.seq (pr [.mv 6 cT] [6])
.ret)))))))))))))))))))))))))))))
theorem c_laws_FnExactStepVisit (a : GArchive) (seed : Int) (ins : List Int) : Ctr Tryz.prog n_laws_FnExactStepVisit [aS a.enc, aI seed, aL 1 (ins.map encI)] [rB true] := by
 refine cA m_laws_FnExactStepVisit 72 122 [(.tmp 6, [false])] Tryz.func5 rfl rfl ?_; unfold m_laws_FnExactStepVisit
 intro hb
 clear hb
 simp only [↓reduceIte, reduceEqDiff, reduceLT, reduceAdd, reduceCtorEq, go_sem]
 intro hI
 apply callK_of (c_laws_szArchive a _ (by omega))
 simp only [↓reduceIte, reduceEqDiff, reduceLT, reduceAdd, reduceCtorEq, go_sem]
 intro _ hz
 have hs := szr_ok hz
 have hc_a := GArchive.cts_le a
 have hc_ins := ctL_le' (c := iCt) (fun y => by simp only [iCt]; omega) ins
 have hr0 := GArchive.cts_le (visitTo a seed ins)
 have hl_visit_size := visit_size (a := a) seed ins (by omega)
 apply callK_of (c_laws_toArchive a (by omega))
 simp only [↓reduceIte, reduceEqDiff, reduceLT, reduceAdd, reduceCtorEq, go_sem]
 try intros
 apply callK_of (c_laws_toIntS ins (by omega))
 simp only [↓reduceIte, reduceEqDiff, reduceLT, reduceAdd, reduceCtorEq, go_sem]
 try intros
 apply callK_of (c_spec_StepVisit a seed ins (by omega))
 simp only [↓reduceIte, reduceEqDiff, reduceLT, reduceAdd, reduceCtorEq, go_sem]
 try intros
 apply callK_of (c_laws_toArchive a (by omega))
 simp only [↓reduceIte, reduceEqDiff, reduceLT, reduceAdd, reduceCtorEq, go_sem]
 try intros
 apply callK_of (c_laws_toIntS ins (by omega))
 simp only [↓reduceIte, reduceEqDiff, reduceLT, reduceAdd, reduceCtorEq, go_sem]
 try intros
 apply callK_of (c_impl_StepVisit a seed ins (by omega))
 simp only [↓reduceIte, reduceEqDiff, reduceLT, reduceAdd, reduceCtorEq, go_sem]
 try intros
 apply callK_of (c_laws_eqArchive (visitTo a seed ins) (visitTo a seed ins))
 simp only [↓reduceIte, reduceEqDiff, reduceLT, reduceAdd, reduceCtorEq, go_sem]
 try intros
 apply callK_of (c_laws_toArchive a (by omega))
 simp only [↓reduceIte, reduceEqDiff, reduceLT, reduceAdd, reduceCtorEq, go_sem]
 try intros
 apply callK_of (c_laws_eqArchive a a)
 simp only [↓reduceIte, reduceEqDiff, reduceLT, reduceAdd, reduceCtorEq, go_sem]
 try intros
 apply callK_of (c_laws_toIntS ins (by omega))
 simp only [↓reduceIte, reduceEqDiff, reduceLT, reduceAdd, reduceCtorEq, go_sem]
 try intros
 apply callK_of (c_laws_eqIntS ins ins)
 simp only [↓reduceIte, reduceEqDiff, reduceLT, reduceAdd, go_sem]
 try intros
 apply callIK_of (c_laws_markArchive a (1) (by omega) (by omega))
 simp only [↓reduceIte, reduceEqDiff, reduceLT, reduceCtorEq, go_sem]
 try intros
 apply callIK_of (c_laws_markIntS ins (1 + ((a).cts : Nat)) (by omega) (by omega))
 simp only [↓reduceIte, reduceEqDiff, reduceLT, reduceAdd, reduceCtorEq, go_sem]
 try intros
 have hk : ¬ ((1 + ((a).cts : Nat) + (ctL iCt (ins) : Nat) : Int)) < 0 := by omega
 simp only [go_sem, hk]
 try intros
 apply callK_of (c_laws_eqArchive (visitTo a seed ins) (visitTo a seed ins))
 simp only [↓reduceIte, reduceEqDiff, reduceLT, reduceAdd, reduceCtorEq, go_sem]
 try intros
 apply callIK_of (c_laws_markArchive (visitTo a seed ins) (1) (by omega) (by omega))
 simp only [↓reduceIte, reduceEqDiff, reduceLT, reduceAdd, reduceCtorEq, go_sem]
 try intros
 apply callK_of (c_laws_heldArchive (visitTo a seed ins) (1) (by omega) (by omega))
 simp only [↓reduceIte, reduceEqDiff, reduceLT, reduceAdd, reduceCtorEq, go_sem]
 have hq0 : ¬ ((1 + ((visitTo a seed ins).cts : Nat) : Int)) < 0 := by omega
 try simp only [go_sem, hq0]
 try intros
 apply callK_of (c_laws_toArchive a (by omega))
 simp only [↓reduceIte, reduceEqDiff, reduceLT, reduceAdd, reduceCtorEq, go_sem]
 try intros
 apply callK_of (c_laws_toIntS ins (by omega))
 simp only [↓reduceIte, reduceEqDiff, reduceLT, reduceAdd, reduceCtorEq, go_sem]
 try intros
 apply callK_of (c_impl_StepVisit a seed ins (by omega))
 simp only [↓reduceIte, reduceEqDiff, reduceLT, reduceAdd, reduceCtorEq, go_sem]
 try intros
 apply callK_of (c_laws_eqArchive (visitTo a seed ins) (visitTo a seed ins))
 simp only [↓reduceIte, reduceEqDiff, reduceLT, reduceAdd, reduceCtorEq, go_sem]
 try intros
 apply callK_of (c_laws_heldArchive (visitTo a seed ins) (1) (by omega) (by omega))
 simp only [↓reduceIte, reduceEqDiff, reduceLT, reduceCtorEq, go_sem]
 have hq0 : ¬ ((1 + ((visitTo a seed ins).cts : Nat) : Int)) < 0 := by omega
 try simp only [go_sem, hq0]
 try intros
end Go.Proofs.YtpclnmleldeleaaGreatR
