/- What the functions compute that the laws of StepVisit reach: contracts. Conditions stand in each theorem. -/
import Derived.Test.YtgkeplbnnjogiaaGreatTStepVisitb
set_option linter.unusedVariables false
set_option linter.unusedSimpArgs false
namespace Go.Proofs.YtgkeplbnnjogiaaGreatR
open Go Go.RowKit Go.Proofs
open Nat (reduceEqDiff reduceLT reduceLeDiff reduceAdd reduceMul)
open List (reduceReplicate)
def K27 (v : GVisit) : Bool := K8n v.Site && (decide (0 ≤ v.Tick ∧ v.Tick ≤ 1000) && (decide (0 ≤ v.Seed ∧ v.Seed ≤ 9999) && (decide (v.Inputs.length ≤ 8) && K1t v.Inputs 0 999)))
def Me0 : MC :=
(Zs [.box 1 0 (.s 0), .mv 2 cF] [1] (.seq (.reg [Za (fS 3 1 0), Za (lF 4 1 3), Za (.call 5 [] (.f Nem) [.s 4]), Za (mS 6 5), Zb 6 true (fS 7 1 1), Zb 6 true (lF 8 1 7), Zb 6 true (.call 9 [] (.f N1) [.s 8, .c (.int .i64 0), .c (.int .i64 1000)]), Za (.pick 10 (.s 6) (.s 9) cF), Za (mS 11 10), Zb 11 true (fS 12 1 2), Zb 11 true (lF 13 1 12), Zb 11 true (.call 14 [] (.f N1) [.s 13, .c (.int .i64 0), .c (.int .i64 9999)]), Za (.pick 15 (.s 11) (.s 14) cF), Za (mS 16 15), Zb 16 true (fS 17 1 3), Zb 16 true (lF 18 1 17), Zb 16 true (nS 19 18), Zb 16 true (bC 20 .leq 19 8), Za (.pick 21 (.s 16) (.s 20) cF), Za (mS 22 21), Zb 22 true (fS 23 1 3), Zb 22 true (lF 24 1 23), Zb 22 true (.call 25 [] (.f N2a) [.s 24, .c (.int .i64 0), .c (.int .i64 999)]), Za (.pick 26 (.s 22) (.s 25) cF), Za (mS 2 26)] [2])
.ret))
theorem C3a (v : GVisit) : Ctr Tryz.prog N27 [aS v.enc] [rB (K27 v)] := by
 refine cA Me0 1 27 [(.tmp 2, [false])] Tryz.func132 rfl rfl ?_; unfold Me0
 intro hb
 clear hb
 simp only [go_sem]
 repeat' first
  | (refine And.intro ?_ ?_ <;> intro h)
  | (apply K0 (Cj4 _); simp only [go_sem])
  | (apply K0 (C2 _ _ _); simp only [go_sem])
  | (apply K0 (C4o _ _ _); simp only [go_sem])
 all_goals (unfold K27; by_cases c1 : v.Inputs.length ≤ 8 <;> simp_all <;> omega)
def Me1 : MC :=
(Zs [.box 1 0 (.s 0), .mv 2 cF] [1] (.seq (.reg [Za (fS 3 1 0), Za (lF 4 1 3), Za (.call 5 [] (.f Nen) [.s 4]), Za (mS 6 5), Zb 6 true (fS 7 1 1), Zb 6 true (lF 8 1 7), Zb 6 true (.call 9 [] (.f N0) [.s 8, .c (.int .i64 0), .c (.int .i64 1000)]), Za (.pick 10 (.s 6) (.s 9) cF), Za (mS 11 10), Zb 11 true (fS 12 1 2), Zb 11 true (lF 13 1 12), Zb 11 true (.call 14 [] (.f N0) [.s 13, .c (.int .i64 0), .c (.int .i64 9999)]), Za (.pick 15 (.s 11) (.s 14) cF), Za (mS 16 15), Zb 16 true (fS 17 1 3), Zb 16 true (lF 18 1 17), Zb 16 true (nS 19 18), Zb 16 true (bC 20 .leq 19 8), Za (.pick 21 (.s 16) (.s 20) cF), Za (mS 22 21), Zb 22 true (fS 23 1 3), Zb 22 true (lF 24 1 23), Zb 22 true (fS 25 1 3), Zb 22 true (lF 26 1 25), Zb 22 true (nS 27 26), Zb 22 true (.call 28 [] (.f N2l) [.s 24, .s 27]), Za (.pick 29 (.s 22) (.s 28) cF), Za (mS 2 29)] [2])
.ret))
theorem C3b (v : GVisit) : Ctr Tryz.prog N38 [aS v.enc] [rB (K27 v)] := by
 refine cA Me1 1 30 [(.tmp 2, [false])] Tryz.func246 rfl rfl ?_; unfold Me1
 intro hb
 clear hb
 simp only [go_sem]
 repeat' first
  | (refine And.intro ?_ ?_ <;> intro h)
  | (apply K0 (Cj5 _); simp only [go_sem])
  | (apply K0 (C4 _ _ _); simp only [go_sem])
  | (apply K0 (C3t v.Inputs v.Inputs.length); simp only [go_sem])
 all_goals (unfold K27; by_cases c1 : v.Inputs.length ≤ 8 <;> simp_all <;> omega)
def sumI (l : List Int) : Int := l.foldl (· + ·) 0
theorem K77 {l : List Int} {k : Nat} {x : Int} (h : l[k]? = some x) : sumI (l.take (k + 1)) = sumI (l.take k) + x := by
 rw [Kt h, sumI, List.foldl_append]; rfl
theorem K62 {l : List Int} (h : K1t l 0 255 = true) : ∀ k : Nat, 0 ≤ sumI (l.take k) ∧ sumI (l.take k) ≤ 255 * (k : Int)
 | 0 => by simp [sumI]
 | k + 1 => by
  have ih := K62 h k
  by_cases hk : k < l.length
  ·obtain ⟨x, hx⟩ := Kc hk
   rw [K77 hx]
   have := K48 h k x hx
   omega
  ·rw [List.take_of_length_le (by omega)] at ih ⊢
   omega
def K43 (r : GResource) : Bool := K1c r && decide (r.Kind = 1 ∨ r.Kind = 2)
def K44 (r : GResource) : Int := if K43 r then (if (sumI r.Body).tmod 1000 < 999 then (sumI r.Body).tmod 1000 + 1 else (sumI r.Body).tmod 1000) else 0
theorem K95 {r : GResource} (h : K43 r = true) : r.Body.length ≤ 6 ∧ K1t r.Body 0 255 = true ∧ (r.Kind = 1 ∨ r.Kind = 2) := by
 simp only [K43, Bool.and_eq_true, decide_eq_true_eq] at h
 obtain ⟨h1, h2⟩ := h
 unfold K1c at h1
 rw [if_pos h2] at h1
 simp only [Bool.and_eq_true, decide_eq_true_eq] at h1
 exact ⟨h1.1, h1.2.1, h2⟩
theorem tmod_step {s x : Int} (hs : 0 ≤ s) (hx : 0 ≤ x) : (s.tmod 1000 + x).tmod 1000 = (s + x).tmod 1000 := by
 rw [Int.tmod_eq_emod_of_nonneg hs, Int.tmod_eq_emod_of_nonneg (by omega), Int.tmod_eq_emod_of_nonneg (by omega)]
 omega
theorem K9l {s : Int} (hs : 0 ≤ s) : 0 ≤ s.tmod 1000 ∧ s.tmod 1000 ≤ 999 := by
 rw [Int.tmod_eq_emod_of_nonneg hs]; omega
def Me2 : MC :=
(Zs [.mv 2 cF] [0] (.seq (.reg [Za (mS 3 0), Za (bC 4 .eql 3 1), Za (mS 5 4), Zb 5 false (mS 6 0), Zb 5 false (bC 7 .eql 6 2), Za (.pick 8 (.s 5) cT (.s 7)), Za (mS 2 8)] [2])
.ret))
theorem Ce3 (k : Int) : Ctr Tryz.prog Ncy [aI k] [rB (decide (k = 1 ∨ k = 2))] := by
 refine cA Me2 0 9 [(.tmp 2, [false])] Tryz.func336 rfl rfl ?_; unfold Me2
 intro hb
 clear hb
 simp only [go_sem]
 refine ⟨fun h => by simp [h], fun h => ?_⟩
 rw [Bool.eq_iff_iff]; simp [h]
def M3m : MC :=
(Zs [.box 1 0 (.s 0), .mv 2 (ci 0)] [1] (.seq (.seq (.reg [Za (lT 6 5 1), Za (.call 7 [] (.f N3f) [.s 6]), Za (.un 8 .not (.s 7)), Za (mS 9 8), Zb 9 false (fS 10 1 0), Zb 9 false (lF 11 1 10), Zb 9 false (.call 12 [] (.f Ncy) [.s 11]), Zb 9 false (.un 13 .not (.s 12)), Za (.pick 14 (.s 9) cT (.s 13))] [1,14])
(.cond (.s 14) (Zs [.mv 2 (ci 0)] [2] .ret) .skip))
(Zs [.mv 3 (ci 0)] [1,3] (.seq (Zs [fS 15 1 1, lF 16 1 15, nS 17 16, .mv 18 (ci 0)] [3,16,17,18] (.block 0 (.loop ([3,16,17,18], [0]) (Zs [bS 19 .lss 18 17] [3,16,17,18,19] (.seq (cX 19 0)
(.seq (.block 1 (Zs [xS 20 1 16 18, lF 21 1 20, mS 5 21] [3,5,16,17,18] (pr [mS 22 3, mS 23 5, bS 24 .add 22 23, mS 3 24] [3,16,17,18])))
(pr [bC 25 .add 18 1, mS 18 25] [3,16,17,18])))))))
(Zs [mS 26 3, bC 27 .rem 26 1000, mS 3 27] [3] (.seq (Zs [mS 28 3, bC 29 .lss 28 999] [3,29] (.cond (.s 29) (pr [mS 30 3, bC 31 .add 30 1, mS 3 31] [3]) .skip))
(Zs [mS 32 3, mS 2 32] [2] .ret)))))))
theorem Ccq (r : GResource) : Ctr Tryz.prog N3k [aS r.enc] [rI (K44 r)] := by
 refine cA M3m 1 33 [(.tmp 2, [false])] Tryz.func241 rfl rfl ?_; unfold M3m
 intro hb
 clear hb
 simp only [go_sem]
 apply K0 (C3h r)
 simp only [go_sem]
 cases hv : K43 r
 ·have e0 : K44 r = 0 := by unfold K44; rw [hv]; rfl
  rw [e0]
  refine ⟨fun h => rfl, fun h => ?_⟩
  have hk : decide (r.Kind = 1 ∨ r.Kind = 2) = false := by simp only [K43, h, Bool.true_and] at hv; exact hv
  apply K0 (Ce3 r.Kind)
  simp only [go_sem, hk, h]
 ·obtain ⟨h1, h2, h3⟩ := K95 hv
  have hres : K1c r = true := by simp only [K43, Bool.and_eq_true] at hv; exact hv.1
  have hdec : decide (r.Kind = 1 ∨ r.Kind = 2) = true := decide_eq_true h3
  simp only [go_sem, hres]
  apply K0 (Ce3 r.Kind)
  simp only [go_sem, hdec]
  refine K6 r.Body (fun k => [(3, vI (sumI (r.Body.take k))), (18, vI k)]) (fun k => []) (fun _ => True) (by simp only [roomB]; omega) ?_
  simp only [go_sem]
  refine ⟨?_, trivial, ?_, ?_⟩
  ·simp only [go_sem, List.take_zero]
   try rfl
  ·intro k x hx _ h0 h1 hw
   have hk := K62 h2 k
   have hxi := K48 h2 k x hx
   have hkl := Kl hx
   have hws : IntKind.i64.wrap (sumI (r.Body.take k) + x) = sumI (r.Body.take k) + x := wI (by omega) (by omega)
   simp only [go_sem, K4 hx, h0, h1, hw, hws, K77 hx]
   try trivial
  ·intro _
   have hk := K62 h2 r.Body.length
   rw [List.take_length] at hk
   have hk2 := K9l hk.1
   have hws : IntKind.i64.wrap ((sumI r.Body).tmod 1000 + 1) = (sumI r.Body).tmod 1000 + 1 := wI (by omega) (by omega)
   simp only [go_sem, List.take_length, c1000, hws]
   have e1 : K44 r = if (sumI r.Body).tmod 1000 < 999 then (sumI r.Body).tmod 1000 + 1 else (sumI r.Body).tmod 1000 := by unfold K44; rw [hv]; rfl
   rw [e1]
   refine ⟨fun h => by rw [if_pos h], fun h => by rw [if_neg h]⟩
def M3n : MC :=
(Zs [.box 1 0 (.s 0), .mv 2 (ci 0)] [1] (.seq (.seq (.reg [Za (lT 5 5 1), Za (.call 6 [] (.f N26) [.s 5]), Za (.un 7 .not (.s 6)), Za (mS 8 7), Zb 8 false (fS 9 1 0), Zb 8 false (lF 10 1 9), Zb 8 false (bC 11 .gtr 10 2), Za (.pick 12 (.s 8) cT (.s 11))] [1,12])
(.cond (.s 12) (Zs [.mv 2 (ci 0)] [2] .ret) .skip))
(Zs [.mv 3 (ci 0)] [1,3] (.seq (Zs [.mv 4 (ci 0)] [1,3,4] (.block 0 (.loop ([1,3,4], []) (.seq (Zs [mS 13 4, fS 14 1 1, lF 15 1 14, nS 16 15, bS 17 .lss 13 16] [1,3,4,17] (cX 17 0))
(.seq (.block 1 (pr [mS 20 3, fS 21 1 1, lF 22 1 21, mS 23 4, xS 24 1 22 23, lF 25 1 24, bS 26 .add 20 25, bC 27 .rem 26 1000, mS 3 27] [1,3,4]))
(pr [mS 18 4, bC 19 .add 18 1, mS 4 19] [1,3,4]))))))
(Zs [mS 28 3, bC 29 .add 28 1, .call 30 [] (.f N9t) [.c (.int .i64 999), .s 29], mS 2 30] [2] .ret)))))
theorem Ccr (r : GResource) : Ctr Tryz.prog N3j [aS r.enc] [rI (K44 r)] := by
 refine cA M3n 1 31 [(.tmp 2, [false])] Tryz.func229 rfl rfl ?_; unfold M3n
 intro hb
 clear hb
 simp only [go_sem]
 apply K0 (C3i r)
 simp only [go_sem]
 cases hv : K43 r
 ·have e0 : K44 r = 0 := by unfold K44; rw [hv]; rfl
  rw [e0]
  refine ⟨fun h => rfl, fun h => ⟨fun _ => rfl, fun hk => ?_⟩⟩
  have hk2 : ¬ (r.Kind = 1 ∨ r.Kind = 2) := by simpa [K43, h] using hv
  simp only [K1c, if_neg hk2] at h
  split at h <;> first | omega | (split at h <;> first | omega | cases h)
 ·obtain ⟨h1, h2, h3⟩ := K95 hv
  have hres : K1c r = true := by simp only [K43, Bool.and_eq_true] at hv; exact hv.1
  have hkd : ¬ r.Kind > 2 := by omega
  simp only [go_sem, hres, hkd]
  refine K6 r.Body (fun k => [(3, vI ((sumI (r.Body.take k)).tmod 1000)), (4, vI k)]) (fun k => []) (fun _ => True) (by simp only [roomB]; omega) ?_
  simp only [go_sem]
  refine ⟨?_, trivial, ?_, ?_⟩
  ·simp only [go_sem, List.take_zero]
   try rfl
  ·intro k x hx _ h0 h1 hw
   have hk := K62 h2 k
   have hxi := K48 h2 k x hx
   have hk2 := K9l hk.1
   have hws : IntKind.i64.wrap ((sumI (r.Body.take k)).tmod 1000 + x) = (sumI (r.Body.take k)).tmod 1000 + x := wI (by omega) (by omega)
   simp only [go_sem, K4 hx, h0, h1, hw, hws, K77 hx, c1000, tmod_step hk.1 hxi.1]
   try trivial
  ·intro _
   have hk := K62 h2 r.Body.length
   rw [List.take_length] at hk
   have hk2 := K9l hk.1
   have hws : IntKind.i64.wrap ((sumI r.Body).tmod 1000 + 1) = (sumI r.Body).tmod 1000 + 1 := wI (by omega) (by omega)
   simp only [go_sem, List.take_length, hws]
   apply K0 (Cea 999 _)
   simp only [go_sem]
   have e1 : K44 r = if (sumI r.Body).tmod 1000 < 999 then (sumI r.Body).tmod 1000 + 1 else (sumI r.Body).tmod 1000 := by unfold K44; rw [hv]; rfl
   rw [e1]
   repeat' split
   all_goals omega
def mod1000 (v : Int) : Int := (IntKind.i64.wrap (v.tmod 1000 + 1000)).tmod 1000
theorem Ciq (v : Int) : Ctr Tryz.prog N9u [aI v, aI 1000] [rI (mod1000 v)] := by
 refine cA M9y 0 15 [(.tmp 4, [false])] Tryz.func387 rfl rfl ?_; unfold M9y
 intro hb
 clear hb
 simp only [go_sem]
 apply K0 (C2 _ _ _)
 simp only [go_sem, c1000]
 refine And.intro ?_ ?_ <;> intro h
 ·exact absurd (by decide) h
 ·rfl
theorem Cir (v : Int) : Ctr Tryz.prog N9v [aI v, aI 1000] [rI (mod1000 v)] := by
 refine cA M9x 0 15 [(.tmp 4, [false])] Tryz.func390 rfl rfl ?_; unfold M9x
 intro hb
 clear hb
 simp only [go_sem]
 apply K0 (C4 _ _ _)
 simp only [go_sem, c1000]
 refine And.intro ?_ ?_ <;> intro h
 ·exact absurd (by decide) h
 ·rfl
def keyOk (k : Int) : Bool := decide (1 ≤ k ∧ k ≤ 2147483646)
def M9p : MC := Y28 N1 2147483646
theorem Ch3 (k : Int) : Ctr Tryz.prog N8a [aI k] [rB (keyOk k)] := by
 refine cA M9p 0 5 [(.tmp 2, [false])] Tryz.func261 rfl rfl ?_; unfold M9p
 intro hb
 clear hb
 simp only [go_sem]
 apply K0 (C2 _ _ _)
 simp only [go_sem]
 rfl
def M9q : MC := Y28 N0 2147483646
theorem Ch4 (k : Int) : Ctr Tryz.prog N88 [aI k] [rB (keyOk k)] := by
 refine cA M9q 0 5 [(.tmp 2, [false])] Tryz.func252 rfl rfl ?_; unfold M9q
 intro hb
 clear hb
 simp only [go_sem]
 apply K0 (C4 _ _ _)
 simp only [go_sem]
 rfl
def Mbb : MC :=
(Zs [.mv 4 (ci 0)] [0,1] (Zs [mS 6 0, .lit 7 0 1 8 [.s 6], mS 8 1, .app 9 0 1 8 (.s 7) (.s 8), mS 5 9] [0,5] (Zs [mS 10 5, mS 11 0, .lit 12 1 1 8 [.s 11], .app 13 0 1 8 (.s 10) (.s 12), .call 14 [] (.f N24) [.s 13], mS 4 14] [4] .ret)))
theorem Chx (k : Int) (l : List Int) (hl : l.length ≤ 1073741824) : Ctr Tryz.prog Nad [aI k, aL 1 (l.map encI)] [rI (hashL (k :: (l ++ [k])))] := by
 refine cA Mbb 2 15 [(.tmp 4, [false])] Tryz.func262 rfl rfl ?_; unfold Mbb
 intro hb
 clear hb
 have ha : 1 + l.length = l.length + 1 := Nat.add_comm _ _
 have e : ([T.sc (Value.int IntKind.i64 k)] :: List.map encI l ++ [[T.sc (Value.int IntKind.i64 k)]]) = (k :: (l ++ [k])).map encI := by simp [encI]
 simp only [go_sem, ↓Kn (f := encI) (fun _ => rfl) l, ha, List.length_append, List.length_cons, List.length_map, List.length_nil, Nat.zero_add, e]
 refine ⟨by simp only [roomB]; omega, by simp only [roomB]; omega, by simp only [roomB]; omega, by simp only [roomB]; omega, ?_⟩
 rw [show [T.sc (Value.int IntKind.i64 k)] :: List.map encI (l ++ [k]) = (k :: (l ++ [k])).map encI from rfl]
 apply K0 (C2n (k :: (l ++ [k])))
 simp only [go_sem]
def Mbc : MC :=
(Zs [.mv 4 (ci 0)] [0,1] (Zs [mS 5 0, .lit 6 0 1 8 [.s 5], mS 7 1, .app 8 0 1 8 (.s 6) (.s 7), mS 9 0, .lit 10 1 1 8 [.s 9], .app 11 0 1 8 (.s 8) (.s 10), .call 12 [] (.f N23) [.s 11], mS 4 12] [4] .ret))
theorem Chy (k : Int) (l : List Int) (hl : l.length ≤ 1073741824) : Ctr Tryz.prog Nac [aI k, aL 1 (l.map encI)] [rI (hashL (k :: (l ++ [k])))] := by
 refine cA Mbc 2 13 [(.tmp 4, [false])] Tryz.func253 rfl rfl ?_; unfold Mbc
 intro hb
 clear hb
 have ha : 1 + l.length = l.length + 1 := Nat.add_comm _ _
 have e : ([T.sc (Value.int IntKind.i64 k)] :: List.map encI l ++ [[T.sc (Value.int IntKind.i64 k)]]) = (k :: (l ++ [k])).map encI := by simp [encI]
 simp only [go_sem, ↓Kn (f := encI) (fun _ => rfl) l, ha, List.length_append, List.length_cons, List.length_map, List.length_nil, Nat.zero_add, e]
 refine ⟨by simp only [roomB]; omega, by simp only [roomB]; omega, by simp only [roomB]; omega, by simp only [roomB]; omega, ?_⟩
 rw [show [T.sc (Value.int IntKind.i64 k)] :: List.map encI (l ++ [k]) = (k :: (l ++ [k])).map encI from rfl]
 apply K0 (C2m (k :: (l ++ [k])))
 simp only [go_sem]
def K39 (k : Int) (s : GStatement) : GStatement := { s with Seal := if keyOk k then hashL [k, s.Witness, s.Digest, s.Tick, k] else 0 }
def Y34 (v0 : Nat) (v1 : Nat) : MC :=
(Zs [.box 3 0 (.s 1), .alloc 4 1 [pz, pz, pz, pz]] [0,3,4] (Zs [fS 5 3 3, .store 1 (.s 5) (ci 0)] [0,3,4] (.seq (Zs [mS 6 0, .call 7 [] (.f v0) [.s 6]] [0,3,4,7] (.cond (.s 7) (pr [mS 8 0, fS 9 3 0, lF 10 1 9, fS 11 3 1, lF 12 1 11, fS 13 3 2, lF 14 1 13, .lit 15 2 1 8 [.s 10, .s 12, .s 14], .call 16 [] (.f v1) [.s 8, .s 15], fS 17 3 3, sS 1 17 16] [3,4]) .skip))
(Zs [lT 18 4 3, sS 4 4 18] [4] .ret))))
attribute [go_sem] Y34
def M4x : MC := Y34 N8a Nad
theorem Ceb (k : Int) (s : GStatement) : Ctr Tryz.prog N4c [aI k, aS s.enc] [rS (K39 k s).enc] := by
 refine cA M4x 3 19 [(.cell 4 true 4, [false, false, false, false])] Tryz.func135 rfl rfl ?_; unfold M4x
 intro hb
 clear hb
 simp only [go_sem]
 apply K0 (Ch3 k)
 simp only [go_sem]
 refine And.intro ?_ ?_ <;> intro h
 ·refine ⟨⟨by decide, by decide⟩, ?_⟩
  apply K0 (Chx k [s.Witness, s.Digest, s.Tick] (by simp))
  simp only [go_sem]
  intros
  have e : K39 k s = { s with Seal := hashL [k, s.Witness, s.Digest, s.Tick, k] } := by simp only [K39, if_pos h]
  rw [e]
  simp
 ·have e : K39 k s = { s with Seal := 0 } := by rw [K39, h, if_neg Bool.false_ne_true]
  rw [e]
  simp
def M4y : MC := Y34 N88 Nac
theorem Cec (k : Int) (s : GStatement) : Ctr Tryz.prog N4b [aI k, aS s.enc] [rS (K39 k s).enc] := by
 refine cA M4y 3 19 [(.cell 4 true 4, [false, false, false, false])] Tryz.func131 rfl rfl ?_; unfold M4y
 intro hb
 clear hb
 simp only [go_sem]
 apply K0 (Ch4 k)
 simp only [go_sem]
 refine And.intro ?_ ?_ <;> intro h
 ·refine ⟨⟨by decide, by decide⟩, ?_⟩
  apply K0 (Chy k [s.Witness, s.Digest, s.Tick] (by simp))
  simp only [go_sem]
  intros
  have e : K39 k s = { s with Seal := hashL [k, s.Witness, s.Digest, s.Tick, k] } := by simp only [K39, if_pos h]
  rw [e]
  simp
 ·have e : K39 k s = { s with Seal := 0 } := by rw [K39, h, if_neg Bool.false_ne_true]
  rw [e]
  simp
end Go.Proofs.YtgkeplbnnjogiaaGreatR
namespace Go.Proofs.YtgkeplbnnjogiaaGreatR
open Go Go.RowKit Go.Proofs
open Nat (reduceEqDiff reduceLT reduceLeDiff reduceAdd reduceMul)
open List (reduceReplicate)
def Ku (v : GVisit) (w : GWant) (n : Int) : Int := if K27 v = true ∧ 0 ≤ n ∧ n ≤ 100 then (
  if w.Kind = 1 then K44 (follow v.Site w.Address (IntKind.i64.wrap (v.Tick + n))).1
  else if w.Kind = 2 then (if IntKind.i64.wrap (v.Tick + n) < 999 then IntKind.i64.wrap (v.Tick + n) else 999)
  else if w.Kind = 3 then mod1000 (hashL [v.Seed, n])
  else if w.Kind = 4 then (if 0 < v.Inputs.length then zAt v.Inputs (n.tmod v.Inputs.length) else 0)
  else 0) else 0
def Mbd : MC :=
(Zs [.box 3 0 (.s 0), .box 4 1 (.s 1), .mv 6 (ci 0)] [2,3,4] (.seq (.seq (.reg [Za (lT 9 4 3), Za (.call 10 [] (.f N27) [.s 9]), Za (.un 11 .not (.s 10)), Za (mS 12 11), Zb 12 false (mS 13 2), Zb 12 false (.call 14 [] (.f N1) [.s 13, .c (.int .i64 0), .c (.int .i64 100)]), Zb 12 false (.un 15 .not (.s 14)), Za (.pick 16 (.s 12) cT (.s 15))] [2,3,4,16])
(.cond (.s 16) (Zs [.mv 6 (ci 0)] [6] .ret) .skip))
(.seq (Zs [fS 17 4 0, lF 18 1 17] [2,3,4,18] (.block 0 (Zs [bC 20 .eql 18 1, mS 19 20] [2,3,4,18,19] (.cond (.s 19) (Zs [fS 22 3 0, lF 23 1 22, fS 24 4 1, lT 25 3 24, fS 26 3 1, lF 27 1 26, mS 28 2, bS 29 .add 27 28, .call 30 [2, 3] (.f N4i) [.s 23, .s 25, .s 29], mS 21 30, .ext 31 (.s 21) 0, .ext 32 (.s 21) 1, .alloc 7 4 [pz, .emp 1, pz, pz, pz], sS 5 7 31, mS 8 32] [7] (Zs [lT 33 5 7, .call 34 [] (.f N3k) [.s 33], mS 6 34] [6] .ret)) (Zs [bC 36 .eql 18 2, mS 35 36] [2,3,18,35] (.cond (.s 35) (Zs [fS 37 3 1, lF 38 1 37, mS 39 2, bS 40 .add 38 39, .mm 41 false (ci 999) (.s 40), mS 6 41] [6] .ret) (Zs [bC 43 .eql 18 3, mS 42 43] [2,3,18,42] (.cond (.s 42) (Zs [fS 44 3 2, lF 45 1 44, mS 46 2, .lit 47 5 1 8 [.s 45, .s 46], .call 48 [] (.f N24) [.s 47], .call 49 [] (.f N9u) [.s 48, .c (.int .i64 1000)], mS 6 49] [6] .ret) (Zs [bC 51 .eql 18 4, mS 50 51] [2,3,50] (.cond (.s 50) (Zs [fS 52 3 3, lF 53 1 52, nS 54 53, bC 55 .gtr 54 0] [2,3,55] (.cond (.s 55) (.seq (.dreg [Zc [58,59,60,61,62] (fS 56 3 3), Zd [58,59,60,61,62] [0] (lF 57 1 56), Zc [56,57,59,60,61] (mS 58 2), Zc [56,57,58] (fS 59 3 3), Zd [56,57,58] [3] (lF 60 1 59), Zd [56,57,58] [3,4] (nS 61 60), Zd [56,57] [2,3,4,5] (bS 62 .rem 58 61), Ze (.range 7) (xS 63 1 57 62), Ze (.range 8) (lF 64 1 63), Ze (.range 9) (mS 6 64)] [6])
.ret) .skip)) .skip))))))))))
(Zs [.mv 6 (ci 0)] [6] .ret))))
theorem Chz (v : GVisit) (w : GWant) (n : Nat) (hv : v.Site.length + (v.Site.map GVersion.size).sum ≤ 1073741824) : Ctr Tryz.prog Nag [aS v.enc, aS w.enc, aI n] [rI (Ku v w n)] := by
 refine cA Mbd 6 65 [(.tmp 6, [false])] Tryz.func405 rfl rfl ?_; unfold Mbd
 intro hb
 clear hb
 simp only [go_sem]
 apply K0 (C3a v)
 simp only [go_sem]
 by_cases hc : K27 v = true ∧ 0 ≤ (n : Int) ∧ (n : Int) ≤ 100
 ·obtain ⟨c1, c2, c3⟩ := hc
  rw [Ku, if_pos ⟨c1, c2, c3⟩]
  have hdec : decide ((0 : Int) ≤ (n : Int) ∧ (n : Int) ≤ 100) = true := decide_eq_true ⟨c2, c3⟩
  simp only [go_sem, c1]
  apply K0 (C2 (n : Int) 0 100)
  simp only [go_sem, hdec]
  refine ⟨fun k1 => ?_, fun k1 => ?_⟩
  ·rw [if_pos k1]
   apply K0 (Cch v.Site w.Address _ hv)
   simp only [go_sem]
   intros
   apply K0 (Ccq _)
   simp only [go_sem]
  rw [if_neg k1]
  refine ⟨fun k2 => by rw [if_pos k2], fun k2 => ?_⟩
  rw [if_neg k2]
  refine ⟨fun k3 => ?_, fun k3 => ?_⟩
  ·rw [if_pos k3]
   refine ⟨⟨by decide, by decide⟩, ?_⟩
   apply K0 (C2n [v.Seed, (n : Int)])
   simp only [go_sem]
   try intros
   apply K0 (Ciq _)
   simp only [go_sem]
  rw [if_neg k3]
  refine ⟨fun k4 => ?_, fun k4 => ?_⟩
  ·rw [if_pos k4]
   refine ⟨fun k5 => ?_, fun k5 => ?_⟩
   ·rw [if_pos (show 0 < v.Inputs.length by omega)]
    obtain ⟨x, hx⟩ := Kc (l := v.Inputs) (k := n % v.Inputs.length) (Nat.mod_lt _ (by omega))
    have hm : (n : Int).tmod (v.Inputs.length : Int) = ((n % v.Inputs.length : Nat) : Int) := (Int.ofNat_tmod n _).symm
    have hz := K22 hx
    have hz0 : ¬ (v.Inputs.length : Int) = 0 := by omega
    have hz1 : (v.Inputs.length : Int) ≠ 0 := by omega
    have hlt := Nat.mod_lt n (show 0 < v.Inputs.length by omega)
    rw [if_neg hz0, hm]
    simp only [go_sem]
    refine ⟨⟨by omega, by omega⟩, ?_⟩
    rw [hx, hz]
    simp only [go_sem]
   ·rw [if_neg (show ¬ 0 < v.Inputs.length by omega)]
  ·rw [if_neg k4]
 ·have e0 : Ku v w n = 0 := by rw [Ku, if_neg hc]
  rw [e0]
  refine ⟨fun _ => rfl, fun h => ?_⟩
  have hk : decide ((0 : Int) ≤ (n : Int) ∧ (n : Int) ≤ 100) = false := decide_eq_false (fun hh => hc ⟨h, hh⟩)
  apply K0 (C2 (n : Int) 0 100)
  simp only [go_sem, hk]
def Mbe : MC :=
(Zs [.box 3 0 (.s 0), .box 4 1 (.s 1), .mv 6 (ci 0)] [2,3,4] (.seq (.seq (.reg [Za (lT 9 4 3), Za (.call 10 [] (.f N38) [.s 9]), Za (.un 11 .not (.s 10)), Za (mS 12 11), Zb 12 false (mS 13 2), Zb 12 false (.call 14 [] (.f N0) [.s 13, .c (.int .i64 0), .c (.int .i64 100)]), Zb 12 false (.un 15 .not (.s 14)), Za (.pick 16 (.s 12) cT (.s 15))] [2,3,4,16])
(.cond (.s 16) (Zs [.mv 6 (ci 0)] [6] .ret) .skip))
(.seq (Zs [fS 17 4 0, lF 18 1 17] [2,3,4,18] (.block 0 (Zs [bC 20 .eql 18 1, mS 19 20] [2,3,4,18,19] (.cond (.s 19) (Zs [fS 22 3 0, lF 23 1 22, fS 24 4 1, lT 25 3 24, fS 26 3 1, lF 27 1 26, mS 28 2, bS 29 .add 27 28, .call 30 [2, 3] (.f N4h) [.s 23, .s 25, .s 29], mS 21 30, .ext 31 (.s 21) 0, .ext 32 (.s 21) 1, .alloc 7 4 [pz, .emp 1, pz, pz, pz], sS 5 7 31, mS 8 32] [7] (Zs [lT 33 5 7, .call 34 [] (.f N3j) [.s 33], mS 6 34] [6] .ret)) (Zs [bC 36 .eql 18 2, mS 35 36] [2,3,18,35] (.cond (.s 35) (Zs [fS 37 3 1, lF 38 1 37, mS 39 2, bS 40 .add 38 39, .call 41 [] (.f N9t) [.c (.int .i64 999), .s 40], mS 6 41] [6] .ret) (Zs [bC 43 .eql 18 3, mS 42 43] [2,3,18,42] (.cond (.s 42) (Zs [fS 44 3 2, lF 45 1 44, mS 46 2, .lit 47 5 1 8 [.s 45, .s 46], .call 48 [] (.f N23) [.s 47], .call 49 [] (.f N9v) [.s 48, .c (.int .i64 1000)], mS 6 49] [6] .ret) (Zs [bC 51 .eql 18 4, mS 50 51] [2,3,50] (.cond (.s 50) (Zs [fS 52 3 3, lF 53 1 52, nS 54 53, bC 55 .gtr 54 0] [2,3,55] (.cond (.s 55) (.seq (.dreg [Zc [58,59,60,61,62] (fS 56 3 3), Zd [58,59,60,61,62] [0] (lF 57 1 56), Zc [56,57,59,60,61] (mS 58 2), Zc [56,57,58] (fS 59 3 3), Zd [56,57,58] [3] (lF 60 1 59), Zd [56,57,58] [3,4] (nS 61 60), Zd [56,57] [2,3,4,5] (bS 62 .rem 58 61), Ze (.range 7) (xS 63 1 57 62), Ze (.range 8) (lF 64 1 63), Ze (.range 9) (mS 6 64)] [6])
.ret) .skip)) .skip))))))))))
(Zs [.mv 6 (ci 0)] [6] .ret))))
theorem Ci0 (v : GVisit) (w : GWant) (n : Nat) (hv : v.Site.length + (v.Site.map GVersion.size).sum ≤ 1073741824) : Ctr Tryz.prog Naf [aS v.enc, aS w.enc, aI n] [rI (Ku v w n)] := by
 refine cA Mbe 6 65 [(.tmp 6, [false])] Tryz.func401 rfl rfl ?_; unfold Mbe
 intro hb
 clear hb
 simp only [go_sem]
 apply K0 (C3b v)
 simp only [go_sem]
 by_cases hc : K27 v = true ∧ 0 ≤ (n : Int) ∧ (n : Int) ≤ 100
 ·obtain ⟨c1, c2, c3⟩ := hc
  rw [Ku, if_pos ⟨c1, c2, c3⟩]
  have hdec : decide ((0 : Int) ≤ (n : Int) ∧ (n : Int) ≤ 100) = true := decide_eq_true ⟨c2, c3⟩
  simp only [go_sem, c1]
  apply K0 (C4 (n : Int) 0 100)
  simp only [go_sem, hdec]
  refine ⟨fun k1 => ?_, fun k1 => ?_⟩
  ·rw [if_pos k1]
   apply K0 (Ccj v.Site w.Address _ hv)
   simp only [go_sem]
   intros
   apply K0 (Ccr _)
   simp only [go_sem]
  rw [if_neg k1]
  refine ⟨fun k2 => ?_, fun k2 => ?_⟩
  ·rw [if_pos k2]
   apply K0 (Cea 999 _)
   simp only [go_sem]
   try intros
   repeat' split
   all_goals omega
  rw [if_neg k2]
  refine ⟨fun k3 => ?_, fun k3 => ?_⟩
  ·rw [if_pos k3]
   refine ⟨⟨by decide, by decide⟩, ?_⟩
   apply K0 (C2m [v.Seed, (n : Int)])
   simp only [go_sem]
   try intros
   apply K0 (Cir _)
   simp only [go_sem]
  rw [if_neg k3]
  refine ⟨fun k4 => ?_, fun k4 => ?_⟩
  ·rw [if_pos k4]
   refine ⟨fun k5 => ?_, fun k5 => ?_⟩
   ·rw [if_pos (show 0 < v.Inputs.length by omega)]
    obtain ⟨x, hx⟩ := Kc (l := v.Inputs) (k := n % v.Inputs.length) (Nat.mod_lt _ (by omega))
    have hm : (n : Int).tmod (v.Inputs.length : Int) = ((n % v.Inputs.length : Nat) : Int) := (Int.ofNat_tmod n _).symm
    have hz := K22 hx
    have hz0 : ¬ (v.Inputs.length : Int) = 0 := by omega
    have hz1 : (v.Inputs.length : Int) ≠ 0 := by omega
    have hlt := Nat.mod_lt n (show 0 < v.Inputs.length by omega)
    rw [if_neg hz0, hm]
    simp only [go_sem]
    refine ⟨⟨by omega, by omega⟩, ?_⟩
    rw [hx, hz]
    simp only [go_sem]
   ·rw [if_neg (show ¬ 0 < v.Inputs.length by omega)]
  ·rw [if_neg k4]
 ·have e0 : Ku v w n = 0 := by rw [Ku, if_neg hc]
  rw [e0]
  refine ⟨fun _ => rfl, fun h => ?_⟩
  have hk : decide ((0 : Int) ≤ (n : Int) ∧ (n : Int) ≤ 100) = false := decide_eq_false (fun hh => hc ⟨h, hh⟩)
  apply K0 (C4 (n : Int) 0 100)
  simp only [go_sem, hk]
def visF (l : List GOp) (v : GVisit) : Nat → GState → List GEntry → List GState → List GEntry × List GState
 | 0, s, es, tr => (es, tr)
 | f + 1, s, es, tr =>
  if s.Pc ≥ l.length then (es, tr)
  else if (Kf l s).Kind = 0 then visF l v f (Kw l s 0) es (tr ++ [Kw l s 0])
  else visF l v f (Kw l s (Ku v (Kf l s) es.length)) (es ++ [⟨(Kf l s).Kind, (Kf l s).Address, Ku v (Kf l s) es.length⟩]) (tr ++ [Kw l s (Ku v (Kf l s) es.length)])
def visit (l : List GOp) (v : GVisit) : List GEntry × List GState := if K18 l = true ∧ K27 v = true then visF l v 20 st0 [] [st0] else ([], [st0])
theorem K88 {l : List GOp} {v : GVisit} : ∀ {f : Nat} {s : GState} {es : List GEntry} {tr : List GState}, (visF l v f s es tr).1.length ≤ es.length + f ∧ tr.length ≤ (visF l v f s es tr).2.length
 | 0, s, es, tr => ⟨Nat.le_refl _, Nat.le_refl _⟩
 | f + 1, s, es, tr => by
  rw [visF]
  split
  ·exact ⟨by simp, Nat.le_refl _⟩
  ·split
   ·have := K88 (l := l) (v := v) (f := f) (s := Kw l s 0) (es := es) (tr := tr ++ [Kw l s 0])
    simp only [List.length_append, List.length_cons, List.length_nil] at this
    omega
   ·have := K88 (l := l) (v := v) (f := f) (s := Kw l s (Ku v (Kf l s) es.length)) (es := es ++ [⟨(Kf l s).Kind, (Kf l s).Address, Ku v (Kf l s) es.length⟩]) (tr := tr ++ [Kw l s (Ku v (Kf l s) es.length)])
    simp only [List.length_append, List.length_cons, List.length_nil] at this
    omega
theorem K9k {l : List GOp} {v : GVisit} : ∀ {f : Nat} {s : GState} {es : List GEntry} {tr : List GState}, stOk s = true → (∀ x ∈ tr, stOk x = true) → ∀ x ∈ (visF l v f s es tr).2, stOk x = true
 | 0, s, es, tr, _, h => h
 | f + 1, s, es, tr, hs, h => by
  rw [visF]
  have hn : ∀ u, ∀ x ∈ tr ++ [Kw l s u], stOk x = true := fun u x hx => by
   rcases List.mem_append.1 hx with hx | hx
   ·exact h x hx
   ·rw [List.mem_singleton.1 hx]; exact K4i hs
  split
  ·exact h
  ·split
   ·exact K9k (K4i hs) (hn _)
   ·exact K9k (K4i hs) (hn _)
theorem K2s (l : List GOp) (v : GVisit) : (visit l v).1.length ≤ 20 ∧ 1 ≤ (visit l v).2.length := by
 unfold visit
 split
 ·have := K88 (l := l) (v := v) (f := 20) (s := st0) (es := []) (tr := [st0])
  simp only [List.length_nil, List.length_cons] at this
  omega
 ·simp
theorem Kaj (l : List GOp) (v : GVisit) : ∀ x ∈ (visit l v).2, stOk x = true := by
 unfold visit
 split
 ·exact K9k K8p (by simp [K8p])
 ·simp [K8p]
structure VisI (l : List GOp) (v : GVisit) (s : GState) (es : List GEntry) (tr : List GState) : Prop where
 ok : stOk s = true
 len : tr.length ≤ 20 ∧ es.length ≤ 20
 run : K18 l = true → K27 v = true → ∃ f, l.length - s.Pc.toNat < f ∧ tr.length + (l.length - s.Pc.toNat) ≤ 18 ∧ es.length + (l.length - s.Pc.toNat) ≤ 18 ∧ visF l v f s es tr = visit l v
 bad : ¬ (K18 l = true ∧ K27 v = true) → (es, tr) = visit l v
theorem K58 {l : List GOp} (h : K18 l = true) : l.length ≤ 16 := by
 simp only [K18, K1l, Bool.and_eq_true, decide_eq_true_eq] at h
 exact h.1
theorem VisI.start (l : List GOp) (v : GVisit) : VisI l v st0 [] [st0] :=
 ⟨K8p, by simp, fun h1 h2 => ⟨20, by have := K58 h1; simp only [st0]; omega, by have := K58 h1; simp only [st0, List.length_cons, List.length_nil]; omega, by have := K58 h1; simp only [st0, List.length_nil]; omega, by rw [visit, if_pos ⟨h1, h2⟩]⟩, fun h => by rw [visit, if_neg h]⟩
section
variable {l : List GOp} {v : GVisit} {s : GState} {es : List GEntry} {tr : List GState}
theorem VisI.fin (h : VisI l v s es tr) (h1 : K18 l = true) (h2 : K27 v = true) (hd : s.Pc ≥ l.length) : (es, tr) = visit l v := by
 obtain ⟨f, hf, _, _, hp⟩ := h.run h1 h2
 obtain ⟨f, rfl⟩ : ∃ f', f = f' + 1 := ⟨f - 1, by omega⟩
 rw [visF, if_pos hd] at hp
 exact hp
theorem VisI.less (h : VisI l v s es tr) (h1 : K18 l = true) (h2 : K27 v = true) (hd : ¬ s.Pc ≥ l.length) (u : Int) : l.length - (Kw l s u).Pc.toNat < l.length - s.Pc.toNat := by
 have h0 := (K54 h.ok).1.1
 have := stepTo_lt (v := u) h1 h.ok (by omega)
 omega
theorem VisI.step0 (h : VisI l v s es tr) (h1 : K18 l = true) (h2 : K27 v = true) (hd : ¬ s.Pc ≥ l.length) (hw : (Kf l s).Kind = 0) : VisI l v (Kw l s 0) es (tr ++ [Kw l s 0]) := by
 obtain ⟨f, hf, ht, he, hp⟩ := h.run h1 h2
 obtain ⟨f, rfl⟩ : ∃ f', f = f' + 1 := ⟨f - 1, by omega⟩
 have hl := h.less h1 h2 hd 0
 rw [visF, if_neg hd, if_pos hw] at hp
 refine ⟨K4i h.ok, by simp only [List.length_append, List.length_cons, List.length_nil]; omega, fun _ _ => ⟨f, by omega, by simp only [List.length_append, List.length_cons, List.length_nil]; omega, by omega, hp⟩, fun hb => (hb ⟨h1, h2⟩).elim⟩
theorem VisI.step1 (h : VisI l v s es tr) (h1 : K18 l = true) (h2 : K27 v = true) (hd : ¬ s.Pc ≥ l.length) (hw : ¬ (Kf l s).Kind = 0) :
  VisI l v (Kw l s (Ku v (Kf l s) es.length)) (es ++ [⟨(Kf l s).Kind, (Kf l s).Address, Ku v (Kf l s) es.length⟩]) (tr ++ [Kw l s (Ku v (Kf l s) es.length)]) := by
 obtain ⟨f, hf, ht, he, hp⟩ := h.run h1 h2
 obtain ⟨f, rfl⟩ : ∃ f', f = f' + 1 := ⟨f - 1, by omega⟩
 have hl := h.less h1 h2 hd (Ku v (Kf l s) es.length)
 rw [visF, if_neg hd, if_neg hw] at hp
 refine ⟨K4i h.ok, by simp only [List.length_append, List.length_cons, List.length_nil]; omega, fun _ _ => ⟨f, by omega, by simp only [List.length_append, List.length_cons, List.length_nil]; omega, by simp only [List.length_append, List.length_cons, List.length_nil]; omega, hp⟩, fun hb => (hb ⟨h1, h2⟩).elim⟩
end
def Me4 : MC :=
(Zs [.box 3 0 (.s 1), .nilo 4 1 5, .nilo 5 2 4] [0,3] (Zs [.call 11 [3, 4, 5] (.f N86) [], .alloc 6 6 [pz, .emp 1, .emp 1, .emp 1], sS 4 6 11] [0,3,6] (Zs [.nilo 7 1 5] [0,3,6,7] (Zs [lT 12 4 6, .lit 13 2 4 80 [.s 12], mS 8 13] [0,3,6,7,8] (.seq (.seq (.reg [Za (mS 14 0), Za (.call 15 [] (.f N1z) [.s 14]), Za (.un 16 .not (.s 15)), Za (mS 17 16), Zb 17 false (lT 18 4 3), Zb 17 false (.call 19 [] (.f N27) [.s 18]), Zb 17 false (.un 20 .not (.s 19)), Za (.pick 21 (.s 17) cT (.s 20))] [0,3,6,7,8,21])
(.cond (.s 21) (Zs [mS 22 8, .nilo 4 1 5, mS 5 22] [4,5] .ret) .skip))
(.seq (.block 0 (.loop ([0,3,6,7,8], [7,8,9]) (.seq (Zs [mS 23 0, lT 24 4 6, .call 25 [] (.f Nek) [.s 23, .s 24], .un 26 .not (.s 25)] [0,3,6,7,8,26] (cX 26 0))
(.block 1 (Zs [.mv 9 (ci 0)] [0,3,6,7,8,9] (.seq (Zs [mS 27 0, lT 28 4 6, .call 29 [] (.f Nel) [.s 27, .s 28], .alloc 10 7 [pz, pz, pz, pz], sS 4 10 29] [0,3,6,7,8,9,10] (Zs [fS 30 10 0, lF 31 1 30, bC 32 .neq 31 0] [0,3,6,7,8,9,10,32] (.cond (.s 32) (Zs [lT 33 4 3, lT 34 4 10, mS 35 7, nS 36 35, .call 37 [] (.f Nag) [.s 33, .s 34, .s 36], mS 9 37] [0,3,6,7,8,9,10] (pr [mS 38 7, fS 39 10 0, lF 40 1 39, fS 41 10 1, lT 42 3 41, mS 43 9, .build 44 [pz, pz, pz, pz, pz] [(0, 1, .s 40), (1, 3, .s 42), (4, 1, .s 43)], .lit 45 8 5 40 [.s 44], .app 46 1 5 40 (.s 38) (.s 45), mS 7 46] [0,3,6,7,8,9])) .skip)))
(Zs [mS 47 0, lT 48 4 6, mS 49 9, .call 50 [3, 4, 5] (.f Nab) [.s 47, .s 48, .s 49], sS 4 6 50] [0,3,6,7,8] (pr [mS 51 8, lT 52 4 6, .lit 53 9 4 80 [.s 52], .app 54 2 4 80 (.s 51) (.s 53), mS 8 54] [0,3,6,7,8]))))))))
(Zs [mS 55 7, mS 56 8, mS 4 55, mS 5 56] [4,5] .ret)))))))
set_option maxHeartbeats 2000000 in
theorem Cis (l : List GOp) (v : GVisit) (hv : v.Site.length + (v.Site.map GVersion.size).sum ≤ 1073741824) : Ctr Tryz.prog Ncz [aL 4 (l.map GOp.enc), aS v.enc] [rL 5 ((visit l v).1.map GEntry.enc), rL 4 ((visit l v).2.map GState.enc)] := by
 refine cA Me4 10 57 [(.tmp 4, [true]), (.tmp 5, [true])] Tryz.func350 rfl rfl ?_; unfold Me4
 intro hb
 clear hb
 simp only [go_sem]
 apply K0 Ch2
 simp only [go_sem]
 intros
 refine ⟨by decide, ?_⟩
 apply K0 (C2z l)
 simp only [go_sem]
 repeat' first
  | (refine And.intro ?_ ?_ <;> intro h)
  | (apply K0 (C3a v); simp only [go_sem])
 ·have hP : visit l v = ([], [st0]) := by rw [visit, if_neg (by simp_all)]
  rw [hP]
  try exact ⟨rfl, rfl⟩
  try trivial
 ·have hP : visit l v = ([], [st0]) := by rw [visit, if_neg (by simp_all)]
  rw [hP]
  try exact ⟨rfl, rfl⟩
  try trivial
 ·have hl : K18 l = true := by assumption
  have hv2 : K27 v = true := by assumption
  refine K15 (ι := GState × List GEntry × List GState) (fun t => [(7, .val false [.ref 1 0 5 0 t.2.1.length]), (8, .val false [.ref 2 0 4 0 t.2.2.length])]) (fun t => [(1, ⟨0, .row true 5 (t.2.1.map GEntry.enc)⟩), (2, ⟨0, .row true 4 (t.2.2.map GState.enc)⟩), (3, ⟨0, .lent 1 (t.1.Regs.map encI)⟩), (4, ⟨0, .lent 1 (t.1.Slots.map encI)⟩), (5, ⟨0, .lent 1 (t.1.Nodes.map encI)⟩), (6, ⟨0, .box [.pl (tI t.1.Pc), .ref 3 0 1 0 t.1.Regs.length, .ref 4 0 1 0 t.1.Slots.length, .ref 5 0 1 0 t.1.Nodes.length]⟩)])
   (fun t => VisI l v t.1 t.2.1 t.2.2) (fun t => l.length - t.1.Pc.toNat) (st0, [], [st0]) ?_
  simp only [go_sem]
  refine ⟨?_, VisI.start l v, ?_⟩
  ·simp only [go_sem]
   try exact ⟨rfl, rfl⟩
   try trivial
  ·rintro ⟨s, es, tr⟩ hI
   simp only at hI
   have hs := hI.ok
   have hsz := K5i hs
   have h0 := (K54 hs).1.1
   have hlt := hI.len
   simp only [go_sem]
   apply K0 (Cj2 l s)
   by_cases hd : s.Pc ≥ l.length
   ·have hf := hI.fin hl hv2 hd
    simp only [go_sem, hd]
    rw [← hf]
    try exact ⟨rfl, rfl⟩
    try trivial
   ·simp only [go_sem, hd]
    apply K0 (Cj0 l s)
    simp only [go_sem]
    intros
    by_cases hw : (Kf l s).Kind = 0
    ·simp only [go_sem, hw]
     apply K0 (Cb8 l s 0 (by omega))
     simp only [go_sem]
     intros
     refine ⟨by decide, by simp only [roomB]; omega, (Kw l s 0, es, tr ++ [Kw l s 0]), ⟨⟨rfl, by simp⟩, rfl, by simp [GState.enc], rfl, rfl, rfl, rfl, rfl, rfl, rfl⟩, hI.step0 hl hv2 hd hw, hI.less hl hv2 hd _⟩
    ·have hw' : (Kf l s).Kind > 0 := by have := K7w l s; omega
     simp only [go_sem, hw]
     apply K0 (Chz v (Kf l s) es.length hv)
     simp only [go_sem]
     try intros
     refine ⟨by decide, by simp only [roomB]; omega, ?_⟩
     apply K0 (Cb8 l s (Ku v (Kf l s) es.length) (by omega))
     simp only [go_sem]
     intros
     refine ⟨by decide, by simp only [roomB]; omega, (Kw l s (Ku v (Kf l s) es.length), es ++ [⟨(Kf l s).Kind, (Kf l s).Address, Ku v (Kf l s) es.length⟩], tr ++ [Kw l s (Ku v (Kf l s) es.length)]), ⟨⟨by simp, by simp⟩, by simp [GEntry.enc], by simp [GState.enc], rfl, rfl, rfl, rfl, rfl, rfl, rfl⟩, hI.step1 hl hv2 hd hw, hI.less hl hv2 hd _⟩
def Mf9 : MC :=
(Zs [.box 3 0 (.s 1), .nilo 4 1 5, .nilo 5 2 4] [0,3] (Zs [.lit 11 1 5 40 [], mS 6 11] [0,3,6] (Zs [.call 12 [3, 4, 5] (.f N85) [], .alloc 7 6 [pz, .emp 1, .emp 1, .emp 1], sS 4 7 12] [0,3,6,7] (Zs [lT 13 4 7, .lit 14 2 4 80 [.s 13], mS 8 14] [0,3,6,7,8] (.seq (.block 0 (.loop ([0,3,6,7,8], [7,8,9]) (.seq (.seq (.reg [Za (mS 15 0), Za (.call 16 [] (.f N1y) [.s 15]), Za (mS 17 16), Zb 17 true (lT 18 4 3), Zb 17 true (.call 19 [] (.f N38) [.s 18]), Za (.pick 20 (.s 17) (.s 19) cF), Za (mS 21 20), Zb 21 true (mS 22 0), Zb 21 true (lT 23 4 7), Zb 21 true (.call 24 [] (.f Nei) [.s 22, .s 23]), Zb 21 true (.un 25 .not (.s 24)), Za (.pick 26 (.s 21) (.s 25) cF)] [0,3,6,7,8,26])
(cX 26 0))
(.block 1 (Zs [mS 27 0, lT 28 4 7, .call 29 [] (.f Nej) [.s 27, .s 28], .alloc 9 7 [pz, pz, pz, pz], sS 4 9 29] [0,3,6,7,8,9] (Zs [.mv 10 (ci 0)] [0,3,6,7,8,9,10] (.seq (Zs [fS 30 9 0, lF 31 1 30, bC 32 .gtr 31 0] [0,3,6,7,8,9,10,32] (.cond (.s 32) (Zs [lT 33 4 3, lT 34 4 9, mS 35 6, nS 36 35, .call 37 [] (.f Naf) [.s 33, .s 34, .s 36], mS 10 37] [0,3,6,7,8,9,10] (pr [mS 38 6, fS 39 9 0, lF 40 1 39, fS 41 9 1, lT 42 3 41, mS 43 10, .build 44 [pz, pz, pz, pz, pz] [(0, 1, .s 40), (1, 3, .s 42), (4, 1, .s 43)], .lit 45 8 5 40 [.s 44], .app 46 1 5 40 (.s 38) (.s 45), mS 6 46] [0,3,6,7,8,10])) .skip))
(Zs [mS 47 0, lT 48 4 7, mS 49 10, .call 50 [3, 4, 5] (.f Naa) [.s 47, .s 48, .s 49], sS 4 7 50] [0,3,6,7,8] (pr [mS 51 8, lT 52 4 7, .lit 53 9 4 80 [.s 52], .app 54 2 4 80 (.s 51) (.s 53), mS 8 54] [0,3,6,7,8])))))))))
(Zs [mS 55 6, mS 56 8, mS 4 55, mS 5 56] [4,5] .ret))))))
set_option maxHeartbeats 2000000 in
theorem Cj6 (l : List GOp) (v : GVisit) (hv : v.Site.length + (v.Site.map GVersion.size).sum ≤ 1073741824) : Ctr Tryz.prog Neo [aL 4 (l.map GOp.enc), aS v.enc] [rL 5 ((visit l v).1.map GEntry.enc), rL 4 ((visit l v).2.map GState.enc)] := by
 refine cA Mf9 10 57 [(.tmp 4, [true]), (.tmp 5, [true])] Tryz.func341 rfl rfl ?_; unfold Mf9
 intro hb
 clear hb
 simp only [go_sem]
 apply K0 Ch1
 simp only [go_sem]
 intros
 refine ⟨by decide, ?_⟩
 refine K15 (ι := GState × List GEntry × List GState) (fun t => [(6, .val false [.ref 1 0 5 0 t.2.1.length]), (8, .val false [.ref 2 0 4 0 t.2.2.length])]) (fun t => [(1, ⟨0, .row true 5 (t.2.1.map GEntry.enc)⟩), (2, ⟨0, .row true 4 (t.2.2.map GState.enc)⟩), (3, ⟨0, .lent 1 (t.1.Regs.map encI)⟩), (4, ⟨0, .lent 1 (t.1.Slots.map encI)⟩), (5, ⟨0, .lent 1 (t.1.Nodes.map encI)⟩), (6, ⟨0, .box [.pl (tI t.1.Pc), .ref 3 0 1 0 t.1.Regs.length, .ref 4 0 1 0 t.1.Slots.length, .ref 5 0 1 0 t.1.Nodes.length]⟩)])
  (fun t => VisI l v t.1 t.2.1 t.2.2) (fun t => l.length - t.1.Pc.toNat) (st0, [], [st0]) ?_
 simp only [go_sem]
 refine ⟨?_, VisI.start l v, ?_⟩
 ·simp only [go_sem]
  try exact ⟨rfl, rfl⟩
  try trivial
 ·rintro ⟨s, es, tr⟩ hI
  simp only at hI
  have hs := hI.ok
  have hsz := K5i hs
  have h0 := (K54 hs).1.1
  have hlt := hI.len
  simp only [go_sem]
  apply K0 (C30 l)
  by_cases hval : K18 l = true ∧ K27 v = true
  ·obtain ⟨hl, hv2⟩ := hval
   simp only [go_sem, hl]
   apply K0 (C3b v)
   simp only [go_sem, hv2]
   apply K0 (Cj3 l s)
   by_cases hd : s.Pc ≥ l.length
   ·have hf := hI.fin hl hv2 hd
    simp only [go_sem, hd]
    rw [← hf]
    try exact ⟨rfl, rfl⟩
    try trivial
   ·simp only [go_sem, hd]
    apply K0 (Cj1 l s)
    simp only [go_sem]
    intros
    by_cases hw : (Kf l s).Kind = 0
    ·simp only [go_sem, hw]
     apply K0 (Cba l s 0 (by omega))
     simp only [go_sem]
     intros
     refine ⟨by decide, by simp only [roomB]; omega, (Kw l s 0, es, tr ++ [Kw l s 0]), ⟨⟨rfl, by simp⟩, rfl, by simp [GState.enc], rfl, rfl, rfl, rfl, rfl, rfl, rfl⟩, hI.step0 hl hv2 hd hw, hI.less hl hv2 hd _⟩
    ·have hw' : (Kf l s).Kind > 0 := by have := K7w l s; omega
     simp only [go_sem, hw']
     apply K0 (Ci0 v (Kf l s) es.length hv)
     simp only [go_sem]
     try intros
     refine ⟨by decide, by simp only [roomB]; omega, ?_⟩
     apply K0 (Cba l s (Ku v (Kf l s) es.length) (by omega))
     simp only [go_sem]
     intros
     refine ⟨by decide, by simp only [roomB]; omega, (Kw l s (Ku v (Kf l s) es.length), es ++ [⟨(Kf l s).Kind, (Kf l s).Address, Ku v (Kf l s) es.length⟩], tr ++ [Kw l s (Ku v (Kf l s) es.length)]), ⟨⟨by simp, by simp⟩, by simp [GEntry.enc], by simp [GState.enc], rfl, rfl, rfl, rfl, rfl, rfl, rfl⟩, hI.step1 hl hv2 hd hw, hI.less hl hv2 hd _⟩
  ·have hf := hI.bad hval
   rw [← hf]
   simp only [go_sem]
   intro h
   have hvb : K27 v = false := by
    cases hh : K27 v
    ·rfl
    ·exact (hval ⟨h, hh⟩).elim
   apply K0 (C3b v)
   simp only [go_sem, hvb, h]
end Go.Proofs.YtgkeplbnnjogiaaGreatR
namespace Go.Proofs.YtgkeplbnnjogiaaGreatR
open Go Go.RowKit Go.Proofs
open Nat (reduceEqDiff reduceLT reduceLeDiff reduceAdd reduceMul)
open List (reduceReplicate)
def K75 (l : List GState) : GState := (l[l.length - 1]?).getD st0
theorem K9u {l : List GState} {x : GState} (h : l[l.length - 1]? = some x) : K75 l = x := by rw [K75, h]; rfl
def Mhl : MC :=
(Zs [.alloc 2 0 [pz, .emp 1, .emp 1, .emp 1]] [0,2] (Zs [mS 3 0, mS 4 0, nS 5 4, bC 6 .sub 5 1, xS 7 4 3 6, lT 8 4 7, .call 9 [1, 2, 3] (.f N3v) [.s 8], sS 4 2 9] [2] .ret))
theorem Cjd (l : List GState) (h1 : 1 ≤ l.length) (h2 : ∀ x ∈ l, stOk x = true) : Ctr Tryz.prog Nha [aL 4 (l.map GState.enc)] [rS (K75 l).enc] := by
 refine cA Mhl 4 10 [(.cell 2 true 4, [false, true, true, true])] Tryz.func351 rfl rfl ?_; unfold Mhl
 intro hb
 simp only [bdA, bdL, bdT, Ka, roomB, and_true, List.length_map] at hb
 have hl := hb.1
 clear hb
 obtain ⟨x, hx⟩ := Kc (l := l) (k := l.length - 1) (by omega)
 have hsz := K5i (h2 x (Ks hx))
 have hw1 : IntKind.i64.wrap ((l.length : Int) - 1) = ((l.length - 1 : Nat) : Int) := by rw [wI (by omega) (by omega)]; omega
 have hlt : ((l.length - 1 : Nat) : Int) < (l.length : Int) := by omega
 rw [K9u hx]
 simp only [go_sem, hw1, K4 hx, hlt]
 refine ⟨by omega, ?_⟩
 apply K0 (Cb6 x (by omega))
 simp only [go_sem]
def M7j : MC :=
(Zs [.box 3 0 (.s 1), .nilo 4 1 5, .alloc 5 2 [pz, .emp 1, .emp 1, .emp 1]] [0,3,5] (Zs [mS 9 0, lT 10 4 3, .call 11 [1, 3] (.f Ncz) [.s 9, .s 10], mS 8 11, .ext 12 (.s 8) 0, .ext 13 (.s 8) 1, mS 6 12, mS 7 13] [5,6,7] (Zs [mS 14 6, mS 15 7, .call 16 [4, 5, 6] (.f Nha) [.s 15], mS 4 14, sS 4 5 16] [4,5] .ret)))
theorem C7k (l : List GOp) (v : GVisit) (hv : v.Site.length + (v.Site.map GVersion.size).sum ≤ 1073741824) : Ctr Tryz.prog N34 [aL 4 (l.map GOp.enc), aS v.enc] [rL 5 ((visit l v).1.map GEntry.enc), rS (K75 (visit l v).2).enc] := by
 refine cA M7j 7 17 [(.tmp 4, [true]), (.cell 5 true 4, [false, true, true, true])] Tryz.func256 rfl rfl ?_; unfold M7j
 intro hb
 clear hb
 simp only [go_sem]
 apply K0 (Cis l v hv)
 simp only [go_sem]
 intros
 apply K0 (Cjd (visit l v).2 (K2s l v).2 (Kaj l v))
 simp only [go_sem]
def M7l : MC :=
(Zs [.box 3 0 (.s 1), .nilo 4 1 5, .alloc 5 2 [pz, .emp 1, .emp 1, .emp 1]] [0,3,5] (Zs [mS 9 0, lT 10 4 3, .call 11 [1, 3] (.f Neo) [.s 9, .s 10], mS 8 11, .ext 12 (.s 8) 0, .ext 13 (.s 8) 1, mS 6 12, mS 7 13] [5,6,7] (Zs [mS 14 6, mS 15 7, mS 16 7, nS 17 16, bC 18 .sub 17 1, xS 19 4 15 18, lT 20 4 19, .call 21 [4, 5, 6] (.f N6h) [.s 20], mS 4 14, sS 4 5 21] [4,5] .ret)))
theorem C7m (l : List GOp) (v : GVisit) (hv : v.Site.length + (v.Site.map GVersion.size).sum ≤ 1073741824) : Ctr Tryz.prog N33 [aL 4 (l.map GOp.enc), aS v.enc] [rL 5 ((visit l v).1.map GEntry.enc), rS (K75 (visit l v).2).enc] := by
 refine cA M7l 7 22 [(.tmp 4, [true]), (.cell 5 true 4, [false, true, true, true])] Tryz.func247 rfl rfl ?_; unfold M7l
 intro hb
 clear hb
 simp only [go_sem]
 apply K0 (Cj6 l v hv)
 simp only [go_sem]
 intros
 have h1 := (K2s l v).2
 have hrb : roomB = 140737488355328 := rfl
 obtain ⟨x, hx⟩ := Kc (l := (visit l v).2) (k := (visit l v).2.length - 1) (by omega)
 have hsz := K5i (Kaj l v x (Ks hx))
 have hlt : (((visit l v).2.length - 1 : Nat) : Int) < ((visit l v).2.length : Int) := by omega
 rw [K9u hx]
 have hw1 : IntKind.i64.wrap (((visit l v).2.length : Int) - 1) = (((visit l v).2.length - 1 : Nat) : Int) := by rw [wI (by omega) (by omega)]; omega
 simp only [go_sem, hw1, K4 hx, hlt]
 refine ⟨by omega, ?_⟩
 apply K0 (Cdv x (by omega))
 simp only [go_sem]
def K6o (v : GVisit) (k : Nat) (e : GEntry) : List GCapture := if e.Kind = 1 then [⟨e.Address, IntKind.i64.wrap (v.Tick + k), (follow v.Site e.Address (IntKind.i64.wrap (v.Tick + k))).1⟩] else []
def K1q (v : GVisit) (es : List GEntry) : Nat → List GCapture
 | 0 => []
 | k + 1 => K1q v es k ++ (match es[k]? with | some e => K6o v k e | none => [])
def capsV (v : GVisit) (es : List GEntry) : List GCapture := K1q v es es.length
theorem K8m {v : GVisit} {es : List GEntry} {k : Nat} {e : GEntry} (h : es[k]? = some e) (h1 : e.Kind = 1) : K1q v es (k + 1) = K1q v es k ++ [⟨e.Address, IntKind.i64.wrap (v.Tick + k), (follow v.Site e.Address (IntKind.i64.wrap (v.Tick + k))).1⟩] := by
 rw [K1q, h]; simp only [K6o, if_pos h1]
theorem Ka0 {v : GVisit} {es : List GEntry} {k : Nat} {e : GEntry} (h : es[k]? = some e) (h1 : ¬ e.Kind = 1) : K1q v es (k + 1) = K1q v es k := by
 rw [K1q, h]; simp only [K6o, if_neg h1, List.append_nil]
theorem K4y {v : GVisit} {es : List GEntry} : ∀ k, (K1q v es k).length ≤ k
 | 0 => Nat.le_refl _
 | k + 1 => by
  have ih := K4y (v := v) (es := es) k
  rw [K1q, List.length_append]
  have : (match es[k]? with | some e => K6o v k e | none => []).length ≤ 1 := by
   split
   ·unfold K6o; split <;> simp
   ·simp
  omega
def M9r : MC :=
(Zs [.box 3 0 (.s 1), .nilo 4 1 9] [0,3] (Zs [mS 13 0, lT 14 4 3, .call 15 [2, 3, 4, 5] (.f N34) [.s 13, .s 14], mS 12 15, .ext 16 (.s 12) 0, .ext 17 (.s 12) 1, .alloc 6 6 [pz, .emp 1, .emp 1, .emp 1], mS 5 16, sS 4 6 17] [3,5] (Zs [.nilo 7 1 9] [3,5,7] (.seq (Zs [mS 18 5, nS 19 18, .mv 20 (ci 0)] [3,7,18,19,20] (.block 0 (.loop ([3,7,18,19,20], [3,4,5,6,7,8,9,10,11]) (Zs [bS 21 .lss 20 19] [3,7,18,19,20,21] (.seq (cX 21 0)
(.seq (.block 1 (Zs [mS 22 20, xS 23 5 18 20, lT 24 5 23, .alloc 9 7 [pz, pz, pz, pz, pz], mS 8 22, sS 5 9 24] [3,7,8,9,18,19,20] (Zs [fS 25 9 0, lF 26 1 25, bC 27 .eql 26 1] [3,7,8,9,18,19,20,27] (.cond (.s 27) (Zs [fS 29 3 0, lF 30 1 29, fS 31 9 1, lT 32 3 31, fS 33 3 1, lF 34 1 33, mS 35 8, bS 36 .add 34 35, .call 37 [8, 9] (.f N4i) [.s 30, .s 32, .s 36], mS 28 37, .ext 38 (.s 28) 0, .ext 39 (.s 28) 1, .alloc 10 10 [pz, .emp 1, pz, pz, pz], sS 5 10 38, mS 11 39] [3,7,8,9,10,18,19,20] (pr [mS 40 7, fS 41 9 1, lT 42 3 41, fS 43 3 1, lF 44 1 43, mS 45 8, bS 46 .add 44 45, lT 47 5 10, .build 48 [pz, pz, pz, pz, pz, .emp 1, pz, pz, pz] [(0, 3, .s 42), (3, 1, .s 46), (4, 5, .s 47)], .lit 49 11 9 88 [.s 48], .app 50 1 9 88 (.s 40) (.s 49), mS 7 50] [3,7,18,19,20])) .skip))))
(pr [bC 51 .add 20 1, mS 20 51] [3,7,18,19,20])))))))
(Zs [mS 52 7, mS 4 52] [4] .ret)))))
theorem Ch5 (l : List GOp) (v : GVisit) (hv : v.Site.length + (v.Site.map GVersion.size).sum ≤ 1073741824) : Ctr Tryz.prog N89 [aL 4 (l.map GOp.enc), aS v.enc] [rL 9 ((capsV v (visit l v).1).map GCapture.enc)] := by
 refine cA M9r 12 53 [(.tmp 4, [true])] Tryz.func258 rfl rfl ?_; unfold M9r
 intro hb
 clear hb
 simp only [go_sem]
 apply K0 (C7k l v hv)
 simp only [go_sem]
 intros
 have hn := (K2s l v).1
 generalize (visit l v).1 = es at *
 refine K6 es (fun k => [(7, .val false [.ref 1 0 9 0 (K1q v es k).length]), (20, vI k)]) (fun k => [(1, ⟨0, .row true 9 ((K1q v es k).map GCapture.enc)⟩)]) (fun _ => True) (by simp only [roomB]; omega) ?_
 simp only [go_sem]
 refine ⟨?_, trivial, ?_, ?_⟩
 ·simp only [go_sem, K1q]
  try exact ⟨rfl, rfl⟩
 ·intro k e hx _ h0 h1 hw
  have hl := K4y (v := v) (es := es) k
  have hk := Kl hx
  simp only [go_sem, K4 hx, h0, h1, hw]
  refine ⟨fun hA => ?_, fun hA => ?_⟩
  ·apply K0 (Cch v.Site e.Address _ hv)
   simp only [go_sem, K8m hx hA, hw, List.length_append]
   intros
   exact ⟨by decide, by simp only [roomB]; omega, by rw [List.map_append]; rfl⟩
  ·simp only [go_sem, Ka0 hx hA]
 ·intro _
  simp only [go_sem]
  rfl
def M9s : MC :=
(Zs [.box 3 0 (.s 1), .nilo 4 1 9] [0,3] (Zs [.lit 11 1 9 88 [], mS 5 11] [0,3,5] (Zs [mS 13 0, lT 14 4 3, .call 15 [2, 3, 4, 5] (.f N33) [.s 13, .s 14], mS 12 15, .ext 16 (.s 12) 0, .ext 17 (.s 12) 1, .alloc 7 6 [pz, .emp 1, .emp 1, .emp 1], mS 6 16, sS 4 7 17] [3,5,6] (.seq (Zs [.mv 8 (ci 0)] [3,5,6,8] (.block 0 (.loop ([3,5,6,8], [3,4,5,6,7,8,9,10]) (.seq (Zs [mS 18 8, mS 19 6, nS 20 19, bS 21 .lss 18 20] [3,5,6,8,21] (cX 21 0))
(.seq (.block 1 (Zs [mS 24 6, mS 25 8, xS 26 5 24 25, fS 27 26 0, lF 28 1 27, bC 29 .eql 28 1] [3,5,6,8,29] (.cond (.s 29) (.seq (.dreg [Zf [9,33,34,35,36,37,38,39,40,41] [9] (fS 31 3 0), Zg [9,33,34,35,36,37,38,39,40,41] [9] [0] (lF 32 1 31), Zf [9,31,32,34,38,39,40,41] [9] (mS 33 6), Zf [9,31,32,33,38,39,40,41] [9] (mS 34 8), Zg [9,31,32,38,39,40,41] [9] [2,3] (xS 35 5 33 34), Zg [9,31,32,38,39,40,41] [9] [2,3,4] (fS 36 35 1), Zg [9,31,32,38,39,40,41] [9] [2,3,4,5] (lT 37 3 36), Zf [9,31,32,33,34,35,36,37,40] [9] (fS 38 3 1), Zg [9,31,32,33,34,35,36,37,40] [9] [7] (lF 39 1 38), Zf [9,31,32,33,34,35,36,37,38,39] [9] (mS 40 8), Zg [9,31,32,33,34,35,36,37] [9] [7,8,9] (bS 41 .add 39 40), { o := .call 42 [7, 8] (.f N4h) [.s 32, .s 37, .s 41], hs := [9], ho := [9], ws := [7,8], bf := (.range 11) }, Zg [9] [9] (.range 12) (mS 30 42), Zg [9,44] [9] (.range 13) (.ext 43 (.s 30) 0), Zg [9,43] [7,9] (.range 13) (.ext 44 (.s 30) 1), { o := .alloc 9 9 [pz, .emp 1, pz, pz, pz], hs := [30,31,32,33,34,35,36,37,38,39,40,41,42,43,44], ho := [7,8], ws := [9] }, { o := sS 5 9 43, hs := [44], ws := [7,9], bf := [0,1,2,3,4,5,6,7,8,9,10,11,12,13,15] }, Ze (.range 17) (mS 10 44)] [3,5,6,8,9])
(.dreg [Zf [46,47,48,49,50,51,52,53,54,55,56,57] [7,10] (mS 45 5), Zc [45,47,51,52,53,54,55] (mS 46 6), Zc [45,46,51,52,53,54,55] (mS 47 8), Zd [45,51,52,53,54,55] [1,2] (xS 48 5 46 47), Zd [45,51,52,53,54,55] [1,2,3] (fS 49 48 1), Zd [45,51,52,53,54,55] [1,2,3,4] (lT 50 3 49), Zc [45,46,47,48,49,50,53,55] (fS 51 3 1), Zd [45,46,47,48,49,50,53,55] [6] (lF 52 1 51), Zc [45,46,47,48,49,50,51,52,55] (mS 53 8), Zd [45,46,47,48,49,50,55] [6,7,8] (bS 54 .add 52 53), Zc [45,46,47,48,49,50,51,52,53,54] (lT 55 5 9), Zd [45] [1,2,3,4,5,6,7,8,9,10] (.build 56 [pz, pz, pz, pz, pz, .emp 1, pz, pz, pz] [(0, 3, .s 50), (3, 1, .s 54), (4, 5, .s 55)]), { o := .lit 57 10 9 88 [.s 56], hs := [45], ws := [7,10], bf := [1,2,3,4,5,6,7,8,9,10,11] }, { o := .app 58 1 9 88 (.s 45) (.s 57), ws := [1,10], bf := (.range 13) }, Ze (.range 14) (mS 5 58)] [3,5,6,8])) .skip)))
(pr [mS 22 8, bC 23 .add 22 1, mS 8 23] [3,5,6,8]))))))
(Zs [mS 59 5, mS 4 59] [4] .ret)))))
theorem Ch6 (l : List GOp) (v : GVisit) (hv : v.Site.length + (v.Site.map GVersion.size).sum ≤ 1073741824) : Ctr Tryz.prog N87 [aL 4 (l.map GOp.enc), aS v.enc] [rL 9 ((capsV v (visit l v).1).map GCapture.enc)] := by
 refine cA M9s 11 60 [(.tmp 4, [true])] Tryz.func249 rfl rfl ?_; unfold M9s
 intro hb
 clear hb
 simp only [go_sem]
 apply K0 (C7m l v hv)
 simp only [go_sem]
 intros
 have hn := (K2s l v).1
 generalize (visit l v).1 = es at *
 refine K6 es (fun k => [(5, .val false [.ref 1 0 9 0 (K1q v es k).length]), (8, vI k)]) (fun k => [(1, ⟨0, .row true 9 ((K1q v es k).map GCapture.enc)⟩)]) (fun _ => True) (by simp only [roomB]; omega) ?_
 simp only [go_sem]
 refine ⟨?_, trivial, ?_, ?_⟩
 ·simp only [go_sem, K1q]
  try exact ⟨rfl, rfl⟩
 ·intro k e hx _ h0 h1 hw
  have hl := K4y (v := v) (es := es) k
  have hk := Kl hx
  simp only [go_sem, K4 hx, h0, h1, hw]
  refine ⟨fun hA => ?_, fun hA => ?_⟩
  ·apply K0 (Ccj v.Site e.Address _ hv)
   simp only [go_sem, K4 hx, h0, h1, K8m hx hA, hw, List.length_append]
   intros
   exact ⟨by decide, by simp only [roomB]; omega, by rw [List.map_append]; rfl⟩
  ·simp only [go_sem, Ka0 hx hA]
 ·intro _
  simp only [go_sem]
  rfl
theorem K71 {l : List GVersion} {tick : Int} : ∀ {n : Nat} {r : GResource} {q : List GAddress}, r.Body.length ≤ (l.map GVersion.size).sum → (followF l tick n r q).1.Body.length ≤ (l.map GVersion.size).sum
 | 0, r, q, h => h
 | n + 1, r, q, h => by
  rw [followF]
  split
  ·exact K71 K7s
  ·exact h
theorem Kbe {l : List GVersion} {tick : Int} {a : GAddress} : (follow l a tick).1.Body.length ≤ (l.map GVersion.size).sum := K71 K7s
theorem K7o {v : GVisit} {es : List GEntry} : ∀ k, ((K1q v es k).map GCapture.size).sum ≤ k * (v.Site.map GVersion.size).sum
 | 0 => by simp [K1q]
 | k + 1 => by
  have ih := K7o (v := v) (es := es) k
  rw [K1q, List.map_append, List.sum_append, Nat.succ_mul]
  have : ((match es[k]? with | some e => K6o v k e | none => []).map GCapture.size).sum ≤ (v.Site.map GVersion.size).sum := by
   split
   ·unfold K6o
    split
    ·simp only [List.map_cons, List.map_nil, List.sum_cons, List.sum_nil, GCapture.size, GResource.size]
     have := Kbe (l := v.Site) (tick := IntKind.i64.wrap (v.Tick + k)) (a := (by assumption : GEntry).Address)
     omega
    ·simp
   ·simp
  omega
def madeC (l : List GOp) (v : GVisit) : GContainer := ⟨l, (visit l v).1, capsV v (visit l v).1, K6d l (visit l v).1 (capsV v (visit l v).1)⟩
def emptyC : GContainer := ⟨[], [], [], 0⟩
def K12 (l : List GOp) (v : GVisit) : Bool := K18 l && K27 v
def K10 (l : List GOp) (v : GVisit) : GContainer := if K12 l v then madeC l v else emptyC
theorem K6g {v : GVisit} {es : List GEntry} (hn : es.length ≤ 20) (hv : (v.Site.map GVersion.size).sum ≤ 16777216) : (capsV v es).length + ((capsV v es).map GCapture.size).sum ≤ 335544340 := by
 have h1 := K4y (v := v) (es := es) es.length
 have h2 := K7o (v := v) (es := es) es.length
 have h3 : es.length * (v.Site.map GVersion.size).sum ≤ 20 * 16777216 := Nat.mul_le_mul hn hv
 unfold capsV
 omega
def Y35 (v0 : Nat) (v1 : Nat) (v2 : Nat) (v3 : Nat) (v4 : Nat) : MC :=
(Zs [.box 3 0 (.s 1), .alloc 4 1 [.emp 4, .emp 5, .emp 9, pz], .mv 5 cF] [0,3,4] (.seq (.seq (.reg [Za (mS 8 0), Za (.call 9 [] (.f v0) [.s 8]), Za (.un 10 .not (.s 9)), Za (mS 11 10), Zb 11 false (lT 12 4 3), Zb 11 false (.call 13 [] (.f v1) [.s 12]), Zb 11 false (.un 14 .not (.s 13)), Za (.pick 15 (.s 11) cT (.s 14))] [0,3,4,15])
(.cond (.s 15) (Zs [.build 16 [.emp 4, .emp 5, .emp 9, pz] [], sS 4 4 16, .mv 5 cF] [4,5] .ret) .skip))
(Zs [mS 18 0, lT 19 4 3, .call 20 [2, 3, 4, 5] (.f v2) [.s 18, .s 19], mS 17 20, .ext 21 (.s 17) 0, .ext 22 (.s 17) 1, .alloc 7 6 [pz, .emp 1, .emp 1, .emp 1], mS 6 21, sS 4 7 22] [0,3,4,6] (Zs [mS 23 0, mS 24 6, mS 25 0, lT 26 4 3, .call 27 [7] (.f v3) [.s 25, .s 26], .call 28 [8, 9, 10] (.f v4) [.s 23, .s 24, .s 27], sS 4 4 28, .mv 5 cT] [4,5] .ret))))
attribute [go_sem] Y35
def M6b : MC := Y35 N1z N27 N34 N89 N2d
theorem Cfq (l : List GOp) (v : GVisit) (hl : l.length ≤ 1073741824) (hv : v.Site.length + (v.Site.map GVersion.size).sum ≤ 16777216) : Ctr Tryz.prog N5c [aL 4 (l.map GOp.enc), aS v.enc] [rS (K10 l v).enc, rB (K12 l v)] := by
 refine cA M6b 11 29 [(.cell 4 true 4, [true, true, true, false]), (.tmp 5, [false])] Tryz.func133 rfl rfl ?_; unfold M6b
 intro hb
 clear hb
 simp only [go_sem]
 apply K0 (C2z l)
 simp only [go_sem]
 repeat' first
  | (refine And.intro ?_ ?_ <;> intro h)
  | (apply K0 (C3a v); simp only [go_sem])
 ·have hc : K12 l v = false := by unfold K12; simp_all
  rw [K10, hc]
  exact ⟨⟨rfl, rfl, rfl, rfl⟩, rfl⟩
 ·have hc : K12 l v = false := by unfold K12; simp_all
  rw [K10, hc]
  exact ⟨⟨rfl, rfl, rfl, rfl⟩, rfl⟩
 ·have hc : K12 l v = true := by unfold K12; simp_all
  have hn := (K2s l v).1
  have hz := K6g hn (v := v) (by omega)
  apply K0 (C7k l v (by omega))
  simp only [go_sem]
  intros
  apply K0 (Ch5 l v (by omega))
  simp only [go_sem]
  intros
  apply K0 (C4v l (visit l v).1 (capsV v (visit l v).1) hl (by omega) (by omega))
  simp only [go_sem]
  intros
  rw [K10, hc, if_pos rfl]
  exact ⟨⟨rfl, rfl, rfl, rfl⟩, rfl⟩
def M6c : MC := Y35 N1y N38 N33 N87 N1j
theorem Cfr (l : List GOp) (v : GVisit) (hl : l.length ≤ 1073741824) (hv : v.Site.length + (v.Site.map GVersion.size).sum ≤ 16777216) : Ctr Tryz.prog N5b [aL 4 (l.map GOp.enc), aS v.enc] [rS (K10 l v).enc, rB (K12 l v)] := by
 refine cA M6c 11 29 [(.cell 4 true 4, [true, true, true, false]), (.tmp 5, [false])] Tryz.func129 rfl rfl ?_; unfold M6c
 intro hb
 clear hb
 simp only [go_sem]
 apply K0 (C30 l)
 simp only [go_sem]
 repeat' first
  | (refine And.intro ?_ ?_ <;> intro h)
  | (apply K0 (C3b v); simp only [go_sem])
 ·have hc : K12 l v = false := by unfold K12; simp_all
  rw [K10, hc]
  exact ⟨⟨rfl, rfl, rfl, rfl⟩, rfl⟩
 ·have hc : K12 l v = false := by unfold K12; simp_all
  rw [K10, hc]
  exact ⟨⟨rfl, rfl, rfl, rfl⟩, rfl⟩
 ·have hc : K12 l v = true := by unfold K12; simp_all
  have hn := (K2s l v).1
  have hz := K6g hn (v := v) (by omega)
  apply K0 (C7m l v (by omega))
  simp only [go_sem]
  intros
  apply K0 (Ch6 l v (by omega))
  simp only [go_sem]
  intros
  apply K0 (C2j l (visit l v).1 (capsV v (visit l v).1) hl (by omega) (by omega))
  simp only [go_sem]
  intros
  rw [K10, hc, if_pos rfl]
  exact ⟨⟨rfl, rfl, rfl, rfl⟩, rfl⟩
end Go.Proofs.YtgkeplbnnjogiaaGreatR
namespace Go.Proofs.YtgkeplbnnjogiaaGreatR
open Go Go.RowKit Go.Proofs
open Nat (reduceEqDiff reduceLT reduceLeDiff reduceAdd reduceMul)
open List (reduceReplicate)
def Kq (a : GArchive) (seed : Int) (ins : List Int) : GVisit := ⟨a.Site, a.Now, seed, ins⟩
def K90 (a : GArchive) (root : Int) (k : Nat) (key : Int) : GStatement := K39 key ⟨k, root, a.Now, 0⟩
def K1m (a : GArchive) (root : Int) : Nat → List GStatement
 | 0 => []
 | k + 1 => K1m a root k ++ (match a.Keys[k]? with | some key => [K90 a root k key] | none => [])
theorem K8h {a : GArchive} {root : Int} {k : Nat} {key : Int} (h : a.Keys[k]? = some key) : K1m a root (k + 1) = K1m a root k ++ [K90 a root k key] := by
 rw [K1m, h]
theorem K4f {a : GArchive} {root : Int} : ∀ k, (K1m a root k).length ≤ k
 | 0 => Nat.le_refl _
 | k + 1 => by
  have ih := K4f (a := a) (root := root) k
  rw [K1m, List.length_append]
  split <;> simp <;> omega
def K1b (a : GArchive) (seed : Int) (ins : List Int) : Bool := K12 a.Script (Kq a seed ins) && (decide (a.Statements.length + a.Keys.length ≤ 40) && K20 a.Disk (madeC a.Script (Kq a seed ins)))
def Kv (a : GArchive) (seed : Int) (ins : List Int) : GArchive :=
 if K1b a seed ins then { a with Disk := K2c a.Disk (madeC a.Script (Kq a seed ins)), Statements := a.Statements ++ K1m a (madeC a.Script (Kq a seed ins)).Root a.Keys.length } else a
theorem emptyC_no : K1e emptyC = false := by decide
theorem Ka8 (d : GDisk) : K20 d emptyC = false := by simp [K20, emptyC_no]
theorem K68 {l : List GOp} {v : GVisit} (hl : l.length ≤ 16777216) (hv : (v.Site.map GVersion.size).sum ≤ 16777216) : (K10 l v).size ≤ 500000000 := by
 unfold K10
 split
 ·have hn := (K2s l v).1
  have hz := K6g hn (v := v) hv
  simp only [GContainer.size, madeC]
  omega
 ·decide
theorem visit_size {a : GArchive} (seed : Int) (ins : List Int) (hs : a.size ≤ 16777216) : (Kv a seed ins).size ≤ 600000000 := by
 unfold Kv
 split
 ·have hsA := hs
  simp only [GArchive.size] at hsA
  have hv : ((Kq a seed ins).Site.map GVersion.size).sum ≤ 16777216 := by simp only [Kq]; omega
  have hn := (K2s a.Script (Kq a seed ins)).1
  have hz := K6g hn (v := Kq a seed ins) hv
  have hf := Kaw a.Disk (madeC a.Script (Kq a seed ins))
  have hm : (madeC a.Script (Kq a seed ins)).size ≤ 500000000 := by simp only [GContainer.size, madeC]; omega
  have hl := K4f (a := a) (root := (madeC a.Script (Kq a seed ins)).Root) a.Keys.length
  simp only [GArchive.size, List.length_append] at *
  omega
 ·omega
def Mbf : MC :=
(Zs [.box 3 0 (.s 0), .alloc 6 1 [.emp 9, .emp 4, .emp 4, .emp 6, .emp 4, .emp 5, .emp 4, .emp 1, .emp 4, pz], .mv 7 cF] [1,2,3,6] (Zs [lT 16 10 3, .call 17 [2, 3, 4, 5, 6, 7, 8, 9, 10] (.f N6l) [.s 16], .alloc 8 11 [.emp 9, .emp 4, .emp 4, .emp 6, .emp 4, .emp 5, .emp 4, .emp 1, .emp 4, pz], sS 10 8 17] [1,2,3,6,8] (Zs [fS 18 3 0, lF 19 1 18, fS 20 3 9, lF 21 1 20, mS 22 1, mS 23 2, .build 24 [.emp 9, pz, pz, .emp 1] [(0, 1, .s 19), (1, 1, .s 21), (2, 1, .s 22), (3, 1, .s 23)], .alloc 9 12 [.emp 9, pz, pz, .emp 1], sS 4 9 24] [3,6,8,9] (.seq (Zs [lT 25 4 9, .call 26 [] (.f N27) [.s 25], .un 27 .not (.s 26)] [3,6,8,9,27] (.cond (.s 27) (Zs [lT 28 10 8, sS 10 6 28, .mv 7 cF] [6,7] .ret) .skip))
(Zs [fS 30 3 1, lF 31 1 30, lT 32 4 9, .call 33 [13, 14, 15] (.f N5c) [.s 31, .s 32], mS 29 33, .ext 34 (.s 29) 0, .ext 35 (.s 29) 1, .alloc 10 16 [.emp 4, .emp 5, .emp 9, pz], sS 4 10 34, mS 11 35] [3,6,8,10] (Zs [fS 37 3 2, lT 38 3 37, lT 39 4 10, .call 40 [17, 18, 19] (.f N81) [.s 38, .s 39], mS 36 40, .ext 41 (.s 36) 0, .ext 42 (.s 36) 1, .alloc 12 20 [.emp 4, .emp 6, .emp 4], sS 3 12 41, mS 13 42] [3,6,8,10,12,13] (.seq (.seq (.reg [Za (mS 43 13), Za (.un 44 .not (.s 43)), Za (mS 45 44), Zb 45 false (fS 46 3 8), Zb 45 false (lF 47 1 46), Zb 45 false (nS 48 47), Zb 45 false (fS 49 3 7), Zb 45 false (lF 50 1 49), Zb 45 false (nS 51 50), Zb 45 false (bS 52 .add 48 51), Zb 45 false (bC 53 .gtr 52 40), Za (.pick 54 (.s 45) cT (.s 53))] [3,6,8,10,12,54])
(.cond (.s 54) (Zs [lT 55 10 8, sS 10 6 55, .mv 7 cF] [6,7] .ret) .skip))
(Zs [lT 56 3 12, fS 57 8 2, sS 3 57 56] [3,6,8,10] (.seq (Zs [fS 58 3 7, lF 59 1 58, nS 60 59, .mv 61 (ci 0)] [3,6,8,10,59,60,61] (.block 0 (.loop ([3,6,8,10,59,60,61], [12,20,21]) (Zs [bS 62 .lss 61 60] [3,6,8,10,59,60,61,62] (.seq (cX 62 0)
(.seq (.block 1 (Zs [mS 63 61, xS 64 1 59 61, lF 65 1 64, mS 14 63, mS 15 65] [3,6,8,10,14,15,59,60,61] (.dreg [Zf [68,69,70,71,72,73,74,75,76] [21] (fS 66 8 8), Zg [68,69,70,71,72,73,74,75,76] [21] [0] (lF 67 1 66), Zc [66,67,69,70,71,72,73,74] (mS 68 15), Zc [66,67,68,70,71,72,73] (mS 69 14), Zc [66,67,68,69,72,73] (fS 70 10 3), Zd [66,67,68,69,72,73] [4] (lF 71 1 70), Zc [66,67,68,69,70,71] (fS 72 3 9), Zd [66,67,68,69,70,71] [6] (lF 73 1 72), Zd [66,67,68] [3,4,5,6,7] (.build 74 [pz, pz, pz, pz] [(0, 1, .s 69), (1, 1, .s 71), (2, 1, .s 73)]), Zd [66,67] [2,3,4,5,6,7,8] (.call 75 [] (.f N4c) [.s 68, .s 74]), { o := .lit 76 21 4 32 [.s 75], hs := [66,67], ws := [21], bf := [2,3,4,5,6,7,8,9] }, { o := .app 77 10 4 32 (.s 67) (.s 76), ws := [10], bf := (.range 11) }, Ze (.range 12) (fS 78 8 8), { o := sS 1 78 77, ws := [10,11], bf := (.range 13) }] [3,6,8,10,59,60,61])))
(pr [bC 79 .add 61 1, mS 61 79] [3,6,8,10,59,60,61])))))))
(Zs [lT 80 10 8, sS 10 6 80, .mv 7 cT] [6,7] .ret))))))))))
set_option maxHeartbeats 2000000 in
theorem Cbg (a : GArchive) (seed : Int) (ins : List Int) (hs : a.size ≤ 16777216) : Ctr Tryz.prog N3u [aS a.enc, aI seed, aL 1 (ins.map encI)] [rS (Kv a seed ins).enc, rB (K1b a seed ins)] := by
 refine cA Mbf 22 81 [(.cell 6 true 10, [true, true, true, true, true, true, true, true, true, false]), (.tmp 7, [false])] Tryz.func49 rfl rfl ?_; unfold Mbf
 intro hb
 clear hb
 have hsA := hs
 simp only [GArchive.size] at hsA
 have hl : a.Script.length ≤ 16777216 := by omega
 have hv : (Kq a seed ins).Site.length + ((Kq a seed ins).Site.map GVersion.size).sum ≤ 16777216 := by simp only [Kq]; omega
 have hd : a.Disk.size ≤ 16777216 := by omega
 have hx := K68 (l := a.Script) (v := Kq a seed ins) hl (by omega)
 have hw40 : IntKind.i64.wrap ((a.Statements.length : Int) + a.Keys.length) = ((a.Statements.length + a.Keys.length : Nat) : Int) := by rw [wI (by omega) (by omega)]; omega
 simp only [go_sem]
 apply K0 (Cgb a (by omega))
 simp only [go_sem]
 intros
 apply K0 (C3a (Kq a seed ins))
 simp only [go_sem]
 refine ⟨fun h1 => ?_, fun h1 => ?_⟩
 ·have hF : K1b a seed ins = false := by simp [K1b, K12, h1]
  rw [Kv, hF]
  exact ⟨⟨rfl, rfl, rfl, rfl, rfl, rfl, rfl, rfl, rfl, rfl⟩, rfl⟩
 apply K0 (Cfq a.Script (Kq a seed ins) (by omega) hv)
 simp only [go_sem]
 intros
 apply K0 (Cgz a.Disk (K10 a.Script (Kq a seed ins)) (by omega) (by omega))
 simp only [go_sem, hw40]
 intros
 refine ⟨fun h2 => ?_, fun h2 => ⟨fun h3 => ?_, fun h3 => ?_⟩⟩
 ·have hF : K1b a seed ins = false := by
   cases hc : K12 a.Script (Kq a seed ins)
   ·simp [K1b, hc]
   ·rw [K10, hc, if_pos rfl] at h2
    simp [K1b, h2]
  rw [Kv, hF]
  exact ⟨⟨rfl, rfl, rfl, rfl, rfl, rfl, rfl, rfl, rfl, rfl⟩, rfl⟩
 ·have hF : K1b a seed ins = false := by
   have : ¬ a.Statements.length + a.Keys.length ≤ 40 := by omega
   simp [K1b, this]
  rw [Kv, hF]
  exact ⟨⟨rfl, rfl, rfl, rfl, rfl, rfl, rfl, rfl, rfl, rfl⟩, rfl⟩
 have hc : K12 a.Script (Kq a seed ins) = true := by
  cases hc : K12 a.Script (Kq a seed ins)
  ·rw [K10, hc, if_neg Bool.false_ne_true, Ka8] at h2; cases h2
  ·rfl
 rw [show K10 a.Script (Kq a seed ins) = madeC a.Script (Kq a seed ins) by rw [K10, hc, if_pos rfl]] at h2 hx ⊢
 have hT : K1b a seed ins = true := by
  have : a.Statements.length + a.Keys.length ≤ 40 := by omega
  simp [K1b, hc, h2, this]
 have eT : Kv a seed ins = { a with Disk := K2c a.Disk (madeC a.Script (Kq a seed ins)), Statements := a.Statements ++ K1m a (madeC a.Script (Kq a seed ins)).Root a.Keys.length } := by rw [Kv, if_pos hT]
 rw [eT, hT]
 generalize K2c a.Disk (madeC a.Script (Kq a seed ins)) = d
 generalize madeC a.Script (Kq a seed ins) = x at hx ⊢
 have h40 : a.Statements.length + a.Keys.length ≤ 40 := by omega
 refine K6 a.Keys (fun k => [(61, vI k)]) (fun k => [(10, ⟨0, .row true 4 ((a.Statements ++ K1m a x.Root k).map GStatement.enc)⟩), (11, ⟨0, .box [.ref 2 0 9 0 a.Site.length, .ref 3 0 4 0 a.Script.length, .ref 17 0 4 0 d.Containers.length, .ref 18 0 6 0 d.Index.length, .ref 19 0 4 0 d.Wanted.length, .ref 7 0 5 0 a.Exclusions.length, .ref 8 0 4 0 a.Libraries.length, .ref 9 0 1 0 a.Keys.length, .ref 10 0 4 0 (a.Statements ++ K1m a x.Root k).length, .pl (tI a.Now)]⟩)]) (fun _ => True) (by simp only [roomB]; omega) ?_
 simp only [go_sem]
 refine ⟨?_, trivial, ?_, ?_⟩
 ·simp only [go_sem, K1m, List.append_nil]
  try exact ⟨rfl, rfl⟩
 ·intro k key hk _ h0 h1 hw
  have hsl := K4f (a := a) (root := x.Root) k
  have hkl := Kl hk
  simp only [go_sem, K4 hk, h0, h1]
  apply K0 (Ceb key ⟨k, x.Root, a.Now, 0⟩)
  simp only [go_sem, hw]
  try intros
  rw [K8h hk]
  refine ⟨by decide, by simp only [roomB, List.length_append]; omega, fun _ => ⟨?_, ?_⟩⟩
  ·rw [← List.append_assoc]; exact (List.map_append (f := GStatement.enc) (l₁ := a.Statements ++ K1m a x.Root k) (l₂ := [K90 a x.Root k key])).symm
  ·simp only [List.length_append, List.length_cons, List.length_nil]; omega
 ·intro _
  simp only [go_sem]
def Mbh : MC :=
(Zs [.box 3 0 (.s 0), .alloc 6 1 [.emp 9, .emp 4, .emp 4, .emp 6, .emp 4, .emp 5, .emp 4, .emp 1, .emp 4, pz], .mv 7 cF] [1,2,3,6] (Zs [lT 15 10 3, .call 16 [2, 3, 4, 5, 6, 7, 8, 9, 10] (.f Ncs) [.s 15], .alloc 8 11 [.emp 9, .emp 4, .emp 4, .emp 6, .emp 4, .emp 5, .emp 4, .emp 1, .emp 4, pz], sS 10 8 16] [1,2,3,6,8] (Zs [fS 17 3 0, lF 18 1 17, fS 19 3 9, lF 20 1 19, mS 21 1, mS 22 2, .build 23 [.emp 9, pz, pz, .emp 1] [(0, 1, .s 18), (1, 1, .s 20), (2, 1, .s 21), (3, 1, .s 22)], .alloc 9 12 [.emp 9, pz, pz, .emp 1], sS 4 9 23] [3,6,8,9] (Zs [fS 25 3 1, lF 26 1 25, lT 27 4 9, .call 28 [13, 14, 15] (.f N5b) [.s 26, .s 27], mS 24 28, .ext 29 (.s 24) 0, .ext 30 (.s 24) 1, .alloc 10 16 [.emp 4, .emp 5, .emp 9, pz], sS 4 10 29, mS 11 30] [3,6,8,10,11] (.seq (.seq (.reg [Za (mS 31 11), Za (.un 32 .not (.s 31)), Za (mS 33 32), Zb 33 false (fS 34 3 8), Zb 33 false (lF 35 1 34), Zb 33 false (nS 36 35), Zb 33 false (fS 37 3 7), Zb 33 false (lF 38 1 37), Zb 33 false (nS 39 38), Zb 33 false (bS 40 .add 36 39), Zb 33 false (bC 41 .gtr 40 40), Za (.pick 42 (.s 33) cT (.s 41))] [3,6,8,10,42])
(.cond (.s 42) (Zs [lT 43 10 8, sS 10 6 43, .mv 7 cF] [6,7] .ret) .skip))
(Zs [fS 45 3 2, lT 46 3 45, lT 47 4 10, .call 48 [17, 18, 19] (.f N80) [.s 46, .s 47], mS 44 48, .ext 49 (.s 44) 0, .ext 50 (.s 44) 1, .alloc 12 20 [.emp 4, .emp 6, .emp 4], sS 3 12 49, mS 13 50] [3,6,8,10,12,13] (.seq (Zs [mS 51 13, .un 52 .not (.s 51)] [3,6,8,10,12,52] (.cond (.s 52) (Zs [lT 53 10 8, sS 10 6 53, .mv 7 cF] [6,7] .ret) .skip))
(Zs [lT 54 3 12, fS 55 8 2, sS 3 55 54] [3,6,8,10] (.seq (Zs [.mv 14 (ci 0)] [3,6,8,10,14] (.block 0 (.loop ([3,6,8,10,14], [12,20,21]) (.seq (Zs [mS 56 14, fS 57 3 7, lF 58 1 57, nS 59 58, bS 60 .lss 56 59] [3,6,8,10,14,60] (cX 60 0))
(.seq (.block 1 (.dreg [Zf [65,66,67,68,69,70,71,72,73,74,75,76,77] [21] (fS 63 8 8), Zg [65,66,67,68,69,70,71,72,73,74,75,76,77] [21] [0] (lF 64 1 63), Zc [63,64,67,70,71,72,73,74,75] (fS 65 3 7), Zd [63,64,67,70,71,72,73,74,75] [2] (lF 66 1 65), Zc [63,64,65,66,70,71,72,73,74,75] (mS 67 14), Zd [63,64,70,71,72,73,74,75] [2,3,4] (xS 68 1 66 67), Zd [63,64,70,71,72,73,74,75] [2,3,4,5] (lF 69 1 68), Zc [63,64,65,66,67,68,69,71,72,73,74] (mS 70 14), Zc [63,64,65,66,67,68,69,70,73,74] (fS 71 10 3), Zd [63,64,65,66,67,68,69,70,73,74] [8] (lF 72 1 71), Zc [63,64,65,66,67,68,69,70,71,72] (fS 73 3 9), Zd [63,64,65,66,67,68,69,70,71,72] [10] (lF 74 1 73), Zd [63,64,65,66,67,68,69] [7,8,9,10,11] (.build 75 [pz, pz, pz, pz] [(0, 1, .s 70), (1, 1, .s 72), (2, 1, .s 74)]), Zd [63,64] [2,3,4,5,6,7,8,9,10,11,12] (.call 76 [] (.f N4b) [.s 69, .s 75]), { o := .lit 77 21 4 32 [.s 76], hs := [63,64], ws := [21], bf := [2,3,4,5,6,7,8,9,10,11,12,13] }, { o := .app 78 10 4 32 (.s 64) (.s 77), ws := [10], bf := (.range 15) }, Ze (.range 16) (fS 79 8 8), { o := sS 1 79 78, ws := [10,11], bf := (.range 17) }] [3,6,8,10,14]))
(pr [mS 61 14, bC 62 .add 61 1, mS 14 62] [3,6,8,10,14]))))))
(Zs [lT 80 10 8, sS 10 6 80, .mv 7 cT] [6,7] .ret))))))))))
set_option maxHeartbeats 2000000 in
theorem Ci1 (a : GArchive) (seed : Int) (ins : List Int) (hs : a.size ≤ 16777216) : Ctr Tryz.prog Na0 [aS a.enc, aI seed, aL 1 (ins.map encI)] [rS (Kv a seed ins).enc, rB (K1b a seed ins)] := by
 refine cA Mbh 22 81 [(.cell 6 true 10, [true, true, true, true, true, true, true, true, true, false]), (.tmp 7, [false])] Tryz.func48 rfl rfl ?_; unfold Mbh
 intro hb
 clear hb
 have hsA := hs
 simp only [GArchive.size] at hsA
 have hl : a.Script.length ≤ 16777216 := by omega
 have hv : (Kq a seed ins).Site.length + ((Kq a seed ins).Site.map GVersion.size).sum ≤ 16777216 := by simp only [Kq]; omega
 have hd : a.Disk.size ≤ 16777216 := by omega
 have hx := K68 (l := a.Script) (v := Kq a seed ins) hl (by omega)
 have hw40 : IntKind.i64.wrap ((a.Statements.length : Int) + a.Keys.length) = ((a.Statements.length + a.Keys.length : Nat) : Int) := by rw [wI (by omega) (by omega)]; omega
 simp only [go_sem]
 apply K0 (Cin a (by omega))
 simp only [go_sem]
 intros
 apply K0 (Cfr a.Script (Kq a seed ins) (by omega) hv)
 simp only [go_sem, hw40]
 intros
 refine ⟨fun h1 => ?_, fun h1 => ⟨fun h2 => ?_, fun h2 => ?_⟩⟩
 ·have hF : K1b a seed ins = false := by simp [K1b, h1]
  rw [Kv, hF]
  exact ⟨⟨rfl, rfl, rfl, rfl, rfl, rfl, rfl, rfl, rfl, rfl⟩, rfl⟩
 ·have hF : K1b a seed ins = false := by
   have : ¬ a.Statements.length + a.Keys.length ≤ 40 := by omega
   simp [K1b, this]
  rw [Kv, hF]
  exact ⟨⟨rfl, rfl, rfl, rfl, rfl, rfl, rfl, rfl, rfl, rfl⟩, rfl⟩
 apply K0 (Ch0 a.Disk (K10 a.Script (Kq a seed ins)) (by omega) (by omega))
 simp only [go_sem]
 intros
 rw [show K10 a.Script (Kq a seed ins) = madeC a.Script (Kq a seed ins) by rw [K10, h1, if_pos rfl]] at hx ⊢
 refine ⟨fun h3 => ?_, fun h3 => ?_⟩
 ·have hF : K1b a seed ins = false := by simp [K1b, h3]
  rw [Kv, hF]
  exact ⟨⟨rfl, rfl, rfl, rfl, rfl, rfl, rfl, rfl, rfl, rfl⟩, rfl⟩
 have hT : K1b a seed ins = true := by
  have : a.Statements.length + a.Keys.length ≤ 40 := by omega
  simp [K1b, h1, h3, this]
 have eT : Kv a seed ins = { a with Disk := K2c a.Disk (madeC a.Script (Kq a seed ins)), Statements := a.Statements ++ K1m a (madeC a.Script (Kq a seed ins)).Root a.Keys.length } := by rw [Kv, if_pos hT]
 rw [eT, hT]
 generalize K2c a.Disk (madeC a.Script (Kq a seed ins)) = d
 generalize madeC a.Script (Kq a seed ins) = x at hx ⊢
 have h40 : a.Statements.length + a.Keys.length ≤ 40 := by omega
 refine K6 a.Keys (fun k => [(14, vI k)]) (fun k => [(10, ⟨0, .row true 4 ((a.Statements ++ K1m a x.Root k).map GStatement.enc)⟩), (11, ⟨0, .box [.ref 2 0 9 0 a.Site.length, .ref 3 0 4 0 a.Script.length, .ref 17 0 4 0 d.Containers.length, .ref 18 0 6 0 d.Index.length, .ref 19 0 4 0 d.Wanted.length, .ref 7 0 5 0 a.Exclusions.length, .ref 8 0 4 0 a.Libraries.length, .ref 9 0 1 0 a.Keys.length, .ref 10 0 4 0 (a.Statements ++ K1m a x.Root k).length, .pl (tI a.Now)]⟩)]) (fun _ => True) (by simp only [roomB]; omega) ?_
 simp only [go_sem]
 refine ⟨?_, trivial, ?_, ?_⟩
 ·simp only [go_sem, K1m, List.append_nil]
  try exact ⟨rfl, rfl⟩
 ·intro k key hk _ h0 h1 hw
  have hsl := K4f (a := a) (root := x.Root) k
  have hkl := Kl hk
  simp only [go_sem, K4 hk, h0, h1]
  apply K0 (Cec key ⟨k, x.Root, a.Now, 0⟩)
  simp only [go_sem, hw]
  try intros
  rw [K8h hk]
  refine ⟨by decide, by simp only [roomB, List.length_append]; omega, fun _ => ⟨?_, ?_⟩⟩
  ·rw [← List.append_assoc]; exact (List.map_append (f := GStatement.enc) (l₁ := a.Statements ++ K1m a x.Root k) (l₂ := [K90 a x.Root k key])).symm
  ·simp only [List.length_append, List.length_cons, List.length_nil]; omega
 ·intro _
  simp only [go_sem]
end Go.Proofs.YtgkeplbnnjogiaaGreatR
namespace Go.Proofs.YtgkeplbnnjogiaaGreatR
open Go Go.RowKit Go.Proofs
open Nat (reduceEqDiff reduceLT reduceLeDiff reduceAdd reduceMul)
open List (reduceReplicate)
def M3c : MC :=
(Zs [.box 3 0 (.s 0), .mv 6 cF] [1,2,3] (.seq (Zs [mS 19 2, nS 20 19, bC 21 .gtr 20 1048576] [1,2,3,21] (.cond (.s 21) (Zs [.mv 6 cT] [6] .ret) .skip))
(Zs [.mv 7 (ci 1048576)] [1,2,3,7] (Zs [lT 22 10 3, mS 23 7, .call 24 [] (.f N9z) [.s 22, .s 23], mS 7 24] [1,2,3,7] (.seq (Zs [mS 25 7, bC 26 .lss 25 0] [1,2,3,26] (.cond (.s 26) (Zs [.mv 6 cT] [6] .ret) .skip))
(Zs [lT 28 10 3, .call 29 [1, 2, 3, 4, 5, 6, 7, 8, 9] (.f N1p) [.s 28], mS 30 1, mS 31 2, .call 32 [10] (.f N16) [.s 31], .call 33 [11, 12, 13, 14, 15, 16, 17, 18, 19] (.f Na0) [.s 29, .s 30, .s 32], mS 27 33, .ext 34 (.s 27) 0, .ext 35 (.s 27) 1, .alloc 8 20 [.emp 9, .emp 4, .emp 4, .emp 6, .emp 4, .emp 5, .emp 4, .emp 1, .emp 4, pz], sS 10 8 34, mS 9 35] [1,2,3,8,9] (Zs [lT 36 10 3, .call 37 [21, 22, 23, 24, 25, 26, 27, 28, 29] (.f N1p) [.s 36], .alloc 10 30 [.emp 9, .emp 4, .emp 4, .emp 6, .emp 4, .emp 5, .emp 4, .emp 1, .emp 4, pz], sS 10 10 37] [1,2,3,8,9,10] (Zs [mS 38 2, .call 39 [31] (.f N16) [.s 38], mS 11 39] [1,2,3,8,9,10,11] (Zs [lT 41 10 10, mS 42 1, mS 43 11, .call 44 [32, 33, 34, 35, 36, 37, 38, 39, 40] (.f N3u) [.s 41, .s 42, .s 43], mS 40 44, .ext 45 (.s 40) 0, .ext 46 (.s 40) 1, .alloc 12 41 [.emp 9, .emp 4, .emp 4, .emp 6, .emp 4, .emp 5, .emp 4, .emp 1, .emp 4, pz], sS 10 12 45, mS 13 46] [1,2,3,8,9,10,11,12,13] (.seq (.seq (.reg [Za (lT 47 10 12), Za (lT 48 10 8), Za (.call 49 [] (.f N1q) [.s 47, .s 48]), Za (.un 50 .not (.s 49)), Za (mS 51 50), Zb 51 false (mS 52 13), Zb 51 false (mS 53 9), Zb 51 false (.bin 54 true .neq (.s 52) (.s 53)), Za (.pick 55 (.s 51) cT (.s 54))] [1,2,3,8,9,10,11,12,13,55])
(.cond (.s 55) (Zs [.mv 6 cF] [6] .ret) .skip))
(.seq (.seq (.dreg [Zf [57,58] [42,43,44,45,46,47,48,49,50] (lT 56 10 10), Zc [56] (lT 57 10 3), { o := .call 58 [42, 43, 44, 45, 46, 47, 48, 49, 50] (.f N1p) [.s 57], hs := [56], ws := [42,43,44,45,46,47,48,49,50], bf := [1] }, Ze [0,1,2] (.call 59 [] (.f N1q) [.s 56, .s 58]), Ze (.range 4) (.un 60 .not (.s 59))] [1,2,3,8,9,10,11,12,13,60])
(.cond (.s 60) (Zs [.mv 6 cF] [6] .ret) .skip))
(.seq (Zs [mS 61 11, mS 62 2, .call 63 [51] (.f N16) [.s 62], .call 64 [] (.f N2k) [.s 61, .s 63], .un 65 .not (.s 64)] [1,2,3,8,9,10,11,12,13,65] (.cond (.s 65) (Zs [.mv 6 cF] [6] .ret) .skip))
(Zs [.mv 14 (ci 1)] [1,2,3,8,9,10,11,12,13,14] (Zs [lT 66 10 10, mS 67 14, .callI 68 [] (.f N31) [.s 66, .s 67] [21,22,23,24,25,26,27,28,29] [], mS 14 68] [1,2,3,8,9,11,12,13,14] (Zs [mS 69 11, mS 70 14, .callI 71 [] (.f N1x) [.s 69, .s 70] [31] [], mS 14 71] [1,2,3,8,9,12,13,14] (.seq (.seq (.reg [Za (mS 72 14), Za (bC 73 .lss 72 0), Za (mS 74 73), Zb 74 false (lT 75 10 12), Zb 74 false (lT 76 10 8), Zb 74 false (.call 77 [] (.f N1q) [.s 75, .s 76]), Zb 74 false (.un 78 .not (.s 77)), Za (.pick 79 (.s 74) cT (.s 78)), Za (mS 80 79), Zb 80 false (mS 81 13), Zb 80 false (mS 82 9), Zb 80 false (.bin 83 true .neq (.s 81) (.s 82)), Za (.pick 84 (.s 80) cT (.s 83))] [1,2,3,8,9,12,84])
(.cond (.s 84) (Zs [.mv 6 cF] [6] .ret) .skip))
(Zs [.mv 15 (ci 1)] [1,2,3,8,9,12,15] (Zs [lT 85 10 12, mS 86 15, .callI 87 [] (.f N31) [.s 85, .s 86] [32,33,34,35,36,37,38,39,40] [], mS 15 87] [1,2,3,8,9,12,15] (Zs [.mv 16 (ci 1)] [1,2,3,8,9,12,15,16] (Zs [lT 88 10 12, mS 89 16, .call 90 [] (.f N32) [.s 88, .s 89], mS 16 90] [1,2,3,8,9,12,15,16] (.seq (Zs [mS 91 16, bC 92 .lss 91 0] [1,2,3,8,9,12,15,16,92] (.cond (.s 92) (Zs [.mv 6 cF] [6] .ret) .skip))
(.seq (Zs [mS 93 16, mS 94 15, bS 95 .neq 93 94] [1,2,3,8,9,12,15,95] (.cond (.s 95) (Zs [.mv 6 cF] [6] .ret) .skip))
(Zs [lT 97 10 3, .call 98 [52, 53, 54, 55, 56, 57, 58, 59, 60] (.f N1p) [.s 97], mS 99 1, mS 100 2, .call 101 [61] (.f N16) [.s 100], .call 102 [62, 63, 64, 65, 66, 67, 68, 69, 70] (.f N3u) [.s 98, .s 99, .s 101], mS 96 102, .ext 103 (.s 96) 0, .ext 104 (.s 96) 1, .alloc 17 71 [.emp 9, .emp 4, .emp 4, .emp 6, .emp 4, .emp 5, .emp 4, .emp 1, .emp 4, pz], sS 10 17 103, mS 18 104] [8,9,12,15,17,18] (.seq (.seq (.reg [Za (lT 105 10 17), Za (lT 106 10 8), Za (.call 107 [] (.f N1q) [.s 105, .s 106]), Za (.un 108 .not (.s 107)), Za (mS 109 108), Zb 109 false (mS 110 18), Zb 109 false (mS 111 9), Zb 109 false (.bin 112 true .neq (.s 110) (.s 111)), Za (.pick 113 (.s 109) cT (.s 112))] [12,15,113])
(.cond (.s 113) (Zs [.mv 6 cF] [6] .ret) .skip))
(Zs [.mv 16 (ci 1)] [12,15,16] (Zs [lT 114 10 12, mS 115 16, .call 116 [] (.f N32) [.s 114, .s 115], mS 16 116] [15,16] (.seq (Zs [mS 117 16, bC 118 .lss 117 0] [15,16,118] (.cond (.s 118) (Zs [.mv 6 cF] [6] .ret) .skip))
(.seq (Zs [mS 119 16, mS 120 15, bS 121 .neq 119 120] [121] (.cond (.s 121) (Zs [.mv 6 cF] [6] .ret) .skip))
(Zs [.mv 6 cT] [6] .ret)))))))))))))))))))))))))))))
theorem c_laws_FnExactStepVisit (a : GArchive) (seed : Int) (ins : List Int) : Ctr Tryz.prog Nbi [aS a.enc, aI seed, aL 1 (ins.map encI)] [rB true] := by
 refine cA M3c 72 122 [(.tmp 6, [false])] Tryz.func12 rfl rfl ?_; unfold M3c
 intro hb
 clear hb
 simp only [go_sem]
 intro hI
 apply K0 (Chv a _ (by omega))
 simp only [go_sem]
 intro _ hz
 have hs := szr_ok hz
 have hc_a := GArchive.cts_le a
 have hc_ins := ctL_le' (c := iCt) (fun y => by simp only [iCt]; omega) ins
 have hr0 := GArchive.cts_le (Kv a seed ins)
 have hl_visit_size := visit_size (a := a) seed ins (by omega)
 apply K0 (C2f a (by omega))
 simp only [go_sem]
 try intros
 apply K0 (C1g ins (by omega))
 simp only [go_sem]
 try intros
 apply K0 (Ci1 a seed ins (by omega))
 simp only [go_sem]
 try intros
 apply K0 (C2f a (by omega))
 simp only [go_sem]
 try intros
 apply K0 (C1g ins (by omega))
 simp only [go_sem]
 try intros
 apply K0 (Cbg a seed ins (by omega))
 simp only [go_sem]
 try intros
 apply K0 (C2g (Kv a seed ins) (Kv a seed ins))
 simp only [go_sem]
 try intros
 apply K0 (C2f a (by omega))
 simp only [go_sem]
 try intros
 apply K0 (C2g a a)
 simp only [go_sem]
 try intros
 apply K0 (C1g ins (by omega))
 simp only [go_sem]
 try intros
 apply K0 (C3q ins ins)
 simp only [go_sem]
 try intros
 apply K9 (C76 a (1) (by omega) (by omega))
 simp only [go_sem]
 try intros
 apply K9 (C21 ins (1 + ((a).cts : Nat)) (by omega) (by omega))
 simp only [go_sem]
 try intros
 have hk : ¬ ((1 + ((a).cts : Nat) + (ctL iCt (ins) : Nat) : Int)) < 0 := by omega
 simp only [go_sem, hk]
 try intros
 apply K0 (C2g (Kv a seed ins) (Kv a seed ins))
 simp only [go_sem]
 try intros
 apply K9 (C76 (Kv a seed ins) (1) (by omega) (by omega))
 simp only [go_sem]
 try intros
 apply K0 (C78 (Kv a seed ins) (1) (by omega) (by omega))
 simp only [go_sem]
 have hq0 : ¬ ((1 + ((Kv a seed ins).cts : Nat) : Int)) < 0 := by omega
 try simp only [go_sem, hq0]
 try intros
 apply K0 (C2f a (by omega))
 simp only [go_sem]
 try intros
 apply K0 (C1g ins (by omega))
 simp only [go_sem]
 try intros
 apply K0 (Cbg a seed ins (by omega))
 simp only [go_sem]
 try intros
 apply K0 (C2g (Kv a seed ins) (Kv a seed ins))
 simp only [go_sem]
 try intros
 apply K0 (C78 (Kv a seed ins) (1) (by omega) (by omega))
 simp only [go_sem]
 have hq0 : ¬ ((1 + ((Kv a seed ins).cts : Nat) : Int)) < 0 := by omega
 try simp only [go_sem, hq0]
 try intros
end Go.Proofs.YtgkeplbnnjogiaaGreatR
