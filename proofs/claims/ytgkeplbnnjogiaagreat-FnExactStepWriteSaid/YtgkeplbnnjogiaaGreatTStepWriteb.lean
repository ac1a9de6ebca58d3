/- What the functions compute that the laws of StepWrite reach: contracts. Conditions stand in each theorem. -/
import Derived.Test.YtgkeplbnnjogiaaGreatProg
import Derived.KernelRfl
import Derived.Shelf.Sort.Plain
import Derived.Ground.Names2Prog
import Derived.Shelf.Slices.CompactI
import Derived.Shelf.Slices.In.SortNone
import Derived.Test.YtgkeplbnnjogiaaGreatTStepWritea
set_option linter.unusedVariables false
set_option linter.unusedSimpArgs false
namespace Go.Proofs.YtgkeplbnnjogiaaGreatR
open Go Go.RowKit Go.Proofs
open Nat (reduceEqDiff reduceLT reduceLeDiff reduceAdd reduceMul)
open List (reduceReplicate)
def modP (v : Int) : Int := (IntKind.i64.wrap (v.tmod 2147483647 + 2147483647)).tmod 2147483647
def hstep (h v : Int) : Int := (IntKind.i64.wrap (IntKind.i64.wrap (IntKind.i64.wrap (h * 1000003) + modP v) + 13)).tmod 2147483647
def hashL (l : List Int) : Int := l.foldl hstep 11
theorem K7y {l : List Int} {k : Nat} {x : Int} (h : l[k]? = some x) : hashL (l.take (k + 1)) = hstep (hashL (l.take k)) x := by
 rw [Kc h, hashL, List.foldl_append]; rfl
theorem K4e : ¬ (2147483647 : Int) = 0 := by decide
def Y24 (v0 : Nat) : MC :=
(Zs [.mv 4 (ci 0)] [0,1] (.seq (Zs [mS 5 1, .call 6 [] (.f v0) [.s 5, .c (.int .i64 1), .c (.int .i64 1000000000000)], .un 7 .not (.s 6)] [0,1,7] (.cond (.s 7) (Zs [.mv 4 (ci 0)] [4] .ret) .skip))
(Zs [mS 8 0, mS 9 1, bS 10 .rem 8 9, mS 11 1, bS 12 .add 10 11, mS 13 1, bS 14 .rem 12 13, mS 4 14] [4] .ret)))
attribute [go_sem] Y24
def M8s : MC := Y24 N2
theorem Ch4 (v : Int) : Ctr Tryz.prog N8r [aI v, aI 2147483647] [rI (modP v)] := by
 refine cA M8s 0 15 [(.tmp 4, [false])] Tryz.func390 rfl rfl ?_; unfold M8s
 intro hb
 clear hb
 simp only [go_sem]
 apply K0 (Cr _ _ _)
 simp only [go_sem, K4e]
 refine And.intro ?_ ?_ <;> intro h
 ·exact absurd (by decide) h
 ·rfl
def M8t : MC := Y24 N5
theorem Ch5 (v : Int) : Ctr Tryz.prog N8q [aI v, aI 2147483647] [rI (modP v)] := by
 refine cA M8t 0 15 [(.tmp 4, [false])] Tryz.func387 rfl rfl ?_; unfold M8t
 intro hb
 clear hb
 simp only [go_sem]
 apply K0 (C6 _ _ _)
 simp only [go_sem, K4e]
 refine And.intro ?_ ?_ <;> intro h
 ·exact absurd (by decide) h
 ·rfl
def Mfb : MC :=
(Zs [.mv 2 (ci 0)] [0] (Zs [.mv 3 (ci 11)] [0,3] (.seq (Zs [.mv 4 (ci 0)] [0,3,4] (.block 0 (.loop ([0,3,4], []) (.seq (Zs [mS 5 4, mS 6 0, nS 7 6, bS 8 .lss 5 7] [0,3,4,8] (cX 8 0))
(.seq (.block 1 (pr [mS 11 3, bC 12 .mul 11 1000003, mS 13 0, mS 14 4, xS 15 1 13 14, lF 16 1 15, .call 17 [] (.f N8r) [.s 16, .c (.int .i64 2147483647)], bS 18 .add 12 17, bC 19 .add 18 13, bC 20 .rem 19 2147483647, mS 3 20] [0,3,4]))
(pr [mS 9 4, bC 10 .add 9 1, mS 4 10] [0,3,4]))))))
(Zs [mS 21 3, mS 2 21] [2] .ret))))
theorem C34 (l : List Int) : Ctr Tryz.prog N2a [aL 1 (l.map encI)] [rI (hashL l)] := by
 refine cA Mfb 0 22 [(.tmp 2, [false])] Tryz.func311 rfl rfl ?_; unfold Mfb
 intro hb
 simp only [bdA, bdL, bdT, Kb, roomB, and_true, List.length_map] at hb
 have hl := hb.1
 clear hb
 simp only [go_sem]
 refine K5 l (fun k => [(3, vI (hashL (l.take k))), (4, vI k)]) (fun k => []) (fun _ => True) hl ?_
 simp only [go_sem]
 refine ⟨?_, trivial, ?_, ?_⟩
 ·simp only [go_sem, List.take_zero]
  rfl
 ·intro k x hx _ h0 h1 hw
  simp only [go_sem, K6 hx, h0, h1, K7y hx]
  apply K0 (Ch4 _)
  simp only [go_sem, hw, K4e]
  try intro _
  rfl
 ·intro _
  simp only [go_sem, List.take_length]
def Mfc : MC :=
(Zs [.mv 2 (ci 0)] [0] (Zs [.mv 3 (ci 11)] [0,3] (.seq (Zs [mS 6 0, nS 7 6, .mv 8 (ci 0)] [3,6,7,8] (.block 0 (.loop ([3,6,7,8], []) (Zs [bS 9 .lss 8 7] [3,6,7,8,9] (.seq (cX 9 0)
(.seq (.block 1 (Zs [xS 10 1 6 8, lF 11 1 10, mS 5 11] [3,5,6,7,8] (pr [mS 12 3, bC 13 .mul 12 1000003, mS 14 5, .call 15 [] (.f N8q) [.s 14, .c (.int .i64 2147483647)], bS 16 .add 13 15, bC 17 .add 16 13, bC 18 .rem 17 2147483647, mS 3 18] [3,6,7,8])))
(pr [bC 19 .add 8 1, mS 8 19] [3,6,7,8])))))))
(Zs [mS 20 3, mS 2 20] [2] .ret))))
theorem C35 (l : List Int) : Ctr Tryz.prog N2b [aL 1 (l.map encI)] [rI (hashL l)] := by
 refine cA Mfc 0 21 [(.tmp 2, [false])] Tryz.func314 rfl rfl ?_; unfold Mfc
 intro hb
 simp only [bdA, bdL, bdT, Kb, roomB, and_true, List.length_map] at hb
 have hl := hb.1
 clear hb
 simp only [go_sem]
 refine K5 l (fun k => [(3, vI (hashL (l.take k))), (8, vI k)]) (fun k => []) (fun _ => True) hl ?_
 simp only [go_sem]
 refine ⟨?_, trivial, ?_, ?_⟩
 ·simp only [go_sem, List.take_zero]
  rfl
 ·intro k x hx _ h0 h1 hw
  simp only [go_sem, K6 hx, h0, h1, K7y hx]
  apply K0 (Ch5 _)
  simp only [go_sem, hw, K4e]
  try intro _
  rfl
 ·intro _
  simp only [go_sem, List.take_length]
def rootF : Nat → List Int → Int
 | 0, _ => 0
 | n + 1, l => match l with
  | [] => 0
  | [x] => x
  | x :: y :: l => hashL [rootF n ((x :: y :: l).take ((l.length + 3) / 2)), rootF n ((x :: y :: l).drop ((l.length + 3) / 2))]
theorem K4g : ∀ {n m : Nat} {l : List Int}, l.length ≤ n → l.length ≤ m → rootF n l = rootF m l
 | 0, 0, _, _, _ => rfl
 | 0, m + 1, l, h, _ => by
  obtain rfl : l = [] := List.length_eq_zero_iff.1 (by omega)
  rfl
 | n + 1, 0, l, _, h => by
  obtain rfl : l = [] := List.length_eq_zero_iff.1 (by omega)
  rfl
 | n + 1, m + 1, [], _, _ => rfl
 | n + 1, m + 1, [x], _, _ => rfl
 | n + 1, m + 1, x :: y :: l, h, k => by
  simp only [List.length_cons] at h k
  simp only [rootF]
  rw [K4g (n := n) (m := m) (by rw [List.length_take]; simp only [List.length_cons]; omega) (by rw [List.length_take]; simp only [List.length_cons]; omega), K4g (n := n) (m := m) (l := (x :: y :: l).drop _) (by rw [List.length_drop]; simp only [List.length_cons]; omega) (by rw [List.length_drop]; simp only [List.length_cons]; omega)]
def rootL (l : List Int) : Int := rootF l.length l
theorem rootF_two {n x y : _} {l : List Int} : rootF (n + 1) (x :: y :: l) = hashL [rootF n ((x :: y :: l).take ((l.length + 3) / 2)), rootF n ((x :: y :: l).drop ((l.length + 3) / 2))] := rfl
theorem K8z {l : List Int} (h : 2 ≤ l.length) : rootL l = hashL [rootL (l.take ((l.length + 1) / 2)), rootL (l.drop ((l.length + 1) / 2))] := by
 match l, h with
 | x :: y :: l, h =>
  have e : (x :: y :: l).length + 1 = l.length + 3 := by simp
  rw [e]
  unfold rootL
  rw [show (x :: y :: l).length = (l.length + 1) + 1 from by simp, rootF_two]
  rw [K4g (n := l.length + 1) (l := (x :: y :: l).take _) (by rw [List.length_take]; simp only [List.length_cons]; omega) (Nat.le_refl _), K4g (n := l.length + 1) (l := (x :: y :: l).drop _) (by rw [List.length_drop]; simp only [List.length_cons]; omega) (Nat.le_refl _)]
theorem two_ne : ¬ (2 : Int) = 0 := by decide
theorem K6n {α : Type} {f : α → List T} {l : List α} {m : Nat} (h : m ≤ l.length) : (if ((m : Int) - 0).toNat = l.length then l.map f else List.take ((m : Int) - 0).toNat (l.map f)) = (l.take m).map f := by
 rw [show ((m : Int) - 0).toNat = m by omega]
 split
 ·rename_i e; rw [List.take_of_length_le (by omega)]
 ·rw [List.map_take]
theorem K8b {α : Type} {f : α → List T} {l : List α} {m : Nat} (h : m ≤ l.length) : (if m = 0 ∧ ((l.length : Int) - (m : Int)).toNat = l.length then l.map f else List.take ((l.length : Int) - (m : Int)).toNat (List.drop m (l.map f))) = (l.drop m).map f := by
 rw [show ((l.length : Int) - (m : Int)).toNat = l.length - m by omega]
 split
 ·rename_i e; rw [e.1]; rfl
 ·rw [List.take_of_length_le (by simp), List.map_drop]
def Y25 (v0 : Nat) (v1 : Nat) : MC :=
(Zs [.mv 2 (ci 0)] [0] (.seq (Zs [mS 4 0, nS 5 4] [0,5] (.block 0 (Zs [bC 7 .eql 5 0, mS 6 7] [0,5,6] (.cond (.s 6) (Zs [.mv 2 (ci 0)] [2] .ret) (Zs [bC 9 .eql 5 1, mS 8 9] [0,8] (.cond (.s 8) (Zs [mS 10 0, .idx 11 1 (.s 10) (ci 0), lF 12 1 11, mS 2 12] [2] .ret) .skip))))))
(Zs [mS 13 0, nS 14 13, bC 15 .add 14 1, bC 16 .quo 15 2, mS 3 16] [0,3] (.seq (.dreg [Zc [18,21,22,23] (mS 17 0), Zc [17,21,22,23] (mS 18 3), Zd [21,22,23] [0,1] (.slc 19 1 (.s 17) none (some (.s 18)) none), Zd [21,22,23] [0,1,2] (.call 20 [] (.f v0) [.s 19]), Zc [17,18,19,20,22] (mS 21 0), Zc [17,18,19,20,21] (mS 22 3), Zd [17,18,19,20] [4,5] (.slc 23 1 (.s 21) (some (.s 22)) none none), Ze (.range 7) (.call 24 [] (.f v0) [.s 23]), { o := .lit 25 0 1 8 [.s 20, .s 24], ws := [0], bf := (.range 8) }, Ze (.range 9) (.call 26 [] (.f v1) [.s 25]), Ze (.range 10) (mS 2 26)] [2])
.ret))))
attribute [go_sem] Y25
def M3a : MC := Y25 N38 N2a
theorem Ccs (n : Nat) : ∀ (l : List Int), l.length ≤ n → Ctr Tryz.prog N38 [aL 1 (l.map encI)] [rI (rootL l)] := by
 induction n with
 | zero =>
  intro l hn
  obtain rfl : l = [] := List.length_eq_zero_iff.1 (by omega)
  refine cA M3a 1 27 [(.tmp 2, [false])] Tryz.func342 rfl rfl ?_; unfold M3a
  intro hb
  clear hb
  simp only [go_sem]
  rfl
 | succ n ih =>
  intro l hn
  refine cA M3a 1 27 [(.tmp 2, [false])] Tryz.func342 rfl rfl ?_; unfold M3a
  intro hb
  simp only [bdA, bdL, bdT, Kb, roomB, and_true, List.length_map] at hb
  have hl := hb.1
  clear hb
  have hM1 : IntKind.i64.wrap ((l.length : Int) + 1) = ((l.length + 1 : Nat) : Int) := by rw [wI (by omega) (by omega)]; omega
  have hM2 : ((l.length + 1 : Nat) : Int).tdiv 2 = (((l.length + 1) / 2 : Nat) : Int) := rfl
  have hM3 : IntKind.i64.wrap ((((l.length + 1) / 2 : Nat) : Int)) = (((l.length + 1) / 2 : Nat) : Int) := wI (by omega) (by omega)
  simp only [go_sem, two_ne, hM1, hM2, hM3]
  refine And.intro ?_ ?_ <;> intro h
  ·obtain rfl : l = [] := List.length_eq_zero_iff.1 (by omega)
   rfl
  refine And.intro ?_ ?_ <;> intro h2
  ·match l, h2 with
   | [x], _ => simp only [go_sem]; exact ⟨by simp, rfl⟩
   | x :: y :: l, h2 => simp at h2; omega
  ·generalize hm : (l.length + 1) / 2 = m at *
   rw [K6n (by omega)]
   refine ⟨⟨by omega, by omega, by omega⟩, ?_⟩
   apply K0 (ih _ (by rw [List.length_take]; omega))
   simp only [go_sem]
   rw [K8b (by omega)]
   intros
   refine ⟨⟨by omega, by omega⟩, ?_⟩
   apply K0 (ih _ (by rw [List.length_drop]; omega))
   simp only [go_sem]
   refine ⟨by decide, ?_⟩
   apply K0 (C34 [rootL (l.take m), rootL (l.drop m)])
   simp only [go_sem]
   intros
   rw [K8z (l := l) (by omega), hm]
def M3b : MC := Y25 N39 N2b
theorem Cct (n : Nat) : ∀ (l : List Int), l.length ≤ n → Ctr Tryz.prog N39 [aL 1 (l.map encI)] [rI (rootL l)] := by
 induction n with
 | zero =>
  intro l hn
  obtain rfl : l = [] := List.length_eq_zero_iff.1 (by omega)
  refine cA M3b 1 27 [(.tmp 2, [false])] Tryz.func354 rfl rfl ?_; unfold M3b
  intro hb
  clear hb
  simp only [go_sem]
  rfl
 | succ n ih =>
  intro l hn
  refine cA M3b 1 27 [(.tmp 2, [false])] Tryz.func354 rfl rfl ?_; unfold M3b
  intro hb
  simp only [bdA, bdL, bdT, Kb, roomB, and_true, List.length_map] at hb
  have hl := hb.1
  clear hb
  have hM1 : IntKind.i64.wrap ((l.length : Int) + 1) = ((l.length + 1 : Nat) : Int) := by rw [wI (by omega) (by omega)]; omega
  have hM2 : ((l.length + 1 : Nat) : Int).tdiv 2 = (((l.length + 1) / 2 : Nat) : Int) := rfl
  have hM3 : IntKind.i64.wrap ((((l.length + 1) / 2 : Nat) : Int)) = (((l.length + 1) / 2 : Nat) : Int) := wI (by omega) (by omega)
  simp only [go_sem, two_ne, hM1, hM2, hM3]
  refine And.intro ?_ ?_ <;> intro h
  ·obtain rfl : l = [] := List.length_eq_zero_iff.1 (by omega)
   rfl
  refine And.intro ?_ ?_ <;> intro h2
  ·match l, h2 with
   | [x], _ => simp only [go_sem]; exact ⟨by simp, rfl⟩
   | x :: y :: l, h2 => simp at h2; omega
  ·generalize hm : (l.length + 1) / 2 = m at *
   rw [K6n (by omega)]
   refine ⟨⟨by omega, by omega, by omega⟩, ?_⟩
   apply K0 (ih _ (by rw [List.length_take]; omega))
   simp only [go_sem]
   rw [K8b (by omega)]
   intros
   refine ⟨⟨by omega, by omega⟩, ?_⟩
   apply K0 (ih _ (by rw [List.length_drop]; omega))
   simp only [go_sem]
   refine ⟨by decide, ?_⟩
   apply K0 (C35 [rootL (l.take m), rootL (l.drop m)])
   simp only [go_sem]
   intros
   rw [K8z (l := l) (by omega), hm]
end Go.Proofs.YtgkeplbnnjogiaaGreatR
namespace Go.Proofs.YtgkeplbnnjogiaaGreatR
open Go Go.RowKit Go.Proofs
open Nat (reduceEqDiff reduceLT reduceLeDiff reduceAdd reduceMul)
open List (reduceReplicate)
def K33 (r : GResource) : List Int := [r.Kind, r.To.Host, r.To.Path, r.To.Query, r.Body.length] ++ r.Body
def K3g (c : GCapture) : List Int := [c.Address.Host, c.Address.Path, c.Address.Query, c.Tick] ++ K33 c.Resource
theorem K7a (r : GResource) : (K33 r).length = 5 + r.Body.length := by simp [K33]; omega
def Y26 : MC :=
(Zs [.box 1 0 (.s 0), .nilo 2 1 1] [1] (Zs [fS 3 1 0, lF 4 1 3, fS 5 1 2, fS 6 5 0, lF 7 1 6, fS 8 1 2, fS 9 8 1, lF 10 1 9, fS 11 1 2, fS 12 11 2, lF 13 1 12, fS 14 1 1, lF 15 1 14, nS 16 15, .lit 17 1 1 8 [.s 4, .s 7, .s 10, .s 13, .s 16], fS 18 1 1, lF 19 1 18, .app 20 1 1 8 (.s 17) (.s 19), mS 2 20] [2] .ret))
attribute [go_sem] Y26
def M5e : MC := Y26
theorem Cde (r : GResource) (hs : r.Body.length ≤ 1073741824) : Ctr Tryz.prog N4p [aS r.enc] [rL 1 ((K33 r).map encI)] := by
 refine cA M5e 2 21 [(.tmp 2, [true])] Tryz.func312 rfl rfl ?_; unfold M5e
 intro hb
 clear hb
 simp only [go_sem, ↓Km (f := encI) (fun _ => rfl) r.Body]
 simp only [roomB]
 refine ⟨by decide, by omega, ?_⟩
 simp [K33, encI]
 omega
def M5f : MC := Y26
theorem Cdf (r : GResource) (hs : r.Body.length ≤ 1073741824) : Ctr Tryz.prog N4q [aS r.enc] [rL 1 ((K33 r).map encI)] := by
 refine cA M5f 2 21 [(.tmp 2, [true])] Tryz.func315 rfl rfl ?_; unfold M5f
 intro hb
 clear hb
 simp only [go_sem, ↓Km (f := encI) (fun _ => rfl) r.Body]
 simp only [roomB]
 refine ⟨by decide, by omega, ?_⟩
 simp [K33, encI]
 omega
def Y27 (v0 : Nat) : MC :=
(Zs [.box 1 0 (.s 0), .nilo 2 1 1] [1] (.seq (.dreg [Zf [6,7,8,9,10,11,12,13,15,16,17] [2] (fS 3 1 0), Zg [6,7,8,9,10,11,12,13,15,16,17] [2] [0] (fS 4 3 0), Zg [6,7,8,9,10,11,12,13,15,16,17] [2] [0,1] (lF 5 1 4), Zf [3,4,5,9,10,11,12,13,15,16,17] [2] (fS 6 1 0), Zg [3,4,5,9,10,11,12,13,15,16,17] [2] [3] (fS 7 6 1), Zg [3,4,5,9,10,11,12,13,15,16,17] [2] [3,4] (lF 8 1 7), Zf [3,4,5,6,7,8,12,13,15,16,17] [2] (fS 9 1 0), Zg [3,4,5,6,7,8,12,13,15,16,17] [2] [6] (fS 10 9 2), Zg [3,4,5,6,7,8,12,13,15,16,17] [2] [6,7] (lF 11 1 10), Zf [3,4,5,6,7,8,9,10,11,15,16,17] [2] (fS 12 1 3), Zg [3,4,5,6,7,8,9,10,11,15,16,17] [2] [9] (lF 13 1 12), { o := .lit 14 1 1 8 [.s 5, .s 8, .s 11, .s 13], hs := [15,16,17], ho := [2], ws := [1], bf := (.range 11) }, Zf [3,4,5,6,7,8,9,10,11,12,13,14] [1] (fS 15 1 4), Zg [3,4,5,6,7,8,9,10,11,12,13,14] [1] [12] (lT 16 5 15), { o := .call 17 [2] (.f v0) [.s 16], hs := [3,4,5,6,7,8,9,10,11,12,13,14], ho := [1], ws := [2], bf := [12,13] }, { o := .app 18 1 1 8 (.s 14) (.s 17), ws := [1], bf := (.range 15) }, Ze (.range 16) (mS 2 18)] [2])
.ret))
attribute [go_sem] Y27
def M6k : MC := Y27 N4p
theorem Ce3 (c : GCapture) (hs : c.Resource.Body.length ≤ 1073741824) : Ctr Tryz.prog N67 [aS c.enc] [rL 1 ((K3g c).map encI)] := by
 refine cA M6k 3 19 [(.tmp 2, [true])] Tryz.func402 rfl rfl ?_; unfold M6k
 intro hb
 clear hb
 simp only [go_sem]
 refine ⟨by decide, ?_⟩
 apply K0 (Cde c.Resource hs)
 simp only [go_sem, ↓Km (f := encI) (fun _ => rfl) (K33 c.Resource), K7a]
 simp only [roomB]
 exact ⟨by omega, fun _ => ⟨by omega, by simp [K3g, encI]⟩⟩
def M6l : MC := Y27 N4q
theorem Ce4 (c : GCapture) (hs : c.Resource.Body.length ≤ 1073741824) : Ctr Tryz.prog N66 [aS c.enc] [rL 1 ((K3g c).map encI)] := by
 refine cA M6l 3 19 [(.tmp 2, [true])] Tryz.func352 rfl rfl ?_; unfold M6l
 intro hb
 clear hb
 simp only [go_sem]
 refine ⟨by decide, ?_⟩
 apply K0 (Cdf c.Resource hs)
 simp only [go_sem, ↓Km (f := encI) (fun _ => rfl) (K33 c.Resource), K7a]
 simp only [roomB]
 exact ⟨by omega, fun _ => ⟨by omega, by simp [K3g, encI]⟩⟩
def K1o (l : List GEntry) : List Int := l.flatMap fun e => [e.Kind, e.Address.Host, e.Address.Path, e.Address.Query, e.Value]
theorem K6p {l : List GEntry} {k : Nat} {x : GEntry} (h : l[k]? = some x) : K1o (l.take (k + 1)) = K1o (l.take k) ++ [x.Kind, x.Address.Host, x.Address.Path, x.Address.Query, x.Value] := by
 rw [Kc h, K1o, List.flatMap_append]; rfl
theorem K77 {l : List GEntry} : (K1o l).length = 5 * l.length := by
 induction l with
 | nil => rfl
 | cons x l ih => simp only [K1o, List.flatMap_cons, List.length_append, List.length_cons, List.length_nil] at ih ⊢; omega
def M8g : MC :=
(Zs [.nilo 2 0 1] [0] (Zs [.lit 6 0 1 8 [], mS 3 6] [0,3] (.seq (Zs [.mv 4 (ci 0)] [0,3,4] (.block 0 (.loop ([0,3,4], [1,2]) (.seq (Zs [mS 7 4, mS 8 0, nS 9 8, bS 10 .lss 7 9] [0,3,4,10] (cX 10 0))
(.seq (.block 1 (Zs [mS 13 0, mS 14 4, xS 15 5 13 14, lT 16 5 15, .alloc 5 1 [pz, pz, pz, pz, pz], sS 5 5 16] [0,3,4,5] (pr [mS 17 3, fS 18 5 0, lF 19 1 18, fS 20 5 1, fS 21 20 0, lF 22 1 21, fS 23 5 1, fS 24 23 1, lF 25 1 24, fS 26 5 1, fS 27 26 2, lF 28 1 27, fS 29 5 4, lF 30 1 29, .lit 31 2 1 8 [.s 19, .s 22, .s 25, .s 28, .s 30], .app 32 0 1 8 (.s 17) (.s 31), mS 3 32] [0,3,4])))
(pr [mS 11 4, bC 12 .add 11 1, mS 4 12] [0,3,4]))))))
(Zs [mS 33 3, mS 2 33] [2] .ret))))
theorem Cev (xs : List GEntry) (hN : xs.length ≤ 1073741824) : Ctr Tryz.prog N7n [aL 5 (xs.map GEntry.enc)] [rL 1 ((K1o xs).map encI)] := by
 refine cA M8g 3 34 [(.tmp 2, [true])] Tryz.func344 rfl rfl ?_; unfold M8g
 intro hb
 simp only [bdA, bdL, bdT, Kb, roomB, and_true, List.length_map] at hb
 obtain ⟨hl, -⟩ := hb
 simp only [go_sem]
 refine K5 xs (fun k => [(3, .val false [.ref 0 0 1 0 (K1o (xs.take k)).length]), (4, vI k)]) (fun k => [(0, ⟨0, .row true 1 ((K1o (xs.take k)).map encI)⟩)]) (fun _ => True) hl ?_
 simp only [go_sem]
 refine ⟨?_, trivial, ?_, ?_⟩
 ·simp only [go_sem, List.take_zero]
  exact ⟨rfl, rfl⟩
 ·intro k x hx _ h0 h1 hw
  have hlt := List.length_take_le k xs
  simp only [go_sem, K6 hx, h0, h1, hw, K6p hx, List.length_append, K77]
  refine ⟨⟨by simp, by decide⟩, by simp only [roomB]; omega, by simp [encI]⟩
 ·intro _
  simp only [go_sem, List.take_length]
def K1a (l : List GCapture) : List Int := l.map fun c => hashL (K3g c)
theorem K5p {l : List GCapture} {k : Nat} {x : GCapture} (h : l[k]? = some x) : K1a (l.take (k + 1)) = K1a (l.take k) ++ [hashL (K3g x)] := by
 rw [Kc h, K1a, List.map_append]; rfl
theorem K6b {l : List GCapture} : (K1a l).length = l.length := by simp [K1a]
theorem body_le {xs : List GCapture} {x : GCapture} {k : Nat} {n : Nat} (hx : xs[k]? = some x) (hs : xs.length + (xs.map GCapture.size).sum ≤ n) : x.Resource.Body.length ≤ n := by
 have hx1 := K14 (f := GCapture.size) (Kx hx)
 simp only [GCapture.size, GResource.size] at hx1 hs
 omega
def M6m : MC :=
(Zs [.nilo 2 0 1] [0] (Zs [.lit 5 0 1 8 [], mS 3 5] [0,3] (.seq (Zs [.mv 4 (ci 0)] [0,3,4] (.block 0 (.loop ([0,3,4], [1,2]) (.seq (Zs [mS 6 4, mS 7 0, nS 8 7, bS 9 .lss 6 8] [0,3,4,9] (cX 9 0))
(.seq (.block 1 (pr [mS 12 3, mS 13 0, mS 14 4, xS 15 9 13 14, lT 16 9 15, .call 17 [1] (.f N67) [.s 16], .call 18 [] (.f N2a) [.s 17], .lit 19 2 1 8 [.s 18], .app 20 0 1 8 (.s 12) (.s 19), mS 3 20] [0,3,4]))
(pr [mS 10 4, bC 11 .add 10 1, mS 4 11] [0,3,4]))))))
(Zs [mS 21 3, mS 2 21] [2] .ret))))
theorem Ce5 (xs : List GCapture) (hs : xs.length + (xs.map GCapture.size).sum ≤ 1073741824) : Ctr Tryz.prog N65 [aL 9 (xs.map GCapture.enc)] [rL 1 ((K1a xs).map encI)] := by
 refine cA M6m 3 22 [(.tmp 2, [true])] Tryz.func345 rfl rfl ?_; unfold M6m
 intro hb
 clear hb
 simp only [go_sem]
 refine K5 xs (fun k => [(3, .val false [.ref 0 0 1 0 (K1a (xs.take k)).length]), (4, vI k)]) (fun k => [(0, ⟨0, .row true 1 ((K1a (xs.take k)).map encI)⟩)]) (fun _ => True) (by simp only [roomB]; omega) ?_
 simp only [go_sem]
 refine ⟨?_, trivial, ?_, ?_⟩
 ·simp only [go_sem, List.take_zero]
  exact ⟨rfl, rfl⟩
 ·intro k x hx _ h0 h1 hw
  have hlt := List.length_take_le k xs
  simp only [go_sem, K6 hx, h0, h1, K5p hx, List.length_append]
  apply K0 (Ce3 x (body_le hx hs))
  simp only [go_sem]
  try intro _
  apply K0 (C34 (K3g x))
  simp only [go_sem, hw]
  simp only [roomB, K6b]
  exact ⟨by omega, by omega, fun _ => by simp [encI]⟩
 ·intro _
  simp only [go_sem, List.take_length]
def K7r (l : List GOp) (es : List GEntry) (cs : List GCapture) : Int := rootL [hashL (K12 l), hashL (K1o es), rootL (K1a cs)]
def M43 : MC :=
(Zs [.alloc 6 0 [.emp 4, .emp 5, .emp 9, pz]] [0,1,2,6] (Zs [.lit 8 1 4 32 [], mS 9 0, .app 10 1 4 32 (.s 8) (.s 9), .lit 11 2 5 40 [], mS 12 1, .app 13 2 5 40 (.s 11) (.s 12), mS 14 2, .call 15 [3] (.f Nb4) [.s 14], .build 16 [.emp 4, .emp 5, .emp 9, pz] [(0, 1, .s 10), (1, 1, .s 13), (2, 1, .s 15)], .alloc 7 4 [.emp 4, .emp 5, .emp 9, pz], sS 4 7 16] [0,1,2,6,7] (Zs [mS 17 0, .call 18 [5] (.f N7m) [.s 17], .call 19 [] (.f N2a) [.s 18], mS 20 1, .call 21 [6] (.f N7n) [.s 20], .call 22 [] (.f N2a) [.s 21], mS 23 2, .call 24 [7] (.f N65) [.s 23], .call 25 [] (.f N38) [.s 24], .lit 26 8 1 8 [.s 19, .s 22, .s 25], .call 27 [] (.f N38) [.s 26], fS 28 7 3, sS 1 28 27] [6,7] (Zs [lT 29 4 7, sS 4 6 29] [6] .ret))))
theorem C44 (l : List GOp) (es : List GEntry) (cs : List GCapture) (h1 : l.length ≤ 1073741824) (h2 : es.length ≤ 1073741824) (hs : cs.length + (cs.map GCapture.size).sum ≤ 1073741824) :
  Ctr Tryz.prog N21 [aL 4 (l.map GOp.enc), aL 5 (es.map GEntry.enc), aL 9 (cs.map GCapture.enc)] [rS (GContainer.enc ⟨l, es, cs, K7r l es cs⟩)] := by
 refine cA M43 9 30 [(.cell 6 true 4, [true, true, true, false])] Tryz.func248 rfl rfl ?_; unfold M43
 intro hb
 clear hb
 simp only [go_sem, ↓Km (f := GOp.enc) (fun _ => rfl) l, ↓Km (f := GEntry.enc) (fun _ => rfl) es]
 simp only [roomB]
 refine ⟨by omega, by omega, ?_⟩
 apply K0 (Cgi cs hs)
 simp only [go_sem]
 intros
 apply K0 (Ceu l (by omega))
 simp only [go_sem]
 apply K0 (C34 (K12 l))
 simp only [go_sem]
 apply K0 (Cev es h2)
 simp only [go_sem]
 apply K0 (C34 (K1o es))
 simp only [go_sem]
 apply K0 (Ce5 cs hs)
 simp only [go_sem]
 apply K0 (Ccs _ (K1a cs) (Nat.le_refl _))
 simp only [go_sem]
 refine ⟨by decide, ?_⟩
 apply K0 (Ccs _ [hashL (K12 l), hashL (K1o es), rootL (K1a cs)] (Nat.le_refl _))
 simp only [go_sem]
 intros
 rfl
def Mbv : MC :=
(Zs [.box 1 0 (.s 0), .alloc 2 1 [.emp 4, .emp 5, .emp 9, pz]] [1,2] (Zs [fS 4 1 0, lF 5 1 4, fS 6 1 1, lF 7 1 6, fS 8 1 2, lF 9 1 8, .call 10 [2, 3, 4] (.f N21) [.s 5, .s 7, .s 9], .alloc 3 5 [.emp 4, .emp 5, .emp 9, pz], sS 4 3 10] [1,2,3] (Zs [fS 11 1 3, lF 12 1 11, fS 13 3 3, sS 1 13 12] [2,3] (Zs [lT 14 4 3, sS 4 2 14] [2] .ret))))
theorem Cbw (x : GContainer) (hs : x.size ≤ 1073741824) : Ctr Tryz.prog N5p [aS x.enc] [rS x.enc] := by
 refine cA Mbv 6 15 [(.cell 2 true 4, [true, true, true, false])] Tryz.func251 rfl rfl ?_; unfold Mbv
 intro hb
 clear hb
 simp only [GContainer.size] at hs
 simp only [go_sem]
 apply K0 (C44 x.Script x.Entries x.Captures (by omega) (by omega) (by omega))
 simp only [go_sem]
 try intros
 try trivial
def M3t : MC :=
(Zs [.nilo 2 0 4] [0] (Zs [.nilo 3 0 4] [0,3] (.seq (Zs [mS 6 0, nS 7 6, .mv 8 (ci 0)] [3,6,7,8] (.block 0 (.loop ([3,6,7,8], [1,2,3,4,5]) (Zs [bS 9 .lss 8 7] [3,6,7,8,9] (.seq (cX 9 0)
(.seq (.block 1 (Zs [xS 10 4 6 8, lT 11 4 10, .alloc 5 1 [.emp 4, .emp 5, .emp 9, pz], sS 4 5 11] [3,5,6,7,8] (.dreg [Zf [13,14,15,16,17,18,19,20,21,22,23,24,25] [2,3,4,5] (mS 12 3), Zc [12,16,17,19,20,22,23] (fS 13 5 0), Zd [12,16,17,19,20,22,23] [1] (lF 14 1 13), { o := .call 15 [2] (.f N8) [.s 14], hs := [12,16,17,19,20,22,23], ws := [2], bf := [1,2] }, Zf [12,13,14,15,19,20,22,23] [2] (fS 16 5 1), Zg [12,13,14,15,19,20,22,23] [2] [4] (lF 17 1 16), { o := .call 18 [3] (.f Nb) [.s 17], hs := [12,19,20,22,23], ws := [3], bf := [1,2,3,4,5] }, Zf [12,13,14,15,16,17,18,22,23] [2,3] (fS 19 5 2), Zg [12,13,14,15,16,17,18,22,23] [2,3] [7] (lF 20 1 19), { o := .call 21 [4] (.f N2g) [.s 20], hs := [12,22,23], ws := [4], bf := [1,2,3,4,5,6,7,8] }, Zf [12,13,14,15,16,17,18,19,20,21] [2,3,4] (fS 22 5 3), Zg [12,13,14,15,16,17,18,19,20,21] [2,3,4] [10] (lF 23 1 22), Zd [12] [1,2,3,4,5,6,7,8,9,10,11] (.build 24 [.emp 4, .emp 5, .emp 9, pz] [(0, 1, .s 15), (1, 1, .s 18), (2, 1, .s 21), (3, 1, .s 23)]), { o := .lit 25 5 4 80 [.s 24], hs := [12], ws := [2,3,4,5], bf := [1,2,3,4,5,6,7,8,9,10,11,12] }, { o := .app 26 0 4 80 (.s 12) (.s 25), ws := [0,5], bf := (.range 14) }, Ze (.range 15) (mS 3 26)] [3,6,7,8])))
(pr [bC 27 .add 8 1, mS 8 27] [3,6,7,8])))))))
(Zs [mS 28 3, mS 2 28] [2] .ret))))
theorem C3u (xs : List GContainer) (hs : xs.length + (xs.map GContainer.size).sum ≤ 1073741824) : Ctr Tryz.prog N1y [aL 4 (xs.map GContainer.enc)] [rL 4 (xs.map GContainer.enc)] := by
 refine cA M3t 6 29 [(.tmp 2, [true])] Tryz.func260 rfl rfl ?_; unfold M3t
 intro hb
 clear hb
 simp only [go_sem]
 refine K5 xs (fun k => [(3, .val false [.ref 0 0 4 0 (xs.take k).length]), (8, vI k)]) (fun k => [(0, ⟨0, .row true 4 ((xs.take k).map GContainer.enc)⟩)]) (fun _ => True) (by simp only [roomB]; omega) ?_
 simp only [go_sem]
 refine ⟨?_, trivial, ?_, ?_⟩
 ·simp only [go_sem, List.take_zero]
 ·intro k x hx _ h0 h1 hw
  have hk : k < xs.length := by omega
  have hlt := List.length_take_le k xs
  have hx1 := K14 (f := GContainer.size) (Kx hx)
  simp only [GContainer.size] at hx1
  simp only [go_sem, K6 hx, h0, h1]
  apply K0 (C2y x.Script (by omega))
  simp only [go_sem]
  try intro _
  apply K0 (C41 x.Entries (by omega))
  simp only [go_sem]
  try intro _
  apply K0 (C5d x.Captures (by omega))
  simp only [go_sem, hw]
  simp only [roomB]
  exact ⟨by omega, by omega, fun _ => ⟨K2k hx, K2j hx⟩⟩
 ·intro _
  simp only [go_sem, List.take_length]
def Mas : MC := Y22
theorem Cg6 (xs : List GVersion) (hs : xs.length + (xs.map GVersion.size).sum ≤ 1073741824) : Ctr Tryz.prog Nab [aL 9 (xs.map GVersion.enc)] [rL 9 (xs.map GVersion.enc)] := by
 refine cA Mas 4 25 [(.tmp 2, [true])] Tryz.func180 rfl rfl ?_; unfold Mas
 intro hb
 clear hb
 simp only [go_sem]
 refine K5 xs (fun k => [(3, .val false [.ref 0 0 9 0 (xs.take k).length]), (8, vI k)]) (fun k => [(0, ⟨0, .row true 9 ((xs.take k).map GVersion.enc)⟩)]) (fun _ => True) (by simp only [roomB]; omega) ?_
 simp only [go_sem]
 refine ⟨?_, trivial, ?_, ?_⟩
 ·simp only [go_sem, List.take_zero]
 ·intro k x hx _ h0 h1 hw
  have hk : k < xs.length := by omega
  have hlt := List.length_take_le k xs
  have hx1 := K14 (f := GVersion.size) (Kx hx)
  simp only [go_sem, K6 hx, h0, h1]
  apply K0 (C5b x.Resource (by simp only [GVersion.size, GResource.size] at hx1; omega))
  simp only [go_sem, hw]
  simp only [roomB]
  exact ⟨by omega, by omega, fun _ => ⟨K2k hx, K2j hx⟩⟩
 ·intro _
  simp only [go_sem, List.take_length]
def Mbx : MC := Y23
theorem Cgj (xs : List GVersion) (hs : xs.length + (xs.map GVersion.size).sum ≤ 1073741824) : Ctr Tryz.prog Nb5 [aL 9 (xs.map GVersion.enc)] [rL 9 (xs.map GVersion.enc)] := by
 refine cA Mbx 3 33 [(.tmp 2, [true])] Tryz.func173 rfl rfl ?_; unfold Mbx
 intro hb
 clear hb
 simp only [go_sem]
 refine K5 xs (fun k => [(3, .val false [.ref 0 0 9 0 (xs.take k).length]), (4, vI k)]) (fun k => [(0, ⟨0, .row true 9 ((xs.take k).map GVersion.enc)⟩)]) (fun _ => True) (by simp only [roomB]; omega) ?_
 simp only [go_sem]
 refine ⟨?_, trivial, ?_, ?_⟩
 ·simp only [go_sem, List.take_zero]
 ·intro k x hx _ h0 h1 hw
  have hk : k < xs.length := by omega
  have hlt := List.length_take_le k xs
  have hx1 := K14 (f := GVersion.size) (Kx hx)
  simp only [go_sem, K6 hx, h0, h1]
  apply K0 (Ccp x.Resource (by simp only [GVersion.size, GResource.size] at hx1; omega))
  simp only [go_sem, hw]
  simp only [roomB]
  exact ⟨by omega, by omega, fun _ => ⟨K2k hx, K2j hx⟩⟩
 ·intro _
  simp only [go_sem, List.take_length]
def M45 : MC :=
(Zs [.nilo 2 0 4] [0] (Zs [.nilo 3 0 4] [0,3] (.seq (Zs [mS 6 0, nS 7 6, .mv 8 (ci 0)] [3,6,7,8] (.block 0 (.loop ([3,6,7,8], [1,2,3]) (Zs [bS 9 .lss 8 7] [3,6,7,8,9] (.seq (cX 9 0)
(.seq (.block 1 (Zs [xS 10 4 6 8, lT 11 4 10, .alloc 5 1 [pz, .emp 1, .pl (.sc (.bool false)), .pl (.sc (.bool false))], sS 4 5 11] [3,5,6,7,8] (Zs [fS 12 5 1, lF 13 1 12, .call 14 [2] (.f N3) [.s 13], fS 15 5 1, sS 1 15 14] [3,5,6,7,8] (pr [mS 16 3, lT 17 4 5, .lit 18 3 4 40 [.s 17], .app 19 0 4 40 (.s 16) (.s 18), mS 3 19] [3,6,7,8]))))
(pr [bC 20 .add 8 1, mS 8 20] [3,6,7,8])))))))
(Zs [mS 21 3, mS 2 21] [2] .ret))))
theorem Cc4 (xs : List GLibrary) (hs : xs.length + (xs.map GLibrary.size).sum ≤ 1073741824) : Ctr Tryz.prog N3x [aL 4 (xs.map GLibrary.enc)] [rL 4 (xs.map GLibrary.enc)] := by
 refine cA M45 4 22 [(.tmp 2, [true])] Tryz.func184 rfl rfl ?_; unfold M45
 intro hb
 clear hb
 simp only [go_sem]
 refine K5 xs (fun k => [(3, .val false [.ref 0 0 4 0 (xs.take k).length]), (8, vI k)]) (fun k => [(0, ⟨0, .row true 4 ((xs.take k).map GLibrary.enc)⟩)]) (fun _ => True) (by simp only [roomB]; omega) ?_
 simp only [go_sem]
 refine ⟨?_, trivial, ?_, ?_⟩
 ·simp only [go_sem, List.take_zero]
 ·intro k x hx _ h0 h1 hw
  have hk : k < xs.length := by omega
  have hlt := List.length_take_le k xs
  have hx1 := K14 (f := GLibrary.size) (Kx hx)
  simp only [go_sem, K6 hx, h0, h1]
  apply K0 (Cc x.Digests (by simp only [GLibrary.size] at hx1; omega))
  simp only [go_sem, hw]
  intro _
  simp only [roomB]
  exact ⟨by omega, by omega, K2k hx, K2j hx⟩
 ·intro _
  simp only [go_sem, List.take_length]
def Mby : MC :=
(Zs [.nilo 2 0 4] [0] (Zs [.lit 5 0 4 40 [], mS 3 5] [0,3] (.seq (Zs [.mv 4 (ci 0)] [0,3,4] (.block 0 (.loop ([0,3,4], [1,2]) (.seq (Zs [mS 6 4, mS 7 0, nS 8 7, bS 9 .lss 6 8] [0,3,4,9] (cX 9 0))
(.seq (.block 1 (.dreg [Zf [13,14,15,16,17,18,19,20,21,22,23,24,25,26,27,28,29,30,31,32,33,34,35,36] [1,2] (mS 12 3), Zf [12,14,18,19,20,21,22,23,24,25,26,27,28,29,30,31,32,33,34] [1] (mS 13 0), Zf [12,13,18,19,20,21,22,23,24,25,26,27,28,29,30,31,32,33,34] [1] (mS 14 4), Zg [12,18,19,20,21,22,23,24,25,26,27,28,29,30,31,32,33,34] [1] [1,2] (xS 15 4 13 14), Zg [12,18,19,20,21,22,23,24,25,26,27,28,29,30,31,32,33,34] [1] [1,2,3] (fS 16 15 0), Zg [12,18,19,20,21,22,23,24,25,26,27,28,29,30,31,32,33,34] [1] [1,2,3,4] (lF 17 1 16), { o := .lit 18 1 1 8 [], hs := [12,13,14,15,16,17,19,20,21,22,23,25,26,27,28,29,30,31,32,33,34], ws := [1] }, Zf [12,13,14,15,16,17,18,20,25,26,27,28,29,30,31,32,33,34] [1] (mS 19 0), Zf [12,13,14,15,16,17,18,19,25,26,27,28,29,30,31,32,33,34] [1] (mS 20 4), Zg [12,13,14,15,16,17,18,25,26,27,28,29,30,31,32,33,34] [1] [7,8] (xS 21 4 19 20), Zg [12,13,14,15,16,17,18,25,26,27,28,29,30,31,32,33,34] [1] [7,8,9] (fS 22 21 1), Zg [12,13,14,15,16,17,18,25,26,27,28,29,30,31,32,33,34] [1] [7,8,9,10] (lF 23 1 22), { o := .app 24 1 1 8 (.s 18) (.s 23), hs := [12,13,14,15,16,17,25,26,27,28,29,30,31,32,33,34], ws := [1], bf := [6,7,8,9,10,11] }, Zf [12,13,14,15,16,17,18,19,20,21,22,23,24,26,30,31,32,33,34] [1] (mS 25 0), Zf [12,13,14,15,16,17,18,19,20,21,22,23,24,25,30,31,32,33,34] [1] (mS 26 4), Zg [12,13,14,15,16,17,18,19,20,21,22,23,24,30,31,32,33,34] [1] [13,14] (xS 27 4 25 26), Zg [12,13,14,15,16,17,18,19,20,21,22,23,24,30,31,32,33,34] [1] [13,14,15] (fS 28 27 2), Zg [12,13,14,15,16,17,18,19,20,21,22,23,24,30,31,32,33,34] [1] [13,14,15,16] (lF 29 1 28), Zf [12,13,14,15,16,17,18,19,20,21,22,23,24,25,26,27,28,29,31] [1] (mS 30 0), Zf [12,13,14,15,16,17,18,19,20,21,22,23,24,25,26,27,28,29,30] [1] (mS 31 4), Zg [12,13,14,15,16,17,18,19,20,21,22,23,24,25,26,27,28,29] [1] [18,19] (xS 32 4 30 31), Zg [12,13,14,15,16,17,18,19,20,21,22,23,24,25,26,27,28,29] [1] [18,19,20] (fS 33 32 3), Zg [12,13,14,15,16,17,18,19,20,21,22,23,24,25,26,27,28,29] [1] [18,19,20,21] (lF 34 1 33), Zd [12] [1,2,3,4,5,6,7,8,9,10,11,12,13,14,15,16,17,18,19,20,21,22] (.build 35 [pz, .emp 1, .pl (.sc (.bool false)), .pl (.sc (.bool false))] [(0, 1, .s 17), (1, 1, .s 24), (2, 1, .s 29), (3, 1, .s 34)]), { o := .lit 36 2 4 40 [.s 35], hs := [12], ws := [1,2], bf := [1,2,3,4,5,6,7,8,9,10,11,12,13,14,15,16,17,18,19,20,21,22,23] }, { o := .app 37 0 4 40 (.s 12) (.s 36), ws := [0,2], bf := (.range 25) }, Ze (.range 26) (mS 3 37)] [0,3,4]))
(pr [mS 10 4, bC 11 .add 10 1, mS 4 11] [0,3,4]))))))
(Zs [mS 38 3, mS 2 38] [2] .ret))))
theorem Cgk (xs : List GLibrary) (hs : xs.length + (xs.map GLibrary.size).sum ≤ 1073741824) : Ctr Tryz.prog Nb6 [aL 4 (xs.map GLibrary.enc)] [rL 4 (xs.map GLibrary.enc)] := by
 refine cA Mby 3 39 [(.tmp 2, [true])] Tryz.func175 rfl rfl ?_; unfold Mby
 intro hb
 clear hb
 simp only [go_sem]
 refine K5 xs (fun k => [(3, .val false [.ref 0 0 4 0 (xs.take k).length]), (4, vI k)]) (fun k => [(0, ⟨0, .row true 4 ((xs.take k).map GLibrary.enc)⟩)]) (fun _ => True) (by simp only [roomB]; omega) ?_
 simp only [go_sem]
 refine ⟨?_, trivial, ?_, ?_⟩
 ·simp only [go_sem, List.take_zero]
 ·intro k x hx _ h0 h1 hw
  have hk : k < xs.length := by omega
  have hlt := List.length_take_le k xs
  have hx1 := K14 (f := GLibrary.size) (Kx hx)
  simp only [GLibrary.size] at hx1
  simp only [go_sem, K6 hx, h0, h1, hw, ↓Km (f := encI) (fun _ => rfl) x.Digests]
  simp only [roomB]
  exact ⟨by omega, by omega, by omega, K2k hx, K2j hx⟩
 ·intro _
  simp only [go_sem, List.take_length]
end Go.Proofs.YtgkeplbnnjogiaaGreatR
namespace Go.Proofs.YtgkeplbnnjogiaaGreatR
open Go Go.RowKit Go.Proofs
open Nat (reduceEqDiff reduceLT reduceLeDiff reduceAdd reduceMul)
open List (reduceReplicate)
def Mat : MC :=
(Zs [.box 1 0 (.s 0), .alloc 2 1 [.emp 4, .emp 6, .emp 4]] [1,2] (.seq (.dreg [Zc [6,7,9,10] (fS 3 1 0), Zd [6,7,9,10] [0] (lF 4 1 3), { o := .call 5 [2] (.f N1y) [.s 4], hs := [6,7,9,10], ws := [2], bf := [0,1] }, Zf [3,4,5,9,10] [2] (fS 6 1 1), Zg [3,4,5,9,10] [2] [3] (lF 7 1 6), { o := .call 8 [3] (.f N10) [.s 7], hs := [9,10], ws := [3], bf := (.range 5) }, Zf [3,4,5,6,7,8] [2,3] (fS 9 1 2), Zg [3,4,5,6,7,8] [2,3] [6] (lF 10 1 9), { o := .call 11 [4] (.f N1y) [.s 10], ws := [4], bf := (.range 8) }, Ze (.range 9) (.build 12 [.emp 4, .emp 6, .emp 4] [(0, 1, .s 5), (1, 1, .s 8), (2, 1, .s 11)]), { o := sS 3 2 12, ws := [1,2,3,4], bf := (.range 10) }] [2])
.ret))
theorem Cau (d : GDisk) (hs : d.size ≤ 1073741824) : Ctr Tryz.prog N3w [aS d.enc] [rS d.enc] := by
 refine cA Mat 5 13 [(.cell 2 true 3, [true, true, true])] Tryz.func182 rfl rfl ?_; unfold Mat
 intro hb
 clear hb
 simp only [GDisk.size] at hs
 simp only [go_sem]
 apply K0 (C3u d.Containers (by omega))
 simp only [go_sem]
 apply K0 (Cc3 d.Index (by omega))
 simp only [go_sem]
 apply K0 (C3u d.Wanted (by omega))
 simp only [go_sem]
 try intros
 try trivial
def Mbz : MC :=
(Zs [.box 1 0 (.s 0), .alloc 2 1 [.emp 4, .emp 6, .emp 4]] [1,2] (Zs [.lit 6 2 6 48 [], fS 7 1 1, lF 8 1 7, .app 9 2 6 48 (.s 6) (.s 8), .buildO 10 [.emp 4, .emp 6, .emp 4] [(1, 1, .s 9)] [some 3, none, some 4], .alloc 3 5 [.emp 4, .emp 6, .emp 4], sS 3 3 10] [1,2,3] (.seq (Zs [.mv 4 (ci 0)] [1,2,3,4] (.block 0 (.loop ([1,2,3,4], [6,7,8,9,10,11,12,13]) (.seq (Zs [mS 11 4, fS 12 1 0, lF 13 1 12, nS 14 13, bS 15 .lss 11 14] [1,2,3,4,15] (cX 15 0))
(.seq (.block 1 (.dreg [Zf [20,21,22,23,24,25,26] [6,7,8,9] (fS 18 3 0), Zg [20,21,22,23,24,25,26] [6,7,8,9] [0] (lF 19 1 18), Zc [18,19,22] (fS 20 1 0), Zd [18,19,22] [2] (lF 21 1 20), Zc [18,19,20,21] (mS 22 4), Zd [18,19] [2,3,4] (xS 23 4 21 22), Zd [18,19] [2,3,4,5] (lT 24 4 23), { o := .call 25 [6, 7, 8] (.f N5p) [.s 24], hs := [18,19], ws := [6,7,8], bf := [2,3,4,5,6] }, { o := .lit 26 9 4 80 [.s 25], hs := [18,19], ws := [6,7,8,9], bf := [2,3,4,5,6,7] }, { o := .app 27 3 4 80 (.s 19) (.s 26), ws := [3,9], bf := (.range 9) }, Ze (.range 10) (fS 28 3 0), { o := sS 1 28 27, ws := [3,5], bf := (.range 11) }] [1,2,3,4]))
(pr [mS 16 4, bC 17 .add 16 1, mS 4 17] [1,2,3,4]))))))
(.seq (Zs [.mv 5 (ci 0)] [1,2,3,5] (.block 2 (.loop ([1,2,3,5], [6,7,8,9,10,11,12,13]) (.seq (Zs [mS 29 5, fS 30 1 2, lF 31 1 30, nS 32 31, bS 33 .lss 29 32] [1,2,3,5,33] (cX 33 2))
(.seq (.block 3 (.dreg [Zf [38,39,40,41,42,43,44] [10,11,12,13] (fS 36 3 2), Zg [38,39,40,41,42,43,44] [10,11,12,13] [0] (lF 37 1 36), Zc [36,37,40] (fS 38 1 2), Zd [36,37,40] [2] (lF 39 1 38), Zc [36,37,38,39] (mS 40 5), Zd [36,37] [2,3,4] (xS 41 4 39 40), Zd [36,37] [2,3,4,5] (lT 42 4 41), { o := .call 43 [10, 11, 12] (.f N5p) [.s 42], hs := [36,37], ws := [10,11,12], bf := [2,3,4,5,6] }, { o := .lit 44 13 4 80 [.s 43], hs := [36,37], ws := [10,11,12,13], bf := [2,3,4,5,6,7] }, { o := .app 45 4 4 80 (.s 37) (.s 44), ws := [4,13], bf := (.range 9) }, Ze (.range 10) (fS 46 3 2), { o := sS 1 46 45, ws := [4,5], bf := (.range 11) }] [1,2,3,5]))
(pr [mS 34 5, bC 35 .add 34 1, mS 5 35] [1,2,3,5]))))))
(Zs [lT 47 3 3, sS 3 2 47] [2] .ret)))))
theorem Cc0 (d : GDisk) (hs : d.size ≤ 1073741824) : Ctr Tryz.prog N5o [aS d.enc] [rS d.enc] := by
 refine cA Mbz 14 48 [(.cell 2 true 3, [true, true, true])] Tryz.func174 rfl rfl ?_; unfold Mbz
 intro hb
 clear hb
 simp only [GDisk.size] at hs
 simp only [go_sem, ↓Km (f := GFound.enc) (fun _ => rfl) d.Index]
 simp only [roomB]
 refine ⟨by omega, ?_⟩
 refine K5 d.Containers (fun k => [(4, vI k)]) (fun k => [(3, ⟨0, .row true 4 ((d.Containers.take k).map GContainer.enc)⟩), (5, ⟨0, .box [.ref 3 0 4 0 (d.Containers.take k).length, .ref 2 0 6 0 d.Index.length, .ref 4 0 4 0 0]⟩)]) (fun _ => True) (by simp only [roomB]; omega) ?_
 simp only [go_sem]
 refine ⟨?_, trivial, ?_, ?_⟩
 ·simp only [go_sem, List.take_zero]
 ·intro k x hx _ h0 h1 hw
  have hlt := List.length_take_le k d.Containers
  have hk : k < d.Containers.length := by omega
  have hx1 := K14 (f := GContainer.size) (Kx hx)
  simp only [go_sem, K6 hx, h0, h1]
  apply K0 (Cbw x (by omega))
  simp only [go_sem, hw]
  simp only [roomB]
  exact ⟨by omega, by omega, fun _ => ⟨K2j hx, K2k hx⟩⟩
 ·intro _
  simp only [go_sem, List.take_length]
  refine K5 d.Wanted (fun k => [(5, vI k)]) (fun k => [(4, ⟨0, .row true 4 ((d.Wanted.take k).map GContainer.enc)⟩), (5, ⟨0, .box [.ref 3 0 4 0 d.Containers.length, .ref 2 0 6 0 d.Index.length, .ref 4 0 4 0 (d.Wanted.take k).length]⟩)]) (fun _ => True) (by simp only [roomB]; omega) ?_
  simp only [go_sem]
  refine ⟨?_, trivial, ?_, ?_⟩
  ·simp only [go_sem, List.take_zero]
  ·intro k x hx _ h0 h1 hw
   have hlt := List.length_take_le k d.Wanted
   have hk : k < d.Wanted.length := by omega
   have hx1 := K14 (f := GContainer.size) (Kx hx)
   simp only [go_sem, K6 hx, h0, h1]
   apply K0 (Cbw x (by omega))
   simp only [go_sem, hw]
   simp only [roomB]
   exact ⟨by omega, by omega, fun _ => ⟨K2j hx, K2k hx⟩⟩
  ·intro _
   simp only [go_sem, List.take_length]
def M6n : MC :=
(Zs [.box 1 0 (.s 0), .alloc 2 1 [.emp 9, .emp 4, .emp 4, .emp 6, .emp 4, .emp 5, .emp 4, .emp 1, .emp 4, pz]] [1,2] (.seq (.dreg [Zc [6,7,9,10,12,13,15,16,18,19,21,22,24,25] (fS 3 1 0), Zd [6,7,9,10,12,13,15,16,18,19,21,22,24,25] [0] (lF 4 1 3), { o := .call 5 [2] (.f Nab) [.s 4], hs := [6,7,9,10,12,13,15,16,18,19,21,22,24,25], ws := [2], bf := [0,1] }, Zf [3,4,5,9,10,12,13,15,16,18,19,21,22,24,25] [2] (fS 6 1 1), Zg [3,4,5,9,10,12,13,15,16,18,19,21,22,24,25] [2] [3] (lF 7 1 6), { o := .call 8 [3] (.f N8) [.s 7], hs := [9,10,12,13,15,16,18,19,21,22,24,25], ws := [3], bf := (.range 5) }, Zf [3,4,5,6,7,8,12,13,15,16,18,19,21,22,24,25] [2,3] (fS 9 1 2), Zg [3,4,5,6,7,8,12,13,15,16,18,19,21,22,24,25] [2,3] [6] (lT 10 3 9), { o := .call 11 [4, 5, 6] (.f N3w) [.s 10], hs := [12,13,15,16,18,19,21,22,24,25], ws := [4,5,6], bf := (.range 8) }, Zf [3,4,5,6,7,8,9,10,11,15,16,18,19,21,22,24,25] [2,3,4,5,6] (fS 12 1 5), Zg [3,4,5,6,7,8,9,10,11,15,16,18,19,21,22,24,25] [2,3,4,5,6] [9] (lF 13 1 12), { o := .call 14 [7] (.f Nl) [.s 13], hs := [15,16,18,19,21,22,24,25], ws := [7], bf := (.range 11) }, Zf [3,4,5,6,7,8,9,10,11,12,13,14,18,19,21,22,24,25] [2,3,4,5,6,7] (fS 15 1 6), Zg [3,4,5,6,7,8,9,10,11,12,13,14,18,19,21,22,24,25] [2,3,4,5,6,7] [12] (lF 16 1 15), { o := .call 17 [8] (.f N3x) [.s 16], hs := [18,19,21,22,24,25], ws := [8], bf := (.range 14) }, Zf [3,4,5,6,7,8,9,10,11,12,13,14,15,16,17,21,22,24,25] [2,3,4,5,6,7,8] (fS 18 1 7), Zg [3,4,5,6,7,8,9,10,11,12,13,14,15,16,17,21,22,24,25] [2,3,4,5,6,7,8] [15] (lF 19 1 18), { o := .call 20 [9] (.f N3) [.s 19], hs := [21,22,24,25], ws := [9], bf := (.range 17) }, Zf [3,4,5,6,7,8,9,10,11,12,13,14,15,16,17,18,19,20,24,25] [2,3,4,5,6,7,8,9] (fS 21 1 8), Zg [3,4,5,6,7,8,9,10,11,12,13,14,15,16,17,18,19,20,24,25] [2,3,4,5,6,7,8,9] [18] (lF 22 1 21), { o := .call 23 [10] (.f Nm) [.s 22], hs := [24,25], ws := [10], bf := (.range 20) }, Zf [3,4,5,6,7,8,9,10,11,12,13,14,15,16,17,18,19,20,21,22,23] [2,3,4,5,6,7,8,9,10] (fS 24 1 9), Zg [3,4,5,6,7,8,9,10,11,12,13,14,15,16,17,18,19,20,21,22,23] [2,3,4,5,6,7,8,9,10] [21] (lF 25 1 24), Ze (.range 23) (.build 26 [.emp 9, .emp 4, .emp 4, .emp 6, .emp 4, .emp 5, .emp 4, .emp 1, .emp 4, pz] [(0, 1, .s 5), (1, 1, .s 8), (2, 3, .s 11), (5, 1, .s 14), (6, 1, .s 17), (7, 1, .s 20), (8, 1, .s 23), (9, 1, .s 25)]), { o := sS 10 2 26, ws := [1,2,3,4,5,6,7,8,9,10], bf := (.range 24) }] [2])
.ret))
theorem Ce6 (a : GArchive) (hs : a.size ≤ 1073741824) : Ctr Tryz.prog N5t [aS a.enc] [rS a.enc] := by
 refine cA M6n 11 27 [(.cell 2 true 10, [true, true, true, true, true, true, true, true, true, false])] Tryz.func98 rfl rfl ?_; unfold M6n
 intro hb
 clear hb
 simp only [GArchive.size] at hs
 simp only [go_sem]
 apply K0 (Cg6 a.Site (by omega))
 simp only [go_sem]
 apply K0 (C2y a.Script (by omega))
 simp only [go_sem]
 apply K0 (Cau a.Disk (by omega))
 simp only [go_sem]
 apply K0 (C9q a.Exclusions (by omega))
 simp only [go_sem]
 apply K0 (Cc4 a.Libraries (by omega))
 simp only [go_sem]
 apply K0 (Cc a.Keys (by omega))
 simp only [go_sem]
 apply K0 (C9r a.Statements (by omega))
 simp only [go_sem]
 try intros
 try trivial
def Mc1 : MC :=
(Zs [.box 1 0 (.s 0), .alloc 2 1 [.emp 9, .emp 4, .emp 4, .emp 6, .emp 4, .emp 5, .emp 4, .emp 1, .emp 4, pz]] [1,2] (.seq (.dreg [Zf [6,7,8,10,11,13,14,15,17,18,20,21,22,24,25,26,28,29] [3,7,9,10] (fS 3 1 0), Zg [6,7,8,10,11,13,14,15,17,18,20,21,22,24,25,26,28,29] [3,7,9,10] [0] (lF 4 1 3), { o := .call 5 [2] (.f Nb5) [.s 4], hs := [6,7,8,10,11,13,14,15,17,18,20,21,22,24,25,26,28,29], ho := [3,7,9,10], ws := [2], bf := [0,1] }, { o := .lit 6 3 4 32 [], hs := [3,4,5,7,8,10,11,13,14,15,17,18,20,21,22,24,25,26,28,29], ho := [2,7,9,10], ws := [3] }, Zf [3,4,5,6,10,11,13,14,15,17,18,20,21,22,24,25,26,28,29] [2,3,7,9,10] (fS 7 1 1), Zg [3,4,5,6,10,11,13,14,15,17,18,20,21,22,24,25,26,28,29] [2,3,7,9,10] [4] (lF 8 1 7), { o := .app 9 3 4 32 (.s 6) (.s 8), hs := [10,11,13,14,15,17,18,20,21,22,24,25,26,28,29], ho := [7,9,10], ws := [3], bf := (.range 6) }, Zf [3,4,5,6,7,8,9,13,14,15,17,18,20,21,22,24,25,26,28,29] [2,3,7,9,10] (fS 10 1 2), Zg [3,4,5,6,7,8,9,13,14,15,17,18,20,21,22,24,25,26,28,29] [2,3,7,9,10] [7] (lT 11 3 10), { o := .call 12 [4, 5, 6] (.f N5o) [.s 11], hs := [13,14,15,17,18,20,21,22,24,25,26,28,29], ho := [7,9,10], ws := [4,5,6], bf := (.range 9) }, { o := .lit 13 7 5 40 [], hs := [3,4,5,6,7,8,9,10,11,12,14,15,17,18,20,21,22,24,25,26,28,29], ho := [2,3,4,5,6,9,10], ws := [7] }, Zf [3,4,5,6,7,8,9,10,11,12,13,17,18,20,21,22,24,25,26,28,29] [2,3,4,5,6,7,9,10] (fS 14 1 5), Zg [3,4,5,6,7,8,9,10,11,12,13,17,18,20,21,22,24,25,26,28,29] [2,3,4,5,6,7,9,10] [11] (lF 15 1 14), { o := .app 16 7 5 40 (.s 13) (.s 15), hs := [17,18,20,21,22,24,25,26,28,29], ho := [9,10], ws := [7], bf := (.range 13) }, Zf [3,4,5,6,7,8,9,10,11,12,13,14,15,16,20,21,22,24,25,26,28,29] [2,3,4,5,6,7,9,10] (fS 17 1 6), Zg [3,4,5,6,7,8,9,10,11,12,13,14,15,16,20,21,22,24,25,26,28,29] [2,3,4,5,6,7,9,10] [14] (lF 18 1 17), { o := .call 19 [8] (.f Nb6) [.s 18], hs := [20,21,22,24,25,26,28,29], ho := [9,10], ws := [8], bf := (.range 16) }, { o := .lit 20 9 1 8 [], hs := [3,4,5,6,7,8,9,10,11,12,13,14,15,16,17,18,19,21,22,24,25,26,28,29], ho := [2,3,4,5,6,7,8,10], ws := [9] }, Zf [3,4,5,6,7,8,9,10,11,12,13,14,15,16,17,18,19,20,24,25,26,28,29] [2,3,4,5,6,7,8,9,10] (fS 21 1 7), Zg [3,4,5,6,7,8,9,10,11,12,13,14,15,16,17,18,19,20,24,25,26,28,29] [2,3,4,5,6,7,8,9,10] [18] (lF 22 1 21), { o := .app 23 9 1 8 (.s 20) (.s 22), hs := [24,25,26,28,29], ho := [10], ws := [9], bf := (.range 20) }, { o := .lit 24 10 4 32 [], hs := [3,4,5,6,7,8,9,10,11,12,13,14,15,16,17,18,19,20,21,22,23,25,26,28,29], ho := [2,3,4,5,6,7,8,9], ws := [10] }, Zf [3,4,5,6,7,8,9,10,11,12,13,14,15,16,17,18,19,20,21,22,23,24,28,29] [2,3,4,5,6,7,8,9,10] (fS 25 1 8), Zg [3,4,5,6,7,8,9,10,11,12,13,14,15,16,17,18,19,20,21,22,23,24,28,29] [2,3,4,5,6,7,8,9,10] [22] (lF 26 1 25), { o := .app 27 10 4 32 (.s 24) (.s 26), hs := [28,29], ws := [10], bf := (.range 24) }, Zf [3,4,5,6,7,8,9,10,11,12,13,14,15,16,17,18,19,20,21,22,23,24,25,26,27] [2,3,4,5,6,7,8,9,10] (fS 28 1 9), Zg [3,4,5,6,7,8,9,10,11,12,13,14,15,16,17,18,19,20,21,22,23,24,25,26,27] [2,3,4,5,6,7,8,9,10] [25] (lF 29 1 28), Ze (.range 27) (.build 30 [.emp 9, .emp 4, .emp 4, .emp 6, .emp 4, .emp 5, .emp 4, .emp 1, .emp 4, pz] [(0, 1, .s 5), (1, 1, .s 9), (2, 3, .s 12), (5, 1, .s 16), (6, 1, .s 19), (7, 1, .s 23), (8, 1, .s 27), (9, 1, .s 29)]), { o := sS 10 2 30, ws := [1,2,3,4,5,6,7,8,9,10], bf := (.range 28) }] [2])
.ret))
theorem Cgl (a : GArchive) (hs : a.size ≤ 1073741824) : Ctr Tryz.prog Nb3 [aS a.enc] [rS a.enc] := by
 refine cA Mc1 11 31 [(.cell 2 true 10, [true, true, true, true, true, true, true, true, true, false])] Tryz.func92 rfl rfl ?_; unfold Mc1
 intro hb
 clear hb
 simp only [GArchive.size] at hs
 simp only [go_sem]
 apply K0 (Cgj a.Site (by omega))
 simp only [go_sem, ↓Km (f := GOp.enc) (fun _ => rfl) a.Script]
 refine ⟨by simp only [roomB]; omega, ?_⟩
 apply K0 (Cc0 a.Disk (by omega))
 simp only [go_sem, ↓Km (f := GExclusion.enc) (fun _ => rfl) a.Exclusions]
 refine ⟨by simp only [roomB]; omega, ?_⟩
 apply K0 (Cgk a.Libraries (by omega))
 simp only [go_sem, ↓Km (f := encI) (fun _ => rfl) a.Keys, ↓Km (f := GStatement.enc) (fun _ => rfl) a.Statements]
 simp only [roomB]
 exact ⟨by omega, by omega⟩
end Go.Proofs.YtgkeplbnnjogiaaGreatR
namespace Go.Proofs.YtgkeplbnnjogiaaGreatR
namespace Srt
structure Swo {α : Type} (lt : α → α → Bool) : Prop where
 asy : ∀ x y, lt x y = true → lt y x = false
 neg : ∀ x y z, lt x z = true → lt x y = true ∨ lt y z = true
variable {α : Type} {lt : α → α → Bool}
theorem Swo.tr (h : Swo lt) {x y z : α} (h1 : lt x y = true) (h2 : lt y z = true) : lt x z = true := by
 rcases h.neg x z y h1 with k | k
 ·exact k
 ·rw [h.asy y z h2] at k; cases k
theorem Swo.ntr (h : Swo lt) {x y z : α} (h1 : lt x y = false) (h2 : lt y z = false) : lt x z = false := by
 cases k : lt x z
 ·rfl
 ·rcases h.neg x y z k with k | k <;> simp_all
theorem Swo.irr (h : Swo lt) (x : α) : lt x x = false := by
 cases k : lt x x
 ·rfl
 ·have := h.asy x x k; simp_all
theorem Swo.lf (h : Swo lt) {x y z : α} (h1 : lt x y = true) (h2 : lt z y = false) : lt x z = true := by
 rcases h.neg x z y h1 with k | k <;> simp_all
theorem Swo.fl (h : Swo lt) {x y z : α} (h1 : lt y x = false) (h2 : lt y z = true) : lt x z = true := by
 rcases h.neg y x z h2 with k | k <;> simp_all
variable (lt)
def ins (x : α) : List α → List α
 | [] => [x]
 | z :: zs => if lt x z then x :: z :: zs else z :: ins x zs
def mrg (A B : List α) : List α := B.foldl (fun acc x => ins lt x acc) A
def isort (l : List α) : List α := mrg lt [] l
def srt (l : List α) : Prop := l.Pairwise fun x y => lt y x = false
variable {lt}
theorem mem_ins {x y : α} : ∀ {l : List α}, y ∈ ins lt x l ↔ y = x ∨ y ∈ l
 | [] => by simp [ins]
 | z :: zs => by
  simp only [ins]
  split
  ·simp
  ·rw [List.mem_cons, mem_ins, List.mem_cons]
   constructor <;> rintro (h | h | h) <;> simp [h]
theorem len_ins {x : α} : ∀ {l : List α}, (ins lt x l).length = l.length + 1
 | [] => rfl
 | z :: zs => by
  simp only [ins]
  split
  ·rfl
  ·simp [len_ins]
theorem mrg_nil {A : List α} : mrg lt A [] = A := rfl
theorem mrg_cons {A B : List α} {x : α} : mrg lt A (x :: B) = mrg lt (ins lt x A) B := rfl
theorem K31 {A B C : List α} : mrg lt A (B ++ C) = mrg lt (mrg lt A B) C := List.foldl_append
theorem mem_mrg {y : α} : ∀ {B A : List α}, y ∈ mrg lt A B ↔ y ∈ A ∨ y ∈ B
 | [], A => by simp [mrg_nil]
 | x :: B, A => by
  rw [mrg_cons, mem_mrg, mem_ins, List.mem_cons]
  exact ⟨fun h => h.elim (fun h => h.elim (fun h => .inr (.inl h)) .inl) (fun h => .inr (.inr h)), fun h => h.elim (fun h => .inl (.inr h)) (fun h => h.elim (fun h => .inl (.inl h)) .inr)⟩
theorem len_mrg : ∀ {B A : List α}, (mrg lt A B).length = A.length + B.length
 | [], A => rfl
 | x :: B, A => by
  rw [mrg_cons, len_mrg, len_ins, List.length_cons]; omega
theorem len_isort {l : List α} : (isort lt l).length = l.length := by
 unfold isort; rw [len_mrg]; simp
theorem Kam (h : Swo lt) {x y : α} (hxy : lt x y = true) : ∀ (A : List α), ins lt y (ins lt x A) = ins lt x (ins lt y A)
 | [] => by simp [ins, hxy, h.asy x y hxy]
 | z :: zs => by
  cases k1 : lt x z <;> cases k2 : lt y z
  ·simp [ins, k1, k2, Kam h hxy zs]
  ·rw [h.tr hxy k2] at k1; cases k1
  ·simp [ins, k1, k2, h.asy x y hxy]
  ·simp [ins, k1, k2, hxy, h.asy x y hxy]
theorem K9w (h : Swo lt) {x : α} : ∀ {s A : List α}, (∀ y ∈ s, lt x y = true) → mrg lt (ins lt x A) s = ins lt x (mrg lt A s)
 | [], A, _ => rfl
 | y :: s, A, hs => by
  rw [mrg_cons, Kam h (hs y (by simp)), K9w h (fun z hz => hs z (by simp [hz])), mrg_cons]
theorem K5t {x : α} {l : List α} : srt lt (x :: l) ↔ (∀ y ∈ l, lt y x = false) ∧ srt lt l := List.pairwise_cons
theorem srt_append {A B : List α} : srt lt (A ++ B) ↔ srt lt A ∧ srt lt B ∧ ∀ a ∈ A, ∀ b ∈ B, lt b a = false := List.pairwise_append
theorem srt_ins (h : Swo lt) {x : α} : ∀ {l : List α}, srt lt l → srt lt (ins lt x l)
 | [], _ => by simp [ins, srt]
 | z :: zs, hs => by
  obtain ⟨h1, h2⟩ := K5t.1 hs
  simp only [ins]
  split
  ·rename_i k
   refine K5t.2 ⟨fun y hy => ?_, hs⟩
   rcases List.mem_cons.1 hy with rfl | hy
   ·exact h.asy _ _ k
   ·exact h.ntr (h1 y hy) (h.asy _ _ k)
  ·rename_i k
   refine K5t.2 ⟨fun y hy => ?_, srt_ins h h2⟩
   rcases mem_ins.1 hy with rfl | hy
   ·simpa using k
   ·exact h1 y hy
theorem srt_mrg (h : Swo lt) : ∀ {B A : List α}, srt lt A → srt lt (mrg lt A B)
 | [], A, hA => hA
 | x :: B, A, hA => srt_mrg h (B := B) (srt_ins h hA)
theorem srt_isort (h : Swo lt) (l : List α) : srt lt (isort lt l) := srt_mrg h List.Pairwise.nil
theorem K9k (h : Swo lt) {x : α} : ∀ {l : List α}, srt lt l → ∃ s t, l = s ++ t ∧ ins lt x l = s ++ x :: t ∧ ∀ y ∈ t, lt x y = true
 | [], _ => ⟨[], [], rfl, rfl, by simp⟩
 | z :: zs, hs => by
  obtain ⟨h1, h2⟩ := K5t.1 hs
  cases k : lt x z
  ·obtain ⟨s, t, e, e2, h3⟩ := K9k h (x := x) h2
   exact ⟨z :: s, t, by simp [e], by simp [ins, k, e2], h3⟩
  ·refine ⟨[], z :: zs, rfl, by simp [ins, k], fun y hy => ?_⟩
   rcases List.mem_cons.1 hy with rfl | hy
   ·exact k
   ·exact h.lf k (h1 y hy)
theorem mrg_ins (h : Swo lt) {x : α} {A s : List α} (hs : srt lt s) : mrg lt A (ins lt x s) = ins lt x (mrg lt A s) := by
 obtain ⟨s1, s2, rfl, e, h2⟩ := K9k h (x := x) hs
 rw [e, K31, mrg_cons, K9w h h2, K31]
theorem isort_snoc {l : List α} {x : α} : isort lt (l ++ [x]) = ins lt x (isort lt l) := by
 unfold isort; rw [K31]; rfl
theorem mrg_isort (h : Swo lt) {A : List α} (r : List α) : mrg lt A (isort lt r) = mrg lt A r := by
 suffices H : ∀ (n : Nat) (r : List α), r.length = n → mrg lt A (isort lt r) = mrg lt A r from H _ r rfl
 intro n
 induction n with
 | zero => intro r hr; obtain rfl := List.length_eq_zero_iff.1 hr; rfl
 | succ n ih =>
  intro r hr
  rcases List.eq_nil_or_concat r with rfl | ⟨s, x, rfl⟩
  ·rfl
  ·rw [List.concat_eq_append] at *
   rw [isort_snoc, mrg_ins h (srt_isort h s), ih s (by simpa using hr), K31]; rfl
theorem K6i (h : Swo lt) (l r : List α) : isort lt (l ++ r) = mrg lt (isort lt l) (isort lt r) := by
 rw [mrg_isort h]; unfold isort; rw [K31]
theorem Kaj {b : α} {A2 : List α} (h : ∀ a ∈ A2.head?, lt b a = true) : ∀ (A1 : List α), ins lt b (A1 ++ A2) = ins lt b A1 ++ A2
 | [] => by
  cases A2 with
  | nil => rfl
  | cons z zs => simp [ins, h z (by simp)]
 | z :: zs => by
  simp only [List.cons_append, ins]
  split
  ·rfl
  ·rw [Kaj h zs, List.cons_append]
theorem K6s {b : α} {A2 : List α} : ∀ {A1 : List α}, (∀ a ∈ A1, lt b a = false) → ins lt b (A1 ++ A2) = A1 ++ ins lt b A2
 | [], _ => rfl
 | z :: zs, h => by
  simp only [List.cons_append, ins, h z (by simp), K6s (A1 := zs) (fun a ha => h a (by simp [ha]))]
  rfl
theorem ins_mid {x : α} {s t : List α} (h1 : ∀ a ∈ s, lt x a = false) (h2 : ∀ a ∈ t.head?, lt x a = true) : ins lt x (s ++ t) = s ++ x :: t := by
 rw [K6s h1]
 cases t with
 | nil => rfl
 | cons z zs => simp [ins, h2 z (by simp)]
theorem Ka9 {A2 : List α} : ∀ {B A1 : List α}, (∀ b ∈ B, ∀ a ∈ A2.head?, lt b a = true) → mrg lt (A1 ++ A2) B = mrg lt A1 B ++ A2
 | [], _, _ => rfl
 | b :: B, A1, h => by
  rw [mrg_cons, Kaj (h b (by simp)), Ka9 (fun b hb => h b (by simp [hb])), mrg_cons]
theorem K6o {A1 : List α} : ∀ {B A2 : List α}, (∀ b ∈ B, ∀ a ∈ A1, lt b a = false) → mrg lt (A1 ++ A2) B = A1 ++ mrg lt A2 B
 | [], _, _ => rfl
 | b :: B, A2, h => by
  rw [mrg_cons, K6s (h b (by simp)), K6o (fun b hb => h b (by simp [hb])), mrg_cons]
theorem mrg_nil_srt (h : Swo lt) {l : List α} (hs : srt lt l) : mrg lt [] l = l := by
 suffices H : ∀ (l A : List α), srt lt (A ++ l) → mrg lt A l = A ++ l from H l [] (by simpa using hs)
 intro l
 induction l with
 | nil => intro A _; simp [mrg_nil]
 | cons x l ih =>
  intro A hA
  have := srt_append.1 hA
  rw [mrg_cons, show ins lt x A = A ++ [x] from by
   have := ins_mid (lt := lt) (x := x) (s := A) (t := []) (fun a ha => (srt_append.1 hA).2.2 a ha x (by simp)) (by simp)
   simpa using this, ih (A ++ [x]) (by simpa using hA)]
  simp
theorem K9a {A1 A2 B1 B2 : List α} (h1 : ∀ b ∈ B1, ∀ a ∈ A2.head?, lt b a = true) (h2 : ∀ b ∈ B2, ∀ a ∈ A1, lt b a = false) (h3 : ∀ b ∈ B2, ∀ a ∈ B1, lt b a = false) : mrg lt (A1 ++ A2) (B1 ++ B2) = mrg lt A1 B1 ++ mrg lt A2 B2 := by
 rw [K31, Ka9 h1, K6o]
 intro b hb a ha
 rcases mem_mrg.1 ha with k | k
 ·exact h2 b hb a k
 ·exact h3 b hb a k
def blk (lt : α → α → Bool) (s : Nat) (l : List α) : List α :=
 if h : s = 0 ∨ l.length ≤ s then isort lt l else isort lt (l.take s) ++ blk lt s (l.drop s)
termination_by l.length
decreasing_by
 simp only [List.length_drop]
 omega
end Srt
end Go.Proofs.YtgkeplbnnjogiaaGreatR
namespace Go.Proofs.YtgkeplbnnjogiaaGreatR
open Go Go.RowKit Go.Proofs
open Nat (reduceEqDiff reduceLT reduceLeDiff reduceAdd reduceMul)
open List (reduceReplicate)
abbrev fI (f : FuncId) : RV := ⟨false, [(false, .fn f [])]⟩
attribute [go_sem] fI
def two (A : List (List T)) (e : List T) (B : List (List T)) (e' : List T) (C : List (List T)) : List (List T) := A ++ e :: (B ++ e' :: C)
theorem K40 {A B C : List (List T)} {p q : Nat} (hp : A.length = p) (hq : p + 1 + B.length = q) :
  (∀ e e', (two A e B e' C)[p]? = some e) ∧ (∀ e e', (two A e B e' C)[q]? = some e') ∧
  (∀ e e' u, (two A e B e' C).set p u = two A u B e' C) ∧ (∀ e e' u, (two A e B e' C).set q u = two A e B u C) ∧
  (∀ e e', (two A e B e' C).length = A.length + B.length + C.length + 2) ∧
  (∀ e e', (two A e B e' C).getD p [] = e) ∧ (∀ e e', (two A e B e' C).getD q [] = e') := by
 subst hp hq
 have h1 : ∀ e e', (two A e B e' C)[A.length]? = some e := fun e e' => by simp [two]
 have h2 : ∀ e e', (two A e B e' C)[A.length + 1 + B.length]? = some e' := fun e e' => by
  unfold two
  rw [List.getElem?_append_right (by omega), show A.length + 1 + B.length - A.length = B.length + 1 by omega, List.getElem?_cons_succ, List.getElem?_append_right (by omega), Nat.sub_self]
  rfl
 refine ⟨h1, h2, fun e e' u => by simp [two], fun e e' u => ?_, fun e e' => by simp [two]; omega, fun e e' => by rw [List.getD_eq_getElem?_getD, h1]; rfl, fun e e' => by rw [List.getD_eq_getElem?_getD, h2]; rfl⟩
 unfold two
 rw [List.set_append_right _ _ (by omega), show A.length + 1 + B.length - A.length = B.length + 1 by omega, List.set_cons_succ, List.set_append_right _ _ (by omega), Nat.sub_self]
 rfl
def swp {α : Type} (P X M Y Q : List α) (i : Nat) : List α := (P ++ Y.take i) ++ (X.drop i ++ M ++ X.take i) ++ (Y.drop i ++ Q)
theorem swp_len {α : Type} {P X M Y Q : List α} {i : Nat} (h : X.length = Y.length) : (swp P X M Y Q i).length = (P ++ X ++ M ++ Y ++ Q).length := by
 simp [swp, List.length_take, List.length_drop]; omega
theorem swp_two {α : Type} {P X M Y Q : List α} {i : Nat} {x y : α} {f : α → List T} (hx : X[i]? = some x) (hy : Y[i]? = some y) :
  (swp P X M Y Q i).map f = two ((P ++ Y.take i).map f) (f x) ((X.drop (i + 1) ++ M ++ X.take i).map f) (f y) ((Y.drop (i + 1) ++ Q).map f) ∧
  (swp P X M Y Q (i + 1)).map f = two ((P ++ Y.take i).map f) (f y) ((X.drop (i + 1) ++ M ++ X.take i).map f) (f x) ((Y.drop (i + 1) ++ Q).map f) := by
 constructor
 ·simp [swp, two, Kn hx, Kn hy]
 ·simp [swp, two, Kc hx, Kc hy]
theorem wN {a b : Nat} (h : a + b ≤ 9223372036854775807) : IntKind.i64.wrap ((a : Int) + (b : Int)) = ((a + b : Nat) : Int) := by
 rw [wI (by omega) (by omega)]; omega
theorem wN1 {a : Nat} (h : a + 1 ≤ 9223372036854775807) : IntKind.i64.wrap ((a : Int) + 1) = ((a + 1 : Nat) : Int) := by
 rw [wI (by omega) (by omega)]; omega
theorem wS {a b : Nat} (h : b ≤ a) (h2 : a ≤ 9223372036854775807) : IntKind.i64.wrap ((a : Int) - (b : Int)) = ((a - b : Nat) : Int) := by
 rw [wI (by omega) (by omega)]; omega
theorem wS1 {a : Nat} (h : 1 ≤ a) (h2 : a ≤ 9223372036854775807) : IntKind.i64.wrap ((a : Int) - 1) = ((a - 1 : Nat) : Int) := by
 rw [wI (by omega) (by omega)]; omega
def M15 : MC :=
(Zs [.mv 10 (ci 0)] [0,1,2,3,10] (.block 0 (.loop ([0,1,2,3,10], []) (.seq (Zs [mS 11 10, mS 12 3, bS 13 .lss 11 12] [0,1,2,3,10,13] (cX 13 0))
(.seq (.block 1 (.dreg [Zc [17,18,19,20,21,22,23,24,25,26,27,28,29,30,31,32,33,34,35] (mS 16 0), Zc [16,18,20,21,22,23,24,25,26,27,28,29,30,31,32,33,34,35] (mS 17 1), Zc [16,17,20,21,22,23,24,25,26,27,28,29,30,31,32,33,34,35] (mS 18 10), Zd [16,20,21,22,23,24,25,26,27,28,29,30,31,32,33,34,35] [1,2] (bS 19 .add 17 18), Zf [16,17,18,19,21,22,23,24,25,26,27,28,29,30,31,32,33,34,35,36] [0] (mS 20 0), Zf [16,17,18,19,20,22,24,25,26,27,28,29,30,31,32,33,34,35,36] [0] (mS 21 2), Zf [16,17,18,19,20,21,24,25,26,27,28,29,30,31,32,33,34,35,36] [0] (mS 22 10), Zg [16,17,18,19,20,24,25,26,27,28,29,30,31,32,33,34,35,36] [0] [5,6] (bS 23 .add 21 22), Zc [16,17,18,19,20,21,22,23,25,26,27,30,31,32,33,34,35] (mS 24 0), Zc [16,17,18,19,20,21,22,23,24,26,30,31,32,33,34,35] (mS 25 2), Zc [16,17,18,19,20,21,22,23,24,25,30,31,32,33,34,35] (mS 26 10), Zd [16,17,18,19,20,21,22,23,24,30,31,32,33,34,35] [9,10] (bS 27 .add 25 26), Zd [16,17,18,19,20,21,22,23,30,31,32,33,34,35] [8,9,10,11] (xS 28 6 24 27), Zd [16,17,18,19,20,21,22,23,30,31,32,33,34,35] [8,9,10,11,12] (lT 29 6 28), Zc [16,17,18,19,20,21,22,23,24,25,26,27,28,29,31,32,33] (mS 30 0), Zc [16,17,18,19,20,21,22,23,24,25,26,27,28,29,30,32] (mS 31 1), Zc [16,17,18,19,20,21,22,23,24,25,26,27,28,29,30,31] (mS 32 10), Zd [16,17,18,19,20,21,22,23,24,25,26,27,28,29,30] [15,16] (bS 33 .add 31 32), Zd [16,17,18,19,20,21,22,23,24,25,26,27,28,29] [14,15,16,17] (xS 34 6 30 33), Zd [16,17,18,19,20,21,22,23,24,25,26,27,28,29] [14,15,16,17,18] (lT 35 6 34), Zd [20,21,22,23] [0,1,2,3,8,9,10,11,12,13,14,15,16,17,18,19] (xS 36 6 16 19), { o := sS 6 36 29, hs := [20,21,22,23], ws := [0], bf := [0,1,2,3,8,9,10,11,12,13,14,15,16,17,18,19,20] }, Ze (.range 22) (xS 37 6 20 23), { o := sS 6 37 35, ws := [0], bf := (.range 23) }] [0,1,2,3,10]))
(pr [mS 14 10, bC 15 .add 14 1, mS 10 15] [0,1,2,3,10]))))))
theorem C1a (P X M Y Q : List GFound) (f : FuncId) {a b n : Nat} (ha : P.length = a) (hb : (P ++ X ++ M).length = b) (hX : X.length = n) (hY : Y.length = n) : CtrI Tryz.prog N11 [oL 6 ((P ++ X ++ M ++ Y ++ Q).map GFound.enc), iI a, iI b, iI n, fI f] [some (6, (P ++ Y ++ M ++ X ++ Q).map GFound.enc)] [] := by
 have hL0 : (P ++ X ++ M ++ Y ++ Q).length = b + n + Q.length := by rw [List.length_append, List.length_append, hb, hY]
 have hL1 : (P ++ Y ++ M ++ X ++ Q).length = (P ++ X ++ M ++ Y ++ Q).length := by simp; omega
 have hb' : b = a + n + M.length := by rw [← hb]; simp; omega
 have hsw0 : swp P X M Y Q 0 = P ++ X ++ M ++ Y ++ Q := by simp [swp]
 have hswn : swp P X M Y Q n = P ++ Y ++ M ++ X ++ Q := by simp [swp, ← hX, List.take_of_length_le (show Y.length ≤ X.length by omega), List.drop_of_length_le (show Y.length ≤ X.length by omega)]
 refine K10 (M := M15) (m := 0) (n := 38) (res := []) hmix Tryz.func434 rfl (by kernel_rfl) rfl (by kernel_rfl) (by kernel_rfl) (Nat.le_of_ble_eq_true rfl) rfl rfl ?_; unfold M15
 intro hbd
 have hl := Kt hbd
 clear hbd
 simp only [roomB] at hl
 rw [← hsw0, ← hswn]
 rw [← hsw0, ← hswn] at hL1
 rw [← hsw0] at hl hL0
 subst hX
 generalize hN : (swp P X M Y Q 0).length = N at *
 simp only [go_sem, hN]
 refine K5 X (fun i => [(10, vI i)]) (fun i => [(0, ⟨1, .row true 6 ((swp P X M Y Q i).map GFound.enc)⟩)]) (fun _ => True) (by simp only [roomB]; omega) ?_
 simp only [go_sem]
 refine ⟨?_, trivial, ?_, ?_⟩
 ·simp only [go_sem]
 ·intro i x hx _ h0 h1 hw
  have hi := Kr hx
  obtain ⟨y, hy⟩ := Kf (show i < Y.length by omega)
  obtain ⟨e1, e2⟩ := swp_two (P := P) (M := M) (Q := Q) (f := GFound.enc) hx hy
  have hlen := swp_len (P := P) (X := X) (M := M) (Y := Y) (Q := Q) (i := i) hY.symm
  rw [e1, e2]
  generalize hAe : (P ++ Y.take i).map GFound.enc = A at e1 e2
  generalize hBe : (X.drop (i + 1) ++ M ++ X.take i).map GFound.enc = B at e1 e2
  generalize hCe : (Y.drop (i + 1) ++ Q).map GFound.enc = C at e1 e2
  have hA : A.length = a + i := by subst hAe; simp; omega
  have hB : (a + i) + 1 + B.length = b + i := by subst hBe; simp; omega
  have hC : C.length = Y.length - (i + 1) + Q.length := by subst hCe; simp
  obtain ⟨g1, g2, s1, s2, hL, d1, d2⟩ := K40 (C := C) hA hB
  have hL' : ∀ e e', (two A e B e' C).length = N := fun e e' => by rw [hL]; omega
  have k1 : (0 : Int) ≤ ((a + i : Nat) : Int) := by omega
  have k2 : ((a + i : Nat) : Int) < (N : Int) := by omega
  have k3 : (0 : Int) ≤ ((b + i : Nat) : Int) := by omega
  have k4 : ((b + i : Nat) : Int) < (N : Int) := by omega
  have k5 : ¬ b + i = a + i := by omega
  simp only [go_sem, g1, g2, s1, s2, hL', hw, h1, wN (a := a) (b := i) (by omega), wN (a := b) (b := i) (by omega), k1, k2, k3, k4]
 ·intro _
  simp only [go_sem]
def RotI (P X Y Q : List GFound) (m : Nat) (d : List GFound) (i j : Nat) : Prop :=
 ∃ C X' Y' D, d = P ++ C ++ X' ++ Y' ++ D ++ Q ∧ X'.length = i ∧ Y'.length = j ∧ P.length + C.length + i = m ∧ C ++ Y' ++ X' ++ D = Y ++ X ∧ 0 < i ∧ 0 < j
theorem RotI.gt {P X Y Q : List GFound} {m : Nat} {d : List GFound} {i j : Nat} (h : RotI P X Y Q m d i j) (hij : j < i) :
  ∃ P' X1 M Y' Q', d = P' ++ X1 ++ M ++ Y' ++ Q' ∧ P'.length = m - i ∧ (P' ++ X1 ++ M).length = m ∧ X1.length = j ∧ Y'.length = j ∧ RotI P X Y Q m (P' ++ Y' ++ M ++ X1 ++ Q') (i - j) j := by
 obtain ⟨C, X', Y', D, rfl, rfl, rfl, h3, h4, h5, h6⟩ := h
 obtain ⟨X1, X2, rfl, hX1⟩ : ∃ X1 X2, X' = X1 ++ X2 ∧ X1.length = Y'.length := ⟨X'.take Y'.length, X'.drop Y'.length, (List.take_append_drop _ _).symm, by simp; omega⟩
 simp only [List.length_append] at *
 exact ⟨P ++ C, X1, X2, Y', D ++ Q, by simp, by simp; omega, by simp; omega, hX1, rfl, C ++ Y', X2, X1, D, by simp, by omega, by omega, by simp; omega, by rw [← h4]; simp, by omega, by omega⟩
theorem RotI.le {P X Y Q : List GFound} {m : Nat} {d : List GFound} {i j : Nat} (h : RotI P X Y Q m d i j) (hij : i < j) :
  ∃ P' X' M Y2 Q', d = P' ++ X' ++ M ++ Y2 ++ Q' ∧ P'.length = m - i ∧ (P' ++ X' ++ M).length = m + j - i ∧ X'.length = i ∧ Y2.length = i ∧ RotI P X Y Q m (P' ++ Y2 ++ M ++ X' ++ Q') i (j - i) := by
 obtain ⟨C, X', Y', D, rfl, rfl, rfl, h3, h4, h5, h6⟩ := h
 obtain ⟨Y1, Y2, rfl, hY2⟩ : ∃ Y1 Y2, Y' = Y1 ++ Y2 ∧ Y2.length = X'.length := ⟨Y'.take (Y'.length - X'.length), Y'.drop (Y'.length - X'.length), (List.take_append_drop _ _).symm, by simp; omega⟩
 simp only [List.length_append] at *
 exact ⟨P ++ C, X', Y1, Y2, D ++ Q, by simp, by simp; omega, by simp; omega, rfl, hY2, C, Y2, Y1, X' ++ D, by simp, by omega, by omega, by omega, by rw [← h4]; simp, by omega, by omega⟩
theorem RotI.eq {P X Y Q : List GFound} {m : Nat} {d : List GFound} {i : Nat} (h : RotI P X Y Q m d i i) :
  ∃ P' X' Y' Q', d = P' ++ X' ++ [] ++ Y' ++ Q' ∧ P'.length = m - i ∧ (P' ++ X' ++ []).length = m ∧ X'.length = i ∧ Y'.length = i ∧ P' ++ Y' ++ [] ++ X' ++ Q' = P ++ Y ++ X ++ Q := by
 obtain ⟨C, X', Y', D, rfl, rfl, h2, h3, h4, h5, h6⟩ := h
 refine ⟨P ++ C, X', Y', D ++ Q, by simp, by simp; omega, by simp; omega, rfl, h2, ?_⟩
 have := congrArg (fun l => P ++ (l ++ Q)) h4
 simpa using this
theorem RotI.len {P X Y Q : List GFound} {m : Nat} {d : List GFound} {i j : Nat} (h : RotI P X Y Q m d i j) : d.length = (P ++ X ++ Y ++ Q).length ∧ i ≤ m ∧ m + j ≤ d.length ∧ 0 < i ∧ 0 < j := by
 obtain ⟨C, X', Y', D, rfl, rfl, rfl, h3, h4, h5, h6⟩ := h
 have := congrArg List.length h4
 simp at this ⊢
 omega
theorem RotI.start {P X Y Q : List GFound} {m i j : Nat} (hm : P.length + X.length = m) (hi : X.length = i) (hj : Y.length = j) (hX : 0 < X.length) (hY : 0 < Y.length) : RotI P X Y Q m (P ++ X ++ Y ++ Q) i j :=
 ⟨[], X, Y, [], by simp, hi, hj, by simp; omega, by simp, by omega, by omega⟩
def Y28 (v0 : Nat) : MC :=
(Zs [mS 12 2, mS 13 1, bS 14 .sub 12 13, mS 10 14] [0,2,3,4,10] (Zs [mS 15 3, mS 16 2, bS 17 .sub 15 16, mS 11 17] [0,2,4,10,11] (.seq (.block 0 (.loop ([0,2,4,10,11], []) (.seq (Zs [mS 18 10, mS 19 11, bS 20 .neq 18 19] [0,2,4,10,11,20] (cX 20 0))
(.block 1 (Zs [mS 21 10, mS 22 11, bS 23 .gtr 21 22] [0,2,4,10,11,23] (.cond (.s 23) (Zs [mS 24 0, mS 25 2, mS 26 10, bS 27 .sub 25 26, mS 28 2, mS 29 11, mS 30 4, .callI 31 [] (.f v0) [.s 24, .s 27, .s 28, .s 29, .s 30] [0] []] [0,2,4,10,11] (pr [mS 32 10, mS 33 11, bS 34 .sub 32 33, mS 10 34] [0,2,4,10,11])) (Zs [mS 35 0, mS 36 2, mS 37 10, bS 38 .sub 36 37, mS 39 2, mS 40 11, bS 41 .add 39 40, mS 42 10, bS 43 .sub 41 42, mS 44 10, mS 45 4, .callI 46 [] (.f v0) [.s 35, .s 38, .s 43, .s 44, .s 45] [0] []] [0,2,4,10,11] (pr [mS 47 11, mS 48 10, bS 49 .sub 47 48, mS 11 49] [0,2,4,10,11]))))))))
(pr [mS 50 0, mS 51 2, mS 52 10, bS 53 .sub 51 52, mS 54 2, mS 55 10, mS 56 4, .callI 57 [] (.f v0) [.s 50, .s 53, .s 54, .s 55, .s 56] [0] []] []))))
attribute [go_sem] Y28
def M1e : MC := Y28 N11
theorem C1 (P X Y Q : List GFound) (f : FuncId) {a m b : Nat} (ha : P.length = a) (hm : (P ++ X).length = m) (hb : (P ++ X ++ Y).length = b) (hX : 0 < X.length) (hY : 0 < Y.length) : CtrI Tryz.prog N1d [oL 6 ((P ++ X ++ Y ++ Q).map GFound.enc), iI a, iI m, iI b, fI f] [some (6, (P ++ Y ++ X ++ Q).map GFound.enc)] [] := by
 refine K10 (M := M1e) (m := 0) (n := 58) (res := []) hmix Tryz.func432 rfl (by kernel_rfl) rfl (by kernel_rfl) (by kernel_rfl) (Nat.le_of_ble_eq_true rfl) rfl rfl ?_; unfold M1e
 intro hbd
 have hl := Kt hbd
 clear hbd
 have hN2 : (P ++ Y ++ X ++ Q).length = (P ++ X ++ Y ++ Q).length := by simp; omega
 have hm' : m = a + X.length := by rw [← hm, ← ha]; simp
 have hb' : b = m + Y.length := by rw [← hb, ← hm]; simp; omega
 have hbN : b ≤ (P ++ X ++ Y ++ Q).length := by rw [List.length_append, hb]; omega
 generalize hN : (P ++ X ++ Y ++ Q).length = N at *
 simp only [roomB] at hl
 simp only [go_sem, hN, wS (a := m) (b := a) (by omega) (by omega), wS (a := b) (b := m) (by omega) (by omega)]
 refine Ko (ι := List GFound × Nat × Nat) (fun s => [(10, vI s.2.1), (11, vI s.2.2)]) (fun s => [(0, ⟨1, .row true 6 (s.1.map GFound.enc)⟩)]) (fun s => RotI P X Y Q m s.1 s.2.1 s.2.2) (fun s => s.2.1 + s.2.2) (P ++ X ++ Y ++ Q, m - a, b - m) ?_
 simp only [go_sem]
 refine ⟨?_, RotI.start (by omega) (show X.length = m - a by omega) (show Y.length = b - m by omega) hX hY, ?_⟩
 ·simp only [go_sem]
 ·rintro ⟨d, i, j⟩ hI
  simp only at hI
  obtain ⟨hd, h1, h2, h3, h4⟩ := hI.len
  rw [hN] at hd
  simp only [go_sem, hd]
  refine ⟨fun hne => ⟨fun hgt => ?_, fun hle => ?_⟩, fun heq => ?_⟩
  ·obtain ⟨P', X1, M, Y', Q', rfl, k1, k2, k3, k4, hR⟩ := hI.gt (by omega)
   have hd2 := hR.len.1
   rw [hN] at hd2
   rw [wS h1 (by omega)]
   apply K7 (C1a P' X1 M Y' Q' f k1 k2 k3 k4)
   simp only [go_sem, wS (a := i) (b := j) (by omega) (by omega)]
   exact ⟨(_, i - j, j), ⟨⟨rfl, rfl⟩, rfl⟩, hR, by show i - j + j < i + j; omega⟩
  ·obtain ⟨P', X1, M, Y', Q', rfl, k1, k2, k3, k4, hR⟩ := hI.le (by omega)
   have hd2 := hR.len.1
   rw [hN] at hd2
   rw [wS h1 (by omega), wN (by omega), wS (a := m + j) (b := i) (by omega) (by omega)]
   apply K7 (C1a P' X1 M Y' Q' f k1 k2 k3 k4)
   simp only [go_sem, wS (a := j) (b := i) (by omega) (by omega)]
   exact ⟨(_, i, j - i), ⟨⟨rfl, rfl⟩, rfl⟩, hR, by show i + (j - i) < i + j; omega⟩
  ·obtain rfl : i = j := by omega
   obtain ⟨P', X1, Y', Q', rfl, k1, k2, k3, k4, hR⟩ := hI.eq
   rw [wS h1 (by omega)]
   apply K7 (C1a P' X1 [] Y' Q' f k1 k2 k3 k4)
   rw [hR]
   simp only [go_sem]
def ltc (c : GFound → GFound → Int) (x y : GFound) : Bool := decide (c x y < 0)
def InsI (lt : GFound → GFound → Bool) (P S R : List GFound) (x : GFound) (d : List GFound) (j : Nat) : Prop :=
 ∃ s1 s2, d = P ++ s1 ++ x :: s2 ++ R ∧ P.length + s1.length = j ∧ s1 ++ s2 = S ∧ ∀ y ∈ s2, lt x y = true
theorem InsI.len {lt : GFound → GFound → Bool} {P S R : List GFound} {x : GFound} {d : List GFound} {j : Nat} (h : InsI lt P S R x d j) : d.length = P.length + S.length + 1 + R.length ∧ P.length ≤ j ∧ j ≤ P.length + S.length := by
 obtain ⟨s1, s2, rfl, rfl, rfl, h⟩ := h
 simp; omega
theorem InsI.done {lt : GFound → GFound → Bool} (hw : Srt.Swo lt) {P S R : List GFound} {x : GFound} {d : List GFound} {j : Nat} (h : InsI lt P S R x d j) (hs : Srt.srt lt S) (hj : j = P.length ∨ ∀ z ∈ d[j - 1]?, lt x z = false) : d = P ++ Srt.ins lt x S ++ R := by
 obtain ⟨s1, s2, rfl, rfl, rfl, h⟩ := h
 rw [Srt.ins_mid]
 ·simp
 ·intro y hy
  rcases List.eq_nil_or_concat s1 with rfl | ⟨s, z, rfl⟩
  ·simp at hy
  ·rcases hj with hj | hj
   ·simp at hj
   ·rw [List.concat_eq_append] at *
    have hz : lt x z = false := hj z (by simp [])
    rcases List.mem_append.1 hy with k | k
    ·have := (Srt.srt_append.1 (Srt.srt_append.1 hs).1).2.2 y k z (by simp)
     exact hw.ntr hz this
    ·obtain rfl := List.mem_singleton.1 k
     exact hz
 ·intro y hy
  exact h y (List.mem_of_mem_head? hy)
theorem InsI.step {lt : GFound → GFound → Bool} {P S R : List GFound} {x : GFound} {d : List GFound} {j : Nat} (h : InsI lt P S R x d j) (hj : P.length < j) :
  ∃ A z C, d = A ++ z :: ([] ++ x :: C) ∧ A.length = j - 1 ∧ d[j - 1]? = some z ∧ (lt x z = true → InsI lt P S R x (A ++ x :: ([] ++ z :: C)) (j - 1)) := by
 obtain ⟨s1, s2, rfl, rfl, rfl, h⟩ := h
 rcases List.eq_nil_or_concat s1 with rfl | ⟨s, z, rfl⟩
 ·simp at hj
 ·rw [List.concat_eq_append] at *
  refine ⟨P ++ s, z, s2 ++ R, by simp, by simp, by simp [], fun hl => ⟨s, z :: s2, by simp, by simp, by simp, ?_⟩⟩
  intro y hy
  rcases List.mem_cons.1 hy with rfl | k
  ·exact hl
  ·exact h y k
def Mx : MC :=
(Zs [mS 10 1, bC 11 .add 10 1, mS 8 11] [0,1,2,3,8] (.block 0 (.loop ([0,1,2,3,8], []) (.seq (Zs [mS 12 8, mS 13 2, bS 14 .lss 12 13] [0,1,2,3,8,14] (cX 14 0))
(.seq (.block 1 (Zs [mS 17 8, mS 9 17] [0,1,2,3,8,9] (.block 2 (.loop ([0,1,2,3,8,9], []) (.seq (.seq (.dreg [Zc [19] (mS 18 9), Zc [18] (mS 19 1), Ze [0,1] (bS 20 .gtr 18 19), Ze [0,1,2] (mS 21 20), { o := mS 22 3, g := some (21, true), hs := [23,24,25,26,27,28,29,30,31], bf := (.range 4) }, { o := mS 23 0, g := some (21, true), hs := [22,24,27,28,29,30,31], bf := (.range 4) }, { o := mS 24 9, g := some (21, true), hs := [22,23,27,28,29,30,31], bf := (.range 4) }, { o := xS 25 6 23 24, g := some (21, true), hs := [22,27,28,29,30,31], bf := [0,1,2,3,5,6] }, { o := lT 26 6 25, g := some (21, true), hs := [22,27,28,29,30,31], bf := [0,1,2,3,5,6,7] }, { o := mS 27 0, g := some (21, true), hs := [22,23,24,25,26,28,29], bf := (.range 4) }, { o := mS 28 9, g := some (21, true), hs := [22,23,24,25,26,27], bf := (.range 4) }, { o := bC 29 .sub 28 1, g := some (21, true), hs := [22,23,24,25,26,27], bf := [0,1,2,3,10] }, { o := xS 30 6 27 29, g := some (21, true), hs := [22,23,24,25,26], bf := [0,1,2,3,9,10,11] }, { o := lT 31 6 30, g := some (21, true), hs := [22,23,24,25,26], bf := [0,1,2,3,9,10,11,12] }, { o := .call 32 [] (.s 22) [.s 26, .s 31], g := some (21, true), bf := (.range 14) }, { o := bC 33 .lss 32 0, g := some (21, true), bf := (.range 15) }, Ze (.range 16) (.pick 34 (.s 21) (.s 33) cF)] [0,1,2,3,8,9,34])
(cX 34 2))
(.seq (.block 3 (.dreg [Zc [38,39,40,41,42,43,44,45,46,47,48,49,50] (mS 37 0), Zc [37,39,40,41,42,43,44,45,46,47,48,49,50] (mS 38 9), Zf [37,38,40,41,42,43,44,45,46,47,48,49,50,51] [0] (mS 39 0), Zf [37,38,39,42,43,44,45,46,47,48,49,50,51] [0] (mS 40 9), Zg [37,38,39,42,43,44,45,46,47,48,49,50,51] [0] [3] (bC 41 .sub 40 1), Zc [37,38,39,40,41,43,44,47,48,49,50] (mS 42 0), Zc [37,38,39,40,41,42,47,48,49,50] (mS 43 9), Zd [37,38,39,40,41,42,47,48,49,50] [6] (bC 44 .sub 43 1), Zd [37,38,39,40,41,47,48,49,50] [5,6,7] (xS 45 6 42 44), Zd [37,38,39,40,41,47,48,49,50] [5,6,7,8] (lT 46 6 45), Zc [37,38,39,40,41,42,43,44,45,46,48] (mS 47 0), Zc [37,38,39,40,41,42,43,44,45,46,47] (mS 48 9), Zd [37,38,39,40,41,42,43,44,45,46] [10,11] (xS 49 6 47 48), Zd [37,38,39,40,41,42,43,44,45,46] [10,11,12] (lT 50 6 49), Zd [39,40,41] [0,1,5,6,7,8,9,10,11,12,13] (xS 51 6 37 38), { o := sS 6 51 46, hs := [39,40,41], ws := [0], bf := [0,1,5,6,7,8,9,10,11,12,13,14] }, Ze (.range 16) (xS 52 6 39 41), { o := sS 6 52 50, ws := [0], bf := (.range 17) }] [0,1,2,3,8,9]))
(pr [mS 35 9, bC 36 .sub 35 1, mS 9 36] [0,1,2,3,8,9])))))))
(pr [mS 15 8, bC 16 .add 15 1, mS 8 16] [0,1,2,3,8]))))))
theorem C1s (P X Q : List GFound) (f : FuncId) (c : GFound → GFound → Int) (hc : ∀ x y, Ctr Tryz.prog f [aS x.enc, aS y.enc] [rI (c x y)]) (hw : Srt.Swo (ltc c)) {a b : Nat} (ha : P.length = a) (hb : (P ++ X).length = b) : CtrI Tryz.prog Nu [oL 6 ((P ++ X ++ Q).map GFound.enc), iI a, iI b, fI f] [some (6, (P ++ Srt.isort (ltc c) X ++ Q).map GFound.enc)] [] := by
 have hlk : ∀ k, (P ++ Srt.isort (ltc c) (X.take k) ++ (X.drop k ++ Q)).length = (P ++ X ++ Q).length := fun k => by simp [Srt.len_isort]; omega
 refine K10 (M := Mx) (m := 0) (n := 53) (res := []) hmix Tryz.func422 rfl (by kernel_rfl) rfl (by kernel_rfl) (by kernel_rfl) (Nat.le_of_ble_eq_true rfl) rfl rfl ?_; unfold Mx
 intro hbd
 have hl := Kt hbd
 clear hbd
 have hb' : b = a + X.length := by rw [← hb, ← ha]; simp
 have hbN : b ≤ (P ++ X ++ Q).length := by rw [List.length_append, hb]; omega
 generalize hN : (P ++ X ++ Q).length = N at *
 simp only [roomB] at hl
 simp only [go_sem, hN, wN1 (a := a) (by omega)]
 refine Ko (fun k : Nat => [(8, vI ((a + k : Nat) : Int))]) (fun k => [(0, ⟨1, .row true 6 ((P ++ Srt.isort (ltc c) (X.take k) ++ (X.drop k ++ Q)).map GFound.enc)⟩)]) (fun k => 1 ≤ k ∧ (k ≤ X.length ∨ k = 1)) (fun k => X.length - k) 1 ?_
 simp only [go_sem]
 refine ⟨?_, ⟨by omega, by omega⟩, ?_⟩
 ·simp only [go_sem]
  cases X with
  | nil => simp [Srt.isort, Srt.mrg]
  | cons x X => simp [Srt.isort, Srt.mrg, Srt.ins]
 ·rintro k ⟨h1, h2⟩
  simp only [go_sem]
  refine ⟨fun hlt => ?_, fun hge => ?_⟩
  ·obtain ⟨x, hx⟩ := Kf (show k < X.length by omega)
   refine Ko (ι := List GFound × Nat) (fun s => [(9, vI s.2)]) (fun s => [(0, ⟨1, .row true 6 (s.1.map GFound.enc)⟩)]) (fun s => InsI (ltc c) P (Srt.isort (ltc c) (X.take k)) (X.drop (k + 1) ++ Q) x s.1 s.2) (fun s => s.2) (P ++ Srt.isort (ltc c) (X.take k) ++ (X.drop k ++ Q), a + k) ?_
   simp only [go_sem]
   refine ⟨?_, ⟨Srt.isort (ltc c) (X.take k), [], by simp [Kn hx], by simp [Srt.len_isort]; omega, by simp, by simp⟩, ?_⟩
   ·simp only [go_sem]
   ·rintro ⟨d, j⟩ hI
    simp only at hI
    obtain ⟨hd, h3, h4⟩ := hI.len
    have hdN : d.length = N := by
     have := hlk k
     simp [Kn hx] at this hd
     omega
    have hdone : (j = P.length ∨ ∀ z ∈ d[j - 1]?, ltc c x z = false) → d.map GFound.enc = (P ++ Srt.isort (ltc c) (X.take (k + 1)) ++ (X.drop (k + 1) ++ Q)).map GFound.enc := fun h => by
     rw [hI.done hw (Srt.srt_isort hw _) h, Kc hx, Srt.isort_snoc]
    by_cases hj : P.length < j
    ·obtain ⟨A, z, C, e, k1, k2, k3⟩ := hI.step hj
     have e' : d.map GFound.enc = two (A.map GFound.enc) z.enc [] x.enc (C.map GFound.enc) := by subst e; simp [two]
     have e2 : (A ++ x :: ([] ++ z :: C)).map GFound.enc = two (A.map GFound.enc) x.enc [] z.enc (C.map GFound.enc) := by simp [two]
     obtain ⟨g1, g2, s1, s2, hL, d1, d2⟩ := K40 (A := A.map GFound.enc) (B := []) (C := C.map GFound.enc) (p := j - 1) (q := j) (by simpa using k1) (by simp; omega)
     have hL' : ∀ u v, (two (A.map GFound.enc) u [] v (C.map GFound.enc)).length = N := fun u v => by
      rw [← hdN, hL, e]; simp; omega
     rw [e']
     have j0 : (j : Int) > (a : Int) := by omega
     have j1 : (0 : Int) ≤ (j : Int) := by omega
     have j2 : (j : Int) < (N : Int) := by omega
     have j3 : (0 : Int) ≤ ((j - 1 : Nat) : Int) := by omega
     have j4 : ((j - 1 : Nat) : Int) < (N : Int) := by omega
     simp only [go_sem, hL', g1, g2, j0, j1, j2, j3, j4, wS1 (a := j) (by omega) (by omega)]
     apply K0 (hc x z)
     simp only [go_sem, hL', g1, g2, s1, s2, j1, j2, j3, j4, wS1 (a := j) (by omega) (by omega), wN1 (a := a + k) (by omega)]
     intro _
     refine ⟨fun hn => ⟨(A ++ x :: ([] ++ z :: C), j - 1), ⟨rfl, e2.symm⟩, k3 (by simpa [ltc] using hn), by show j - 1 < j; omega⟩, fun hn => ?_⟩
     have hz : ltc c x z = false := by simpa [ltc] using hn
     have := hdone (.inr (by rw [k2]; intro y hy; obtain rfl := Option.some.inj hy; exact hz))
     rw [e'] at this
     exact ⟨k + 1, ⟨rfl, this⟩, ⟨by omega, by omega⟩, by omega⟩
    ·have j0 : ¬ (j : Int) > (a : Int) := by omega
     simp only [go_sem, j0, wN1 (a := a + k) (by omega)]
     have := hdone (.inl (by omega))
     exact ⟨k + 1, ⟨rfl, this⟩, ⟨by omega, by omega⟩, by omega⟩
  ·have hk : X.length ≤ k := by omega
   rw [List.take_of_length_le hk, List.drop_of_length_le hk, List.nil_append]
end Go.Proofs.YtgkeplbnnjogiaaGreatR
namespace Go.Proofs.YtgkeplbnnjogiaaGreatR
open Go Go.RowKit Go.Proofs
open Nat (reduceEqDiff reduceLT reduceLeDiff reduceAdd reduceMul)
open List (reduceReplicate)
namespace Srt
variable {α : Type} {lt : α → α → Bool}
theorem srt_at {l : List α} (h : srt lt l) {i j : Nat} {x y : α} (hi : l[i]? = some x) (hj : l[j]? = some y) (hij : i < j) : lt y x = false := by
 obtain ⟨h1, rfl⟩ := List.getElem?_eq_some_iff.1 hi
 obtain ⟨h2, rfl⟩ := List.getElem?_eq_some_iff.1 hj
 exact (List.pairwise_iff_getElem.1 h) i j h1 h2 hij
theorem K2x (hw : Swo lt) {l : List α} (h : srt lt l) {i j : Nat} {x y : α} (hi : l[i]? = some x) (hj : l[j]? = some y) (hij : i ≤ j) : lt y x = false := by
 rcases Nat.lt_or_eq_of_le hij with k | rfl
 ·exact srt_at h hi hj k
 ·obtain rfl := Option.some.inj (hi.symm.trans hj)
  exact hw.irr x
theorem K2q {l : List α} {u : Nat} {x : α} (h : x ∈ l.take u) : ∃ i, i < u ∧ l[i]? = some x := by
 obtain ⟨i, hi⟩ := List.mem_iff_getElem?.1 h
 rw [List.getElem?_take] at hi
 split at hi
 ·exact ⟨i, by assumption, hi⟩
 ·cases hi
theorem K39 {l : List α} {u : Nat} {x : α} (h : x ∈ l.drop u) : ∃ i, u ≤ i ∧ l[i]? = some x := by
 obtain ⟨i, hi⟩ := List.mem_iff_getElem?.1 h
 rw [List.getElem?_drop] at hi
 exact ⟨u + i, by omega, hi⟩
theorem Ka7 {l : List α} {u : Nat} {x : α} (h : x ∈ (l.drop u).head?) : l[u]? = some x := by
 rw [List.head?_drop] at h
 exact h
theorem mrg_sym (hw : Swo lt) {X Y : List α} (hX : srt lt X) (hY : srt lt Y) {u M : Nat} (huX : u ≤ X.length) (huM : u ≤ M)
  (h1 : u = 0 ∨ Y.length ≤ M - u ∨ ∃ y x, Y[M - u]? = some y ∧ X[u - 1]? = some x ∧ lt y x = false)
  (h2 : u = M ∨ u = X.length ∨ ∃ y x, Y[M - 1 - u]? = some y ∧ X[u]? = some x ∧ lt y x = true) :
  mrg lt X Y = mrg lt (X.take u) (Y.take (M - u)) ++ mrg lt (X.drop u) (Y.drop (M - u)) := by
 conv => lhs; rw [← List.take_append_drop u X, ← List.take_append_drop (M - u) Y]
 refine K9a ?_ ?_ ?_
 ·intro b hb a ha
  obtain ⟨i, hi, eb⟩ := K2q hb
  have ea := Ka7 ha
  have hlt := Kr ea
  rcases h2 with h2 | h2 | ⟨y, x, e1, e2, h2⟩
  ·omega
  ·omega
  ·obtain rfl := Option.some.inj (e2.symm.trans ea)
   exact hw.fl (K2x hw hY eb e1 (by omega)) h2
 ·intro b hb a ha
  obtain ⟨i, hi, eb⟩ := K39 hb
  obtain ⟨k, hk, ea⟩ := K2q ha
  have hlt := Kr eb
  rcases h1 with h1 | h1 | ⟨y, x, e1, e2, h1⟩
  ·omega
  ·omega
  ·have p1 := K2x hw hY e1 eb (by omega)
   have p2 := K2x hw hX ea e2 (by omega)
   exact hw.ntr (hw.ntr p1 h1) p2
 ·intro b hb a ha
  obtain ⟨i, hi, eb⟩ := K39 hb
  obtain ⟨k, hk, ea⟩ := K2q ha
  exact srt_at hY ea eb (by omega)
theorem mrg_one (hw : Swo lt) {x : α} {Y : List α} (hY : srt lt Y) {u : Nat} (h1 : ∀ y ∈ Y.take u, lt y x = true) (h2 : ∀ y ∈ Y.drop u, lt y x = false) : mrg lt [x] Y = Y.take u ++ x :: Y.drop u := by
 have e := K9a (lt := lt) (A1 := []) (A2 := [x]) (B1 := Y.take u) (B2 := Y.drop u) (by simpa using h1) (by simp) (by
  intro b hb a ha
  obtain ⟨i, hi, eb⟩ := K39 hb
  obtain ⟨k, hk, ea⟩ := K2q ha
  exact srt_at hY ea eb (by omega))
 rw [List.take_append_drop, List.nil_append] at e
 rw [e, mrg_nil_srt hw (srt_append.1 ((List.take_append_drop u Y).symm ▸ hY)).1]
 have e2 := K6o (lt := lt) (A1 := [x]) (A2 := []) (B := Y.drop u) (by simpa using h2)
 rw [List.append_nil] at e2
 rw [e2, mrg_nil_srt hw (srt_append.1 ((List.take_append_drop u Y).symm ▸ hY)).2.1]
 rfl
theorem mrg_last {y : α} {X : List α} {u : Nat} (h1 : ∀ z ∈ X.take u, lt y z = false) (h2 : ∀ z ∈ X.drop u, lt y z = true) : mrg lt X [y] = X.take u ++ y :: X.drop u := by
 have := ins_mid (lt := lt) (x := y) h1 (fun z hz => h2 z (List.mem_of_mem_head? hz))
 rw [List.take_append_drop] at this
 exact this
theorem lo_of (hw : Swo lt) {Y : List α} (hY : srt lt Y) {w : Nat} {x y : α} (e : Y[w]? = some y) (h : lt y x = true) : ∀ z ∈ Y.take (w + 1), lt z x = true := fun z hz => by
 obtain ⟨i, hi, ez⟩ := K2q hz
 exact hw.fl (K2x hw hY ez e (by omega)) h
theorem hi_of (hw : Swo lt) {Y : List α} (hY : srt lt Y) {w : Nat} {x y : α} (e : Y[w]? = some y) (h : lt y x = false) : ∀ z ∈ Y.drop w, lt z x = false := fun z hz => by
 obtain ⟨i, hi, ez⟩ := K39 hz
 exact hw.ntr (K2x hw hY e ez hi) h
theorem lo_of' (hw : Swo lt) {X : List α} (hX : srt lt X) {w : Nat} {x y : α} (e : X[w]? = some x) (h : lt y x = false) : ∀ z ∈ X.take (w + 1), lt y z = false := fun z hz => by
 obtain ⟨i, hi, ez⟩ := K2q hz
 exact hw.ntr h (K2x hw hX ez e (by omega))
theorem hi_of' (hw : Swo lt) {X : List α} (hX : srt lt X) {w : Nat} {x y : α} (e : X[w]? = some x) (h : lt y x = true) : ∀ z ∈ X.drop w, lt y z = true := fun z hz => by
 obtain ⟨i, hi, ez⟩ := K39 hz
 exact hw.lf h (K2x hw hX e ez hi)
end Srt
theorem shr1 {k : Int} : (if (1 : Int) < 0 then none else some (Value.int IntKind.u64 (k.fdiv (2 ^ min (Int.toNat 1) 64)))) = some (Value.int IntKind.u64 (k.fdiv 2)) := by rw [if_neg (by decide)]; rfl
theorem u64_wrap {n : Int} (h1 : 0 ≤ n) (h2 : n ≤ 9223372036854775807) : IntKind.u64.wrap n = n := by
 simp only [IntKind.wrap, IntKind.signed, IntKind.bits, Bool.false_and, Bool.false_eq_true, if_false]
 omega
theorem K2t {i j : Nat} (h : i + j ≤ 9223372036854775807) : (IntKind.u64.wrap (IntKind.i64.wrap ((i : Int) + (j : Int)))).fdiv 2 = (((i + j) / 2 : Nat) : Int) := by
 rw [wN h, u64_wrap (by omega) (by omega), Int.fdiv_eq_ediv_of_nonneg _ (by omega)]
 omega
theorem wK {k : Nat} (h : k ≤ 9223372036854775807) : IntKind.i64.wrap (k : Int) = (k : Int) := wI (by omega) (by omega)
def SymI (lt : GFound → GFound → Bool) (X Y : List GFound) (M u0 v0 u v : Nat) : Prop :=
 u0 ≤ u ∧ u ≤ v ∧ v ≤ v0 ∧ (u = 0 ∨ Y.length ≤ M - u ∨ ∃ y x, Y[M - u]? = some y ∧ X[u - 1]? = some x ∧ lt y x = false) ∧
  (v = M ∨ v = X.length ∨ ∃ y x, Y[M - 1 - v]? = some y ∧ X[v]? = some x ∧ lt y x = true)
theorem SymI.fin {lt : GFound → GFound → Bool} (hw : Srt.Swo lt) {X Y : List GFound} {M u0 v0 u : Nat} (h : SymI lt X Y M u0 v0 u u) (hX : Srt.srt lt X) (hY : Srt.srt lt Y) (q2 : v0 ≤ M) (q3 : v0 ≤ X.length) (q4 : M ≤ u0 + Y.length) :
  ∃ A1 A2 B1 B2, X = A1 ++ A2 ∧ Y = B1 ++ B2 ∧ A1.length = u ∧ B1.length = M - u ∧ u ≤ M ∧ Srt.mrg lt X Y = Srt.mrg lt A1 B1 ++ Srt.mrg lt A2 B2 ∧ Srt.srt lt A1 ∧ Srt.srt lt A2 ∧ Srt.srt lt B1 ∧ Srt.srt lt B2 := by
 obtain ⟨h1, h2, h3, h4, h5⟩ := h
 have e := Srt.mrg_sym hw hX hY (by omega) (by omega) h4 h5
 have sX := Srt.srt_append.1 ((List.take_append_drop u X).symm ▸ hX)
 have sY := Srt.srt_append.1 ((List.take_append_drop (M - u) Y).symm ▸ hY)
 exact ⟨X.take u, X.drop u, Y.take (M - u), Y.drop (M - u), (List.take_append_drop _ _).symm, (List.take_append_drop _ _).symm, by simp; omega, by simp; omega, by omega, e, sX.1, sX.2.1, sY.1, sY.2.1⟩
theorem sym7 {u l2 k l4 M : Nat} (hk : k = M - u) (huM : u ≤ M) (hM : M = (u + l2 + (k + l4)) / 2) (hX : 2 ≤ u + l2) (hY : 2 ≤ k + l4) :
  (0 < u ∧ 0 < l2 ∧ 0 < k ∧ 0 < l4) ∨ (u = 0 ∧ 0 < l2 ∧ 0 < k ∧ 0 < l4) ∨ (0 < u ∧ l2 = 0 ∧ 0 < k ∧ 0 < l4) ∨ (0 < u ∧ 0 < l2 ∧ k = 0 ∧ 0 < l4) ∨ (0 < u ∧ 0 < l2 ∧ 0 < k ∧ l4 = 0) ∨ (u = 0 ∧ 0 < l2 ∧ 0 < k ∧ l4 = 0) ∨ (0 < u ∧ l2 = 0 ∧ k = 0 ∧ 0 < l4) := by omega
theorem K8 {i j : Nat} (k : Nat) (h : j = i + k) (hk : 0 < k) : (i : Int) < (j : Int) := by omega
theorem Kl {i j : Nat} (k : Nat) (h : j = i + k) (hk : k = 0) : ¬ (i : Int) < (j : Int) := by omega
theorem symL (lt : GFound → GFound → Bool) {P A1 A2 B1 B2 Q : List GFound} {a m b M u N n : Nat} (ha : P.length = a) (hA1 : A1.length = u) (hB1 : B1.length = M - u) (huM : u ≤ M) (hm : m = a + (A1 ++ A2).length) (hb : b = m + (B1 ++ B2).length)
  (hN : (P ++ (A1 ++ A2) ++ (B1 ++ B2) ++ Q).length = N) (hM : M = ((A1 ++ A2).length + (B1 ++ B2).length) / 2) (hn : (A1 ++ A2).length + (B1 ++ B2).length ≤ n + 1) (h1 : ¬ ((m - a : Nat) : Int) = 1) (h2 : ¬ ((b - m : Nat) : Int) = 1) (hX : 0 < (A1 ++ A2).length) (hY : 0 < (B1 ++ B2).length) :
  ((P ++ A1 ++ B1 ++ A2 ++ (B2 ++ Q)).length = N ∧ (P ++ A1 ++ A2 ++ B1 ++ (B2 ++ Q)).length = N ∧ (P ++ A1 ++ B1 ++ (A2 ++ (B2 ++ Q))).length = N ∧ (P ++ Srt.mrg lt A1 B1 ++ A2 ++ B2 ++ Q).length = N ∧ (P ++ Srt.mrg lt A1 B1 ++ (A2 ++ (B2 ++ Q))).length = N ∧ (P ++ Srt.mrg lt A1 B1 ++ Srt.mrg lt A2 B2 ++ Q).length = N) ∧
  ((P ++ A1).length = a + u ∧ (P ++ A1 ++ A2).length = m ∧ (P ++ A1 ++ A2 ++ B1).length = m + (M - u) ∧ (P ++ A1 ++ B1).length = a + M ∧ (P ++ Srt.mrg lt A1 B1).length = a + M ∧ (P ++ Srt.mrg lt A1 B1 ++ A2).length = m + (M - u) ∧ (P ++ Srt.mrg lt A1 B1 ++ A2 ++ B2).length = b) ∧
  A1.length + B1.length ≤ n ∧ A2.length + B2.length ≤ n ∧
  (m = a + u + A2.length ∧ m + (M - u) = m + B1.length ∧ a + u = a + A1.length ∧ a + M = a + u + B1.length ∧ m + (M - u) = a + M + A2.length ∧ b = m + (M - u) + B2.length) ∧
  ((0 < A1.length ∧ 0 < A2.length ∧ 0 < B1.length ∧ 0 < B2.length) ∨ (A1.length = 0 ∧ 0 < A2.length ∧ 0 < B1.length ∧ 0 < B2.length) ∨ (0 < A1.length ∧ A2.length = 0 ∧ 0 < B1.length ∧ 0 < B2.length) ∨ (0 < A1.length ∧ 0 < A2.length ∧ B1.length = 0 ∧ 0 < B2.length) ∨ (0 < A1.length ∧ 0 < A2.length ∧ 0 < B1.length ∧ B2.length = 0) ∨ (A1.length = 0 ∧ 0 < A2.length ∧ 0 < B1.length ∧ B2.length = 0) ∨ (0 < A1.length ∧ A2.length = 0 ∧ B1.length = 0 ∧ 0 < B2.length)) := by
 simp only [List.length_append, Srt.len_mrg] at *
 have h7 := sym7 (u := A1.length) (l2 := A2.length) (k := B1.length) (l4 := B2.length) (M := M) (by omega) (by omega) (by omega) (by omega) (by omega)
 refine ⟨⟨?_, ?_, ?_, ?_, ?_, ?_⟩, ⟨?_, ?_, ?_, ?_, ?_, ?_, ?_⟩, ?_, ?_, ⟨?_, ?_, ?_, ?_, ?_, ?_⟩, h7⟩ <;> clear h7 <;> omega
def M16 : MC :=
(.seq (Zs [mS 25 2, mS 26 1, bS 27 .sub 25 26, bC 28 .eql 27 1] [0,1,2,3,4,28] (.cond (.s 28) (Zs [mS 29 2, mS 10 29] [0,1,3,4,10] (Zs [mS 30 3, mS 11 30] [0,1,4,10,11] (.seq (.block 0 (.loop ([0,1,4,10,11], []) (.seq (Zs [mS 31 10, mS 32 11, bS 33 .lss 31 32] [0,1,4,10,11,33] (cX 33 0))
(.block 1 (Zs [mS 34 10, mS 35 11, bS 36 .add 34 35, .convI 37 .u64 (.s 36), .bin 38 false .shr (.s 37) (.c (.int .u64 1)), .convI 39 .i64 (.s 38), mS 12 39] [0,1,4,10,11,12] (.seq (.dreg [Zc [41,42,43,44,45,46,47,48] (mS 40 4), Zc [40,42,45,46,47,48] (mS 41 0), Zc [40,41,45,46,47,48] (mS 42 12), Zd [40,45,46,47,48] [1,2] (xS 43 6 41 42), Zd [40,45,46,47,48] [1,2,3] (lT 44 6 43), Zc [40,41,42,43,44,46] (mS 45 0), Zc [40,41,42,43,44,45] (mS 46 1), Zd [40,41,42,43,44] [5,6] (xS 47 6 45 46), Zd [40,41,42,43,44] [5,6,7] (lT 48 6 47), Ze (.range 9) (.call 49 [] (.s 40) [.s 44, .s 48]), Ze (.range 10) (bC 50 .lss 49 0)] [0,1,4,10,11,12,50])
(.cond (.s 50) (pr [mS 51 12, bC 52 .add 51 1, mS 10 52] [0,1,4,10,11]) (pr [mS 53 12, mS 11 53] [0,1,4,10,11]))))))))
(.seq (Zs [mS 54 1, mS 13 54] [0,10,13] (.block 2 (.loop ([0,10,13], []) (.seq (Zs [mS 55 13, mS 56 10, bC 57 .sub 56 1, bS 58 .lss 55 57] [0,10,13,58] (cX 58 2))
(.seq (.block 3 (.dreg [Zc [62,63,64,65,66,67,68,69,70,71,72,73,74] (mS 61 0), Zc [61,63,64,65,66,67,68,69,70,71,72,73,74] (mS 62 13), Zf [61,62,64,65,66,67,68,69,70,71,72,73,74,75] [0] (mS 63 0), Zf [61,62,63,66,67,68,69,70,71,72,73,74,75] [0] (mS 64 13), Zg [61,62,63,66,67,68,69,70,71,72,73,74,75] [0] [3] (bC 65 .add 64 1), Zc [61,62,63,64,65,67,68,71,72,73,74] (mS 66 0), Zc [61,62,63,64,65,66,71,72,73,74] (mS 67 13), Zd [61,62,63,64,65,66,71,72,73,74] [6] (bC 68 .add 67 1), Zd [61,62,63,64,65,71,72,73,74] [5,6,7] (xS 69 6 66 68), Zd [61,62,63,64,65,71,72,73,74] [5,6,7,8] (lT 70 6 69), Zc [61,62,63,64,65,66,67,68,69,70,72] (mS 71 0), Zc [61,62,63,64,65,66,67,68,69,70,71] (mS 72 13), Zd [61,62,63,64,65,66,67,68,69,70] [10,11] (xS 73 6 71 72), Zd [61,62,63,64,65,66,67,68,69,70] [10,11,12] (lT 74 6 73), Zd [63,64,65] [0,1,5,6,7,8,9,10,11,12,13] (xS 75 6 61 62), { o := sS 6 75 70, hs := [63,64,65], ws := [0], bf := [0,1,5,6,7,8,9,10,11,12,13,14] }, Ze (.range 16) (xS 76 6 63 65), { o := sS 6 76 74, ws := [0], bf := (.range 17) }] [0,10,13]))
(pr [mS 59 13, bC 60 .add 59 1, mS 13 60] [0,10,13]))))))
.ret)))) .skip))
(.seq (Zs [mS 77 3, mS 78 2, bS 79 .sub 77 78, bC 80 .eql 79 1] [0,1,2,3,4,80] (.cond (.s 80) (Zs [mS 81 1, mS 14 81] [0,2,4,14] (Zs [mS 82 2, mS 15 82] [0,2,4,14,15] (.seq (.block 4 (.loop ([0,2,4,14,15], []) (.seq (Zs [mS 83 14, mS 84 15, bS 85 .lss 83 84] [0,2,4,14,15,85] (cX 85 4))
(.block 5 (Zs [mS 86 14, mS 87 15, bS 88 .add 86 87, .convI 89 .u64 (.s 88), .bin 90 false .shr (.s 89) (.c (.int .u64 1)), .convI 91 .i64 (.s 90), mS 16 91] [0,2,4,14,15,16] (.seq (.dreg [Zc [93,94,95,96,97,98,99,100] (mS 92 4), Zc [92,94,97,98,99,100] (mS 93 0), Zc [92,93,97,98,99,100] (mS 94 2), Zd [92,97,98,99,100] [1,2] (xS 95 6 93 94), Zd [92,97,98,99,100] [1,2,3] (lT 96 6 95), Zc [92,93,94,95,96,98] (mS 97 0), Zc [92,93,94,95,96,97] (mS 98 16), Zd [92,93,94,95,96] [5,6] (xS 99 6 97 98), Zd [92,93,94,95,96] [5,6,7] (lT 100 6 99), Ze (.range 9) (.call 101 [] (.s 92) [.s 96, .s 100]), Ze (.range 10) (bC 102 .lss 101 0), Ze (.range 11) (.un 103 .not (.s 102))] [0,2,4,14,15,16,103])
(.cond (.s 103) (pr [mS 104 16, bC 105 .add 104 1, mS 14 105] [0,2,4,14,15]) (pr [mS 106 16, mS 15 106] [0,2,4,14,15]))))))))
(.seq (Zs [mS 107 2, mS 17 107] [0,14,17] (.block 6 (.loop ([0,14,17], []) (.seq (Zs [mS 108 17, mS 109 14, bS 110 .gtr 108 109] [0,14,17,110] (cX 110 6))
(.seq (.block 7 (.dreg [Zc [114,115,116,117,118,119,120,121,122,123,124,125,126] (mS 113 0), Zc [113,115,116,117,118,119,120,121,122,123,124,125,126] (mS 114 17), Zf [113,114,116,117,118,119,120,121,122,123,124,125,126,127] [0] (mS 115 0), Zf [113,114,115,118,119,120,121,122,123,124,125,126,127] [0] (mS 116 17), Zg [113,114,115,118,119,120,121,122,123,124,125,126,127] [0] [3] (bC 117 .sub 116 1), Zc [113,114,115,116,117,119,120,123,124,125,126] (mS 118 0), Zc [113,114,115,116,117,118,123,124,125,126] (mS 119 17), Zd [113,114,115,116,117,118,123,124,125,126] [6] (bC 120 .sub 119 1), Zd [113,114,115,116,117,123,124,125,126] [5,6,7] (xS 121 6 118 120), Zd [113,114,115,116,117,123,124,125,126] [5,6,7,8] (lT 122 6 121), Zc [113,114,115,116,117,118,119,120,121,122,124] (mS 123 0), Zc [113,114,115,116,117,118,119,120,121,122,123] (mS 124 17), Zd [113,114,115,116,117,118,119,120,121,122] [10,11] (xS 125 6 123 124), Zd [113,114,115,116,117,118,119,120,121,122] [10,11,12] (lT 126 6 125), Zd [115,116,117] [0,1,5,6,7,8,9,10,11,12,13] (xS 127 6 113 114), { o := sS 6 127 122, hs := [115,116,117], ws := [0], bf := [0,1,5,6,7,8,9,10,11,12,13,14] }, Ze (.range 16) (xS 128 6 115 117), { o := sS 6 128 126, ws := [0], bf := (.range 17) }] [0,14,17]))
(pr [mS 111 17, bC 112 .sub 111 1, mS 17 112] [0,14,17]))))))
.ret)))) .skip))
(Zs [mS 129 1, mS 130 3, bS 131 .add 129 130, .convI 132 .u64 (.s 131), .bin 133 false .shr (.s 132) (.c (.int .u64 1)), .convI 134 .i64 (.s 133), mS 18 134] [0,1,2,3,4,18] (Zs [mS 135 18, mS 136 2, bS 137 .add 135 136, mS 19 137] [0,1,2,3,4,18,19] (Zs [.mv 20 (ci 0), .mv 21 (ci 0)] [0,1,2,3,4,18,19] (.seq (Zs [mS 138 2, mS 139 18, bS 140 .gtr 138 139] [0,1,2,3,4,18,19,140] (.cond (.s 140) (Zs [mS 141 19, mS 142 3, bS 143 .sub 141 142, mS 20 143] [0,1,2,3,4,18,19,20] (pr [mS 144 18, mS 21 144] [0,1,2,3,4,18,19,20,21])) (Zs [mS 145 1, mS 20 145] [0,1,2,3,4,18,19,20] (pr [mS 146 2, mS 21 146] [0,1,2,3,4,18,19,20,21]))))
(Zs [mS 147 19, bC 148 .sub 147 1, mS 22 148] [0,1,2,3,4,18,19,20,21,22] (.seq (.block 8 (.loop ([0,1,2,3,4,18,19,20,21,22], []) (.seq (Zs [mS 149 20, mS 150 21, bS 151 .lss 149 150] [0,1,2,3,4,18,19,20,21,22,151] (cX 151 8))
(.block 9 (Zs [mS 152 20, mS 153 21, bS 154 .add 152 153, .convI 155 .u64 (.s 154), .bin 156 false .shr (.s 155) (.c (.int .u64 1)), .convI 157 .i64 (.s 156), mS 23 157] [0,1,2,3,4,18,19,20,21,22,23] (.seq (.dreg [Zc [159,160,161,162,163,164,165,166,167,168] (mS 158 4), Zc [158,160,161,162,165,166,167,168] (mS 159 0), Zc [158,159,161,165,166,167,168] (mS 160 22), Zc [158,159,160,165,166,167,168] (mS 161 23), Zd [158,159,165,166,167,168] [2,3] (bS 162 .sub 160 161), Zd [158,165,166,167,168] [1,2,3,4] (xS 163 6 159 162), Zd [158,165,166,167,168] [1,2,3,4,5] (lT 164 6 163), Zc [158,159,160,161,162,163,164,166] (mS 165 0), Zc [158,159,160,161,162,163,164,165] (mS 166 23), Zd [158,159,160,161,162,163,164] [7,8] (xS 167 6 165 166), Zd [158,159,160,161,162,163,164] [7,8,9] (lT 168 6 167), Ze (.range 11) (.call 169 [] (.s 158) [.s 164, .s 168]), Ze (.range 12) (bC 170 .lss 169 0), Ze (.range 13) (.un 171 .not (.s 170))] [0,1,2,3,4,18,19,20,21,22,23,171])
(.cond (.s 171) (pr [mS 172 23, bC 173 .add 172 1, mS 20 173] [0,1,2,3,4,18,19,20,21,22]) (pr [mS 174 23, mS 21 174] [0,1,2,3,4,18,19,20,21,22]))))))))
(Zs [mS 175 19, mS 176 20, bS 177 .sub 175 176, mS 24 177] [0,1,2,3,4,18,20,24] (.seq (.seq (.reg [Za (mS 178 20), Za (mS 179 2), Za (bS 180 .lss 178 179), Za (mS 181 180), Zb 181 true (mS 182 2), Zb 181 true (mS 183 24), Zb 181 true (bS 184 .lss 182 183), Za (.pick 185 (.s 181) (.s 184) cF)] [0,1,2,3,4,18,20,24,185])
(.cond (.s 185) (pr [mS 186 0, mS 187 20, mS 188 2, mS 189 24, mS 190 4, .callI 191 [] (.f N1d) [.s 186, .s 187, .s 188, .s 189, .s 190] [0] []] [0,1,3,4,18,20,24]) .skip))
(.seq (.seq (.reg [Za (mS 192 1), Za (mS 193 20), Za (bS 194 .lss 192 193), Za (mS 195 194), Zb 195 true (mS 196 20), Zb 195 true (mS 197 18), Zb 195 true (bS 198 .lss 196 197), Za (.pick 199 (.s 195) (.s 198) cF)] [0,1,3,4,18,20,24,199])
(.cond (.s 199) (pr [mS 200 0, mS 201 1, mS 202 20, mS 203 18, mS 204 4, .callI 205 [] (.f N4) [.s 200, .s 201, .s 202, .s 203, .s 204] [0] []] [0,3,4,18,24]) .skip))
(.seq (.reg [Za (mS 206 18), Za (mS 207 24), Za (bS 208 .lss 206 207), Za (mS 209 208), Zb 209 true (mS 210 24), Zb 209 true (mS 211 3), Zb 209 true (bS 212 .lss 210 211), Za (.pick 213 (.s 209) (.s 212) cF)] [0,3,4,18,24,213])
(.cond (.s 213) (pr [mS 214 0, mS 215 18, mS 216 24, mS 217 3, mS 218 4, .callI 219 [] (.f N4) [.s 214, .s 215, .s 216, .s 217, .s 218] [0] []] []) .skip)))))))))))))
set_option maxHeartbeats 4000000 in
theorem C2t (f : FuncId) (c : GFound → GFound → Int) (hc : ∀ x y, Ctr Tryz.prog f [aS x.enc, aS y.enc] [rI (c x y)]) (hw : Srt.Swo (ltc c)) (n : Nat) : ∀ (P X Y Q : List GFound) {a m b : Nat}, X.length + Y.length ≤ n → P.length = a → (P ++ X).length = m → (P ++ X ++ Y).length = b → 0 < X.length → 0 < Y.length → Srt.srt (ltc c) X → Srt.srt (ltc c) Y →
  CtrI Tryz.prog N4 [oL 6 ((P ++ X ++ Y ++ Q).map GFound.enc), iI a, iI m, iI b, fI f] [some (6, (P ++ Srt.mrg (ltc c) X Y ++ Q).map GFound.enc)] [] := by
 induction n with
 | zero => intro P X Y Q a m b hn _ _ _ hX; omega
 | succ n ih =>
  intro P X Y Q a m b hn ha hm hb hX hY sX sY
  have hN2 : (P ++ Srt.mrg (ltc c) X Y ++ Q).length = (P ++ X ++ Y ++ Q).length := by simp [Srt.len_mrg]; omega
  refine K10 (M := M16) (m := 0) (n := 220) (res := []) hmix Tryz.func423 rfl (by kernel_rfl) rfl (by kernel_rfl) (by kernel_rfl) (Nat.le_of_ble_eq_true rfl) rfl rfl ?_; unfold M16
  intro hbd
  have hl := Kt hbd
  clear hbd
  have hm' : m = a + X.length := by rw [← hm, ← ha]; simp
  have hb' : b = m + Y.length := by rw [← hb, ← hm]; simp; omega
  have hbN : b ≤ (P ++ X ++ Y ++ Q).length := by rw [List.length_append, hb]; omega
  generalize hN : (P ++ X ++ Y ++ Q).length = N at *
  simp only [roomB] at hl
  simp only [go_sem, hN, wS (a := m) (b := a) (by omega) (by omega)]
  refine ⟨fun h1 => ?_, fun h1 => ?_⟩
  ·obtain ⟨x, rfl⟩ : ∃ x, X = [x] := List.length_eq_one_iff.1 (by omega)
   simp only [List.length_cons, List.length_nil] at hm' hn
   have hxa : (P ++ [x] ++ Y ++ Q)[a]? = some x := by rw [← ha]; simp
   have hya : ∀ w, w < Y.length → (P ++ [x] ++ Y ++ Q)[m + w]? = Y[w]? := fun w hw => by
    rw [List.append_assoc, List.getElem?_append_right (by simp; omega), List.getElem?_append_left (by simp; omega)]
    congr 1; simp; omega
   refine Ko (ι := Nat × Nat) (fun s => [(10, vI ((m + s.1 : Nat) : Int)), (11, vI ((m + s.2 : Nat) : Int))]) (fun s => []) (fun s => s.1 ≤ s.2 ∧ s.2 ≤ Y.length ∧ (∀ y ∈ Y.take s.1, ltc c y x = true) ∧ (∀ y ∈ Y.drop s.2, ltc c y x = false)) (fun s => s.2 - s.1) (0, Y.length) ?_
   simp only [go_sem]
   refine ⟨?_, ⟨by omega, by omega, by simp, by simp⟩, ?_⟩
   ·simp only [go_sem]
    exact ⟨by omega, by omega⟩
   ·rintro ⟨u, v⟩ ⟨i1, i2, i3, i4⟩
    simp only at i1 i2 i3 i4
    simp only [go_sem, hN, shr1, K2t (i := m + u) (j := m + v) (by omega)]
    refine ⟨fun hlt => ?_, fun hge => ?_⟩
    ·have hwx : (m + u + (m + v)) / 2 = m + (u + v) / 2 := by omega
     have w1 : u ≤ (u + v) / 2 := by omega
     have w2 : (u + v) / 2 < v := by omega
     rw [hwx]
     generalize (u + v) / 2 = w at w1 w2
     obtain ⟨y, hy⟩ := Kf (show w < Y.length by omega)
     have hyw := (hya w (by omega)).trans hy
     have k1 : (0 : Int) ≤ ((m + w : Nat) : Int) := by omega
     have k2 : ((m + w : Nat) : Int) < (N : Int) := by omega
     have k3 : (0 : Int) ≤ (a : Int) := by omega
     have k4 : (a : Int) < (N : Int) := by omega
     simp only [go_sem, wK (k := m + w) (by omega), k1, k2, k3, k4, K6 hyw, K6 hxa]
     apply K0 (hc y x)
     simp only [go_sem, wN1 (a := m + w) (by omega)]
     intro _
     refine ⟨fun hn => ⟨(w + 1, v), ⟨rfl, rfl⟩, ⟨by omega, i2, Srt.lo_of hw sY hy (by simpa [ltc] using hn), i4⟩, by omega⟩, fun hn => ⟨(u, w), ⟨rfl, rfl⟩, ⟨w1, by omega, i3, Srt.hi_of hw sY hy (by simpa [ltc] using hn)⟩, by omega⟩⟩
    ·obtain rfl : u = v := by omega
     have hres := Srt.mrg_one hw sY i3 i4
     have hlt : ∀ t, (P ++ (Y.take t ++ x :: Y.drop t) ++ Q).length = N := fun t => by rw [← hN]; simp; omega
     refine Ko (fun t : Nat => [(13, vI ((a + t : Nat) : Int))]) (fun t => [(0, ⟨1, .row true 6 ((P ++ (Y.take t ++ x :: Y.drop t) ++ Q).map GFound.enc)⟩)]) (fun t => t ≤ u) (fun t => u - t) 0 ?_
     simp only [go_sem]
     refine ⟨?_, by omega, ?_⟩
     ·simp only [go_sem]
      simp
     ·intro t ht
      have hs1 : IntKind.i64.wrap (((m + u : Nat) : Int) - 1) = ((a + u : Nat) : Int) := by
       rw [wI (by omega) (by omega)]; omega
      by_cases htu : t < u
      ·obtain ⟨y, hy⟩ := Kf (show t < Y.length by omega)
       have e1 : (P ++ (Y.take t ++ x :: Y.drop t) ++ Q).map GFound.enc = two ((P ++ Y.take t).map GFound.enc) x.enc [] y.enc ((Y.drop (t + 1) ++ Q).map GFound.enc) := by simp [two, Kn hy]
       have e2 : (P ++ (Y.take (t + 1) ++ x :: Y.drop (t + 1)) ++ Q).map GFound.enc = two ((P ++ Y.take t).map GFound.enc) y.enc [] x.enc ((Y.drop (t + 1) ++ Q).map GFound.enc) := by simp [two, Kc hy]
       have hA : ((P ++ Y.take t).map GFound.enc).length = a + t := by simp; omega
       have hL0 : ∀ p q, (two ((P ++ Y.take t).map GFound.enc) p [] q ((Y.drop (t + 1) ++ Q).map GFound.enc)).length = N := fun p q => by
        rw [← hlt t]; simp [two, Kn hy]
       generalize (P ++ Y.take t).map GFound.enc = A at *
       generalize (Y.drop (t + 1) ++ Q).map GFound.enc = C at *
       obtain ⟨g1, g2, s1, s2, hL, d1, d2⟩ := K40 (A := A) (B := []) (C := C) (p := a + t) (q := a + t + 1) hA (by simp)
       have k1 : (0 : Int) ≤ ((a + t : Nat) : Int) := by omega
       have k2 : ((a + t : Nat) : Int) < (N : Int) := by omega
       have k3 : (0 : Int) ≤ ((a + t + 1 : Nat) : Int) := by omega
       have k4 : ((a + t + 1 : Nat) : Int) < (N : Int) := by omega
       have k5 : ((a + t : Nat) : Int) < ((a + u : Nat) : Int) := by omega
       rw [e1]
       simp only [go_sem, hs1, hL0, g1, g2, s1, s2, k1, k2, k3, k4, k5, wN1 (a := a + t) (by omega)]
       exact ⟨t + 1, ⟨rfl, e2.symm⟩, by omega, by omega⟩
      ·obtain rfl : t = u := by omega
       simp only [go_sem, hs1]
       rw [hres]
  ·simp only [go_sem, wS (a := b) (b := m) (by omega) (by omega)]
   refine ⟨fun h2 => ?_, fun h2 => ?_⟩
   ·obtain ⟨y, rfl⟩ : ∃ y, Y = [y] := List.length_eq_one_iff.1 (by omega)
    simp only [List.length_cons, List.length_nil] at hb' hn
    have hym : (P ++ X ++ [y] ++ Q)[m]? = some y := by rw [← hm]; simp
    have hxa : ∀ w, w < X.length → (P ++ X ++ [y] ++ Q)[a + w]? = X[w]? := fun w hw => by
     rw [List.append_assoc, List.append_assoc, List.getElem?_append_right (by omega), List.getElem?_append_left (by omega)]
     congr 1; omega
    refine Ko (ι := Nat × Nat) (fun s => [(14, vI ((a + s.1 : Nat) : Int)), (15, vI ((a + s.2 : Nat) : Int))]) (fun s => []) (fun s => s.1 ≤ s.2 ∧ s.2 ≤ X.length ∧ (∀ z ∈ X.take s.1, ltc c y z = false) ∧ (∀ z ∈ X.drop s.2, ltc c y z = true)) (fun s => s.2 - s.1) (0, X.length) ?_
    simp only [go_sem]
    refine ⟨?_, ⟨by omega, by omega, by simp, by simp⟩, ?_⟩
    ·simp only [go_sem]
     exact ⟨by omega, by omega⟩
    ·rintro ⟨u, v⟩ ⟨i1, i2, i3, i4⟩
     simp only at i1 i2 i3 i4
     simp only [go_sem, hN, shr1, K2t (i := a + u) (j := a + v) (by omega)]
     refine ⟨fun hlt => ?_, fun hge => ?_⟩
     ·have hwx : (a + u + (a + v)) / 2 = a + (u + v) / 2 := by omega
      have w1 : u ≤ (u + v) / 2 := by omega
      have w2 : (u + v) / 2 < v := by omega
      rw [hwx]
      generalize (u + v) / 2 = w at w1 w2
      obtain ⟨x, hx⟩ := Kf (show w < X.length by omega)
      have hxw := (hxa w (by omega)).trans hx
      have k1 : (0 : Int) ≤ ((a + w : Nat) : Int) := by omega
      have k2 : ((a + w : Nat) : Int) < (N : Int) := by omega
      have k3 : (0 : Int) ≤ (m : Int) := by omega
      have k4 : (m : Int) < (N : Int) := by omega
      simp only [go_sem, wK (k := a + w) (by omega), k1, k2, k3, k4, K6 hxw, K6 hym]
      apply K0 (hc y x)
      simp only [go_sem, wN1 (a := a + w) (by omega)]
      intro _
      refine ⟨fun hn => ⟨(w + 1, v), ⟨rfl, rfl⟩, ⟨by omega, i2, Srt.lo_of' hw sX hx (by simpa [ltc] using hn), i4⟩, by omega⟩, fun hn => ⟨(u, w), ⟨rfl, rfl⟩, ⟨w1, by omega, i3, Srt.hi_of' hw sX hx (by simpa [ltc] using hn)⟩, by omega⟩⟩
     ·obtain rfl : u = v := by omega
      have hres := Srt.mrg_last i3 i4
      have hlt : ∀ t, (P ++ (X.take t ++ y :: X.drop t) ++ Q).length = N := fun t => by rw [← hN]; simp; omega
      refine Ko (fun t : Nat => [(17, vI ((a + t : Nat) : Int))]) (fun t => [(0, ⟨1, .row true 6 ((P ++ (X.take t ++ y :: X.drop t) ++ Q).map GFound.enc)⟩)]) (fun t => u ≤ t ∧ t ≤ X.length) (fun t => t - u) X.length ?_
      simp only [go_sem]
      refine ⟨?_, ⟨i2, by omega⟩, ?_⟩
      ·simp only [go_sem, hm']
       simp
      ·rintro t ⟨ht, ht2⟩
       by_cases htu : u < t
       ·obtain ⟨t, rfl⟩ : ∃ s, t = s + 1 := ⟨t - 1, by omega⟩
        obtain ⟨x, hx⟩ := Kf (show t < X.length by omega)
        have e1 : (P ++ (X.take (t + 1) ++ y :: X.drop (t + 1)) ++ Q).map GFound.enc = two ((P ++ X.take t).map GFound.enc) x.enc [] y.enc ((X.drop (t + 1) ++ Q).map GFound.enc) := by simp [two, Kc hx]
        have e2 : (P ++ (X.take t ++ y :: X.drop t) ++ Q).map GFound.enc = two ((P ++ X.take t).map GFound.enc) y.enc [] x.enc ((X.drop (t + 1) ++ Q).map GFound.enc) := by simp [two, Kn hx]
        have hA : ((P ++ X.take t).map GFound.enc).length = a + t := by simp; omega
        have hL0 : ∀ p q, (two ((P ++ X.take t).map GFound.enc) p [] q ((X.drop (t + 1) ++ Q).map GFound.enc)).length = N := fun p q => by
         rw [← hlt t]; simp [two, Kn hx]
        generalize (P ++ X.take t).map GFound.enc = A at *
        generalize (X.drop (t + 1) ++ Q).map GFound.enc = C at *
        obtain ⟨g1, g2, s1, s2, hL, d1, d2⟩ := K40 (A := A) (B := []) (C := C) (p := a + t) (q := a + t + 1) hA (by simp)
        have k1 : (0 : Int) ≤ ((a + t : Nat) : Int) := by omega
        have k2 : ((a + t : Nat) : Int) < (N : Int) := by omega
        have k3 : (0 : Int) ≤ ((a + t + 1 : Nat) : Int) := by omega
        have k4 : ((a + t + 1 : Nat) : Int) < (N : Int) := by omega
        have k5 : ((a + t + 1 : Nat) : Int) > ((a + u : Nat) : Int) := by omega
        have k6 : IntKind.i64.wrap (((a + t + 1 : Nat) : Int) - 1) = ((a + t : Nat) : Int) := by
         rw [wI (by omega) (by omega)]; omega
        rw [e1, show a + (t + 1) = a + t + 1 from rfl]
        simp only [go_sem, hL0, g1, g2, s1, s2, k1, k2, k3, k4, k5, k6]
        exact ⟨t, ⟨rfl, e2.symm⟩, ⟨by omega, by omega⟩, by omega⟩
       ·obtain rfl : t = u := by omega
        simp only [go_sem]
        rw [hres]
   ·obtain ⟨M, hM⟩ : ∃ M, M = (X.length + Y.length) / 2 := ⟨_, rfl⟩
    have hmid : (a + b) / 2 = a + M := by omega
    have hxa : ∀ w, w < X.length → (P ++ X ++ Y ++ Q)[a + w]? = X[w]? := fun w hw => by
     rw [List.append_assoc, List.append_assoc, List.getElem?_append_right (by omega), List.getElem?_append_left (by omega)]
     congr 1; omega
    have hya : ∀ w, w < Y.length → (P ++ X ++ Y ++ Q)[m + w]? = Y[w]? := fun w hw => by
     rw [List.append_assoc, List.getElem?_append_right (by omega), List.getElem?_append_left (by omega)]
     congr 1; omega
    simp only [go_sem, shr1, K2t (i := a) (j := b) (by omega), hmid, wK (k := a + M) (by omega), wN (a := a + M) (b := m) (by omega)]
    refine ⟨fun h3 => ?_, fun h3 => ?_⟩
    ·have hs : IntKind.i64.wrap (((a + M + m : Nat) : Int) - (b : Int)) = ((a + (M - Y.length) : Nat) : Int) := by
      rw [wI (by omega) (by omega)]; omega
     simp only [go_sem, hs, wS1 (a := a + M + m) (by omega) (by omega)]
     obtain ⟨u0, hu0⟩ : ∃ u, u = M - Y.length := ⟨_, rfl⟩
     obtain ⟨v0, hv0⟩ : ∃ v, v = M := ⟨_, rfl⟩
     rw [← hu0]
     have q1 : u0 ≤ v0 := by omega
     have q2 : v0 ≤ M := by omega
     have q3 : v0 ≤ X.length := by omega
     have q4 : M ≤ u0 + Y.length := by omega
     have q5 : u0 = 0 ∨ Y.length ≤ M - u0 := by omega
     have q6 : v0 = M ∨ v0 = X.length := by omega
     have q7 : a + M = a + v0 := by omega
     refine Ko (ι := Nat × Nat) (fun s => [(20, vI ((a + s.1 : Nat) : Int)), (21, vI ((a + s.2 : Nat) : Int))]) (fun s => []) (fun s => SymI (ltc c) X Y M u0 v0 s.1 s.2) (fun s => s.2 - s.1) (u0, v0) ?_
     simp only [go_sem]
     refine ⟨?_, ⟨by omega, q1, by omega, q5.imp_right .inl, q6.imp_right .inl⟩, ?_⟩
     ·simp only [go_sem]
      first | exact ⟨by omega, by omega⟩ | omega
     ·rintro ⟨u, v⟩ hI
      obtain ⟨i1, i2, i3, i4, i5⟩ := hI
      simp only at i1 i2 i3 i4 i5
      simp only [go_sem, hN, shr1, K2t (i := a + u) (j := a + v) (by omega)]
      refine ⟨fun hlt => ?_, fun hge => ?_⟩
      ·have hwx : (a + u + (a + v)) / 2 = a + (u + v) / 2 := by omega
       have w1 : u ≤ (u + v) / 2 := by omega
       have w2 : (u + v) / 2 < v := by omega
       rw [hwx]
       generalize (u + v) / 2 = w at w1 w2
       have hpc : IntKind.i64.wrap (((a + M + m - 1 : Nat) : Int) - ((a + w : Nat) : Int)) = ((m + (M - 1 - w) : Nat) : Int) := by
        rw [wI (by omega) (by omega)]; omega
       obtain ⟨x, hx⟩ := Kf (show w < X.length by omega)
       obtain ⟨y, hy⟩ := Kf (show M - 1 - w < Y.length by omega)
       have hxw := (hxa w (by omega)).trans hx
       have hyw := (hya (M - 1 - w) (by omega)).trans hy
       have k1 : (0 : Int) ≤ ((a + w : Nat) : Int) := by omega
       have k2 : ((a + w : Nat) : Int) < (N : Int) := by omega
       have k3 : (0 : Int) ≤ ((m + (M - 1 - w) : Nat) : Int) := by omega
       have k4 : ((m + (M - 1 - w) : Nat) : Int) < (N : Int) := by omega
       simp only [go_sem, wK (k := a + w) (by omega), hpc, k1, k2, k3, k4, K6 hxw, K6 hyw]
       apply K0 (hc y x)
       simp only [go_sem, wN1 (a := a + w) (by omega)]
       intro _
       refine ⟨fun hn => ⟨(w + 1, v), ⟨rfl, rfl⟩, ⟨by omega, by omega, i3, .inr (.inr ⟨y, x, by rw [show M - (w + 1) = M - 1 - w by omega]; exact hy, hx, by simpa [ltc] using hn⟩), i5⟩, by show v - (w + 1) < v - u; omega⟩, fun hn => ⟨(u, w), ⟨rfl, rfl⟩, ⟨i1, w1, by omega, i4, .inr (.inr ⟨y, x, hy, hx, by simpa [ltc] using hn⟩)⟩, by show w - u < v - u; omega⟩⟩
      ·obtain rfl : u = v := by omega
       obtain ⟨A1, A2, B1, B2, rfl, rfl, hA1, hB1, huM, hres, t1, t2, t3, t4⟩ := SymI.fin hw ⟨i1, i2, i3, i4, i5⟩ sX sY q2 q3 q4
       have hend : IntKind.i64.wrap (((a + M + m : Nat) : Int) - ((a + u : Nat) : Int)) = ((m + (M - u) : Nat) : Int) := by
        rw [wI (by omega) (by omega)]; omega
       have r0 : P ++ (A1 ++ A2) ++ (B1 ++ B2) ++ Q = (P ++ A1) ++ A2 ++ B1 ++ (B2 ++ Q) := by simp
       have r1 : (P ++ A1) ++ B1 ++ A2 ++ (B2 ++ Q) = P ++ A1 ++ B1 ++ (A2 ++ (B2 ++ Q)) := by simp
       have r2 : A2.length = 0 ∨ B1.length = 0 → P ++ (A1 ++ A2) ++ (B1 ++ B2) ++ Q = P ++ A1 ++ B1 ++ (A2 ++ (B2 ++ Q)) := fun h => by
        rcases h with h | h
        ·rw [List.length_eq_zero_iff.1 h]; simp
        ·rw [List.length_eq_zero_iff.1 h]; simp
       have r3 : A1.length = 0 ∨ B1.length = 0 → P ++ A1 ++ B1 ++ (A2 ++ (B2 ++ Q)) = (P ++ Srt.mrg (ltc c) A1 B1) ++ A2 ++ B2 ++ Q := fun h => by
        rcases h with h | h
        ·rw [List.length_eq_zero_iff.1 h, Srt.mrg_nil_srt hw t3]; simp
        ·rw [List.length_eq_zero_iff.1 h, Srt.mrg_nil]; simp
       have r4 : P ++ Srt.mrg (ltc c) A1 B1 ++ (A2 ++ (B2 ++ Q)) = (P ++ Srt.mrg (ltc c) A1 B1) ++ A2 ++ B2 ++ Q := by simp
       have r5 : A2.length = 0 ∨ B2.length = 0 → (P ++ Srt.mrg (ltc c) A1 B1) ++ A2 ++ B2 ++ Q = (P ++ Srt.mrg (ltc c) A1 B1) ++ Srt.mrg (ltc c) A2 B2 ++ Q := fun h => by
        rcases h with h | h
        ·rw [List.length_eq_zero_iff.1 h, Srt.mrg_nil_srt hw t4]; simp
        ·rw [List.length_eq_zero_iff.1 h, Srt.mrg_nil]; simp
       have r6 : P ++ Srt.mrg (ltc c) (A1 ++ A2) (B1 ++ B2) ++ Q = (P ++ Srt.mrg (ltc c) A1 B1) ++ Srt.mrg (ltc c) A2 B2 ++ Q := by rw [hres]; simp
       obtain ⟨⟨l0, l1, l2, l3, l4, l5⟩, ⟨L1, L2, L3, L4, L5, L6, L7⟩, hn1, hn2, ⟨eA, eB, eC, eD, eE, eF⟩, h7⟩ := symL (ltc c) ha hA1 hB1 huM hm' hb' hN hM hn h1 h2 hX hY
       clear hxa hya hres i4 i5
       rcases h7 with ⟨z1, z2, z3, z4⟩ | ⟨z1, z2, z3, z4⟩ | ⟨z1, z2, z3, z4⟩ | ⟨z1, z2, z3, z4⟩ | ⟨z1, z2, z3, z4⟩ | ⟨z1, z2, z3, z4⟩ | ⟨z1, z2, z3, z4⟩
       ·have fA := K8 A2.length eA z2
        have fB := K8 B1.length eB z3
        have fC := K8 A1.length eC z1
        have fD := K8 B1.length eD z3
        have fE := K8 A2.length eE z2
        have fF := K8 B2.length eF z4
        simp only [go_sem, hend, fA, fB, fC, fD, fE, fF]
        rw [r0]
        apply K7 (C1 (P ++ A1) A2 B1 (B2 ++ Q) f L1 L2 L3 z2 z3)
        simp only [go_sem, fC, fD, l0]
        rw [r1]
        apply K7 (ih P A1 B1 (A2 ++ (B2 ++ Q)) hn1 ha L1 L4 z1 z3 t1 t3)
        simp only [go_sem, fE, fF, l4]
        rw [r4]
        apply K7 (ih (P ++ Srt.mrg (ltc c) A1 B1) A2 B2 Q hn2 L5 L6 L7 z2 z4 t2 t4)
        simp only [go_sem]
        rw [r6]
       ·have fA := K8 A2.length eA z2
        have fB := K8 B1.length eB z3
        have fC := Kl A1.length eC z1
        have fD := K8 B1.length eD z3
        have fE := K8 A2.length eE z2
        have fF := K8 B2.length eF z4
        simp only [go_sem, hend, fA, fB, fC, fD, fE, fF]
        rw [r0]
        apply K7 (C1 (P ++ A1) A2 B1 (B2 ++ Q) f L1 L2 L3 z2 z3)
        simp only [go_sem, fC, fE, fF, l0]
        rw [r1]
        rw [r3 (.inl z1)]
        apply K7 (ih (P ++ Srt.mrg (ltc c) A1 B1) A2 B2 Q hn2 L5 L6 L7 z2 z4 t2 t4)
        simp only [go_sem]
        rw [r6]
       ·have fA := Kl A2.length eA z2
        have fB := K8 B1.length eB z3
        have fC := K8 A1.length eC z1
        have fD := K8 B1.length eD z3
        have fE := Kl A2.length eE z2
        have fF := K8 B2.length eF z4
        simp only [go_sem, hend, fA, fB, fC, fD, fE, fF]
        rw [r2 (.inl z2)]
        apply K7 (ih P A1 B1 (A2 ++ (B2 ++ Q)) hn1 ha L1 L4 z1 z3 t1 t3)
        simp only [go_sem, fE]
        rw [r4]
        rw [r5 (.inl z2)]
        rw [r6]
       ·have fA := K8 A2.length eA z2
        have fB := Kl B1.length eB z3
        have fC := K8 A1.length eC z1
        have fD := Kl B1.length eD z3
        have fE := K8 A2.length eE z2
        have fF := K8 B2.length eF z4
        simp only [go_sem, hend, fA, fB, fC, fD, fE, fF]
        rw [r2 (.inr z3)]
        rw [r3 (.inr z3)]
        apply K7 (ih (P ++ Srt.mrg (ltc c) A1 B1) A2 B2 Q hn2 L5 L6 L7 z2 z4 t2 t4)
        simp only [go_sem]
        rw [r6]
       ·have fA := K8 A2.length eA z2
        have fB := K8 B1.length eB z3
        have fC := K8 A1.length eC z1
        have fD := K8 B1.length eD z3
        have fE := K8 A2.length eE z2
        have fF := Kl B2.length eF z4
        simp only [go_sem, hend, fA, fB, fC, fD, fE, fF]
        rw [r0]
        apply K7 (C1 (P ++ A1) A2 B1 (B2 ++ Q) f L1 L2 L3 z2 z3)
        simp only [go_sem, fC, fD, l0]
        rw [r1]
        apply K7 (ih P A1 B1 (A2 ++ (B2 ++ Q)) hn1 ha L1 L4 z1 z3 t1 t3)
        simp only [go_sem, fE, fF]
        rw [r4]
        rw [r5 (.inr z4)]
        rw [r6]
       ·have fA := K8 A2.length eA z2
        have fB := K8 B1.length eB z3
        have fC := Kl A1.length eC z1
        have fD := K8 B1.length eD z3
        have fE := K8 A2.length eE z2
        have fF := Kl B2.length eF z4
        simp only [go_sem, hend, fA, fB, fC, fD, fE, fF]
        rw [r0]
        apply K7 (C1 (P ++ A1) A2 B1 (B2 ++ Q) f L1 L2 L3 z2 z3)
        simp only [go_sem, fC, fE, fF]
        rw [r1]
        rw [r3 (.inl z1)]
        rw [r5 (.inr z4)]
        rw [r6]
       ·have fA := Kl A2.length eA z2
        have fB := Kl B1.length eB z3
        have fC := K8 A1.length eC z1
        have fD := Kl B1.length eD z3
        have fE := Kl A2.length eE z2
        have fF := K8 B2.length eF z4
        simp only [go_sem, hend, fA, fB, fC, fD, fE, fF]
        rw [r2 (.inl z2)]
        rw [r3 (.inr z3)]
        rw [r5 (.inl z2)]
        rw [r6]
    ·simp only [go_sem, wS1 (a := a + M + m) (by omega) (by omega)]
     obtain ⟨u0, hu0⟩ : ∃ u, u = 0 := ⟨_, rfl⟩
     obtain ⟨v0, hv0⟩ : ∃ v, v = X.length := ⟨_, rfl⟩
     have q1 : u0 ≤ v0 := by omega
     have q2 : v0 ≤ M := by omega
     have q3 : v0 ≤ X.length := by omega
     have q4 : M ≤ u0 + Y.length := by omega
     have q5 : u0 = 0 ∨ Y.length ≤ M - u0 := by omega
     have q6 : v0 = M ∨ v0 = X.length := by omega
     refine Ko (ι := Nat × Nat) (fun s => [(20, vI ((a + s.1 : Nat) : Int)), (21, vI ((a + s.2 : Nat) : Int))]) (fun s => []) (fun s => SymI (ltc c) X Y M u0 v0 s.1 s.2) (fun s => s.2 - s.1) (u0, v0) ?_
     simp only [go_sem]
     refine ⟨?_, ⟨by omega, q1, by omega, q5.imp_right .inl, q6.imp_right .inl⟩, ?_⟩
     ·simp only [go_sem]
      first | exact ⟨by omega, by omega⟩ | omega
     ·rintro ⟨u, v⟩ hI
      obtain ⟨i1, i2, i3, i4, i5⟩ := hI
      simp only at i1 i2 i3 i4 i5
      simp only [go_sem, hN, shr1, K2t (i := a + u) (j := a + v) (by omega)]
      refine ⟨fun hlt => ?_, fun hge => ?_⟩
      ·have hwx : (a + u + (a + v)) / 2 = a + (u + v) / 2 := by omega
       have w1 : u ≤ (u + v) / 2 := by omega
       have w2 : (u + v) / 2 < v := by omega
       rw [hwx]
       generalize (u + v) / 2 = w at w1 w2
       have hpc : IntKind.i64.wrap (((a + M + m - 1 : Nat) : Int) - ((a + w : Nat) : Int)) = ((m + (M - 1 - w) : Nat) : Int) := by
        rw [wI (by omega) (by omega)]; omega
       obtain ⟨x, hx⟩ := Kf (show w < X.length by omega)
       obtain ⟨y, hy⟩ := Kf (show M - 1 - w < Y.length by omega)
       have hxw := (hxa w (by omega)).trans hx
       have hyw := (hya (M - 1 - w) (by omega)).trans hy
       have k1 : (0 : Int) ≤ ((a + w : Nat) : Int) := by omega
       have k2 : ((a + w : Nat) : Int) < (N : Int) := by omega
       have k3 : (0 : Int) ≤ ((m + (M - 1 - w) : Nat) : Int) := by omega
       have k4 : ((m + (M - 1 - w) : Nat) : Int) < (N : Int) := by omega
       simp only [go_sem, wK (k := a + w) (by omega), hpc, k1, k2, k3, k4, K6 hxw, K6 hyw]
       apply K0 (hc y x)
       simp only [go_sem, wN1 (a := a + w) (by omega)]
       intro _
       refine ⟨fun hn => ⟨(w + 1, v), ⟨rfl, rfl⟩, ⟨by omega, by omega, i3, .inr (.inr ⟨y, x, by rw [show M - (w + 1) = M - 1 - w by omega]; exact hy, hx, by simpa [ltc] using hn⟩), i5⟩, by show v - (w + 1) < v - u; omega⟩, fun hn => ⟨(u, w), ⟨rfl, rfl⟩, ⟨i1, w1, by omega, i4, .inr (.inr ⟨y, x, hy, hx, by simpa [ltc] using hn⟩)⟩, by show w - u < v - u; omega⟩⟩
      ·obtain rfl : u = v := by omega
       obtain ⟨A1, A2, B1, B2, rfl, rfl, hA1, hB1, huM, hres, t1, t2, t3, t4⟩ := SymI.fin hw ⟨i1, i2, i3, i4, i5⟩ sX sY q2 q3 q4
       have hend : IntKind.i64.wrap (((a + M + m : Nat) : Int) - ((a + u : Nat) : Int)) = ((m + (M - u) : Nat) : Int) := by
        rw [wI (by omega) (by omega)]; omega
       have r0 : P ++ (A1 ++ A2) ++ (B1 ++ B2) ++ Q = (P ++ A1) ++ A2 ++ B1 ++ (B2 ++ Q) := by simp
       have r1 : (P ++ A1) ++ B1 ++ A2 ++ (B2 ++ Q) = P ++ A1 ++ B1 ++ (A2 ++ (B2 ++ Q)) := by simp
       have r2 : A2.length = 0 ∨ B1.length = 0 → P ++ (A1 ++ A2) ++ (B1 ++ B2) ++ Q = P ++ A1 ++ B1 ++ (A2 ++ (B2 ++ Q)) := fun h => by
        rcases h with h | h
        ·rw [List.length_eq_zero_iff.1 h]; simp
        ·rw [List.length_eq_zero_iff.1 h]; simp
       have r3 : A1.length = 0 ∨ B1.length = 0 → P ++ A1 ++ B1 ++ (A2 ++ (B2 ++ Q)) = (P ++ Srt.mrg (ltc c) A1 B1) ++ A2 ++ B2 ++ Q := fun h => by
        rcases h with h | h
        ·rw [List.length_eq_zero_iff.1 h, Srt.mrg_nil_srt hw t3]; simp
        ·rw [List.length_eq_zero_iff.1 h, Srt.mrg_nil]; simp
       have r4 : P ++ Srt.mrg (ltc c) A1 B1 ++ (A2 ++ (B2 ++ Q)) = (P ++ Srt.mrg (ltc c) A1 B1) ++ A2 ++ B2 ++ Q := by simp
       have r5 : A2.length = 0 ∨ B2.length = 0 → (P ++ Srt.mrg (ltc c) A1 B1) ++ A2 ++ B2 ++ Q = (P ++ Srt.mrg (ltc c) A1 B1) ++ Srt.mrg (ltc c) A2 B2 ++ Q := fun h => by
        rcases h with h | h
        ·rw [List.length_eq_zero_iff.1 h, Srt.mrg_nil_srt hw t4]; simp
        ·rw [List.length_eq_zero_iff.1 h, Srt.mrg_nil]; simp
       have r6 : P ++ Srt.mrg (ltc c) (A1 ++ A2) (B1 ++ B2) ++ Q = (P ++ Srt.mrg (ltc c) A1 B1) ++ Srt.mrg (ltc c) A2 B2 ++ Q := by rw [hres]; simp
       obtain ⟨⟨l0, l1, l2, l3, l4, l5⟩, ⟨L1, L2, L3, L4, L5, L6, L7⟩, hn1, hn2, ⟨eA, eB, eC, eD, eE, eF⟩, h7⟩ := symL (ltc c) ha hA1 hB1 huM hm' hb' hN hM hn h1 h2 hX hY
       clear hxa hya hres i4 i5
       rcases h7 with ⟨z1, z2, z3, z4⟩ | ⟨z1, z2, z3, z4⟩ | ⟨z1, z2, z3, z4⟩ | ⟨z1, z2, z3, z4⟩ | ⟨z1, z2, z3, z4⟩ | ⟨z1, z2, z3, z4⟩ | ⟨z1, z2, z3, z4⟩
       ·have fA := K8 A2.length eA z2
        have fB := K8 B1.length eB z3
        have fC := K8 A1.length eC z1
        have fD := K8 B1.length eD z3
        have fE := K8 A2.length eE z2
        have fF := K8 B2.length eF z4
        simp only [go_sem, hend, fA, fB, fC, fD, fE, fF]
        rw [r0]
        apply K7 (C1 (P ++ A1) A2 B1 (B2 ++ Q) f L1 L2 L3 z2 z3)
        simp only [go_sem, fC, fD, l0]
        rw [r1]
        apply K7 (ih P A1 B1 (A2 ++ (B2 ++ Q)) hn1 ha L1 L4 z1 z3 t1 t3)
        simp only [go_sem, fE, fF, l4]
        rw [r4]
        apply K7 (ih (P ++ Srt.mrg (ltc c) A1 B1) A2 B2 Q hn2 L5 L6 L7 z2 z4 t2 t4)
        simp only [go_sem]
        rw [r6]
       ·have fA := K8 A2.length eA z2
        have fB := K8 B1.length eB z3
        have fC := Kl A1.length eC z1
        have fD := K8 B1.length eD z3
        have fE := K8 A2.length eE z2
        have fF := K8 B2.length eF z4
        simp only [go_sem, hend, fA, fB, fC, fD, fE, fF]
        rw [r0]
        apply K7 (C1 (P ++ A1) A2 B1 (B2 ++ Q) f L1 L2 L3 z2 z3)
        simp only [go_sem, fC, fE, fF, l0]
        rw [r1]
        rw [r3 (.inl z1)]
        apply K7 (ih (P ++ Srt.mrg (ltc c) A1 B1) A2 B2 Q hn2 L5 L6 L7 z2 z4 t2 t4)
        simp only [go_sem]
        rw [r6]
       ·have fA := Kl A2.length eA z2
        have fB := K8 B1.length eB z3
        have fC := K8 A1.length eC z1
        have fD := K8 B1.length eD z3
        have fE := Kl A2.length eE z2
        have fF := K8 B2.length eF z4
        simp only [go_sem, hend, fA, fB, fC, fD, fE, fF]
        rw [r2 (.inl z2)]
        apply K7 (ih P A1 B1 (A2 ++ (B2 ++ Q)) hn1 ha L1 L4 z1 z3 t1 t3)
        simp only [go_sem, fE]
        rw [r4]
        rw [r5 (.inl z2)]
        rw [r6]
       ·have fA := K8 A2.length eA z2
        have fB := Kl B1.length eB z3
        have fC := K8 A1.length eC z1
        have fD := Kl B1.length eD z3
        have fE := K8 A2.length eE z2
        have fF := K8 B2.length eF z4
        simp only [go_sem, hend, fA, fB, fC, fD, fE, fF]
        rw [r2 (.inr z3)]
        rw [r3 (.inr z3)]
        apply K7 (ih (P ++ Srt.mrg (ltc c) A1 B1) A2 B2 Q hn2 L5 L6 L7 z2 z4 t2 t4)
        simp only [go_sem]
        rw [r6]
       ·have fA := K8 A2.length eA z2
        have fB := K8 B1.length eB z3
        have fC := K8 A1.length eC z1
        have fD := K8 B1.length eD z3
        have fE := K8 A2.length eE z2
        have fF := Kl B2.length eF z4
        simp only [go_sem, hend, fA, fB, fC, fD, fE, fF]
        rw [r0]
        apply K7 (C1 (P ++ A1) A2 B1 (B2 ++ Q) f L1 L2 L3 z2 z3)
        simp only [go_sem, fC, fD, l0]
        rw [r1]
        apply K7 (ih P A1 B1 (A2 ++ (B2 ++ Q)) hn1 ha L1 L4 z1 z3 t1 t3)
        simp only [go_sem, fE, fF]
        rw [r4]
        rw [r5 (.inr z4)]
        rw [r6]
       ·have fA := K8 A2.length eA z2
        have fB := K8 B1.length eB z3
        have fC := Kl A1.length eC z1
        have fD := K8 B1.length eD z3
        have fE := K8 A2.length eE z2
        have fF := Kl B2.length eF z4
        simp only [go_sem, hend, fA, fB, fC, fD, fE, fF]
        rw [r0]
        apply K7 (C1 (P ++ A1) A2 B1 (B2 ++ Q) f L1 L2 L3 z2 z3)
        simp only [go_sem, fC, fE, fF]
        rw [r1]
        rw [r3 (.inl z1)]
        rw [r5 (.inr z4)]
        rw [r6]
       ·have fA := Kl A2.length eA z2
        have fB := Kl B1.length eB z3
        have fC := K8 A1.length eC z1
        have fD := Kl B1.length eD z3
        have fE := Kl A2.length eE z2
        have fF := K8 B2.length eF z4
        simp only [go_sem, hend, fA, fB, fC, fD, fE, fF]
        rw [r2 (.inl z2)]
        rw [r3 (.inr z3)]
        rw [r5 (.inl z2)]
        rw [r6]
end Go.Proofs.YtgkeplbnnjogiaaGreatR
namespace Go.Proofs.YtgkeplbnnjogiaaGreatR
open Go Go.RowKit Go.Proofs
open Nat (reduceEqDiff reduceLT reduceLeDiff reduceAdd reduceMul)
open List (reduceReplicate)
namespace Srt
variable {α : Type} {lt : α → α → Bool}
def blks (lt : α → α → Bool) (s : Nat) : Nat → List α → List α
 | 0, l => l
 | k + 1, l => isort lt (l.take s) ++ blks lt s k (l.drop s)
theorem len_blks {s : Nat} : ∀ {k : Nat} {l : List α}, (blks lt s k l).length = l.length
 | 0, l => rfl
 | k + 1, l => by
  simp only [blks, List.length_append, len_isort, len_blks, List.length_take, List.length_drop]; omega
theorem blks_snoc {s : Nat} : ∀ {k : Nat} {l : List α}, (k + 1) * s ≤ l.length → ∃ A, A.length = k * s ∧ blks lt s k l = A ++ ((l.drop (k * s)).take s ++ l.drop ((k + 1) * s)) ∧ blks lt s (k + 1) l = A ++ (isort lt ((l.drop (k * s)).take s) ++ l.drop ((k + 1) * s))
 | 0, l, h => ⟨[], by simp, by simp [blks], by simp [blks]⟩
 | k + 1, l, h => by
  have h' : (k + 1) * s ≤ (l.drop s).length := by
   rw [Nat.succ_mul] at h
   simp only [List.length_drop]; omega
  obtain ⟨A, hA, e1, e2⟩ := blks_snoc (k := k) (l := l.drop s) h'
  have d1 : s + k * s = (k + 1) * s := by rw [Nat.succ_mul]; omega
  have d2 : s + (k + 1) * s = (k + 1 + 1) * s := by rw [Nat.succ_mul (k + 1)]; omega
  have hs : s ≤ l.length := by rw [Nat.succ_mul] at h; omega
  refine ⟨isort lt (l.take s) ++ A, ?_, ?_, ?_⟩
  ·rw [List.length_append, len_isort, List.length_take, Nat.min_eq_left hs, hA, d1]
  ·rw [blks, e1, List.drop_drop, List.drop_drop, d1, d2, List.append_assoc]
  ·rw [blks, e2, List.drop_drop, List.drop_drop, d1, d2, List.append_assoc]
theorem blks_last {s : Nat} : ∀ {k : Nat} {l : List α}, k * s ≤ l.length → l.length < (k + 1) * s → ∃ A, A.length = k * s ∧ blks lt s k l = A ++ l.drop (k * s) ∧ blks lt s (k + 1) l = A ++ isort lt (l.drop (k * s))
 | 0, l, _, h => by
  have h' : l.length ≤ s := by omega
  exact ⟨[], by simp, by simp [blks], by simp [blks, List.take_of_length_le h', List.drop_of_length_le h']⟩
 | k + 1, l, h0, h => by
  have d1 : s + k * s = (k + 1) * s := by rw [Nat.succ_mul]; omega
  have d2 : s + (k + 1) * s = (k + 1 + 1) * s := by rw [Nat.succ_mul (k + 1)]; omega
  have h1 : k * s + s ≤ l.length := by rw [← Nat.succ_mul]; exact h0
  have h2 : l.length < k * s + s + s := by rw [← Nat.succ_mul, ← Nat.succ_mul]; exact h
  obtain ⟨A, hA, e1, e2⟩ := blks_last (k := k) (l := l.drop s) (Nat.le_trans (Nat.le_sub_of_add_le h1) (by rw [List.length_drop]; exact Nat.le_refl _)) (by rw [List.length_drop, Nat.succ_mul]; exact Nat.sub_lt_right_of_lt_add (Nat.le_trans (Nat.le_add_left _ _) h1) h2)
  have hs : s ≤ l.length := Nat.le_trans (Nat.le_add_left _ _) h1
  refine ⟨isort lt (l.take s) ++ A, ?_, ?_, ?_⟩
  ·rw [List.length_append, len_isort, List.length_take, Nat.min_eq_left hs, hA, d1]
  ·rw [blks, e1, List.drop_drop, d1, List.append_assoc]
  ·rw [blks, e2, List.drop_drop, d1, List.append_assoc]
theorem blk_le {s : Nat} {l : List α} (h : l.length ≤ s) : blk lt s l = isort lt l := by
 rw [blk, dif_pos (.inr h)]
theorem K4r {s : Nat} {l : List α} : blk lt s l = isort lt (l.take s) ++ blk lt s (l.drop s) := by
 by_cases h : s = 0 ∨ l.length ≤ s
 ·rcases h with rfl | h
  ·simp [isort, mrg]
  ·rw [blk_le h, List.take_of_length_le h, List.drop_of_length_le h, blk_le (by simp)]
   simp [isort, mrg]
 ·rw [blk, dif_neg h]
theorem len_blk {s : Nat} : ∀ {n : Nat} {l : List α}, l.length ≤ n → (blk lt s l).length = l.length
 | 0, l, h => by rw [blk_le (by omega), len_isort]
 | n + 1, l, h => by
  by_cases h2 : s = 0 ∨ l.length ≤ s
  ·rw [blk, dif_pos h2, len_isort]
  ·rw [K4r, List.length_append, len_isort, len_blk (n := n) (by simp only [List.length_drop]; omega), List.length_take, List.length_drop]
   omega
theorem blks_blk {s : Nat} : ∀ {k : Nat} {l : List α}, k * s ≤ l.length → l.length < (k + 1) * s → blks lt s (k + 1) l = blk lt s l
 | 0, l, _, h => by
  have h' : l.length ≤ s := by omega
  rw [blk_le h']
  simp [blks, List.take_of_length_le h', List.drop_of_length_le h']
 | k + 1, l, h0, h => by
  rw [Nat.succ_mul] at h0 h
  rw [blks, K4r, blks_blk (k := k) (l := l.drop s) (by rw [List.length_drop]; omega) (by rw [List.length_drop]; omega)]
def mix (lt : α → α → Bool) (s : Nat) : Nat → List α → List α
 | 0, l => blk lt s l
 | k + 1, l => isort lt (l.take (2 * s)) ++ mix lt s k (l.drop (2 * s))
theorem len_mix {s : Nat} : ∀ {k : Nat} {l : List α}, (mix lt s k l).length = l.length
 | 0, l => len_blk (Nat.le_refl _)
 | k + 1, l => by
  rw [mix, List.length_append, len_isort, len_mix, List.length_take, List.length_drop]; omega
theorem mix_step (hw : Swo lt) {s : Nat} : ∀ {k : Nat} {l : List α}, k * (2 * s) + 2 * s ≤ l.length → ∃ P X Y Q, P.length = k * (2 * s) ∧ X.length = s ∧ Y.length = s ∧ srt lt X ∧ srt lt Y ∧ mix lt s k l = P ++ X ++ Y ++ Q ∧ mix lt s (k + 1) l = P ++ mrg lt X Y ++ Q
 | 0, l, h => by
  refine ⟨[], isort lt (l.take s), isort lt ((l.drop s).take s), blk lt s (l.drop (2 * s)), by simp, ?_, ?_, srt_isort hw _, srt_isort hw _, ?_, ?_⟩
  ·rw [len_isort, List.length_take]; omega
  ·rw [len_isort, List.length_take, List.length_drop]; omega
  ·rw [mix, K4r, K4r (l := l.drop s), List.drop_drop, show s + s = 2 * s by omega]
   simp
  ·rw [← K6i hw, mix, mix, List.nil_append, ← List.take_add, show s + s = 2 * s by omega]
 | k + 1, l, h => by
  have e : (k + 1) * (2 * s) = k * (2 * s) + 2 * s := Nat.succ_mul ..
  rw [e] at h
  obtain ⟨P, X, Y, Q, h1, h2, h3, h4, h5, h6, h7⟩ := mix_step hw (s := s) (k := k) (l := l.drop (2 * s)) (by rw [List.length_drop]; omega)
  refine ⟨isort lt (l.take (2 * s)) ++ P, X, Y, Q, ?_, h2, h3, h4, h5, ?_, ?_⟩
  ·rw [List.length_append, len_isort, h1, List.length_take, e]; omega
  ·rw [mix, h6]; simp
  ·rw [mix, h7]; simp
theorem mix_end (hw : Swo lt) {s : Nat} : ∀ {k : Nat} {l : List α}, k * (2 * s) ≤ l.length → l.length < k * (2 * s) + 2 * s →
  (k * (2 * s) + s < l.length → ∃ P X Y, P.length = k * (2 * s) ∧ X.length = s ∧ k * (2 * s) + s + Y.length = l.length ∧ srt lt X ∧ srt lt Y ∧ mix lt s k l = P ++ X ++ Y ∧ blk lt (2 * s) l = P ++ mrg lt X Y) ∧
  (l.length ≤ k * (2 * s) + s → mix lt s k l = blk lt (2 * s) l)
 | 0, l, h0, h => by
  refine ⟨fun h1 => ⟨[], isort lt (l.take s), isort lt (l.drop s), by simp, ?_, ?_, srt_isort hw _, srt_isort hw _, ?_, ?_⟩, fun h1 => ?_⟩
  ·rw [len_isort, List.length_take]; omega
  ·rw [len_isort, List.length_drop]; omega
  ·rw [mix, K4r, blk_le (l := l.drop s) (by rw [List.length_drop]; omega), List.nil_append]
  ·rw [← K6i hw, List.take_append_drop, blk_le (by omega), List.nil_append]
  ·rw [mix, blk_le (by omega), blk_le (by omega)]
 | k + 1, l, h0, h => by
  have e : (k + 1) * (2 * s) = k * (2 * s) + 2 * s := Nat.succ_mul ..
  rw [e] at h h0
  obtain ⟨i1, i2⟩ := mix_end hw (s := s) (k := k) (l := l.drop (2 * s)) (by rw [List.length_drop]; omega) (by rw [List.length_drop]; omega)
  rw [List.length_drop] at i1 i2
  rw [e]
  refine ⟨fun h1 => ?_, fun h1 => ?_⟩
  ·obtain ⟨P, X, Y, h1, h2, h3, h4, h5, h6, h7⟩ := i1 (by omega)
   refine ⟨isort lt (l.take (2 * s)) ++ P, X, Y, ?_, h2, by omega, h4, h5, ?_, ?_⟩
   ·rw [List.length_append, len_isort, h1, List.length_take]; omega
   ·rw [mix, h6]; simp
   ·rw [K4r, h7]; simp
  ·rw [mix, i2 (by omega), ← K4r]
end Srt
def Y29 (v0 : Nat) (v1 : Nat) : MC :=
(Zs [.mv 6 (ci 20)] [0,1,2,6] (Zs [mS 10 6, .mv 7 (ci 0), mS 8 10] [0,1,2,6,7,8] (.seq (.block 0 (.loop ([0,1,2,6,7,8], []) (.seq (Zs [mS 11 8, mS 12 1, bS 13 .leq 11 12] [0,1,2,6,7,8,13] (cX 13 0))
(.block 1 (Zs [mS 14 0, mS 15 7, mS 16 8, mS 17 2, .callI 18 [] (.f v0) [.s 14, .s 15, .s 16, .s 17] [0] []] [0,1,2,6,8] (Zs [mS 19 8, mS 7 19] [0,1,2,6,7,8] (pr [mS 20 8, mS 21 6, bS 22 .add 20 21, mS 8 22] [0,1,2,6,7,8])))))))
(Zs [mS 23 0, mS 24 7, mS 25 1, mS 26 2, .callI 27 [] (.f v0) [.s 23, .s 24, .s 25, .s 26] [0] []] [0,1,2,6] (.block 2 (.loop ([0,1,2,6], []) (.seq (Zs [mS 28 6, mS 29 1, bS 30 .lss 28 29] [0,1,2,6,30] (cX 30 2))
(.block 3 (Zs [mS 31 6, .bin 32 false .mul (ci 2) (.s 31), .mv 7 (ci 0), mS 8 32] [0,1,2,6,7,8] (.seq (.block 4 (.loop ([0,1,2,6,7,8], []) (.seq (Zs [mS 33 8, mS 34 1, bS 35 .leq 33 34] [0,1,2,6,7,8,35] (cX 35 4))
(.block 5 (Zs [mS 36 0, mS 37 7, mS 38 7, mS 39 6, bS 40 .add 38 39, mS 41 8, mS 42 2, .callI 43 [] (.f v1) [.s 36, .s 37, .s 40, .s 41, .s 42] [0] []] [0,1,2,6,8] (Zs [mS 44 8, mS 7 44] [0,1,2,6,7,8] (pr [mS 45 8, mS 46 6, .bin 47 false .mul (ci 2) (.s 46), bS 48 .add 45 47, mS 8 48] [0,1,2,6,7,8])))))))
(.seq (Zs [mS 49 7, mS 50 6, bS 51 .add 49 50, mS 9 51] [0,1,2,6,7,9] (Zs [mS 52 9, mS 53 1, bS 54 .lss 52 53] [0,1,2,6,7,9,54] (.cond (.s 54) (pr [mS 55 0, mS 56 7, mS 57 9, mS 58 1, mS 59 2, .callI 60 [] (.f v1) [.s 55, .s 56, .s 57, .s 58, .s 59] [0] []] [0,1,2,6]) .skip)))
(pr [mS 61 6, bC 62 .mul 61 2, mS 6 62] [0,1,2,6]))))))))))))
attribute [go_sem] Y29
def M1f : MC := Y29 Nu N4
set_option maxHeartbeats 4000000 in
theorem Cb2 (X : List GFound) (f : FuncId) (c : GFound → GFound → Int) (hc : ∀ x y, Ctr Tryz.prog f [aS x.enc, aS y.enc] [rI (c x y)]) (hw : Srt.Swo (ltc c)) : CtrI Tryz.prog N1b [oL 6 (X.map GFound.enc), iI X.length, fI f] [some (6, (Srt.isort (ltc c) X).map GFound.enc)] [] := by
 refine K10 (M := M1f) (m := 0) (n := 63) (res := []) hmix Tryz.func383 rfl (by kernel_rfl) rfl (by kernel_rfl) (by kernel_rfl) (Nat.le_of_ble_eq_true rfl) rfl rfl ?_; unfold M1f
 intro hbd
 have hl := Kt hbd
 clear hbd
 simp only [roomB] at hl
 simp only [go_sem]
 refine Ko (fun k : Nat => [(7, vI ((k * 20 : Nat) : Int)), (8, vI (((k + 1) * 20 : Nat) : Int))]) (fun k => [(0, ⟨1, .row true 6 ((Srt.blks (ltc c) 20 k X).map GFound.enc)⟩)]) (fun k => k * 20 ≤ X.length) (fun k => X.length - k * 20) 0 ?_
 simp only [go_sem]
 refine ⟨?_, by omega, ?_⟩
 ·simp only [go_sem]
  exact ⟨rfl, rfl⟩
 ·intro k hk
  simp only [go_sem, Srt.len_blks]
  refine ⟨fun hlt => ?_, fun hge => ?_⟩
  ·obtain ⟨A, hA, e1, e2⟩ := Srt.blks_snoc (lt := ltc c) (s := 20) (k := k) (l := X) (by omega)
   have g1 := congrArg List.length e1
   have g2 := congrArg List.length e2
   rw [Srt.len_blks] at g1 g2
   rw [← List.append_assoc] at e1 e2 g1 g2
   rw [e1]
   apply K7 (C1s A _ _ f c hc hw hA (by simp [hA]; omega))
   have w1 : IntKind.i64.wrap ((((k + 1) * 20 : Nat) : Int) + 20) = (((k + 1 + 1) * 20 : Nat) : Int) := by
    rw [wI (by omega) (by omega)]; omega
   simp only [go_sem, w1]
   exact ⟨k + 1, ⟨⟨rfl, rfl⟩, by rw [e2]⟩, by omega, by omega⟩
  ·obtain ⟨A, hA, e1, e2⟩ := Srt.blks_last (lt := ltc c) (s := 20) (k := k) (l := X) (by omega) (by omega)
   have g1 := congrArg List.length e1
   have g2 := congrArg List.length e2
   rw [Srt.len_blks] at g1 g2
   have e1' : A ++ X.drop (k * 20) = A ++ X.drop (k * 20) ++ [] := by simp
   rw [e1, e1']
   apply K7 (C1s A _ [] f c hc hw hA (by simp [hA]; omega))
   rw [List.append_nil, ← e2]
   rw [Srt.blks_blk (by omega) (by omega)]
   simp only [go_sem]
   refine Ko (fun s : Nat => [(6, vI (s : Int))]) (fun s => [(0, ⟨1, .row true 6 ((Srt.blk (ltc c) s X).map GFound.enc)⟩)]) (fun s => 0 < s ∧ s ≤ 2 * X.length + 20) (fun s => X.length - s) 20 ?_
   simp only [go_sem]
   refine ⟨?_, ⟨by omega, by omega⟩, ?_⟩
   ·simp only [go_sem]
    first | rfl | exact ⟨rfl, rfl⟩
   ·rintro s ⟨hs0, hs1⟩
    clear e1' e1 e2 g1 g2 hA A hge hk
    have w2 : IntKind.i64.wrap (2 * (s : Int)) = ((2 * s : Nat) : Int) := by rw [wI (by omega) (by omega)]; omega
    have w3 : IntKind.i64.wrap ((s : Int) * 2) = ((2 * s : Nat) : Int) := by rw [wI (by omega) (by omega)]; omega
    simp only [go_sem, w2]
    refine ⟨fun hlt => ?_, fun hge => ?_⟩
    ·refine Ko (fun k : Nat => [(7, vI ((k * (2 * s) : Nat) : Int)), (8, vI ((k * (2 * s) + 2 * s : Nat) : Int))]) (fun k => [(0, ⟨1, .row true 6 ((Srt.mix (ltc c) s k X).map GFound.enc)⟩)]) (fun k => k * (2 * s) ≤ X.length) (fun k => X.length - k * (2 * s)) 0 ?_
     simp only [go_sem]
     refine ⟨?_, by omega, ?_⟩
     ·simp only [go_sem]
      refine ⟨⟨?_, ?_⟩, rfl⟩
      ·rw [Nat.zero_mul]; rfl
      ·rw [Nat.zero_mul, Nat.zero_add]
     ·intro k hk
      simp only [go_sem, Srt.len_mix, w3]
      refine ⟨fun hle => ?_, fun hgt => ?_⟩
      ·obtain ⟨P, A, B, Q, m1, m2, m3, m4, m5, m6, m7⟩ := Srt.mix_step hw (s := s) (k := k) (l := X) (by omega)
       have g1 : (P ++ A ++ B ++ Q).length = X.length := by rw [← m6, Srt.len_mix]
       have g2 : (P ++ Srt.mrg (ltc c) A B ++ Q).length = X.length := by rw [← m7, Srt.len_mix]
       have wa : IntKind.i64.wrap (((k * (2 * s) : Nat) : Int) + (s : Int)) = ((k * (2 * s) + s : Nat) : Int) := wN (by omega)
       have wb : IntKind.i64.wrap (((k * (2 * s) + 2 * s : Nat) : Int) + ((2 * s : Nat) : Int)) = (((k + 1) * (2 * s) + 2 * s : Nat) : Int) := by
        rw [wN (by omega), Nat.succ_mul k (2 * s)]
       rw [m6]
       simp only [go_sem, wa]
       apply K7 (C2t f c hc hw _ P A B Q (Nat.le_refl _) m1 (m := k * (2 * s) + s) (b := k * (2 * s) + 2 * s) (by rw [List.length_append]; omega) (by rw [List.length_append, List.length_append]; omega) (by omega) (by omega) m4 m5)
       simp only [go_sem]
       have hj : (k + 1) * (2 * s) = k * (2 * s) + 2 * s := Nat.succ_mul k (2 * s)
       exact ⟨k + 1, ⟨⟨by rw [hj], by rw [w2, wb]⟩, by rw [m7]⟩, by omega, by omega⟩
      ·obtain ⟨i1, i2⟩ := Srt.mix_end hw (s := s) (k := k) (l := X) hk (by omega)
       have wa : IntKind.i64.wrap (((k * (2 * s) : Nat) : Int) + (s : Int)) = ((k * (2 * s) + s : Nat) : Int) := wN (by omega)
       simp only [go_sem, wa]
       refine ⟨fun hlt2 => ?_, fun hge2 => ?_⟩
       ·obtain ⟨P, A, B, m1, m2, m3, m4, m5, m6, m7⟩ := i1 (by omega)
        have g1 : (P ++ A ++ B ++ []).length = X.length := by rw [List.append_nil, ← m6, Srt.len_mix]
        have g2 : (P ++ Srt.mrg (ltc c) A B ++ []).length = X.length := by rw [List.append_nil, ← m7, Srt.len_blk (Nat.le_refl _)]
        rw [m6, ← List.append_nil (P ++ A ++ B)]
        apply K7 (C2t f c hc hw _ P A B [] (Nat.le_refl _) m1 (m := k * (2 * s) + s) (b := X.length) (by rw [List.length_append]; omega) (by rw [List.length_append, List.length_append]; omega) (by omega) (by omega) m4 m5)
        simp only [go_sem, w3]
        exact ⟨2 * s, ⟨rfl, by rw [m7]⟩, ⟨by omega, by omega⟩, by omega⟩
       ·exact ⟨2 * s, ⟨rfl, by rw [i2 (by omega)]⟩, ⟨by omega, by omega⟩, by omega⟩
    ·rw [Srt.blk_le (by omega)]
end Go.Proofs.YtgkeplbnnjogiaaGreatR
namespace Go.Proofs.YtgkeplbnnjogiaaGreatR
open Go Go.RowKit Go.Proofs
open Nat (reduceEqDiff reduceLT reduceLeDiff reduceAdd reduceMul)
open List (reduceReplicate)
def Mk : MC :=
(pr [mS 4 0, mS 5 0, nS 6 5, mS 7 1, .callI 8 [] (.f N1b) [.s 4, .s 6, .s 7] [0] []] [])
theorem Ca4 (X : List GFound) (f : FuncId) (c : GFound → GFound → Int) (hc : ∀ x y, Ctr Tryz.prog f [aS x.enc, aS y.enc] [rI (c x y)]) (hw : Srt.Swo (ltc c)) : CtrI Tryz.prog Nj [oL 6 (X.map GFound.enc), fI f] [some (6, (Srt.isort (ltc c) X).map GFound.enc)] [] := by
 refine K10 (M := Mk) (m := 0) (n := 9) (res := []) hmix Tryz.func298 rfl (by kernel_rfl) rfl (by kernel_rfl) (by kernel_rfl) (Nat.le_of_ble_eq_true rfl) rfl rfl ?_; unfold Mk
 intro hbd
 have hl := Kt hbd
 clear hbd
 simp only [roomB] at hl
 simp only [go_sem]
 apply K7 (Cb2 X f c hc hw)
 simp only [go_sem]
 try intros
 try trivial
end Go.Proofs.YtgkeplbnnjogiaaGreatR
namespace Go.Proofs.YtgkeplbnnjogiaaGreatR
open Go Go.RowKit Go.Proofs
open Nat (reduceEqDiff reduceLT reduceLeDiff reduceAdd reduceMul)
open List (reduceReplicate)
attribute [go_sem] eqB
def K3z (a b : GAddress) : Bool := decide (a.Host < b.Host ∨ a.Host = b.Host ∧ (a.Path < b.Path ∨ a.Path = b.Path ∧ a.Query < b.Query))
def cmpI (x y : Int) : Int := if x < y then -1 else if y < x then 1 else 0
def K5c (a b : GFound) : Int := if K3z a.Address b.Address = true then -1 else if K3z b.Address a.Address = true then 1 else cmpI a.Tick b.Tick
def K20 (a b : GFound) : Bool := decide (a.Address.Host < b.Address.Host ∨ a.Address.Host = b.Address.Host ∧ (a.Address.Path < b.Address.Path ∨ a.Address.Path = b.Address.Path ∧ (a.Address.Query < b.Address.Query ∨ a.Address.Query = b.Address.Query ∧ a.Tick < b.Tick)))
theorem K7n : ltc K5c = K20 := by
 funext a b
 unfold ltc K5c K20 K3z cmpI
 rw [Bool.eq_iff_iff]
 simp only [decide_eq_true_eq]
 split
 ·simp; omega
 ·split
  ·simp; omega
  ·split
   ·simp; omega
   ·split <;> simp <;> omega
theorem fndSwo : Srt.Swo (ltc K5c) := by
 rw [K7n]
 constructor
 ·intro x y h
  simp only [K20, decide_eq_true_eq, decide_eq_false_iff_not] at *
  omega
 ·intro x y z h
  simp only [K20, decide_eq_true_eq] at *
  omega
def fnd1 (i : Nat) : Nat → List GCapture → List GFound
 | _, [] => []
 | k, c :: cs => ⟨c.Address, c.Tick, i, k⟩ :: fnd1 i (k + 1) cs
def fnds : Nat → List GContainer → List GFound
 | _, [] => []
 | i, x :: xs => fnd1 i 0 x.Captures ++ fnds (i + 1) xs
theorem K98 {i : Nat} : ∀ {cs : List GCapture} {k m : Nat} {c : GCapture}, cs[k]? = some c → fnd1 i m (cs.take (k + 1)) = fnd1 i m (cs.take k) ++ [⟨c.Address, c.Tick, i, (m + k : Nat)⟩]
 | [], _, _, _, h => by simp at h
 | c :: cs, 0, m, d, h => by
  simp only [List.getElem?_cons_zero, Option.some.injEq] at h
  subst h
  simp [fnd1]
 | c :: cs, k + 1, m, d, h => by
  simp only [List.getElem?_cons_succ] at h
  rw [List.take_succ_cons, List.take_succ_cons, fnd1, fnd1, K98 h, List.cons_append, show m + 1 + k = m + (k + 1) by omega]
theorem K3l : ∀ {l : List GContainer} {k m : Nat} {x : GContainer}, l[k]? = some x → fnds m (l.take (k + 1)) = fnds m (l.take k) ++ fnd1 (m + k) 0 x.Captures
 | [], _, _, _, h => by simp at h
 | c :: cs, 0, m, d, h => by
  simp only [List.getElem?_cons_zero, Option.some.injEq] at h
  subst h
  simp [fnds]
 | c :: cs, k + 1, m, d, h => by
  simp only [List.getElem?_cons_succ] at h
  rw [List.take_succ_cons, List.take_succ_cons, fnds, fnds, K3l h, List.append_assoc, show m + 1 + k = m + (k + 1) by omega]
theorem K5w {i : Nat} : ∀ {cs : List GCapture} {k : Nat}, (fnd1 i k cs).length = cs.length
 | [], _ => rfl
 | c :: cs, k => by rw [fnd1, List.length_cons, K5w, List.length_cons]
theorem K9x : ∀ {l : List GContainer} {m : Nat}, (fnds m l).length = (l.map fun x => x.Captures.length).sum
 | [], _ => rfl
 | x :: l, m => by rw [fnds, List.length_append, K5w, K9x, List.map_cons, List.sum_cons]
def index (l : List GContainer) : List GFound := Srt.isort K20 (fnds 0 l)
theorem fndSwo' : Srt.Swo K20 := K7n ▸ fndSwo
theorem K57 {m : Nat} : ∀ {l : List GContainer}, (fnds m l).length ≤ (l.map GContainer.size).sum := by
 intro l
 rw [K9x]
 induction l with
 | nil => simp
 | cons x l ih => simp only [List.map_cons, List.sum_cons, GContainer.size]; omega
theorem K75 {l : List GContainer} {i k : Nat} {x : GContainer} (hx : l[i]? = some x) : (fnds 0 (l.take i) ++ fnd1 i 0 (x.Captures.take k)).length ≤ (l.map GContainer.size).sum := by
 have h1 : (fnds 0 (l.take (i + 1))).length ≤ (l.map GContainer.size).sum := Nat.le_trans K57 (K2f l (i + 1))
 rw [K3l hx, List.length_append, K5w] at h1
 rw [List.length_append, K5w, List.length_take]
 omega
theorem K9h {l : List GContainer} {i k : Nat} {x : GContainer} {c : GCapture} (hc : x.Captures[k]? = some c) : fnds 0 (l.take i) ++ fnd1 i 0 (x.Captures.take (k + 1)) = fnds 0 (l.take i) ++ fnd1 i 0 (x.Captures.take k) ++ [⟨c.Address, c.Tick, i, k⟩] := by
 rw [K98 hc, List.append_assoc, Nat.zero_add]
theorem cutA {α : Type} {f : α → List T} {l : List α} {m : Nat} (h : m ≤ l.length) : (if ((m : Int) - 0).toNat = l.length then l.map f else List.take ((m : Int) - 0).toNat (l.map f)) = (l.take m).map f := by
 rw [show ((m : Int) - 0).toNat = m by omega]
 split
 ·rename_i e; rw [List.take_of_length_le (by omega)]
 ·rw [List.map_take]
theorem cutB {α : Type} {f : α → List T} {l : List α} {m : Nat} (h : m ≤ l.length) : (if m = 0 ∧ ((l.length : Int) - (m : Int)).toNat = l.length then l.map f else List.take ((l.length : Int) - (m : Int)).toNat (List.drop m (l.map f))) = (l.drop m).map f := by
 rw [show ((l.length : Int) - (m : Int)).toNat = l.length - m by omega]
 split
 ·rename_i e; rw [e.1]; rfl
 ·rw [List.take_of_length_le (by simp), List.map_drop]
namespace Srt
variable {α : Type} {lt : α → α → Bool}
theorem ins_at {l : List α} (hw : Swo lt) (hs : srt lt l) {x : α} {n : Nat} (h1 : ∀ z ∈ l.drop n, lt x z = true) (h2 : n = 0 ∨ ∃ y, l[n - 1]? = some y ∧ lt x y = false) : ins lt x l = l.take n ++ [x] ++ l.drop n := by
 have e : ins lt x (l.take n ++ l.drop n) = l.take n ++ x :: l.drop n := by
  refine ins_mid ?_ (fun a ha => h1 a (List.mem_of_mem_head? ha))
  intro a ha
  rcases h2 with rfl | ⟨y, hy, h⟩
  ·simp at ha
  ·obtain ⟨i, hi⟩ := List.mem_iff_getElem?.1 ha
   rw [List.getElem?_take] at hi
   split at hi
   ·rename_i hlt
    by_cases hin : i = n - 1
    ·subst hin
     obtain rfl := Option.some.inj (hi.symm.trans hy)
     exact h
    ·obtain ⟨h1, rfl⟩ := List.getElem?_eq_some_iff.1 hi
     obtain ⟨h2, rfl⟩ := List.getElem?_eq_some_iff.1 hy
     exact hw.ntr h ((List.pairwise_iff_getElem.1 hs) i (n - 1) h1 h2 (by omega))
   ·cases hi
 rw [List.take_append_drop] at e
 rw [e]; simp
theorem drop_step {l : List α} {x : α} {n : Nat} {y : α} (hn : 0 < n) (hy : l[n - 1]? = some y) (h : ∀ z ∈ l.drop n, lt x z = true) (hx : lt x y = true) : ∀ z ∈ l.drop (n - 1), lt x z = true := by
 obtain ⟨h1, rfl⟩ := List.getElem?_eq_some_iff.1 hy
 rw [List.drop_eq_getElem_cons h1, show n - 1 + 1 = n by omega]
 intro z hz
 rcases List.mem_cons.1 hz with rfl | hz
 ·exact hx
 ·exact h z hz
end Srt
def M46 : MC :=
(Zs [.box 2 0 (.s 0), .box 3 1 (.s 1), .mv 4 cF] [2,3] (.seq (.block 0 (Zs [fS 6 2 0, lF 7 1 6, fS 8 3 0, lF 9 1 8, bS 10 .neq 7 9, mS 5 10] [2,3,5] (.cond (.s 5) (Zs [fS 11 2 0, lF 12 1 11, fS 13 3 0, lF 14 1 13, bS 15 .lss 12 14, mS 4 15] [4] .ret) (Zs [fS 17 2 1, lF 18 1 17, fS 19 3 1, lF 20 1 19, bS 21 .neq 18 20, mS 16 21] [2,3,16] (.cond (.s 16) (Zs [fS 22 2 1, lF 23 1 22, fS 24 3 1, lF 25 1 24, bS 26 .lss 23 25, mS 4 26] [4] .ret) .skip)))))
(Zs [fS 27 2 2, lF 28 1 27, fS 29 3 2, lF 30 1 29, bS 31 .lss 28 30, mS 4 31] [4] .ret)))
theorem Cc5 (a b : GAddress) : Ctr Tryz.prog N20 [aS a.enc, aS b.enc] [rB (K3z a b)] := by
 refine cA M46 2 32 [(.tmp 4, [false])] Tryz.func84 rfl rfl ?_; unfold M46
 intro hb
 clear hb
 simp only [go_sem]
 repeat' first
  | (refine And.intro ?_ ?_ <;> intro h)
 all_goals (unfold K3z; first | (symm; rw [decide_eq_false_iff_not]; omega) | (rw [Bool.eq_iff_iff]; simp only [decide_eq_true_eq]; omega))
def M47 : MC :=
(Zs [.box 2 0 (.s 0), .box 3 1 (.s 1), .mv 4 cF] [2,3] (.seq (Zs [fS 5 2 0, lF 6 1 5, fS 7 3 0, lF 8 1 7, bS 9 .neq 6 8] [2,3,9] (.cond (.s 9) (Zs [fS 10 2 0, lF 11 1 10, fS 12 3 0, lF 13 1 12, bS 14 .lss 11 13, mS 4 14] [4] .ret) .skip))
(.seq (Zs [fS 15 2 1, lF 16 1 15, fS 17 3 1, lF 18 1 17, bS 19 .neq 16 18] [2,3,19] (.cond (.s 19) (Zs [fS 20 2 1, lF 21 1 20, fS 22 3 1, lF 23 1 22, bS 24 .lss 21 23, mS 4 24] [4] .ret) .skip))
(Zs [fS 25 2 2, lF 26 1 25, fS 27 3 2, lF 28 1 27, bS 29 .lss 26 28, mS 4 29] [4] .ret))))
theorem Cc6 (a b : GAddress) : Ctr Tryz.prog N3v [aS a.enc, aS b.enc] [rB (K3z a b)] := by
 refine cA M47 2 30 [(.tmp 4, [false])] Tryz.func79 rfl rfl ?_; unfold M47
 intro hb
 clear hb
 simp only [go_sem]
 repeat' first
  | (refine And.intro ?_ ?_ <;> intro h)
 all_goals (unfold K3z; first | (symm; rw [decide_eq_false_iff_not]; omega) | (rw [Bool.eq_iff_iff]; simp only [decide_eq_true_eq]; omega))
def M9w : MC :=
(Zs [.box 2 0 (.s 0), .box 3 1 (.s 1), .mv 4 cF] [2,3] (.seq (Zs [fS 5 2 0, lT 6 3 5, fS 7 3 0, lT 8 3 7, .eqA 9 true [.i .i64, .i .i64, .i .i64] (.s 6) (.s 8)] [2,3,9] (.cond (.s 9) (Zs [fS 10 2 0, lT 11 3 10, fS 12 3 0, lT 13 3 12, .call 14 [] (.f N3v) [.s 11, .s 13], mS 4 14] [4] .ret) .skip))
(Zs [fS 15 2 3, lF 16 1 15, fS 17 3 3, lF 18 1 17, bS 19 .lss 16 18, mS 4 19] [4] .ret)))
theorem Cfq (a b : GFound) : Ctr Tryz.prog N97 [aS a.enc, aS b.enc] [rB (K20 a b)] := by
 refine cA M9w 2 20 [(.tmp 4, [false])] Tryz.func293 rfl rfl ?_; unfold M9w
 intro hb
 clear hb
 simp only [go_sem]
 repeat' first
  | (refine And.intro ?_ ?_ <;> intro h)
  | (apply K0 (Cc6 _ _); simp only [go_sem])
 all_goals (simp only [K20, K3z]; rw [Bool.eq_iff_iff]; simp only [decide_eq_true_eq]; simp at h; omega)
def Mav : MC :=
(Zs [.mv 2 cF] [0] (Zs [mS 3 0, mS 4 0, bS 5 .neq 3 4, mS 2 5] [2] .ret))
theorem Cgy (x : Int) : Ctr Tryz.prog N40 [aI x] [rB false] := by
 refine cA Mav 0 6 [(.tmp 2, [false])] Tryz.func384 rfl rfl ?_; unfold Mav
 intro hb
 clear hb
 simp only [go_sem]
def M8h : MC :=
(Zs [.mv 4 (ci 0)] [0,1] (Zs [mS 7 0, .call 8 [] (.f N40) [.s 7], mS 5 8] [0,1,5] (Zs [mS 9 1, .call 10 [] (.f N40) [.s 9], mS 6 10] [0,1,5,6] (.seq (Zs [mS 11 5] [0,1,6,11] (.cond (.s 11) (.seq (Zs [mS 12 6] [12] (.cond (.s 12) (Zs [.mv 4 (ci 0)] [4] .ret) .skip))
(Zs [.mv 4 (.c (.int .i64 (-1)))] [4] .ret)) .skip))
(.seq (Zs [mS 13 6] [0,1,13] (.cond (.s 13) (Zs [.mv 4 (ci 1)] [4] .ret) .skip))
(.seq (Zs [mS 14 0, mS 15 1, bS 16 .lss 14 15] [0,1,16] (.cond (.s 16) (Zs [.mv 4 (.c (.int .i64 (-1)))] [4] .ret) .skip))
(.seq (Zs [mS 17 0, mS 18 1, bS 19 .gtr 17 18] [19] (.cond (.s 19) (Zs [.mv 4 (ci 1)] [4] .ret) .skip))
(Zs [.mv 4 (ci 0)] [4] .ret))))))))
theorem Ccu (x y : Int) : Ctr Tryz.prog N2x [aI x, aI y] [rI (cmpI x y)] := by
 refine cA M8h 0 20 [(.tmp 4, [false])] Tryz.func300 rfl rfl ?_; unfold M8h
 intro hb
 clear hb
 simp only [go_sem]
 repeat' first
  | (refine And.intro ?_ ?_ <;> intro h)
  | (apply K0 (Cgy _); simp only [go_sem])
 all_goals (unfold cmpI; first | rfl | (repeat' split) <;> first | rfl | omega)
def M5g : MC :=
(Zs [.box 2 0 (.s 0), .box 3 1 (.s 1), .mv 4 (ci 0)] [2,3] (.seq (.block 0 (Zs [fS 6 2 0, lT 7 3 6, fS 8 3 0, lT 9 3 8, .call 10 [] (.f N20) [.s 7, .s 9], mS 5 10] [2,3,5] (.cond (.s 5) (Zs [.mv 4 (.c (.int .i64 (-1)))] [4] .ret) (Zs [fS 12 3 0, lT 13 3 12, fS 14 2 0, lT 15 3 14, .call 16 [] (.f N20) [.s 13, .s 15], mS 11 16] [2,3,11] (.cond (.s 11) (Zs [.mv 4 (ci 1)] [4] .ret) .skip)))))
(Zs [fS 17 2 3, lF 18 1 17, fS 19 3 3, lF 20 1 19, .call 21 [] (.f N2x) [.s 18, .s 20], mS 4 21] [4] .ret)))
theorem Cdg (a b : GFound) : Ctr Tryz.prog N4n [aS a.enc, aS b.enc] [rI (K5c a b)] := by
 refine cA M5g 2 22 [(.tmp 4, [false])] Tryz.func299 rfl rfl ?_; unfold M5g
 intro hb
 clear hb
 simp only [go_sem]
 repeat' first
  | (refine And.intro ?_ ?_ <;> intro h)
  | (apply K0 (Cc5 _ _); simp only [go_sem])
  | (apply K0 (Ccu _ _); simp only [go_sem])
 all_goals (unfold K5c; simp_all)
def M8i : MC :=
(Zs [.nilo 2 0 6] [0] (Zs [.nilo 3 0 6] [0,3] (.seq (Zs [mS 8 0, nS 9 8, .mv 10 (ci 0)] [3,8,9,10] (.block 0 (.loop ([3,8,9,10], [1,2,3]) (Zs [bS 11 .lss 10 9] [3,8,9,10,11] (.seq (cX 11 0)
(.seq (.block 1 (Zs [mS 12 10, xS 13 4 8 10, lT 14 4 13, .alloc 5 1 [.emp 4, .emp 5, .emp 9, pz], mS 4 12, sS 4 5 14] [3,4,5,8,9,10] (Zs [fS 15 5 2, lF 16 1 15, nS 17 16, .mv 18 (ci 0)] [3,4,8,9,10,16,17,18] (.block 2 (.loop ([3,4,8,9,10,16,17,18], [1,2,3]) (Zs [bS 19 .lss 18 17] [3,4,8,9,10,16,17,18,19] (.seq (cX 19 2)
(.seq (.block 3 (Zs [mS 20 18, xS 21 9 16 18, lT 22 9 21, .alloc 7 2 [pz, pz, pz, pz, pz, .emp 1, pz, pz, pz], mS 6 20, sS 9 7 22] [3,4,6,7,8,9,10,16,17,18] (pr [mS 23 3, fS 24 7 0, lT 25 3 24, fS 26 7 3, lF 27 1 26, mS 28 4, mS 29 6, .build 30 [pz, pz, pz, pz, pz, pz] [(0, 3, .s 25), (3, 1, .s 27), (4, 1, .s 28), (5, 1, .s 29)], .lit 31 3 6 48 [.s 30], .app 32 0 6 48 (.s 23) (.s 31), mS 3 32] [3,4,8,9,10,16,17,18])))
(pr [bC 33 .add 18 1, mS 18 33] [3,4,8,9,10,16,17,18])))))))))
(pr [bC 34 .add 10 1, mS 10 34] [3,8,9,10])))))))
(Zs [mS 35 3, .callI 36 [] (.f Nj) [.s 35, .f N4n] [0] []] [3] (Zs [mS 37 3, mS 2 37] [2] .ret)))))
theorem C2z (l : List GContainer) (hs : l.length + (l.map GContainer.size).sum ≤ 1073741824) : Ctr Tryz.prog N1v [aL 4 (l.map GContainer.enc)] [rL 6 ((index l).map GFound.enc)] := by
 refine cA M8i 4 38 [(.tmp 2, [true])] Tryz.func189 rfl rfl ?_; unfold M8i
 intro hb
 clear hb
 simp only [go_sem]
 refine K5 l (fun i => [(3, .val false [.ref 0 0 6 0 (fnds 0 (l.take i)).length]), (10, vI i)]) (fun i => [(0, ⟨0, .row true 6 ((fnds 0 (l.take i)).map GFound.enc)⟩)]) (fun _ => True) (by simp only [roomB]; omega) ?_
 simp only [go_sem]
 refine ⟨?_, trivial, ?_, ?_⟩
 ·simp only [go_sem, List.take_zero]
  exact ⟨rfl, rfl⟩
 ·intro i x hx _ h0 h1 hw
  have hx1 := K14 (f := GContainer.size) (Kx hx)
  have hi := Kr hx
  have hxl : x.Captures.length ≤ x.size := by simp only [GContainer.size]; omega
  simp only [go_sem, K6 hx, h0, h1]
  refine K5 x.Captures (fun k => [(3, .val false [.ref 0 0 6 0 (fnds 0 (l.take i) ++ fnd1 i 0 (x.Captures.take k)).length]), (18, vI k)]) (fun k => [(0, ⟨0, .row true 6 ((fnds 0 (l.take i) ++ fnd1 i 0 (x.Captures.take k)).map GFound.enc)⟩)]) (fun _ => True) (by simp only [roomB]; omega) ?_
  simp only [go_sem]
  refine ⟨?_, trivial, ?_, ?_⟩
  ·simp only [go_sem, List.take_zero]
   exact ⟨by simp [fnd1], by simp [fnd1]⟩
  ·intro k c hc _ h2 h3 hw2
   have hn := K75 (k := k) hx
   simp only [go_sem, K6 hc, h2, h3, hw2, K9h hc]
   exact ⟨by simp only [roomB]; omega, by simp only [roomB]; omega, by simp only [List.length_append, List.length_cons, List.length_nil], by simp [GFound.enc]⟩
  ·intro _
   simp only [go_sem, List.take_length, hw]
   exact ⟨by rw [K3l hx, Nat.zero_add], by rw [K3l hx, Nat.zero_add]⟩
 ·intro _
  simp only [go_sem, List.take_length]
  apply K7 (Ca4 (fnds 0 l) _ K5c Cdg fndSwo)
  simp only [go_sem]
  exact ⟨Srt.len_isort.symm, by rw [index, K7n]⟩
def M8j : MC :=
(Zs [.nilo 2 0 6] [0] (Zs [.lit 8 0 6 48 [], mS 3 8] [0,3] (.seq (Zs [.mv 4 (ci 0)] [0,3,4] (.block 0 (.loop ([0,3,4], [1,2,3]) (.seq (Zs [mS 9 4, mS 10 0, nS 11 10, bS 12 .lss 9 11] [0,3,4,12] (cX 12 0))
(.seq (.block 1 (Zs [.mv 5 (ci 0)] [0,3,4,5] (.block 2 (.loop ([0,3,4,5], [1,2,3]) (.seq (Zs [mS 15 5, mS 16 0, mS 17 4, xS 18 4 16 17, fS 19 18 2, lF 20 1 19, nS 21 20, bS 22 .lss 15 21] [0,3,4,5,22] (cX 22 2))
(.seq (.block 3 (.seq (.dreg [Zf [6,26,30,34,35,36,37,38,39,40,41,42,43,44] [1] (mS 25 0), Zf [6,25,30,34,35,36,37,38,39,40,41,42,43,44] [1] (mS 26 4), Zg [6,30,34,35,36,37,38,39,40,41,42,43,44] [1] [0,1] (xS 27 4 25 26), Zg [6,30,34,35,36,37,38,39,40,41,42,43,44] [1] [0,1,2] (fS 28 27 2), Zg [6,30,34,35,36,37,38,39,40,41,42,43,44] [1] (.range 4) (lF 29 1 28), Zf [6,25,26,27,28,29,34,35,36,37,38,39,40,41,42,43,44] [1] (mS 30 5), Zg [6,34,35,36,37,38,39,40,41,42,43,44] [1] (.range 6) (xS 31 9 29 30), Zg [6,34,35,36,37,38,39,40,41,42,43,44] [1] (.range 7) (fS 32 31 0), Zg [6,34,35,36,37,38,39,40,41,42,43,44] [1] (.range 8) (lT 33 3 32), Zf [6,25,26,27,28,29,30,31,32,33,35,39,43,44] [1] (mS 34 0), Zf [6,25,26,27,28,29,30,31,32,33,34,39,43,44] [1] (mS 35 4), Zg [6,25,26,27,28,29,30,31,32,33,39,43,44] [1] [9,10] (xS 36 4 34 35), Zg [6,25,26,27,28,29,30,31,32,33,39,43,44] [1] [9,10,11] (fS 37 36 2), Zg [6,25,26,27,28,29,30,31,32,33,39,43,44] [1] [9,10,11,12] (lF 38 1 37), Zf [6,25,26,27,28,29,30,31,32,33,34,35,36,37,38,43,44] [1] (mS 39 5), Zg [6,25,26,27,28,29,30,31,32,33,43,44] [1] [9,10,11,12,13,14] (xS 40 9 38 39), Zg [6,25,26,27,28,29,30,31,32,33,43,44] [1] [9,10,11,12,13,14,15] (fS 41 40 3), Zg [6,25,26,27,28,29,30,31,32,33,43,44] [1] [9,10,11,12,13,14,15,16] (lF 42 1 41), Zf [6,25,26,27,28,29,30,31,32,33,34,35,36,37,38,39,40,41,42,44] [1] (mS 43 4), Zf [6,25,26,27,28,29,30,31,32,33,34,35,36,37,38,39,40,41,42,43] [1] (mS 44 5), Zg [6] [1] (.range 20) (.build 45 [pz, pz, pz, pz, pz, pz] [(0, 3, .s 33), (3, 1, .s 42), (4, 1, .s 43), (5, 1, .s 44)]), { o := .alloc 6 1 [pz, pz, pz, pz, pz, pz], hs := [25,26,27,28,29,30,31,32,33,34,35,36,37,38,39,40,41,42,43,44,45], ws := [1] }, { o := sS 6 6 45, ws := [1], bf := (.range 22) }] [0,3,4,5,6])
(Zs [mS 46 3, nS 47 46, mS 7 47] [0,3,4,5,6,7] (.seq (.block 4 (.loop ([0,3,4,5,6,7], [2,3]) (.seq (.seq (.dreg [Za (mS 48 7), Ze [0] (bC 49 .gtr 48 0), Ze [0,1] (mS 50 49), { o := lT 51 6 6, g := some (50, true), hs := [52,53,54,55,56], bf := [0,1,2] }, { o := mS 52 3, g := some (50, true), hs := [51,53,54], bf := [0,1,2] }, { o := mS 53 7, g := some (50, true), hs := [51,52], bf := [0,1,2] }, { o := bC 54 .sub 53 1, g := some (50, true), hs := [51,52], bf := [0,1,2,5] }, { o := xS 55 6 52 54, g := some (50, true), hs := [51], bf := [0,1,2,4,5,6] }, { o := lT 56 6 55, g := some (50, true), hs := [51], bf := [0,1,2,4,5,6,7] }, { o := .call 57 [] (.f N97) [.s 51, .s 56], g := some (50, true), bf := (.range 9) }, Ze (.range 10) (.pick 58 (.s 50) (.s 57) cF)] [0,3,4,5,6,7,58])
(cX 58 4))
(.block 5 (pr [mS 59 7, bC 60 .sub 59 1, mS 7 60] [0,3,4,5,6,7])))))
(.dreg [{ o := .lit 61 2 6 48 [], hs := [62,63,64,66,67,69,70,71], ho := [3], ws := [2] }, Zf [61,63,66,67,69,70,71] [2,3] (mS 62 3), Zf [61,62,66,67,69,70,71] [2,3] (mS 63 7), Zg [61,66,67,69,70,71] [2,3] [1,2] (.slc 64 6 (.s 62) none (some (.s 63)) none), { o := .app 65 2 6 48 (.s 61) (.s 64), hs := [66,67,69,70,71], ho := [3], ws := [2], bf := (.range 4) }, Zf [61,62,63,64,65,69,70,71] [2] (lT 66 6 6), { o := .lit 67 3 6 48 [.s 66], hs := [61,62,63,64,65,69,70,71], ho := [2], ws := [3], bf := [5] }, { o := .app 68 2 6 48 (.s 65) (.s 67), hs := [69,70,71], ws := [2], bf := (.range 7) }, Zf [61,62,63,64,65,66,67,68,70] [2,3] (mS 69 3), Zf [61,62,63,64,65,66,67,68,69] [2,3] (mS 70 7), Zg [61,62,63,64,65,66,67,68] [2,3] [8,9] (.slc 71 6 (.s 69) (some (.s 70)) none none), { o := .app 72 0 6 48 (.s 68) (.s 71), ws := [0,2], bf := (.range 11) }, Ze (.range 12) (mS 3 72)] [0,3,4,5])))))
(pr [mS 23 5, bC 24 .add 23 1, mS 5 24] [0,3,4,5])))))))
(pr [mS 13 4, bC 14 .add 13 1, mS 4 14] [0,3,4]))))))
(Zs [mS 73 3, mS 2 73] [2] .ret))))
theorem C30 (l : List GContainer) (hs : l.length + (l.map GContainer.size).sum ≤ 1073741824) : Ctr Tryz.prog N1u [aL 4 (l.map GContainer.enc)] [rL 6 ((index l).map GFound.enc)] := by
 refine cA M8j 4 74 [(.tmp 2, [true])] Tryz.func178 rfl rfl ?_; unfold M8j
 intro hb
 clear hb
 simp only [go_sem]
 refine K5 l (fun i => [(3, .val false [.ref 0 0 6 0 (Srt.isort K20 (fnds 0 (l.take i))).length]), (4, vI i)]) (fun i => [(0, ⟨0, .row true 6 ((Srt.isort K20 (fnds 0 (l.take i))).map GFound.enc)⟩)]) (fun _ => True) (by simp only [roomB]; omega) ?_
 simp only [go_sem]
 refine ⟨?_, trivial, ?_, ?_⟩
 ·simp only [go_sem, List.take_zero]
  exact ⟨rfl, rfl⟩
 ·intro i x hx _ h0 h1 hw
  have hx1 := K14 (f := GContainer.size) (Kx hx)
  have hi := Kr hx
  have hxl : x.Captures.length ≤ x.size := by simp only [GContainer.size]; omega
  simp only [go_sem, h1]
  refine K5 x.Captures (fun k => [(3, .val false [.ref 0 0 6 0 (Srt.isort K20 (fnds 0 (l.take i) ++ fnd1 i 0 (x.Captures.take k))).length]), (5, vI k)]) (fun k => [(0, ⟨0, .row true 6 ((Srt.isort K20 (fnds 0 (l.take i) ++ fnd1 i 0 (x.Captures.take k))).map GFound.enc)⟩)]) (fun _ => True) (by simp only [roomB]; omega) ?_
  simp only [go_sem]
  refine ⟨?_, trivial, ?_, ?_⟩
  ·simp only [go_sem, List.take_zero]
   exact ⟨by simp [fnd1], by simp [fnd1]⟩
  ·intro k c hc _ h2 h3 hw2
   have hn := K75 (k := k) hx
   obtain ⟨y, hy⟩ : ∃ y : GFound, y = ⟨c.Address, c.Tick, i, k⟩ := ⟨_, rfl⟩
   obtain ⟨out, hout⟩ : ∃ out, out = Srt.isort K20 (fnds 0 (l.take i) ++ fnd1 i 0 (x.Captures.take k)) := ⟨_, rfl⟩
   have hsr : Srt.srt K20 out := hout ▸ Srt.srt_isort fndSwo' _
   have hol : out.length ≤ (l.map GContainer.size).sum := by rw [hout, Srt.len_isort]; exact hn
   have hst : Srt.isort K20 (fnds 0 (l.take i) ++ fnd1 i 0 (x.Captures.take (k + 1))) = Srt.ins K20 y out := by
    rw [K9h hc, Srt.isort_snoc, ← hout, ← hy]
   have hye : ([tI c.Address.Host, tI c.Address.Path, tI c.Address.Query, tI c.Tick, tI (i : Int), tI (k : Int)] : List T) = y.enc := by rw [hy]; rfl
   rw [hst, ← hout]
   simp only [go_sem, K6 hx, K6 hc, h0, h1, h2, h3, hw]
   refine Ko (fun n : Nat => [(7, vI n)]) (fun n => []) (fun n => n ≤ out.length ∧ ∀ z ∈ out.drop n, K20 y z = true) (fun n => n) out.length ?_
   simp only [go_sem]
   refine ⟨?_, ⟨Nat.le_refl _, by simp⟩, ?_⟩
   ·simp only [go_sem]
   ·rintro n ⟨hn1, hn2⟩
    simp only [go_sem]
    refine ⟨fun hpos => ?_, fun hzero => ?_⟩
    ·obtain ⟨m, hm⟩ : ∃ m, m = n - 1 := ⟨_, rfl⟩
     obtain ⟨z, hz⟩ := Kf (show m < out.length by omega)
     have e1 : IntKind.i64.wrap ((n : Int) - 1) = (m : Int) := by rw [wI (by omega) (by omega)]; omega
     rw [e1]
     simp only [go_sem, K6 hz]
     refine ⟨⟨by omega, by omega⟩, ?_⟩
     apply K0 (Cfq ⟨c.Address, c.Tick, (i : Int), (k : Int)⟩ z)
     simp only [go_sem]
     rw [e1]
     refine ⟨fun ht => ⟨m, rfl, ⟨by omega, ?_⟩, by omega⟩, fun hf => ?_⟩
     ·rw [hm]
      exact Srt.drop_step (by omega) (hm ▸ hz) hn2 (hy ▸ ht)
     ·have hstop : n = 0 ∨ ∃ y', out[n - 1]? = some y' ∧ K20 y y' = false := .inr ⟨z, hm ▸ hz, hy ▸ hf⟩
      rw [cutA hn1]
      refine ⟨by omega, by omega, ?_⟩
      have hA : (out.take n).length = n := by rw [List.length_take]; omega
      have hB : out.length = n + (out.drop n).length := by rw [List.length_drop]; omega
      have eC := cutB (f := GFound.enc) hn1
      have e5 : List.map GFound.enc (out.take n) ++ [[T.sc (Value.int IntKind.i64 c.Address.Host), T.sc (Value.int IntKind.i64 c.Address.Path), T.sc (Value.int IntKind.i64 c.Address.Query), T.sc (Value.int IntKind.i64 c.Tick), T.sc (Value.int IntKind.i64 (i : Int)), T.sc (Value.int IntKind.i64 (k : Int))]] = (out.take n ++ [y]).map GFound.enc := by rw [hy]; simp [GFound.enc]
      have e6 : ((out.take n ++ [y]).map GFound.enc).length = (out.take n).length + 1 := by simp
      simp only [go_sem, ↓Km (f := GFound.enc) (fun _ => rfl) (out.take n), ↓eC, ↓e5, ↓e6, ↓Km (f := GFound.enc) (fun _ => rfl) (out.drop n)]
      rw [Srt.ins_at fndSwo' hsr hn2 hstop]
      simp only [roomB]
      exact ⟨by omega, by omega, by omega, ⟨by omega, by omega, by omega⟩, by omega, by omega, ⟨by simp only [List.length_append, List.length_cons, List.length_nil], hw2⟩, by rw [← List.map_append]⟩
    ·have hstop : n = 0 ∨ ∃ y', out[n - 1]? = some y' ∧ K20 y y' = false := .inl (by omega)
     rw [cutA hn1]
     refine ⟨by omega, by omega, ?_⟩
     have hA : (out.take n).length = n := by rw [List.length_take]; omega
     have hB : out.length = n + (out.drop n).length := by rw [List.length_drop]; omega
     have eC := cutB (f := GFound.enc) hn1
     have e5 : List.map GFound.enc (out.take n) ++ [[T.sc (Value.int IntKind.i64 c.Address.Host), T.sc (Value.int IntKind.i64 c.Address.Path), T.sc (Value.int IntKind.i64 c.Address.Query), T.sc (Value.int IntKind.i64 c.Tick), T.sc (Value.int IntKind.i64 (i : Int)), T.sc (Value.int IntKind.i64 (k : Int))]] = (out.take n ++ [y]).map GFound.enc := by rw [hy]; simp [GFound.enc]
     have e6 : ((out.take n ++ [y]).map GFound.enc).length = (out.take n).length + 1 := by simp
     simp only [go_sem, ↓Km (f := GFound.enc) (fun _ => rfl) (out.take n), ↓eC, ↓e5, ↓e6, ↓Km (f := GFound.enc) (fun _ => rfl) (out.drop n)]
     rw [Srt.ins_at fndSwo' hsr hn2 hstop]
     simp only [roomB]
     exact ⟨by omega, by omega, by omega, ⟨by omega, by omega, by omega⟩, by omega, by omega, ⟨by simp only [List.length_append, List.length_cons, List.length_nil], hw2⟩, by rw [← List.map_append]⟩
  ·intro _
   simp only [go_sem, List.take_length, K6 hx, h0, h1, hw, Int.lt_irrefl]
   exact ⟨by rw [K3l hx, Nat.zero_add], by rw [K3l hx, Nat.zero_add]⟩
 ·intro _
  simp only [go_sem, List.take_length]
  rfl
end Go.Proofs.YtgkeplbnnjogiaaGreatR
namespace Go.Proofs.YtgkeplbnnjogiaaGreatR
open Go Go.RowKit Go.Proofs
open Nat (reduceEqDiff reduceLT reduceLeDiff reduceAdd reduceMul)
open List (reduceReplicate)
theorem K4l {α : Type} {p : α → Bool} {l : List α} : (l.any fun x => !p x) = !l.all p := by
 induction l with
 | nil => rfl
 | cons x l ih => rw [List.any_cons, List.all_cons, ih]; cases p x <;> rfl
def K1s {α : Type} (n : Nat) (p : α → Bool) (l : List α) : Bool := decide (l.length ≤ n) && l.all p
theorem K6g {α : Type} {n : Nat} {p : α → Bool} {l : List α} (h : ¬ l.length ≤ n) : false = K1s n p l := by
 unfold K1s; rw [decide_eq_false h]; rfl
theorem K5x {α : Type} {n : Nat} {p : α → Bool} {l : List α} (h : l.length ≤ n) : (!l.any fun x => !p x) = K1s n p l := by
 unfold K1s; rw [decide_eq_true h, K4l, Bool.not_not]; rfl
theorem K41 {α : Type} {n : Nat} {p : α → Bool} {l : List α} {k : Nat} {x : α} (hx : l[k]? = some x) (h : p x = false) : false = K1s n p l := by
 unfold K1s; rw [← K8p hx h, Bool.and_false]
theorem K5y {α : Type} {n : Nat} {p : α → Bool} {l : List α} (h : l.all p = true) : decide (l.length ≤ n) = K1s n p l := by
 unfold K1s; rw [h, Bool.and_true]
theorem K8h {n m : Nat} : decide ((n : Int) ≤ (m : Int)) = decide (n ≤ m) := by
 rw [Bool.eq_iff_iff]; simp only [decide_eq_true_eq]; omega
def opOk (o : GOp) : Bool := decide ((0 ≤ o.A ∧ o.A < 4) ∧ (
 (o.Kind = 1 ∧ (1 ≤ o.B ∧ o.B ≤ 9) ∧ (0 ≤ o.C ∧ o.C ≤ 99)) ∨
 ((o.Kind = 2 ∨ o.Kind = 3 ∨ o.Kind = 4) ∧ o.B = 0 ∧ o.C = 0) ∨
 (o.Kind = 5 ∧ (0 ≤ o.B ∧ o.B < 4) ∧ (0 ≤ o.C ∧ o.C < 4)) ∨
 (o.Kind = 6 ∧ (0 ≤ o.B ∧ o.B < 4) ∧ o.C = 0) ∨
 (o.Kind = 7 ∧ (1 ≤ o.B ∧ o.B ≤ 3) ∧ o.C = 0) ∨
 ((o.Kind = 8 ∨ o.Kind = 9) ∧ (0 ≤ o.B ∧ o.B < 3) ∧ o.C = 0)))
def K7g (l : List GOp) : Bool := K1s 16 opOk l
def Mfd : MC :=
(Zs [.box 1 0 (.s 0), .mv 2 cF] [1] (.seq (Zs [fS 3 1 1, lF 4 1 3, .call 5 [] (.f N3k) [.s 4, .c (.int .i64 4)], .un 6 .not (.s 5)] [1,6] (.cond (.s 6) (Zs [.mv 2 cF] [2] .ret) .skip))
(.seq (Zs [fS 7 1 0, lF 8 1 7] [1,8] (.block 0 (Zs [bC 10 .eql 8 1, mS 9 10] [1,8,9] (.cond (.s 9) (.seq (.reg [Za (fS 11 1 2), Za (lF 12 1 11), Za (.call 13 [] (.f N5) [.s 12, .c (.int .i64 1), .c (.int .i64 9)]), Za (mS 14 13), Zb 14 true (fS 15 1 3), Zb 14 true (lF 16 1 15), Zb 14 true (.call 17 [] (.f N5) [.s 16, .c (.int .i64 0), .c (.int .i64 99)]), Za (.pick 18 (.s 14) (.s 17) cF), Za (mS 2 18)] [2])
.ret) (.seq (Zs [bC 20 .eql 8 2, mS 19 20] [1,8,19] (.cond (.s 19) .skip (Zs [bC 21 .eql 8 3, mS 19 21] [1,8,19] (.cond (.s 19) .skip (pr [bC 22 .eql 8 4, mS 19 22] [1,8,19])))))
(.cond (.s 19) (.seq (.reg [Za (fS 23 1 2), Za (lF 24 1 23), Za (bC 25 .eql 24 0), Za (mS 26 25), Zb 26 true (fS 27 1 3), Zb 26 true (lF 28 1 27), Zb 26 true (bC 29 .eql 28 0), Za (.pick 30 (.s 26) (.s 29) cF), Za (mS 2 30)] [2])
.ret) (Zs [bC 32 .eql 8 5, mS 31 32] [1,8,31] (.cond (.s 31) (.seq (.reg [Za (fS 33 1 2), Za (lF 34 1 33), Za (.call 35 [] (.f N3k) [.s 34, .c (.int .i64 4)]), Za (mS 36 35), Zb 36 true (fS 37 1 3), Zb 36 true (lF 38 1 37), Zb 36 true (.call 39 [] (.f N3k) [.s 38, .c (.int .i64 4)]), Za (.pick 40 (.s 36) (.s 39) cF), Za (mS 2 40)] [2])
.ret) (Zs [bC 42 .eql 8 6, mS 41 42] [1,8,41] (.cond (.s 41) (.seq (.reg [Za (fS 43 1 2), Za (lF 44 1 43), Za (.call 45 [] (.f N3k) [.s 44, .c (.int .i64 4)]), Za (mS 46 45), Zb 46 true (fS 47 1 3), Zb 46 true (lF 48 1 47), Zb 46 true (bC 49 .eql 48 0), Za (.pick 50 (.s 46) (.s 49) cF), Za (mS 2 50)] [2])
.ret) (Zs [bC 52 .eql 8 7, mS 51 52] [1,8,51] (.cond (.s 51) (.seq (.reg [Za (fS 53 1 2), Za (lF 54 1 53), Za (.call 55 [] (.f N5) [.s 54, .c (.int .i64 1), .c (.int .i64 3)]), Za (mS 56 55), Zb 56 true (fS 57 1 3), Zb 56 true (lF 58 1 57), Zb 56 true (bC 59 .eql 58 0), Za (.pick 60 (.s 56) (.s 59) cF), Za (mS 2 60)] [2])
.ret) (.seq (Zs [bC 62 .eql 8 8, mS 61 62] [1,8,61] (.cond (.s 61) .skip (pr [bC 63 .eql 8 9, mS 61 63] [1,61])))
(.cond (.s 61) (.seq (.reg [Za (fS 64 1 2), Za (lF 65 1 64), Za (.call 66 [] (.f N3k) [.s 65, .c (.int .i64 3)]), Za (mS 67 66), Zb 67 true (fS 68 1 3), Zb 67 true (lF 69 1 68), Zb 67 true (bC 70 .eql 69 0), Za (.pick 71 (.s 67) (.s 70) cF), Za (mS 2 71)] [2])
.ret) .skip))))))))))))))
(Zs [.mv 2 cF] [2] .ret))))
theorem Cgz (o : GOp) : Ctr Tryz.prog Nf6 [aS o.enc] [rB (opOk o)] := by
 refine cA Mfd 1 72 [(.tmp 2, [false])] Tryz.func329 rfl rfl ?_; unfold Mfd
 intro hb
 clear hb
 simp only [go_sem]
 repeat' first
  | (refine And.intro ?_ ?_ <;> intro h)
  | (apply K0 (Ch8 _ _); simp only [go_sem])
  | (apply K0 (C6 _ _ _); simp only [go_sem])
 all_goals (unfold opOk; first | (symm; rw [decide_eq_false_iff_not]; omega) | (symm; rw [decide_eq_true_eq]; omega) | (rw [Bool.eq_iff_iff]; simp only [decide_eq_true_eq, beq_iff_eq]; omega))
def Me7 : MC :=
(Zs [.box 1 0 (.s 0), .mv 2 cF] [1] (Zs [.mv 3 (ci 3)] [1,3] (.seq (Zs [fS 4 1 1, lF 5 1 4, mS 6 3, .call 7 [] (.f N2) [.s 5, .c (.int .i64 0), .s 6], .un 8 .not (.s 7)] [1,3,8] (.cond (.s 8) (Zs [.mv 2 cF] [2] .ret) .skip))
(.seq (Zs [fS 9 1 0, lF 10 1 9] [1,3,10] (.block 0 (Zs [bC 12 .eql 10 1, mS 11 12] [1,3,10,11] (.cond (.s 11) (.seq (.reg [Za (fS 13 1 2), Za (lF 14 1 13), Za (.call 15 [] (.f N2) [.s 14, .c (.int .i64 1), .c (.int .i64 9)]), Za (mS 16 15), Zb 16 true (fS 17 1 3), Zb 16 true (lF 18 1 17), Zb 16 true (.call 19 [] (.f N2) [.s 18, .c (.int .i64 0), .c (.int .i64 99)]), Za (.pick 20 (.s 16) (.s 19) cF), Za (mS 2 20)] [2])
.ret) (.seq (Zs [bC 22 .eql 10 2, mS 21 22] [1,3,10,21] (.cond (.s 21) .skip (Zs [bC 23 .eql 10 3, mS 21 23] [1,3,10,21] (.cond (.s 21) .skip (pr [bC 24 .eql 10 4, mS 21 24] [1,3,10,21])))))
(.cond (.s 21) (.seq (.reg [Za (fS 25 1 2), Za (lF 26 1 25), Za (bC 27 .eql 26 0), Za (mS 28 27), Zb 28 true (fS 29 1 3), Zb 28 true (lF 30 1 29), Zb 28 true (bC 31 .eql 30 0), Za (.pick 32 (.s 28) (.s 31) cF), Za (mS 2 32)] [2])
.ret) (Zs [bC 34 .eql 10 5, mS 33 34] [1,3,10,33] (.cond (.s 33) (.seq (.reg [Za (fS 35 1 2), Za (lF 36 1 35), Za (mS 37 3), Za (.call 38 [] (.f N2) [.s 36, .c (.int .i64 0), .s 37]), Za (mS 39 38), Zb 39 true (fS 40 1 3), Zb 39 true (lF 41 1 40), Zb 39 true (mS 42 3), Zb 39 true (.call 43 [] (.f N2) [.s 41, .c (.int .i64 0), .s 42]), Za (.pick 44 (.s 39) (.s 43) cF), Za (mS 2 44)] [2])
.ret) (Zs [bC 46 .eql 10 6, mS 45 46] [1,10,45] (.cond (.s 45) (.seq (.reg [Za (fS 47 1 2), Za (lF 48 1 47), Za (.call 49 [] (.f N2) [.s 48, .c (.int .i64 0), .c (.int .i64 3)]), Za (mS 50 49), Zb 50 true (fS 51 1 3), Zb 50 true (lF 52 1 51), Zb 50 true (bC 53 .eql 52 0), Za (.pick 54 (.s 50) (.s 53) cF), Za (mS 2 54)] [2])
.ret) (Zs [bC 56 .eql 10 7, mS 55 56] [1,10,55] (.cond (.s 55) (.seq (.reg [Za (fS 57 1 2), Za (lF 58 1 57), Za (.call 59 [] (.f N2) [.s 58, .c (.int .i64 1), .c (.int .i64 3)]), Za (mS 60 59), Zb 60 true (fS 61 1 3), Zb 60 true (lF 62 1 61), Zb 60 true (bC 63 .eql 62 0), Za (.pick 64 (.s 60) (.s 63) cF), Za (mS 2 64)] [2])
.ret) (.seq (Zs [bC 66 .eql 10 8, mS 65 66] [1,10,65] (.cond (.s 65) .skip (pr [bC 67 .eql 10 9, mS 65 67] [1,65])))
(.cond (.s 65) (.seq (.reg [Za (fS 68 1 2), Za (lF 69 1 68), Za (.call 70 [] (.f N2) [.s 69, .c (.int .i64 0), .c (.int .i64 2)]), Za (mS 71 70), Zb 71 true (fS 72 1 3), Zb 71 true (lF 73 1 72), Zb 71 true (bC 74 .eql 73 0), Za (.pick 75 (.s 71) (.s 74) cF), Za (mS 2 75)] [2])
.ret) .skip))))))))))))))
(Zs [.mv 2 cF] [2] .ret)))))
theorem Cgu (o : GOp) : Ctr Tryz.prog Ndl [aS o.enc] [rB (opOk o)] := by
 refine cA Me7 1 76 [(.tmp 2, [false])] Tryz.func320 rfl rfl ?_; unfold Me7
 intro hb
 clear hb
 simp only [go_sem]
 repeat' first
  | (refine And.intro ?_ ?_ <;> intro h)
  | (apply K0 (Cr _ _ _); simp only [go_sem])
 all_goals (unfold opOk; first | (symm; rw [decide_eq_false_iff_not]; omega) | (symm; rw [decide_eq_true_eq]; omega) | (rw [Bool.eq_iff_iff]; simp only [decide_eq_true_eq, beq_iff_eq]; omega))
def M8k : MC :=
(Zs [.box 1 0 (.s 0), .mv 2 cF] [1] (Zs [lT 3 4 1, .call 4 [] (.f Nf6) [.s 3], .un 5 .not (.s 4), mS 2 5] [2] .ret))
theorem Cew (o : GOp) : Ctr Tryz.prog N7l [aS o.enc] [rB (!opOk o)] := by
 refine cA M8k 1 6 [(.tmp 2, [false])] Tryz.func328 rfl rfl ?_; unfold M8k
 intro hb
 clear hb
 simp only [go_sem]
 apply K0 (Cgz _)
 simp only [go_sem]
def Maw : MC :=
(Zs [.mv 2 cF] [0] (.seq (.reg [Za (mS 3 0), Za (nS 4 3), Za (bC 5 .leq 4 16), Za (mS 6 5), Zb 6 true (mS 7 0), Zb 6 true (.call 8 [] (.f Ny) [.s 7, .f N7l]), Zb 6 true (.un 9 .not (.s 8)), Za (.pick 10 (.s 6) (.s 9) cF), Za (mS 2 10)] [2])
.ret))
theorem Cg7 (l : List GOp) : Ctr Tryz.prog Nae [aL 4 (l.map GOp.enc)] [rB (K7g l)] := by
 refine cA Maw 0 11 [(.tmp 2, [false])] Tryz.func236 rfl rfl ?_; unfold Maw
 intro hb
 clear hb
 simp only [go_sem]
 refine ⟨fun h => ?_, fun h => K6g (by omega)⟩
 refine K0 (C9s l _ [] (fun o => !opOk o) fun o _ => Cew o) ?_
 simp only [go_sem]
 exact K5x (by omega)
def Max : MC :=
(Zs [.mv 2 cF] [0] (.seq (Zs [.mv 3 (ci 0)] [0,3] (.block 0 (.loop ([0,3], []) (.seq (Zs [mS 4 3, mS 5 0, nS 6 5, bS 7 .lss 4 6] [0,3,7] (cX 7 0))
(.seq (.block 1 (Zs [mS 10 0, mS 11 3, xS 12 4 10 11, lT 13 4 12, .call 14 [] (.f Ndl) [.s 13], .un 15 .not (.s 14)] [0,3,15] (.cond (.s 15) (Zs [.mv 2 cF] [2] .ret) .skip)))
(pr [mS 8 3, bC 9 .add 8 1, mS 3 9] [0,3]))))))
(Zs [mS 16 0, nS 17 16, bC 18 .leq 17 16, mS 2 18] [2] .ret)))
theorem Cg8 (l : List GOp) : Ctr Tryz.prog Nad [aL 4 (l.map GOp.enc)] [rB (K7g l)] := by
 refine cA Max 0 19 [(.tmp 2, [false])] Tryz.func223 rfl rfl ?_; unfold Max
 intro hb
 simp only [bdA, bdL, bdT, Kb, roomB, and_true, List.length_map] at hb
 have hl := hb.1
 clear hb
 simp only [go_sem]
 refine K5 l (fun k => [(3, vI k)]) (fun k => []) (fun k => (l.take k).all opOk = true) hl ?_
 simp only [go_sem]
 refine ⟨?_, by simp, ?_, ?_⟩
 ·simp only [go_sem]
 ·intro k x hx h h0 h1 hw
  simp only [go_sem, K6 hx, h0, h1]
  apply K0 (Cgu _)
  simp only [go_sem, hw]
  exact ⟨fun hn => K41 hx hn, fun hn => K3d hx h hn⟩
 ·intro h
  simp only [go_sem]
  rw [List.take_length] at h
  exact K8h.trans (K5y h)
def asks (k : Int) : Bool := decide (1 ≤ k ∧ k ≤ 4)
def Mfe : MC :=
(Zs [.mv 2 cF] [0] (Zs [mS 3 0, .call 4 [] (.f N5) [.s 3, .c (.int .i64 1), .c (.int .i64 4)], mS 2 4] [2] .ret))
theorem Ch0 (k : Int) : Ctr Tryz.prog Nf7 [aI k] [rB (asks k)] := by
 refine cA Mfe 0 5 [(.tmp 2, [false])] Tryz.func334 rfl rfl ?_; unfold Mfe
 intro hb
 clear hb
 simp only [go_sem]
 apply K0 (C6 _ _ _)
 simp only [go_sem]
 try rfl
def Mff : MC :=
(Zs [.mv 2 cF] [0] (Zs [mS 3 0, .call 4 [] (.f N2) [.s 3, .c (.int .i64 1), .c (.int .i64 4)], mS 2 4] [2] .ret))
theorem Ch1 (k : Int) : Ctr Tryz.prog Nf5 [aI k] [rB (asks k)] := by
 refine cA Mff 0 5 [(.tmp 2, [false])] Tryz.func323 rfl rfl ?_; unfold Mff
 intro hb
 clear hb
 simp only [go_sem]
 apply K0 (Cr _ _ _)
 simp only [go_sem]
 try rfl
def K3p (e : GEntry) : Bool := asks e.Kind && (decide (0 ≤ e.Value ∧ e.Value ≤ 999) && (if e.Kind = 1 then K2z e.Address else K1y e.Address))
def K7z (l : List GEntry) : Bool := K1s 16 K3p l
def M5h : MC :=
(Zs [.box 1 0 (.s 0), .mv 2 cF] [1] (.seq (Zs [fS 3 1 0, lF 4 1 3, bC 5 .eql 4 1] [1,5] (.cond (.s 5) (.seq (.reg [Za (fS 6 1 1), Za (lT 7 3 6), Za (.call 8 [] (.f N23) [.s 7]), Za (.un 9 .not (.s 8)), Za (mS 10 9), Zb 10 false (fS 11 1 4), Zb 10 false (lF 12 1 11), Zb 10 false (.call 13 [] (.f N5) [.s 12, .c (.int .i64 0), .c (.int .i64 999)]), Zb 10 false (.un 14 .not (.s 13)), Za (.pick 15 (.s 10) cT (.s 14)), Za (mS 2 15)] [2])
.ret) .skip))
(.seq (.reg [Za (fS 16 1 0), Za (lF 17 1 16), Za (.call 18 [] (.f Nf7) [.s 17]), Za (.un 19 .not (.s 18)), Za (mS 20 19), Zb 20 false (fS 21 1 1), Zb 20 false (lT 22 3 21), Zb 20 false (.build 23 [pz, pz, pz] []), Zb 20 false (.eqA 24 true [.i .i64, .i .i64, .i .i64] (.s 22) (.s 23)), Za (.pick 25 (.s 20) cT (.s 24)), Za (mS 26 25), Zb 26 false (fS 27 1 4), Zb 26 false (lF 28 1 27), Zb 26 false (.call 29 [] (.f N5) [.s 28, .c (.int .i64 0), .c (.int .i64 999)]), Zb 26 false (.un 30 .not (.s 29)), Za (.pick 31 (.s 26) cT (.s 30)), Za (mS 2 31)] [2])
.ret)))
theorem Cdh (e : GEntry) : Ctr Tryz.prog N4r [aS e.enc] [rB (!K3p e)] := by
 refine cA M5h 1 32 [(.tmp 2, [false])] Tryz.func408 rfl rfl ?_; unfold M5h
 intro hb
 clear hb
 simp only [go_sem]
 repeat' first
  | (refine And.intro ?_ ?_ <;> intro h)
  | (apply K0 (C3d _); simp only [go_sem])
  | (apply K0 (Ch0 _); simp only [go_sem])
  | (apply K0 (C6 _ _ _); simp only [go_sem])
 all_goals (simp_all [K3p, asks, K1y]; try omega)
def M8l : MC :=
(Zs [.mv 2 cF] [0] (.seq (.reg [Za (mS 3 0), Za (nS 4 3), Za (bC 5 .leq 4 16), Za (mS 6 5), Zb 6 true (mS 7 0), Zb 6 true (.call 8 [] (.f Ns) [.s 7, .f N4r]), Zb 6 true (.un 9 .not (.s 8)), Za (.pick 10 (.s 6) (.s 9) cF), Za (mS 2 10)] [2])
.ret))
theorem Cex (l : List GEntry) : Ctr Tryz.prog N7q [aL 5 (l.map GEntry.enc)] [rB (K7z l)] := by
 refine cA M8l 0 11 [(.tmp 2, [false])] Tryz.func357 rfl rfl ?_; unfold M8l
 intro hb
 clear hb
 simp only [go_sem]
 refine ⟨fun h => ?_, fun h => K6g (by omega)⟩
 refine K0 (C6j l _ [] (fun o => !K3p o) fun o _ => Cdh o) ?_
 simp only [go_sem]
 exact K5x (by omega)
def M8m : MC :=
(Zs [.mv 2 cF] [0] (.seq (Zs [.mv 3 (ci 0)] [0,3] (.block 0 (.loop ([0,3], [0]) (.seq (Zs [mS 5 3, mS 6 0, nS 7 6, bS 8 .lss 5 7] [0,3,8] (cX 8 0))
(.seq (.block 1 (Zs [mS 11 0, mS 12 3, xS 13 5 11 12, lT 14 5 13, .alloc 4 0 [pz, pz, pz, pz, pz], sS 5 4 14] [0,3,4] (.seq (.reg [Za (fS 15 4 0), Za (lF 16 1 15), Za (.call 17 [] (.f Nf5) [.s 16]), Za (.un 18 .not (.s 17)), Za (mS 19 18), Zb 19 false (fS 20 4 4), Zb 19 false (lF 21 1 20), Zb 19 false (.call 22 [] (.f N2) [.s 21, .c (.int .i64 0), .c (.int .i64 999)]), Zb 19 false (.un 23 .not (.s 22)), Za (.pick 24 (.s 19) cT (.s 23)), Za (mS 25 24), Zb 25 false (fS 26 4 0), Zb 25 false (lF 27 1 26), Zb 25 false (bC 28 .eql 27 1), Zb 25 false (mS 29 28), Zb 29 true (fS 30 4 1), Zb 29 true (lT 31 3 30), Zb 29 true (.call 32 [] (.f N22) [.s 31]), Zb 29 true (.un 33 .not (.s 32)), Zb 25 false (.pick 34 (.s 29) (.s 33) cF), Za (.pick 35 (.s 25) cT (.s 34)), Za (mS 36 35), Zb 36 false (fS 37 4 0), Zb 36 false (lF 38 1 37), Zb 36 false (bC 39 .neq 38 1), Zb 36 false (mS 40 39), Zb 40 true (fS 41 4 1), Zb 40 true (lT 42 3 41), Zb 40 true (.build 43 [pz, pz, pz] []), Zb 40 true (.eqA 44 true [.i .i64, .i .i64, .i .i64] (.s 42) (.s 43)), Zb 36 false (.pick 45 (.s 40) (.s 44) cF), Za (.pick 46 (.s 36) cT (.s 45))] [0,3,46])
(.cond (.s 46) (Zs [.mv 2 cF] [2] .ret) .skip))))
(pr [mS 9 3, bC 10 .add 9 1, mS 3 10] [0,3]))))))
(Zs [mS 47 0, nS 48 47, bC 49 .leq 48 16, mS 2 49] [2] .ret)))
theorem Cey (l : List GEntry) : Ctr Tryz.prog N7o [aL 5 (l.map GEntry.enc)] [rB (K7z l)] := by
 refine cA M8m 1 50 [(.tmp 2, [false])] Tryz.func347 rfl rfl ?_; unfold M8m
 intro hb
 simp only [bdA, bdL, bdT, Kb, roomB, and_true, List.length_map] at hb
 have hl := hb.1
 clear hb
 simp only [go_sem]
 refine K5 l (fun k => [(3, vI k)]) (fun k => []) (fun k => (l.take k).all K3p = true) hl ?_
 simp only [go_sem]
 refine ⟨?_, by simp, ?_, ?_⟩
 ·simp only [go_sem]
 ·intro k x hx hT h0 h1 hw
  have hy : K3p x = true → (l.take (k + 1)).all K3p = true := fun hn => K3d hx hT hn
  have hn : K3p x = false → false = K7z l := fun hn => K41 hx hn
  clear hT
  simp only [go_sem, K6 hx, h0, h1]
  repeat' first
   | (refine And.intro ?_ ?_ <;> intro h)
   | (apply K0 (C3e _); simp only [go_sem, hw])
   | (apply K0 (Ch1 _); simp only [go_sem])
   | (apply K0 (Cr _ _ _); simp only [go_sem, hw])
  all_goals first | (apply hy; clear hy hn hx hw; simp_all [K3p, K1y]; done) | (apply hn; clear hy hn hx hw; simp_all [K3p, K1y]; done) | (apply hn; clear hy hn hx hw; unfold K3p; rw [decide_eq_false (by assumption)]; simp; done)
 ·intro h
  simp only [go_sem]
  rw [List.take_length] at h
  exact K8h.trans (K5y h)
def K3q (c : GCapture) : Bool := K2z c.Address && (decide (0 ≤ c.Tick ∧ c.Tick ≤ 2000) && K1n c.Resource)
def K88 (l : List GCapture) : Bool := K1s 20 K3q l
def M48 : MC :=
(Zs [.box 1 0 (.s 0), .mv 2 cF] [1] (.seq (.reg [Za (fS 3 1 0), Za (lT 4 3 3), Za (.call 5 [] (.f N23) [.s 4]), Za (.un 6 .not (.s 5)), Za (mS 7 6), Zb 7 false (fS 8 1 3), Zb 7 false (lF 9 1 8), Zb 7 false (.call 10 [] (.f N5) [.s 9, .c (.int .i64 0), .c (.int .i64 2000)]), Zb 7 false (.un 11 .not (.s 10)), Za (.pick 12 (.s 7) cT (.s 11)), Za (mS 13 12), Zb 13 false (fS 14 1 4), Zb 13 false (lT 15 5 14), Zb 13 false (.call 16 [] (.f N7k) [.s 15]), Zb 13 false (.un 17 .not (.s 16)), Za (.pick 18 (.s 13) cT (.s 17)), Za (mS 2 18)] [2])
.ret))
theorem Cc7 (c : GCapture) : Ctr Tryz.prog N3z [aS c.enc] [rB (!K3q c)] := by
 refine cA M48 1 19 [(.tmp 2, [false])] Tryz.func331 rfl rfl ?_; unfold M48
 intro hb
 clear hb
 simp only [go_sem]
 repeat' first
  | (refine And.intro ?_ ?_ <;> intro h)
  | (apply K0 (C3d _); simp only [go_sem])
  | (apply K0 (Cer _); simp only [go_sem])
  | (apply K0 (C6 _ _ _); simp only [go_sem])
 all_goals (simp_all [K3q]; try omega)
def M6o : MC :=
(Zs [.mv 2 cF] [0] (.seq (.reg [Za (mS 3 0), Za (nS 4 3), Za (bC 5 .leq 4 20), Za (mS 6 5), Zb 6 true (mS 7 0), Zb 6 true (.call 8 [] (.f Ng) [.s 7, .f N3z]), Zb 6 true (.un 9 .not (.s 8)), Za (.pick 10 (.s 6) (.s 9) cF), Za (mS 2 10)] [2])
.ret))
theorem Ce8 (l : List GCapture) : Ctr Tryz.prog N60 [aL 9 (l.map GCapture.enc)] [rB (K88 l)] := by
 refine cA M6o 0 11 [(.tmp 2, [false])] Tryz.func237 rfl rfl ?_; unfold M6o
 intro hb
 clear hb
 simp only [go_sem]
 refine ⟨fun h => ?_, fun h => K6g (by omega)⟩
 refine K0 (C4a l _ [] (fun o => !K3q o) fun o _ => Cc7 o) ?_
 simp only [go_sem]
 exact K5x (by omega)
def M6p : MC :=
(Zs [.mv 2 cF] [0] (.seq (Zs [.mv 3 (ci 0)] [0,3] (.block 0 (.loop ([0,3], []) (.seq (Zs [mS 4 3, mS 5 0, nS 6 5, bS 7 .lss 4 6] [0,3,7] (cX 7 0))
(.seq (.block 1 (.seq (.reg [Za (mS 10 0), Za (mS 11 3), Za (xS 12 9 10 11), Za (fS 13 12 0), Za (lT 14 3 13), Za (.call 15 [] (.f N22) [.s 14]), Za (.un 16 .not (.s 15)), Za (mS 17 16), Zb 17 false (mS 18 0), Zb 17 false (mS 19 3), Zb 17 false (xS 20 9 18 19), Zb 17 false (fS 21 20 3), Zb 17 false (lF 22 1 21), Zb 17 false (.call 23 [] (.f N2) [.s 22, .c (.int .i64 0), .c (.int .i64 2000)]), Zb 17 false (.un 24 .not (.s 23)), Za (.pick 25 (.s 17) cT (.s 24)), Za (mS 26 25), Zb 26 false (mS 27 0), Zb 26 false (mS 28 3), Zb 26 false (xS 29 9 27 28), Zb 26 false (fS 30 29 4), Zb 26 false (lT 31 5 30), Zb 26 false (.call 32 [] (.f N7j) [.s 31]), Zb 26 false (.un 33 .not (.s 32)), Za (.pick 34 (.s 26) cT (.s 33))] [0,3,34])
(.cond (.s 34) (Zs [.mv 2 cF] [2] .ret) .skip)))
(pr [mS 8 3, bC 9 .add 8 1, mS 3 9] [0,3]))))))
(Zs [mS 35 0, nS 36 35, bC 37 .leq 36 20, mS 2 37] [2] .ret)))
theorem Ce9 (l : List GCapture) : Ctr Tryz.prog N5z [aL 9 (l.map GCapture.enc)] [rB (K88 l)] := by
 refine cA M6p 0 38 [(.tmp 2, [false])] Tryz.func224 rfl rfl ?_; unfold M6p
 intro hb
 simp only [bdA, bdL, bdT, Kb, roomB, and_true, List.length_map] at hb
 have hl := hb.1
 clear hb
 simp only [go_sem]
 refine K5 l (fun k => [(3, vI k)]) (fun k => []) (fun k => (l.take k).all K3q = true) hl ?_
 simp only [go_sem]
 refine ⟨?_, by simp, ?_, ?_⟩
 ·simp only [go_sem]
 ·intro k x hx hT h0 h1 hw
  have hy : K3q x = true → (l.take (k + 1)).all K3q = true := fun hn => K3d hx hT hn
  have hn : K3q x = false → false = K88 l := fun hn => K41 hx hn
  clear hT
  simp only [go_sem, K6 hx, h0, h1]
  repeat' first
   | (refine And.intro ?_ ?_ <;> intro h)
   | (apply K0 (C3e _); simp only [go_sem, K6 hx, h0, h1])
   | (apply K0 (Ces _); simp only [go_sem, hw])
   | (apply K0 (Cr _ _ _); simp only [go_sem, K6 hx, h0, h1])
  all_goals first | (apply hy; clear hy hn hx hw; simp_all [K3q]; done) | (apply hn; clear hy hn hx hw; simp_all [K3q]; done) | (apply hn; clear hy hn hx hw; unfold K3q; rw [decide_eq_false (by assumption)]; simp; done)
 ·intro h
  simp only [go_sem]
  rw [List.take_length] at h
  exact K8h.trans (K5y h)
end Go.Proofs.YtgkeplbnnjogiaaGreatR
namespace Go.Proofs.YtgkeplbnnjogiaaGreatR
open Go Go.RowKit Go.Proofs
open Nat (reduceEqDiff reduceLT reduceLeDiff reduceAdd reduceMul)
open List (reduceReplicate)
def M8n : MC :=
(Zs [.nilo 2 0 1] [0] (Zs [.nilo 3 0 1] [0,3] (.seq (Zs [mS 6 0, nS 7 6, .mv 8 (ci 0)] [3,6,7,8] (.block 0 (.loop ([3,6,7,8], [1,2]) (Zs [bS 9 .lss 8 7] [3,6,7,8,9] (.seq (cX 9 0)
(.seq (.block 1 (Zs [xS 10 4 6 8, lT 11 4 10, .alloc 5 1 [pz, pz, pz, pz], sS 4 5 11] [3,5,6,7,8] (pr [mS 12 3, fS 13 5 0, lF 14 1 13, fS 15 5 1, lF 16 1 15, fS 17 5 2, lF 18 1 17, fS 19 5 3, lF 20 1 19, .lit 21 2 1 8 [.s 14, .s 16, .s 18, .s 20], .app 22 0 1 8 (.s 12) (.s 21), mS 3 22] [3,6,7,8])))
(pr [bC 23 .add 8 1, mS 8 23] [3,6,7,8])))))))
(Zs [mS 24 3, mS 2 24] [2] .ret))))
theorem Cez (xs : List GOp) (hN : xs.length ≤ 1099511627776) : Ctr Tryz.prog N7p [aL 4 (xs.map GOp.enc)] [rL 1 ((K12 xs).map encI)] := by
 refine cA M8n 3 25 [(.tmp 2, [true])] Tryz.func355 rfl rfl ?_; unfold M8n
 intro hb
 simp only [bdA, bdL, bdT, Kb, roomB, and_true, List.length_map] at hb
 obtain ⟨hl, -⟩ := hb
 simp only [go_sem]
 refine K5 xs (fun k => [(3, .val false [.ref 0 0 1 0 (K12 (xs.take k)).length]), (8, vI k)]) (fun k => [(0, ⟨0, .row true 1 ((K12 (xs.take k)).map encI)⟩)]) (fun _ => True) hl ?_
 simp only [go_sem]
 refine ⟨?_, trivial, ?_, ?_⟩
 ·simp only [go_sem, List.take_zero]
  exact ⟨rfl, rfl⟩
 ·intro k x hx _ h0 h1 hw
  have hlt := List.length_take_le k xs
  simp only [go_sem, K6 hx, h0, h1, hw, K52 hx, List.length_append, K5h]
  refine ⟨⟨by simp, by decide⟩, by simp only [roomB]; omega, by simp [encI]⟩
 ·intro _
  simp only [go_sem, List.take_length]
def M49 : MC :=
(Zs [.alloc 6 0 [.emp 4, .emp 5, .emp 9, pz]] [0,1,2,6] (Zs [.nilo 7 1 1, .nilo 8 2 1] [0,1,2,6,7,8] (.seq (Zs [mS 13 1, nS 14 13, .mv 15 (ci 0)] [0,1,2,6,7,8,13,14,15] (.block 0 (.loop ([0,1,2,6,7,8,13,14,15], [3,4,5,6,7,11,12]) (Zs [bS 16 .lss 15 14] [0,1,2,6,7,8,13,14,15,16] (.seq (cX 16 0)
(.seq (.block 1 (Zs [xS 17 5 13 15, lT 18 5 17, .alloc 10 3 [pz, pz, pz, pz, pz], sS 5 10 18] [0,1,2,6,7,8,10,13,14,15] (pr [mS 19 7, fS 20 10 0, lF 21 1 20, fS 22 10 1, fS 23 22 0, lF 24 1 23, fS 25 10 1, fS 26 25 1, lF 27 1 26, fS 28 10 1, fS 29 28 2, lF 30 1 29, fS 31 10 4, lF 32 1 31, .lit 33 4 1 8 [.s 21, .s 24, .s 27, .s 30, .s 32], .app 34 1 1 8 (.s 19) (.s 33), mS 7 34] [0,1,2,6,7,8,13,14,15])))
(pr [bC 35 .add 15 1, mS 15 35] [0,1,2,6,7,8,13,14,15])))))))
(.seq (Zs [mS 36 2, nS 37 36, .mv 38 (ci 0)] [0,1,2,6,7,8,36,37,38] (.block 2 (.loop ([0,1,2,6,7,8,36,37,38], [3,4,5,6,7,11,12]) (Zs [bS 39 .lss 38 37] [0,1,2,6,7,8,36,37,38,39] (.seq (cX 39 2)
(.seq (.block 3 (Zs [xS 40 9 36 38, lT 41 9 40, .alloc 12 5 [pz, pz, pz, pz, pz, .emp 1, pz, pz, pz], sS 9 12 41] [0,1,2,6,7,8,12,36,37,38] (pr [mS 42 8, lT 43 9 12, .call 44 [6] (.f N66) [.s 43], .call 45 [] (.f N2b) [.s 44], .lit 46 7 1 8 [.s 45], .app 47 2 1 8 (.s 42) (.s 46), mS 8 47] [0,1,2,6,7,8,36,37,38])))
(pr [bC 48 .add 38 1, mS 38 48] [0,1,2,6,7,8,36,37,38])))))))
(Zs [mS 49 0, .call 50 [8] (.f N8) [.s 49], mS 51 1, .call 52 [9] (.f Nb) [.s 51], mS 53 2, .call 54 [10] (.f N2g) [.s 53], mS 55 0, .call 56 [11] (.f N7p) [.s 55], .call 57 [] (.f N2b) [.s 56], mS 58 7, .call 59 [] (.f N2b) [.s 58], mS 60 8, .call 61 [] (.f N39) [.s 60], .lit 62 12 1 8 [.s 57, .s 59, .s 61], .call 63 [] (.f N39) [.s 62], .build 64 [.emp 4, .emp 5, .emp 9, pz] [(0, 1, .s 50), (1, 1, .s 52), (2, 1, .s 54), (3, 1, .s 63)], sS 4 6 64] [6] .ret)))))
theorem Cc8 (l : List GOp) (es : List GEntry) (cs : List GCapture) (h1 : l.length ≤ 1073741824) (h2 : es.length ≤ 1073741824) (hs : cs.length + (cs.map GCapture.size).sum ≤ 1073741824) :
  Ctr Tryz.prog N3y [aL 4 (l.map GOp.enc), aL 5 (es.map GEntry.enc), aL 9 (cs.map GCapture.enc)] [rS (GContainer.enc ⟨l, es, cs, K7r l es cs⟩)] := by
 refine cA M49 13 65 [(.cell 6 true 4, [true, true, true, false])] Tryz.func257 rfl rfl ?_; unfold M49
 intro hb
 clear hb
 simp only [go_sem]
 refine K5 es (fun k => [(7, .val false [.ref 1 0 1 0 (K1o (es.take k)).length]), (15, vI k)]) (fun k => [(1, ⟨0, .row true 1 ((K1o (es.take k)).map encI)⟩)]) (fun _ => True) (by simp only [roomB]; omega) ?_
 simp only [go_sem]
 refine ⟨?_, trivial, ?_, ?_⟩
 ·simp only [go_sem, List.take_zero]
  exact ⟨rfl, rfl⟩
 ·intro k x hx _ h0 h1 hw
  have hlt := List.length_take_le k es
  simp only [go_sem, K6 hx, h0, h1, hw, K6p hx, List.length_append, K77]
  refine ⟨⟨by simp, by decide⟩, by simp only [roomB]; omega, by simp [encI]⟩
 ·intro _
  simp only [go_sem, List.take_length]
  refine K5 cs (fun k => [(8, .val false [.ref 2 0 1 0 (K1a (cs.take k)).length]), (38, vI k)]) (fun k => [(2, ⟨0, .row true 1 ((K1a (cs.take k)).map encI)⟩)]) (fun _ => True) (by simp only [roomB]; omega) ?_
  simp only [go_sem]
  refine ⟨?_, trivial, ?_, ?_⟩
  ·simp only [go_sem, List.take_zero]
   exact ⟨rfl, rfl⟩
  ·intro k x hx _ h0 h1 hw
   have hlt := List.length_take_le k cs
   simp only [go_sem, K6 hx, h0, h1, K5p hx, List.length_append]
   apply K0 (Ce4 x (body_le hx hs))
   simp only [go_sem]
   try intro _
   apply K0 (C35 (K3g x))
   simp only [go_sem, hw]
   simp only [roomB, K6b]
   exact ⟨by omega, by omega, fun _ => by simp [encI]⟩
  ·intro _
   simp only [go_sem, List.take_length]
   apply K0 (C2y l (by omega))
   simp only [go_sem]
   intros
   apply K0 (C41 es (by omega))
   simp only [go_sem]
   intros
   apply K0 (C5d cs hs)
   simp only [go_sem]
   intros
   apply K0 (Cez l (by omega))
   simp only [go_sem]
   try intros
   apply K0 (C35 (K12 l))
   simp only [go_sem]
   try intros
   apply K0 (C35 (K1o es))
   simp only [go_sem]
   try intros
   apply K0 (Cct _ (K1a cs) (Nat.le_refl _))
   simp only [go_sem]
   try intros
   refine ⟨by decide, ?_⟩
   apply K0 (Cct _ [hashL (K12 l), hashL (K1o es), rootL (K1a cs)] (Nat.le_refl _))
   simp only [go_sem]
   intros
   rfl
def K1e (x : GContainer) : Bool := K7g x.Script && (K7z x.Entries && (K88 x.Captures && (K7r x.Script x.Entries x.Captures == x.Root)))
def Y30 (v0 : Nat) (v1 : Nat) (v2 : Nat) (v3 : Nat) : MC :=
(Zs [.box 1 0 (.s 0), .mv 2 cF] [1] (.seq (.dreg [Za (fS 3 1 0), Ze [0] (lF 4 1 3), Ze [0,1] (.call 5 [] (.f v0) [.s 4]), Ze [0,1,2] (mS 6 5), { o := fS 7 1 1, g := some (6, true), bf := (.range 4) }, { o := lF 8 1 7, g := some (6, true), bf := (.range 5) }, { o := .call 9 [] (.f v1) [.s 8], g := some (6, true), bf := (.range 6) }, Ze (.range 7) (.pick 10 (.s 6) (.s 9) cF), Ze (.range 8) (mS 11 10), { o := fS 12 1 2, g := some (11, true), bf := (.range 9) }, { o := lF 13 1 12, g := some (11, true), bf := (.range 10) }, { o := .call 14 [] (.f v2) [.s 13], g := some (11, true), bf := (.range 11) }, Ze (.range 12) (.pick 15 (.s 11) (.s 14) cF), Ze (.range 13) (mS 16 15), { o := fS 17 1 0, g := some (16, true), hs := [19,20,21,22,25,26], bf := (.range 14) }, { o := lF 18 1 17, g := some (16, true), hs := [19,20,21,22,25,26], bf := (.range 15) }, { o := fS 19 1 1, g := some (16, true), hs := [17,18,21,22,25,26], bf := (.range 14) }, { o := lF 20 1 19, g := some (16, true), hs := [17,18,21,22,25,26], bf := [0,1,2,3,4,5,6,7,8,9,10,11,12,13,16] }, { o := fS 21 1 2, g := some (16, true), hs := [17,18,19,20,25,26], bf := (.range 14) }, { o := lF 22 1 21, g := some (16, true), hs := [17,18,19,20,25,26], bf := [0,1,2,3,4,5,6,7,8,9,10,11,12,13,18] }, { o := .call 23 [1, 2, 3] (.f v3) [.s 18, .s 20, .s 22], g := some (16, true), hs := [25,26], ws := [1,2,3], bf := (.range 20) }, { o := .fldv 24 (.s 23) 3 1 false, g := some (16, true), hs := [25,26], bf := (.range 21) }, { o := fS 25 1 3, g := some (16, true), hs := [17,18,19,20,21,22,23,24], ho := [1,2,3], bf := (.range 14) }, { o := lF 26 1 25, g := some (16, true), hs := [17,18,19,20,21,22,23,24], ho := [1,2,3], bf := [0,1,2,3,4,5,6,7,8,9,10,11,12,13,22] }, { o := bS 27 .eql 24 26, g := some (16, true), bf := (.range 24) }, Ze (.range 25) (.pick 28 (.s 16) (.s 27) cF), Ze (.range 26) (mS 2 28)] [2])
.ret))
attribute [go_sem] Y30
def M6q : MC := Y30 Nae N7q N60 N3y
theorem Cea (x : GContainer) (hs : x.size ≤ 1073741824) : Ctr Tryz.prog N61 [aS x.enc] [rB (K1e x)] := by
 refine cA M6q 4 29 [(.tmp 2, [false])] Tryz.func259 rfl rfl ?_; unfold M6q
 intro hb
 clear hb
 simp only [GContainer.size] at hs
 simp only [go_sem]
 repeat' first
  | (refine And.intro ?_ ?_ <;> intro h)
  | (apply K0 (Cg7 _); simp only [go_sem])
  | (apply K0 (Cex _); simp only [go_sem])
  | (apply K0 (Ce8 _); simp only [go_sem])
  | (apply K0 (Cc8 x.Script x.Entries x.Captures (by omega) (by omega) (by omega)); simp only [go_sem]; intros)
 all_goals (unfold K1e; simp_all)
def M6r : MC := Y30 Nad N7o N5z N21
theorem C6s (x : GContainer) (hs : x.size ≤ 1073741824) : Ctr Tryz.prog N2r [aS x.enc] [rB (K1e x)] := by
 refine cA M6r 4 29 [(.tmp 2, [false])] Tryz.func250 rfl rfl ?_; unfold M6r
 intro hb
 clear hb
 simp only [GContainer.size] at hs
 simp only [go_sem]
 repeat' first
  | (refine And.intro ?_ ?_ <;> intro h)
  | (apply K0 (Cg8 _); simp only [go_sem])
  | (apply K0 (Cey _); simp only [go_sem])
  | (apply K0 (Ce9 _); simp only [go_sem])
  | (apply K0 (C44 x.Script x.Entries x.Captures (by omega) (by omega) (by omega)); simp only [go_sem]; intros)
 all_goals (unfold K1e; simp_all)
def M5i : MC :=
(Zs [.box 1 0 (.s 0), .mv 2 cF] [1] (Zs [lT 3 4 1, .call 4 [] (.f N61) [.s 3], .un 5 .not (.s 4), mS 2 5] [2] .ret))
theorem C5j (x : GContainer) (hs : x.size ≤ 1073741824) : Ctr Tryz.prog N2h [aS x.enc] [rB (!K1e x)] := by
 refine cA M5i 1 6 [(.tmp 2, [false])] Tryz.func296 rfl rfl ?_; unfold M5i
 intro hb
 clear hb
 simp only [go_sem]
 apply K0 (Cea x hs)
 simp only [go_sem]
def whole (d : GDisk) : Bool := decide (d.Index = index d.Containers)
def K35 (d : GDisk) : Bool := K1s 6 K1e d.Containers && (K1s 1 K1e d.Wanted && (whole d || (decide (0 < d.Containers.length) && decide (d.Index = index d.Containers.dropLast))))
theorem diskOk_no1 {d : GDisk} {k : Nat} {x : GContainer} (hx : d.Containers[k]? = some x) (h : K1e x = false) : false = K35 d := by
 unfold K35; rw [← K41 (n := 6) hx h, Bool.false_and]
theorem diskOk_no2 {d : GDisk} {k : Nat} {x : GContainer} (hx : d.Wanted[k]? = some x) (h : K1e x = false) : false = K35 d := by
 unfold K35; rw [← K41 (n := 1) hx h, Bool.false_and, Bool.and_false]
def Y31 (v0 : Nat) (v1 : Nat) : MC :=
(Zs [.box 1 0 (.s 0), .mv 2 cF] [1] (.seq (.dreg [Zf [5,6,7] [1] (fS 3 1 1), Zg [5,6,7] [1] [0] (lF 4 1 3), Zc [3,4] (fS 5 1 0), Zd [3,4] [2] (lF 6 1 5), { o := .call 7 [1] (.f v0) [.s 6], hs := [3,4], ws := [1], bf := [2,3] }, Ze (.range 5) (.call 8 [] (.f v1) [.s 4, .s 7]), Ze (.range 6) (mS 2 8)] [2])
.ret))
attribute [go_sem] Y31
def M5k : MC := Y31 N1v Na
theorem Cc2 (d : GDisk) (hs : d.size ≤ 1073741824) : Ctr Tryz.prog N2f [aS d.enc] [rB (whole d)] := by
 refine cA M5k 2 9 [(.tmp 2, [false])] Tryz.func188 rfl rfl ?_; unfold M5k
 intro hb
 clear hb
 simp only [GDisk.size] at hs
 simp only [go_sem]
 apply K0 (C2z d.Containers (by omega))
 simp only [go_sem]
 intros
 apply K0 (C42 _ _)
 simp only [go_sem]
 intros
 rfl
def May : MC := Y31 N1u N5q
theorem Caz (d : GDisk) (hs : d.size ≤ 1073741824) : Ctr Tryz.prog N2l [aS d.enc] [rB (whole d)] := by
 refine cA May 2 9 [(.tmp 2, [false])] Tryz.func177 rfl rfl ?_; unfold May
 intro hb
 clear hb
 simp only [GDisk.size] at hs
 simp only [go_sem]
 apply K0 (C30 d.Containers (by omega))
 simp only [go_sem]
 intros
 apply K0 (Cbu _ _)
 simp only [go_sem]
 intros
 rfl
theorem take_sz {l : List GContainer} {n N : Nat} (h : l.length + (l.map GContainer.size).sum ≤ N) : (l.take n).length + ((l.take n).map GContainer.size).sum ≤ N := by
 have h1 := List.length_take_le n l
 have h2 := K2f (f := GContainer.size) l n
 have h3 : (l.take n).length ≤ l.length := by rw [List.length_take]; omega
 omega
def Mcv : MC :=
(Zs [.box 1 0 (.s 0), .mv 2 cF] [1] (Zs [fS 4 1 0, lF 5 1 4, nS 6 5, mS 3 6] [1,3] (.seq (.dreg [Za (mS 7 3), Ze [0] (bC 8 .leq 7 6), Ze [0,1] (mS 9 8), { o := fS 10 1 0, g := some (9, true), bf := [0,1,2] }, { o := lF 11 1 10, g := some (9, true), bf := (.range 4) }, { o := .call 12 [] (.f N0) [.s 11, .f N2h], g := some (9, true), bf := (.range 5) }, { o := .un 13 .not (.s 12), g := some (9, true), bf := (.range 6) }, Ze (.range 7) (.pick 14 (.s 9) (.s 13) cF), Ze (.range 8) (mS 15 14), { o := fS 16 1 2, g := some (15, true), bf := (.range 9) }, { o := lF 17 1 16, g := some (15, true), bf := (.range 10) }, { o := nS 18 17, g := some (15, true), bf := (.range 11) }, { o := bC 19 .leq 18 1, g := some (15, true), bf := (.range 12) }, Ze (.range 13) (.pick 20 (.s 15) (.s 19) cF), Ze (.range 14) (mS 21 20), { o := fS 22 1 2, g := some (21, true), bf := (.range 15) }, { o := lF 23 1 22, g := some (21, true), bf := (.range 16) }, { o := .call 24 [] (.f N0) [.s 23, .f N2h], g := some (21, true), bf := (.range 17) }, { o := .un 25 .not (.s 24), g := some (21, true), bf := (.range 18) }, Ze (.range 19) (.pick 26 (.s 21) (.s 25) cF), Ze (.range 20) (mS 27 26), { o := lT 28 3 1, g := some (27, true), bf := (.range 21) }, { o := .call 29 [] (.f N2f) [.s 28], g := some (27, true), bf := (.range 22) }, { o := mS 30 29, g := some (27, true), bf := (.range 23) }, { o := mS 31 3, g := some (30, false), bf := (.range 24) }, { o := bC 32 .gtr 31 0, g := some (30, false), bf := (.range 25) }, { o := mS 33 32, g := some (30, false), bf := (.range 26) }, { o := fS 34 1 1, g := some (33, true), hs := [36,37,38,39,40,41], ho := [1], bf := (.range 27) }, { o := lF 35 1 34, g := some (33, true), hs := [36,37,38,39,40,41], ho := [1], bf := (.range 28) }, { o := fS 36 1 0, g := some (33, true), hs := [34,35,38,39], bf := (.range 27) }, { o := lF 37 1 36, g := some (33, true), hs := [34,35,38,39], bf := [0,1,2,3,4,5,6,7,8,9,10,11,12,13,14,15,16,17,18,19,20,21,22,23,24,25,26,29] }, { o := mS 38 3, g := some (33, true), hs := [34,35,36,37], bf := (.range 27) }, { o := bC 39 .sub 38 1, g := some (33, true), hs := [34,35,36,37], bf := [0,1,2,3,4,5,6,7,8,9,10,11,12,13,14,15,16,17,18,19,20,21,22,23,24,25,26,31] }, { o := .slc 40 4 (.s 37) none (some (.s 39)) none, g := some (33, true), hs := [34,35], bf := [0,1,2,3,4,5,6,7,8,9,10,11,12,13,14,15,16,17,18,19,20,21,22,23,24,25,26,29,30,31,32] }, { o := .call 41 [1] (.f N1v) [.s 40], g := some (33, true), hs := [34,35], ws := [1], bf := [0,1,2,3,4,5,6,7,8,9,10,11,12,13,14,15,16,17,18,19,20,21,22,23,24,25,26,29,30,31,32,33] }, { o := .call 42 [] (.f Na) [.s 35, .s 41], g := some (33, true), bf := (.range 35) }, { o := .pick 43 (.s 33) (.s 42) cF, g := some (30, false), bf := (.range 36) }, { o := .pick 44 (.s 30) cT (.s 43), g := some (27, true), bf := (.range 37) }, Ze (.range 38) (.pick 45 (.s 27) (.s 44) cF), Ze (.range 39) (mS 2 45)] [2])
.ret)))
set_option maxHeartbeats 1000000 in
theorem Cgq (d : GDisk) (hs : d.size ≤ 1073741824) : Ctr Tryz.prog Ncf [aS d.enc] [rB (K35 d)] := by
 refine cA Mcv 2 46 [(.tmp 2, [false])] Tryz.func187 rfl rfl ?_; unfold Mcv
 intro hb
 clear hb
 have hs' := hs
 simp only [GDisk.size] at hs
 have hx1 : ∀ x ∈ d.Containers, x.size ≤ 1073741824 := fun x hx => by have := K14 (f := GContainer.size) hx; omega
 have hx2 : ∀ x ∈ d.Wanted, x.size ≤ 1073741824 := fun x hx => by have := K14 (f := GContainer.size) hx; omega
 have hsz : d.Containers.length + (d.Containers.map GContainer.size).sum ≤ 1073741824 := by omega
 have hw1 : (d.Containers.length : Int) > 0 → IntKind.i64.wrap ((d.Containers.length : Int) - 1) = ((d.Containers.length - 1 : Nat) : Int) := fun h => by rw [wI (by omega) (by omega)]; omega
 obtain ⟨A, hA⟩ : ∃ A, A = d.Containers.all K1e := ⟨_, rfl⟩
 obtain ⟨B, hB⟩ : ∃ B, B = d.Wanted.all K1e := ⟨_, rfl⟩
 have hC : (d.Containers.any fun x => !K1e x) = !A := by rw [K4l, hA]
 have hW : (d.Wanted.any fun x => !K1e x) = !B := by rw [K4l, hB]
 simp only [go_sem]
 repeat' first
  | (refine And.intro ?_ ?_ <;> intro h)
  | (apply K0 (C1o d.Containers _ [] (fun x => !K1e x) fun x hx => C5j x (hx1 x hx)); simp only [go_sem, hC])
  | (apply K0 (C1o d.Wanted _ [] (fun x => !K1e x) fun x hx => C5j x (hx2 x hx)); simp only [go_sem, hW])
  | (apply K0 (Cc2 d hs'); simp only [go_sem])
  | (rw [hw1 (by assumption), cutA (by omega)]; refine ⟨⟨by omega, by omega, by omega⟩, ?_⟩; apply K0 (C2z _ (take_sz hsz)); simp only [go_sem]; intros; apply K0 (C42 _ _); simp only [go_sem]; intros)
 all_goals (rw [K35, K1s, K1s, ← hA, ← hB, List.dropLast_eq_take]; clear hC hW hA hB hx1 hx2 hw1 hsz hs hs'; by_cases c1 : d.Containers.length ≤ 6 <;> by_cases c2 : d.Wanted.length ≤ 1 <;> by_cases c3 : 0 < d.Containers.length <;> simp_all <;> omega)
def Mcw : MC :=
(Zs [.box 1 0 (.s 0), .mv 2 cF] [1] (.seq (Zs [.mv 3 (ci 0)] [1,3] (.block 0 (.loop ([1,3], [1]) (.seq (Zs [mS 6 3, fS 7 1 0, lF 8 1 7, nS 9 8, bS 10 .lss 6 9] [1,3,10] (cX 10 0))
(.seq (.block 1 (Zs [fS 13 1 0, lF 14 1 13, mS 15 3, xS 16 4 14 15, lT 17 4 16, .call 18 [] (.f N2r) [.s 17], .un 19 .not (.s 18)] [1,3,19] (.cond (.s 19) (Zs [.mv 2 cF] [2] .ret) .skip)))
(pr [mS 11 3, bC 12 .add 11 1, mS 3 12] [1,3]))))))
(.seq (Zs [.mv 4 (ci 0)] [1,4] (.block 2 (.loop ([1,4], [1]) (.seq (Zs [mS 20 4, fS 21 1 2, lF 22 1 21, nS 23 22, bS 24 .lss 20 23] [1,4,24] (cX 24 2))
(.seq (.block 3 (Zs [fS 27 1 2, lF 28 1 27, mS 29 4, xS 30 4 28 29, lT 31 4 30, .call 32 [] (.f N2r) [.s 31], .un 33 .not (.s 32)] [1,4,33] (.cond (.s 33) (Zs [.mv 2 cF] [2] .ret) .skip)))
(pr [mS 25 4, bC 26 .add 25 1, mS 4 26] [1,4]))))))
(Zs [fS 34 1 0, lF 35 1 34, nS 36 35, mS 5 36] [1,5] (.seq (.dreg [Za (mS 37 5), Ze [0] (bC 38 .leq 37 6), Ze [0,1] (mS 39 38), { o := fS 40 1 2, g := some (39, true), bf := [0,1,2] }, { o := lF 41 1 40, g := some (39, true), bf := (.range 4) }, { o := nS 42 41, g := some (39, true), bf := (.range 5) }, { o := bC 43 .leq 42 1, g := some (39, true), bf := (.range 6) }, Ze (.range 7) (.pick 44 (.s 39) (.s 43) cF), Ze (.range 8) (mS 45 44), { o := lT 46 3 1, g := some (45, true), bf := (.range 9) }, { o := .call 47 [] (.f N2l) [.s 46], g := some (45, true), bf := (.range 10) }, { o := mS 48 47, g := some (45, true), bf := (.range 11) }, { o := mS 49 5, g := some (48, false), bf := (.range 12) }, { o := bC 50 .gtr 49 0, g := some (48, false), bf := (.range 13) }, { o := mS 51 50, g := some (48, false), bf := (.range 14) }, { o := fS 52 1 1, g := some (51, true), hs := [54,55,56,57,58,59], ho := [1], bf := (.range 15) }, { o := lF 53 1 52, g := some (51, true), hs := [54,55,56,57,58,59], ho := [1], bf := (.range 16) }, { o := fS 54 1 0, g := some (51, true), hs := [52,53,56,57], bf := (.range 15) }, { o := lF 55 1 54, g := some (51, true), hs := [52,53,56,57], bf := [0,1,2,3,4,5,6,7,8,9,10,11,12,13,14,17] }, { o := mS 56 5, g := some (51, true), hs := [52,53,54,55], bf := (.range 15) }, { o := bC 57 .sub 56 1, g := some (51, true), hs := [52,53,54,55], bf := [0,1,2,3,4,5,6,7,8,9,10,11,12,13,14,19] }, { o := .slc 58 4 (.s 55) none (some (.s 57)) none, g := some (51, true), hs := [52,53], bf := [0,1,2,3,4,5,6,7,8,9,10,11,12,13,14,17,18,19,20] }, { o := .call 59 [1] (.f N1u) [.s 58], g := some (51, true), hs := [52,53], ws := [1], bf := [0,1,2,3,4,5,6,7,8,9,10,11,12,13,14,17,18,19,20,21] }, { o := .call 60 [] (.f N5q) [.s 53, .s 59], g := some (51, true), bf := (.range 23) }, { o := .pick 61 (.s 51) (.s 60) cF, g := some (48, false), bf := (.range 24) }, { o := .pick 62 (.s 48) cT (.s 61), g := some (45, true), bf := (.range 25) }, Ze (.range 26) (.pick 63 (.s 45) (.s 62) cF), Ze (.range 27) (mS 2 63)] [2])
.ret)))))
set_option maxHeartbeats 1000000 in
theorem Cgr (d : GDisk) (hs : d.size ≤ 1073741824) : Ctr Tryz.prog Nce [aS d.enc] [rB (K35 d)] := by
 refine cA Mcw 2 64 [(.tmp 2, [false])] Tryz.func176 rfl rfl ?_; unfold Mcw
 intro hb
 clear hb
 have hs' := hs
 simp only [GDisk.size] at hs
 have hx1 : ∀ x ∈ d.Containers, x.size ≤ 1073741824 := fun x hx => by have := K14 (f := GContainer.size) hx; omega
 have hx2 : ∀ x ∈ d.Wanted, x.size ≤ 1073741824 := fun x hx => by have := K14 (f := GContainer.size) hx; omega
 have hsz : d.Containers.length + (d.Containers.map GContainer.size).sum ≤ 1073741824 := by omega
 have hw1 : (d.Containers.length : Int) > 0 → IntKind.i64.wrap ((d.Containers.length : Int) - 1) = ((d.Containers.length - 1 : Nat) : Int) := fun h => by rw [wI (by omega) (by omega)]; omega
 obtain ⟨A, hA⟩ : ∃ A, A = d.Containers.all K1e := ⟨_, rfl⟩
 obtain ⟨B, hB⟩ : ∃ B, B = d.Wanted.all K1e := ⟨_, rfl⟩
 have hC : (d.Containers.any fun x => !K1e x) = !A := by rw [K4l, hA]
 have hW : (d.Wanted.any fun x => !K1e x) = !B := by rw [K4l, hB]
 simp only [go_sem]
 refine K5 d.Containers (fun k => [(3, vI k)]) (fun k => []) (fun k => (d.Containers.take k).all K1e = true) (by simp only [roomB]; omega) ?_
 simp only [go_sem]
 refine ⟨?_, by simp, ?_, ?_⟩
 ·simp only [go_sem]
 ·intro k x hx h h0 h1 hw
  simp only [go_sem, K6 hx, h0, h1]
  apply K0 (C6s x (hx1 x (Kx hx)))
  simp only [go_sem, hw]
  exact ⟨fun hn => diskOk_no1 hx hn, fun hn => K3d hx h hn⟩
 ·intro hA'
  rw [List.take_length, ← hA] at hA'
  simp only [go_sem]
  refine K5 d.Wanted (fun k => [(4, vI k)]) (fun k => []) (fun k => (d.Wanted.take k).all K1e = true) (by simp only [roomB]; omega) ?_
  simp only [go_sem]
  refine ⟨?_, by simp, ?_, ?_⟩
  ·simp only [go_sem]
  ·intro k x hx h h0 h1 hw
   simp only [go_sem, K6 hx, h0, h1]
   apply K0 (C6s x (hx2 x (Kx hx)))
   simp only [go_sem, hw]
   exact ⟨fun hn => diskOk_no2 hx hn, fun hn => K3d hx h hn⟩
  ·intro hB'
   rw [List.take_length, ← hB] at hB'
   simp only [go_sem]
   repeat' first
    | (refine And.intro ?_ ?_ <;> intro h)
    | (apply K0 (Caz d hs'); simp only [go_sem])
    | (rw [hw1 (by assumption), cutA (by omega)]; refine ⟨⟨by omega, by omega, by omega⟩, ?_⟩; apply K0 (C30 _ (take_sz hsz)); simp only [go_sem]; intros; apply K0 (Cbu _ _); simp only [go_sem]; intros)
   all_goals (rw [K35, K1s, K1s, ← hA, ← hB, List.dropLast_eq_take]; clear hC hW hA hB hx1 hx2 hw1 hsz hs hs'; by_cases c1 : d.Containers.length ≤ 6 <;> by_cases c2 : d.Wanted.length ≤ 1 <;> by_cases c3 : 0 < d.Containers.length <;> simp_all <;> omega)
end Go.Proofs.YtgkeplbnnjogiaaGreatR
namespace Go.Proofs.YtgkeplbnnjogiaaGreatR
open Go Go.RowKit Go.Proofs
open Nat (reduceEqDiff reduceLT reduceLeDiff reduceAdd reduceMul)
open List (reduceReplicate)
def recTo (d : GDisk) : GDisk := if K35 d then ⟨d.Containers, index d.Containers, []⟩ else d
theorem recTo_size (d : GDisk) : (recTo d).size ≤ 2 * d.size := by
 have h : (index d.Containers).length ≤ (d.Containers.map GContainer.size).sum := by
  rw [index, Srt.len_isort]; exact K57
 unfold recTo
 split
 ·simp only [GDisk.size, List.length_nil, List.map_nil, List.sum_nil]; omega
 ·omega
end Go.Proofs.YtgkeplbnnjogiaaGreatR
namespace Go.Proofs.YtgkeplbnnjogiaaGreatR
open Go Go.RowKit Go.Proofs
open Nat (reduceEqDiff reduceLT reduceLeDiff reduceAdd reduceMul)
open List (reduceReplicate)
def Mg9 : MC :=
(Zs [.mv 4 (ci 0)] [0,1] (.seq (Zs [mS 5 1, mS 6 0, bS 7 .gtr 5 6] [0,1,7] (.cond (.s 7) (Zs [mS 8 1, mS 4 8] [4] .ret) .skip))
(Zs [mS 9 0, mS 4 9] [4] .ret)))
theorem Ch6 (x y : Int) : Ctr Tryz.prog Nfw [aI x, aI y] [rI (if y > x then y else x)] := by
 refine cA Mg9 0 10 [(.tmp 4, [false])] Tryz.func162 rfl rfl ?_; unfold Mg9
 intro hb
 clear hb
 simp only [go_sem]
 refine ⟨fun h => ?_, fun h => ?_⟩
 ·rw [if_pos (by omega)]
 ·rw [if_neg (by omega)]
def Mga : MC :=
(Zs [.mv 4 (ci 0)] [0,1] (.seq (Zs [mS 5 1, mS 6 0, bS 7 .lss 5 6] [0,1,7] (.cond (.s 7) (Zs [mS 8 1, mS 4 8] [4] .ret) .skip))
(Zs [mS 9 0, mS 4 9] [4] .ret)))
theorem Ch7 (x y : Int) : Ctr Tryz.prog Nfx [aI x, aI y] [rI (if y < x then y else x)] := by
 refine cA Mga 0 10 [(.tmp 4, [false])] Tryz.func163 rfl rfl ?_; unfold Mga
 intro hb
 clear hb
 simp only [go_sem]
 refine ⟨fun h => ?_, fun h => ?_⟩
 ·rw [if_pos (by omega)]
 ·rw [if_neg (by omega)]
end Go.Proofs.YtgkeplbnnjogiaaGreatR
namespace Go.Proofs.YtgkeplbnnjogiaaGreatR
open Go Go.RowKit Go.Proofs
open Nat (reduceEqDiff reduceLT reduceLeDiff reduceAdd reduceMul)
open List (reduceReplicate)
def capsOf (l : List GContainer) : List GCapture := l.flatMap fun x => x.Captures
def told (d : GDisk) : List GContainer := if whole d then d.Containers else d.Containers.dropLast
def allCaps (a : GArchive) : List GCapture := capsOf (told a.Disk)
def seen (a : GArchive) : List GCapture := visible (allCaps a) a.Exclusions a.Now
def served (a : GArchive) : List GCapture := (seen a).drop ((seen a).length - 20)
end Go.Proofs.YtgkeplbnnjogiaaGreatR
namespace Go.Proofs.YtgkeplbnnjogiaaGreatR
open Go Go.RowKit Go.Proofs
open Nat (reduceEqDiff reduceLT reduceLeDiff reduceAdd reduceMul)
open List (reduceReplicate)
@[go_sem] theorem ownT_sl {z : Nat} {es : List (List T)} : ownT (.sl z es) = true := rfl
@[go_sem] theorem ownT_sc {v : Value} : ownT (.sc v) = false := rfl
def K17 (d : GDisk) : Bool := !K35 d || (decide (0 < d.Wanted.length) && decide (6 ≤ d.Containers.length))
def K1w (d : GDisk) : Bool := !K17 d && (!whole d || decide (0 < d.Wanted.length))
def Ki (d : GDisk) : GDisk :=
 if K17 d then d else if whole d = false then { d with Index := index d.Containers }
 else match d.Wanted with
  | x :: _ => { d with Containers := d.Containers ++ [x], Wanted := [] }
  | [] => d
theorem K6k (d : GDisk) : (Ki d).size ≤ 2 * d.size := by
 have hr := recTo_size d
 unfold Ki
 split
 ·omega
 ·split
  ·have hi : (index d.Containers).length ≤ (d.Containers.map GContainer.size).sum := by
    rw [index, Srt.len_isort]; exact K57
   simp only [GDisk.size] at *
   omega
  ·split
   ·rename_i x l hx
    simp only [GDisk.size, hx, List.length_append, List.length_cons, List.length_nil, List.map_append, List.map_cons, List.map_nil, List.sum_append, List.sum_cons, List.sum_nil]
    omega
   ·omega
def M9x : MC :=
(Zs [.box 1 0 (.s 0), .alloc 2 1 [.emp 4, .emp 6, .emp 4], .mv 3 cF] [1,2] (Zs [lT 5 3 1, .call 6 [2, 3, 4] (.f N3w) [.s 5], .alloc 4 5 [.emp 4, .emp 6, .emp 4], sS 3 4 6] [1,2,4] (.seq (.seq (.reg [Za (lT 7 3 1), Za (.call 8 [] (.f Ncf) [.s 7]), Za (.un 9 .not (.s 8)), Za (mS 10 9), Zb 10 false (fS 11 1 2), Zb 10 false (lF 12 1 11), Zb 10 false (nS 13 12), Zb 10 false (bC 14 .gtr 13 0), Zb 10 false (mS 15 14), Zb 15 true (fS 16 1 0), Zb 15 true (lF 17 1 16), Zb 15 true (nS 18 17), Zb 15 true (bC 19 .geq 18 6), Zb 10 false (.pick 20 (.s 15) (.s 19) cF), Za (.pick 21 (.s 10) cT (.s 20))] [1,2,4,21])
(.cond (.s 21) (Zs [lT 22 3 4, sS 3 2 22, .mv 3 cF] [2,3] .ret) .skip))
(.seq (.block 0 (Zs [lT 25 3 1, .call 26 [] (.f N2f) [.s 25], .un 27 .not (.s 26), mS 24 27] [1,2,4,24] (.cond (.s 24) (pr [fS 28 1 0, lF 29 1 28, .call 30 [6] (.f N1v) [.s 29], fS 31 4 1, sS 1 31 30] [2,4]) (Zs [fS 33 1 2, lF 34 1 33, nS 35 34, bC 36 .gtr 35 0, mS 32 36] [2,4,32] (.cond (.s 32) (.seq (.dregI [Zf [1000000,39,40,41,42,43] [4,7,8,9,10] (fS 37 4 0), Zg [1000000,39,40,41,42,43] [4,7,8,9,10] [0] (lF 38 1 37), Zc [1000000,37,38] (fS 39 4 2), Zd [1000000,37,38] [2] (lF 40 1 39), Zd [1000000,37,38] [2,3] (.idx 41 4 (.s 40) (ci 0)), { o := .loadM 42 4 [7, 8, 9] 4 (.s 41), hs := [1000000,37,38], ws := [4,7,8,9], bf := [2,3,4] }, { o := .lit 43 10 4 80 [.s 42], hs := [37,38], ws := [7,8,9,10], bf := [2,3,4,5] }, { o := .app 44 2 4 80 (.s 38) (.s 43), ws := [2,10], bf := (.range 7) }, Ze (.range 8) (fS 45 4 0), { o := sS 1 45 44, ws := [2,5], bf := (.range 9) }] [2,4])
(pr [fS 46 4 2, .store 1 (.s 46) (.nil 4)] [2,4])) (Zs [lT 23 3 4, sS 3 2 23, .mv 3 cF] [2,3] .ret))))))
(Zs [lT 47 3 4, sS 3 2 47, .mv 3 cT] [2,3] .ret)))))
set_option maxHeartbeats 2000000 in
theorem Cfr (d : GDisk) (hs : d.size ≤ 1073741824) : Ctr Tryz.prog N90 [aS d.enc] [rS (Ki d).enc, rB (K1w d)] := by
  refine cA M9x 11 48 [(.cell 2 true 3, [true, true, true]), (.tmp 3, [false])] Tryz.func99 rfl rfl ?_; unfold M9x
  intro hb
  clear hb
  have hsc : d.Containers.length + (d.Containers.map GContainer.size).sum ≤ 1073741824 := by simp only [GDisk.size] at hs; omega
  simp only [go_sem]
  apply K0 (Cau d hs)
  simp only [go_sem]
  intros
  repeat' first
    | (refine And.intro ?_ ?_ <;> intro h)
    | (apply K0 (Cgq d hs); simp only [go_sem])
    | (apply K0 (Cc2 d hs); simp only [go_sem])
    | (apply K0 (C2z d.Containers hsc); simp only [go_sem]; intros)
  all_goals
    first
      | (have hF : K17 d = true := by
          clear hs hsc
          unfold K17
          by_cases c1 : 0 < d.Wanted.length <;> by_cases c2 : 6 ≤ d.Containers.length <;> simp_all <;> omega
         simp [Ki, K1w, hF]
         done)
      | (have hF : K17 d = false := by
          clear hs hsc
          unfold K17
          by_cases c1 : 0 < d.Wanted.length <;> by_cases c2 : 6 ≤ d.Containers.length <;> simp_all <;> omega
         have hW : whole d = false := by assumption
         simp [Ki, K1w, hF, hW]
         done)
      | (have hF : K17 d = false := by
          clear hs hsc
          unfold K17
          by_cases c1 : 0 < d.Wanted.length <;> by_cases c2 : 6 ≤ d.Containers.length <;> simp_all <;> omega
         have hW : whole d = true := by assumption
         have hN : d.Wanted = [] := List.length_eq_zero_iff.1 (by omega)
         simp [Ki, K1w, hF, hW, hN]
         done)
      | (have hF : K17 d = false := by
          clear hs hsc
          unfold K17
          by_cases c1 : 0 < d.Wanted.length <;> by_cases c2 : 6 ≤ d.Containers.length <;> simp_all <;> omega
         have hW : whole d = true := by assumption
         obtain ⟨x, hx⟩ := Kf (l := d.Wanted) (k := 0) (by omega)
         have hlc : d.Containers.length ≤ 1073741824 := by omega
         refine ⟨⟨by omega, by omega⟩, ?_⟩
         rw [hx]
         simp only [go_sem]
         have eT : Ki d = { d with Containers := d.Containers ++ [x], Wanted := [] } := by
          rcases hN : d.Wanted with _ | ⟨y, l⟩
          · rw [hN] at hx; simp at hx
          · rw [hN] at hx
            simp only [List.getElem?_cons_zero, Option.some.injEq] at hx
            subst hx
            simp [Ki, hF, hW, hN]
         have eO : K1w d = true := by simp [K1w, hF, hW]; omega
         rw [eT, eO]
         first
          | exact ⟨by decide, by simp only [roomB]; omega, by simp, ⟨by simp [GContainer.enc], rfl, rfl⟩, rfl⟩
          | (simp only [roomB]; simp [GContainer.enc]; omega)
          | (refine ⟨by decide, by simp only [roomB]; omega, by simp, by decide, ⟨by simp [GContainer.enc], rfl, rfl⟩, rfl⟩))
def M9y : MC :=
(Zs [.box 1 0 (.s 0), .alloc 2 1 [.emp 4, .emp 6, .emp 4], .mv 3 cF] [1,2] (Zs [lT 5 3 1, .call 6 [2, 3, 4] (.f N5o) [.s 5], .alloc 4 5 [.emp 4, .emp 6, .emp 4], sS 3 4 6] [1,2,4] (.seq (.block 0 (.seq (.reg [Za (lT 8 3 1), Za (.call 9 [] (.f Nce) [.s 8]), Za (.un 10 .not (.s 9)), Za (mS 11 10), Zb 11 false (fS 12 1 2), Zb 11 false (lF 13 1 12), Zb 11 false (nS 14 13), Zb 11 false (bC 15 .gtr 14 0), Zb 11 false (mS 16 15), Zb 16 true (fS 17 1 0), Zb 16 true (lF 18 1 17), Zb 16 true (nS 19 18), Zb 16 true (bC 20 .geq 19 6), Zb 11 false (.pick 21 (.s 16) (.s 20) cF), Za (.pick 22 (.s 11) cT (.s 21)), Za (mS 7 22)] [1,2,4,7])
(.cond (.s 7) (Zs [lT 23 3 4, sS 3 2 23, .mv 3 cF] [2,3] .ret) (.seq (.reg [Za (fS 25 1 2), Za (lF 26 1 25), Za (nS 27 26), Za (bC 28 .gtr 27 0), Za (mS 29 28), Zb 29 true (lT 30 3 1), Zb 29 true (.call 31 [] (.f N2l) [.s 30]), Za (.pick 32 (.s 29) (.s 31) cF), Za (mS 24 32)] [1,2,4,24])
(.cond (.s 24) (.seq (.dregI [Zf [1000000,35,36,37,38,39] [4,6,7,8,9,10] (fS 33 4 0), Zg [1000000,35,36,37,38,39] [4,6,7,8,9,10] [0] (lF 34 1 33), Zc [1000000,33,34] (fS 35 4 2), Zd [1000000,33,34] [2] (lF 36 1 35), Zd [1000000,33,34] [2,3] (.idx 37 4 (.s 36) (ci 0)), { o := .loadM 38 4 [6, 7, 8] 4 (.s 37), hs := [1000000,33,34], ws := [4,6,7,8,10], bf := [2,3,4] }, { o := .lit 39 9 4 80 [.s 38], hs := [33,34], ws := [6,7,8,9], bf := [2,3,4,5] }, { o := .app 40 2 4 80 (.s 34) (.s 39), ws := [2,9], bf := (.range 7) }, Ze (.range 8) (fS 41 4 0), { o := sS 1 41 40, ws := [2,5], bf := (.range 9) }] [2,4])
(Zs [.lit 42 10 4 80 [], fS 43 4 2, sS 1 43 42] [2,4] (Zs [lT 44 3 4, sS 3 2 44, .mv 3 cT] [2,3] .ret))) (Zs [lT 46 3 1, .call 47 [] (.f N2l) [.s 46], .un 48 .not (.s 47), mS 45 48] [1,2,4,45] (.cond (.s 45) (Zs [fS 49 1 0, lF 50 1 49, .call 51 [11] (.f N1u) [.s 50], fS 52 4 1, sS 1 52 51] [2,4] (Zs [lT 53 3 4, sS 3 2 53, .mv 3 cT] [2,3] .ret)) .skip)))))))
(Zs [lT 54 3 4, sS 3 2 54, .mv 3 cF] [2,3] .ret))))
set_option maxHeartbeats 2000000 in
theorem Cfs (d : GDisk) (hs : d.size ≤ 1073741824) : Ctr Tryz.prog N8z [aS d.enc] [rS (Ki d).enc, rB (K1w d)] := by
  refine cA M9y 12 55 [(.cell 2 true 3, [true, true, true]), (.tmp 3, [false])] Tryz.func93 rfl rfl ?_; unfold M9y
  intro hb
  clear hb
  have hsc : d.Containers.length + (d.Containers.map GContainer.size).sum ≤ 1073741824 := by simp only [GDisk.size] at hs; omega
  simp only [go_sem]
  apply K0 (Cc0 d hs)
  simp only [go_sem]
  intros
  repeat' first
    | (refine And.intro ?_ ?_ <;> intro h)
    | (apply K0 (Cgr d hs); simp only [go_sem])
    | (apply K0 (Caz d hs); simp only [go_sem])
    | (apply K0 (C30 d.Containers hsc); simp only [go_sem]; intros)
  all_goals
    first
      | (have hF : K17 d = true := by
          clear hs hsc
          unfold K17
          by_cases c1 : 0 < d.Wanted.length <;> by_cases c2 : 6 ≤ d.Containers.length <;> simp_all <;> omega
         simp [Ki, K1w, hF]
         done)
      | (have hF : K17 d = false := by
          clear hs hsc
          unfold K17
          by_cases c1 : 0 < d.Wanted.length <;> by_cases c2 : 6 ≤ d.Containers.length <;> simp_all <;> omega
         have hW : whole d = false := by assumption
         simp [Ki, K1w, hF, hW]
         done)
      | (have hF : K17 d = false := by
          clear hs hsc
          unfold K17
          by_cases c1 : 0 < d.Wanted.length <;> by_cases c2 : 6 ≤ d.Containers.length <;> simp_all <;> omega
         have hW : whole d = true := by assumption
         have hN : d.Wanted = [] := List.length_eq_zero_iff.1 (by omega)
         simp [Ki, K1w, hF, hW, hN]
         done)
      | (have hF : K17 d = false := by
          clear hs hsc
          unfold K17
          by_cases c1 : 0 < d.Wanted.length <;> by_cases c2 : 6 ≤ d.Containers.length <;> simp_all <;> omega
         have hW : whole d = true := by assumption
         obtain ⟨x, hx⟩ := Kf (l := d.Wanted) (k := 0) (by omega)
         have hlc : d.Containers.length ≤ 1073741824 := by omega
         refine ⟨⟨by omega, by omega⟩, ?_⟩
         rw [hx]
         simp only [go_sem]
         have eT : Ki d = { d with Containers := d.Containers ++ [x], Wanted := [] } := by
          rcases hN : d.Wanted with _ | ⟨y, l⟩
          · rw [hN] at hx; simp at hx
          · rw [hN] at hx
            simp only [List.getElem?_cons_zero, Option.some.injEq] at hx
            subst hx
            simp [Ki, hF, hW, hN]
         have eO : K1w d = true := by simp [K1w, hF, hW]; omega
         rw [eT, eO]
         first
          | exact ⟨by decide, by simp only [roomB]; omega, by simp, ⟨by simp [GContainer.enc], rfl, rfl⟩, rfl⟩
          | (simp only [roomB]; simp [GContainer.enc]; omega)
          | (refine ⟨by decide, by simp only [roomB]; omega, by simp, by decide, ⟨by simp [GContainer.enc], rfl, rfl⟩, rfl⟩))
end Go.Proofs.YtgkeplbnnjogiaaGreatR
namespace Go.Proofs
open Go.Shelf
def Tryz.lays189_ren : Go.Shelf.Ren := ⟨fun | 189 => 152 | 125 => 170 | 257 => 273 | 128 => 288 | 129 => 289 | 294 => 363 | 295 => 364 | 296 => 365 | 297 => 366 | 298 => 367 | 299 => 368 | 216 => 369 | 300 => 370 | 301 => 371 | 328 => 414 | 329 => 378 | 330 => 379 | 331 => 415 | 332 => 416 | 215 => 384 | 343 => 430 | n => n, fun | 28 => 30 | 3 => 3 | 46 => 200 | 0 => 0 | 51 => 289 | 53 => 291 | 4 => 4 | 183 => 282 | 182 => 281 | 131 => 286 | 5 => 5 | 9 => 9 | 218 => 345 | 222 => 314 | 228 => 377 | 229 => 104 | n => n, fun | n => n⟩
theorem Tryz.lays189 : Go.Proofs.Lays.n189 Tryz.prog Tryz.lays189_ren := {
 mixed := by kernel_rfl
 f125 := Tryz.func170.trans (congrArg some (by kernel_rfl))
 f128 := Tryz.func288.trans (congrArg some (by kernel_rfl))
 f129 := Tryz.func289.trans (congrArg some (by kernel_rfl))
 f189 := Tryz.func152.trans (congrArg some (by kernel_rfl))
 f215 := Tryz.func384.trans (congrArg some (by kernel_rfl))
 f216 := Tryz.func369.trans (congrArg some (by kernel_rfl))
 f257 := Tryz.func273.trans (congrArg some (by kernel_rfl))
 f294 := Tryz.func363.trans (congrArg some (by kernel_rfl))
 f295 := Tryz.func364.trans (congrArg some (by kernel_rfl))
 f296 := Tryz.func365.trans (congrArg some (by kernel_rfl))
 f297 := Tryz.func366.trans (congrArg some (by kernel_rfl))
 f298 := Tryz.func367.trans (congrArg some (by kernel_rfl))
 f299 := Tryz.func368.trans (congrArg some (by kernel_rfl))
 f300 := Tryz.func370.trans (congrArg some (by kernel_rfl))
 f301 := Tryz.func371.trans (congrArg some (by kernel_rfl))
 f328 := Tryz.func414.trans (congrArg some (by kernel_rfl))
 f329 := Tryz.func378.trans (congrArg some (by kernel_rfl))
 f330 := Tryz.func379.trans (congrArg some (by kernel_rfl))
 f331 := Tryz.func415.trans (congrArg some (by kernel_rfl))
 f332 := Tryz.func416.trans (congrArg some (by kernel_rfl))
 f343 := Tryz.func430.trans (congrArg some (by kernel_rfl))
 t0 := Tryz.underlying0
 a0 := Tryz.isAgg0
 z0 := Tryz.sizeOf0
 v0 := Tryz.zeroValue0
 t3 := Tryz.underlying3
 a3 := Tryz.isAgg3
 z3 := Tryz.sizeOf3
 v3 := Tryz.zeroValue3
 t4 := Tryz.underlying4
 a4 := Tryz.isAgg4
 z4 := Tryz.sizeOf4
 v4 := Tryz.zeroValue4
 t5 := Tryz.underlying5
 a5 := Tryz.isAgg5
 z5 := Tryz.sizeOf5
 v5 := Tryz.zeroValue5
 t9 := Tryz.underlying9
 a9 := Tryz.isAgg9
 z9 := Tryz.sizeOf9
 v9 := Tryz.zeroValue9
 t28 := Tryz.underlying30
 a28 := Tryz.isAgg30
 z28 := Tryz.sizeOf30
 v28 := Tryz.zeroValue30
 t46 := Tryz.underlying200
 a46 := Tryz.isAgg200
 z46 := Tryz.sizeOf200
 v46 := Tryz.zeroValue200
 t51 := Tryz.underlying289
 a51 := Tryz.isAgg289
 z51 := Tryz.sizeOf289
 v51 := Tryz.zeroValue289
 t53 := Tryz.underlying291
 a53 := Tryz.isAgg291
 z53 := Tryz.sizeOf291
 v53 := Tryz.zeroValue291
 t131 := Tryz.underlying286
 a131 := Tryz.isAgg286
 z131 := Tryz.sizeOf286
 v131 := Tryz.zeroValue286
 t182 := Tryz.underlying281
 a182 := Tryz.isAgg281
 z182 := Tryz.sizeOf281
 v182 := Tryz.zeroValue281
 t183 := Tryz.underlying282
 a183 := Tryz.isAgg282
 z183 := Tryz.sizeOf282
 v183 := Tryz.zeroValue282
 t218 := Tryz.underlying345
 a218 := Tryz.isAgg345
 z218 := Tryz.sizeOf345
 v218 := Tryz.zeroValue345
 t222 := Tryz.underlying314
 a222 := Tryz.isAgg314
 z222 := Tryz.sizeOf314
 v222 := Tryz.zeroValue314
 t228 := Tryz.underlying377
 a228 := Tryz.isAgg377
 z228 := Tryz.sizeOf377
 v228 := Tryz.zeroValue377
 t229 := Tryz.underlying104
 a229 := Tryz.isAgg104
 z229 := Tryz.sizeOf104
 v229 := Tryz.zeroValue104 }
open Go.Sort Go.RowKit in
theorem Tryz.slices_Sort_int (blk off cap : Nat) (zs : List Int) (w : World) (hH : Holds (Value.int .i64) w blk off zs.toArray) (hblk : blk < w.heap.size) (hsz : zs.length < 4611686018427387904) :
  Calls Tryz.prog 152 #[.slice (some ⟨blk, off, none⟩) zs.length cap] w fun e w' =>
   e = .returned (.tuple #[]) ∧ ∃ n os, w' = grow (putRow (Value.int .i64) (Sort.ahead w n) blk off (zs.mergeSort fun x y => decide (x ≤ y)).toArray) os := Any.slices_Sort_int Tryz.lays189 blk off cap zs w hH hblk hsz
def Tryz.laysNm220_ren : Go.Shelf.Ren := ⟨fun | 20 => 385 | n => n, fun | 22 => 30 | 3 => 3 | 4 => 4 | 0 => 0 | n => n, fun | n => n⟩
theorem Tryz.laysNm220 : Go.Proofs.Lays2.n20 Tryz.prog Tryz.laysNm220_ren := {
 mixed := by kernel_rfl
 f20 := Tryz.func385.trans (congrArg some (by kernel_rfl))
 t0 := Tryz.underlying0
 a0 := Tryz.isAgg0
 z0 := Tryz.sizeOf0
 v0 := Tryz.zeroValue0
 t3 := Tryz.underlying3
 a3 := Tryz.isAgg3
 z3 := Tryz.sizeOf3
 v3 := Tryz.zeroValue3
 t4 := Tryz.underlying4
 a4 := Tryz.isAgg4
 z4 := Tryz.sizeOf4
 v4 := Tryz.zeroValue4
 t22 := Tryz.underlying30
 a22 := Tryz.isAgg30
 z22 := Tryz.sizeOf30
 v22 := Tryz.zeroValue30
 i3 := by kernel_rfl }
open Go.RowKit Go.Lib Go.Sort in
theorem Tryz.slices_Compact_int (blk off cap : Nat) (zs : List Int) (w : World) (hH : Holds (Value.int .i64) w blk off zs.toArray) (hsz : zs.length ≤ 9223372036854775807) (hcap : zs.length ≤ cap) :
  Calls Tryz.prog 385 #[.slice (some ⟨blk, off, none⟩) zs.length cap] w fun e w' => e = .returned (.slice (some ⟨blk, off, none⟩) (Lib.compact zs).length cap) ∧ ∃ q, w' = putRow (Value.int .i64) (Sort.ahead w q) blk off (Lib.compact zs ++ List.replicate (zs.length - (Lib.compact zs).length) 0).toArray := Any.slices_Compact_int Tryz.laysNm220 blk off cap zs w hH hsz hcap
open Go.RowKit Go.Lib Go.Sort in
theorem Tryz.slices_Compact_int_empty (a : Option Addr) (cap : Nat) (w : World) :
  Calls Tryz.prog 385 #[.slice a 0 cap] w fun e w' => e = .returned (.slice a 0 cap) ∧ w' = w := Any.slices_Compact_int_empty Tryz.laysNm220 a cap w
open Go.RowKit Go.Sort in
theorem Tryz.slices_Sort_int_none (p : Option Addr) (cap : Nat) (w : World) :
  Calls Tryz.prog 152 #[.slice p 0 cap] w fun e w' => e = .returned (.tuple #[]) ∧ w' = w := Any.slices_Sort_int_none Tryz.lays189 p cap w
end Go.Proofs
namespace Go.Proofs.YtgkeplbnnjogiaaGreatR
open Go Go.RowKit Go.Proofs
open Nat (reduceEqDiff reduceLT reduceLeDiff reduceAdd reduceMul)
open List (reduceReplicate)
theorem K42 {w : World} {b : Nat} : ∀ {zs : List Int} {off : Nat} {G : List Nat}, OwRow w 1 b off (zs.map encI) G → G = [] ∧ ∀ (j : Nat) (x : Int), zs[j]? = some x → w.cell? ⟨b, off + j, none⟩ = some (.int .i64 x) ∧ oneW (.int .i64 x) = true
 | [], off, G, h => ⟨h, fun j x hx => by simp at hx⟩
 | z :: zs, off, G, h => by
  obtain ⟨_, G1, G2, h1, h2, rfl⟩ := h
  obtain ⟨v, Ga, Gb, hc, ⟨rfl, hw, rfl⟩, rfl, rfl⟩ := h1
  obtain ⟨rfl, ih⟩ := K42 h2
  refine ⟨rfl, fun j x hx => ?_⟩
  cases j with
  | zero =>
   simp only [List.getElem?_cons_zero, Option.some.injEq] at hx
   subst hx
   exact ⟨hc, hw⟩
  | succ j =>
   have := ih j x (by simpa using hx)
   rw [Nat.add_assoc, Nat.add_comm 1 j] at this
   exact this
theorem owRow_int' {w : World} {b : Nat} : ∀ {zs : List Int} {off : Nat}, (∀ (j : Nat) (x : Int), zs[j]? = some x → w.cell? ⟨b, off + j, none⟩ = some (.int .i64 x) ∧ oneW (.int .i64 x) = true) → OwRow w 1 b off (zs.map encI) []
 | [], off, h => rfl
 | z :: zs, off, h => by
  have h0 := h 0 z rfl
  refine ⟨rfl, [], [], ⟨_, [], [], h0.1, ⟨rfl, h0.2, rfl⟩, rfl, rfl⟩, owRow_int' fun j x hx => ?_, rfl⟩
  have := h (j + 1) x (by simpa using hx)
  rw [Nat.add_assoc, Nat.add_comm 1 j]
  exact this
def sortI (zs : List Int) : List Int := zs.mergeSort fun x y => decide (x ≤ y)
def uniqI (zs : List Int) : List Int := Lib.compact zs
def sortU (zs : List Int) : List Int := uniqI (sortI zs)
theorem K4y (zs : List Int) : (sortI zs).length = zs.length := (List.mergeSort_perm _ _).length_eq
theorem sortI_mem {zs : List Int} {x : Int} (h : x ∈ sortI zs) : x ∈ zs := (List.mergeSort_perm _ _).mem_iff.1 h
theorem K6u {w : World} {b off : Nat} {zs : List Int} {row : Array Value} {ty : TypeId} (hh : w.heap[b]? = some (.cells row ty (0, 0))) (h : ∀ (j : Nat) (x : Int), zs[j]? = some x → w.cell? ⟨b, off + j, none⟩ = some (.int .i64 x) ∧ oneW (.int .i64 x) = true) : Go.Sort.Holds (Value.int .i64) w b off zs.toArray := by
 intro j hj
 obtain ⟨x, hx⟩ := Kf (l := zs) (k := j) (by simpa using hj)
 have e : zs.toArray[j]! = x := by
  rw [getElem!_pos _ j hj]
  simpa using (List.getElem?_eq_some_iff.1 hx).2
 rw [e]
 exact ⟨(h j x hx).1, by simp [World.frozen?, hh]⟩
theorem bel_put {w : World} {b off : Nat} {zs : List Int} {G : List Nat} (n : Nat) (os : Array Obj) (hb : b ∈ G) (hlt : b < w.heap.size) : Bel (fun k => k < w.heap.size ∧ k ∉ G) w (Go.Sort.grow (Go.Sort.putRow (Value.int .i64) (Go.Sort.ahead w n) b off zs.toArray) os) := by
 have hsz : (Go.Sort.putRow (Value.int .i64) (Go.Sort.ahead w n) b off zs.toArray).heap.size = w.heap.size := by simp [Go.Sort.putRow, Go.Sort.mapBlock, Go.Sort.ahead]
 refine ⟨rfl, rfl, rfl, ?_, fun k hk => ?_⟩
 ·show _ ≤ ((Go.Sort.putRow (Value.int .i64) (Go.Sort.ahead w n) b off zs.toArray).heap ++ os).size
  rw [Array.size_append, hsz]; omega
 ·show ((Go.Sort.putRow (Value.int .i64) (Go.Sort.ahead w n) b off zs.toArray).heap ++ os)[k]? = _
  rw [Array.getElem?_append_left (by rw [hsz]; exact hk.1)]
  have hne : k ≠ b := fun hh => hk.2 (hh ▸ hb)
  simp [Go.Sort.putRow, Go.Sort.mapBlock, Go.Sort.ahead, Array.getElem?_modify, hne.symm]
theorem ow_put {w : World} {b off cap m n : Nat} {zs ds : List Int} {row : Array Value} {ty : TypeId} {os : Array Obj} (hb : b < w.heap.size) (hh : w.heap[b]? = some (.cells row ty (0, 0))) (hc : off + cap * 1 ≤ row.size) (hln : Ln zs.length cap)
  (hz : ∀ (j : Nat) (x : Int), zs[j]? = some x → w.cell? ⟨b, off + j, none⟩ = some (.int .i64 x) ∧ oneW (.int .i64 x) = true) (hd : ds.length = zs.length) (hin : ∀ x ∈ ds, oneW (.int .i64 x) = true) (hm : m ≤ ds.length) :
  Ow (Go.Sort.grow (Go.Sort.putRow (Value.int .i64) (Go.Sort.ahead w n) b off ds.toArray) os) (.sl 1 ((ds.take m).map encI)) (.slice (some ⟨b, off, none⟩) m cap) [b] := by
 have hml : ((ds.take m).map encI).length = m := by rw [List.length_map, List.length_take]; omega
 have hH := K6u hh hz
 have hsz : (Go.Sort.putRow (Value.int .i64) (Go.Sort.ahead w n) b off ds.toArray).heap.size = w.heap.size := by simp [Go.Sort.putRow, Go.Sort.mapBlock, Go.Sort.ahead]
 have hheap : (Go.Sort.grow (Go.Sort.putRow (Value.int .i64) (Go.Sort.ahead w n) b off ds.toArray) os).heap[b]? = some (.cells (Go.Sort.putCells (Value.int .i64) off ds.toArray row) ty (0, 0)) := by
  show ((Go.Sort.putRow (Value.int .i64) (Go.Sort.ahead w n) b off ds.toArray).heap ++ os)[b]? = _
  rw [Array.getElem?_append_left (by rw [hsz]; exact hb)]
  simp [Go.Sort.putRow, Go.Sort.mapBlock, Go.Sort.ahead, Array.getElem?_modify, hh, Go.Sort.onCells]
 refine ⟨some ⟨b, off, none⟩, cap, by rw [hml], by rw [hml]; exact hln.mono (by omega), .inr ⟨b, off, Go.Sort.putCells (Value.int .i64) off ds.toArray row, ty, [], rfl, hheap, by simpa [Go.Sort.putCells] using hc, ?_, rfl⟩⟩
 refine owRow_int' fun j x hx => ?_
 rw [List.getElem?_take] at hx
 split at hx
 ·rename_i hjm
  have hj : j < ds.toArray.size := by simpa using (List.getElem?_eq_some_iff.1 hx).1
  have e : ds.toArray[j]! = x := by
   rw [getElem!_pos _ j hj]
   simpa using (List.getElem?_eq_some_iff.1 hx).2
  have h1 := Go.Sort.cell?_putRow (Value.int .i64) (Go.Sort.ahead w n) b off zs.toArray ds.toArray (Go.Sort.holds_ahead _ _ _ _ _ _ hH) (by simpa using hd) j hj
  rw [e] at h1
  refine ⟨?_, hin x (Kx hx)⟩
  rw [← h1]
  exact Go.Sort.cell?_grow _ _ _ (by rw [hsz]; exact hb)
 ·cases hx
theorem K91 {w : World} {X : Nat → Prop} {es : List (List T)} {sz : Nat} {vs : List Value} {G : List Nat} (h : ResVs w X [oL sz es] vs G) : ∃ v, vs = [v] ∧ Ow w (.sl sz es) v G := by
 match vs, h with
 | [v], ⟨G1, G2, h1, h2, e⟩ =>
  obtain ⟨_, Ga, Gb, h3, h4, e2⟩ := h1
  simp only [ResVs] at h2
  simp only [ResC] at h4
  subst h2 h4 e2 e
  exact ⟨v, rfl, by simpa using h3⟩
 | [], h => exact h.elim
theorem Cf0 (zs : List Int) : CtrI Tryz.prog N3j [oL 1 (zs.map encI)] [some (1, (sortI zs).map encI)] [] := by
 refine ⟨⟨Tryz.f152, Tryz.func152, by kernel_rfl, by kernel_rfl⟩, fun w X vs G ht h hG hGb => ?_⟩
 obtain ⟨v, rfl, hr⟩ := K91 h
 obtain ⟨A, cap, rfl, hln, hr⟩ := hr
 rw [List.length_map] at hln ⊢
 rcases hr with ⟨rfl, hz, rfl⟩ | ⟨b, off, row, ty, G1, rfl, hh, hc, hrow, rfl⟩
 ·obtain rfl : zs = [] := by simpa using hz
  refine (Tryz.slices_Sort_int_none A 0 w).mono ?_
  rintro e w' ⟨rfl, rfl⟩
  exact ⟨Bel.refl _ _, [], [], [], rfl, ⟨[], [], by simp [sortI]; exact ⟨A, 0, rfl, hln, .inl ⟨rfl, rfl, rfl⟩⟩, rfl, rfl⟩, rfl, by simp, by simp⟩
 ·obtain ⟨rfl, hz⟩ := K42 hrow
  have hb : b < w.heap.size := (hGb b (by simp)).1
  have hin : ∀ x ∈ sortI zs, oneW (.int .i64 x) = true := fun x hx => by
   obtain ⟨j, hj⟩ := List.getElem?_of_mem (sortI_mem hx)
   exact (hz j x hj).2
  refine (Tryz.slices_Sort_int b off cap zs w (K6u hh hz) hb (by have := hln.2; simp only [roomB] at this; omega)).mono ?_
  rintro e w' ⟨rfl, n, os, rfl⟩
  have hB := bel_put (zs := sortI zs) (b := b) (off := off) (G := [b]) n os (by simp) hb
  have hO := ow_put (m := zs.length) (n := n) (os := os) (ds := sortI zs) hb hh hc hln hz (K4y zs) hin (by rw [K4y]; exact Nat.le_refl _)
  rw [List.take_of_length_le (by rw [K4y]; exact Nat.le_refl _)] at hO
  refine ⟨hB, [], [b], [], rfl, ⟨[b], [], hO, rfl, rfl⟩, rfl, by simp, fun b' hb' => ⟨.inl (by simpa using hb'), ?_⟩⟩
  rw [show b' = b by simpa using hb']
  exact Nat.lt_of_lt_of_le hb hB.size
theorem getD_mem {zs : List Int} {j : Nat} (h : j < zs.length) : zs.toArray[j]! ∈ zs := by
 rw [getElem!_pos zs.toArray j (by simpa using h)]
 simp
theorem Kb0 {zs : List Int} {x : Int} (h : x ∈ Lib.compact zs) : x ∈ zs := by
 simp only [Lib.compact, Lib.compactUpTo, List.mem_map, List.mem_filter, List.mem_range] at h
 obtain ⟨j, ⟨hj, _⟩, rfl⟩ := h
 exact getD_mem hj
theorem Kaz (zs : List Int) : (Lib.compact zs).length ≤ zs.length := by
 unfold Lib.compact Lib.compactUpTo
 rw [List.length_map]
 exact Nat.le_trans (List.length_filter_le _ _) (by simp)
theorem Cc9 (zs : List Int) : CtrI Tryz.prog N2s [oL 1 (zs.map encI)] [none] [rL 1 ((uniqI zs).map encI)] := by
 refine ⟨⟨Tryz.f385, Tryz.func385, by kernel_rfl, by kernel_rfl⟩, fun w X vs G ht h hG hGb => ?_⟩
 obtain ⟨v, rfl, hr⟩ := K91 h
 obtain ⟨A, cap, rfl, hln, hr⟩ := hr
 rw [List.length_map] at hln ⊢
 rcases hr with ⟨rfl, hz, rfl⟩ | ⟨b, off, row, ty, G1, rfl, hh, hc, hrow, rfl⟩
 ·obtain rfl : zs = [] := by simpa using hz
  refine (Tryz.slices_Compact_int_empty A 0 w).mono ?_
  rintro e w' ⟨rfl, rfl⟩
  exact ⟨Bel.refl _ _, [_], [], [], rfl, rfl, ⟨[], [], by simp [ResV, ResC, uniqI, Lib.compact]; exact ⟨A, 0, rfl, hln, .inl ⟨rfl, rfl, rfl⟩⟩, rfl, rfl⟩, by simp, by simp⟩
 ·obtain ⟨rfl, hz⟩ := K42 hrow
  have hb : b < w.heap.size := (hGb b (by simp)).1
  have hlc := Kaz zs
  have hin : ∀ x ∈ Lib.compact zs ++ List.replicate (zs.length - (Lib.compact zs).length) 0, oneW (.int .i64 x) = true := fun x hx => by
   rcases List.mem_append.1 hx with hx | hx
   ·obtain ⟨j, hj⟩ := List.getElem?_of_mem (Kb0 hx)
    exact (hz j x hj).2
   ·rw [(List.mem_replicate.1 hx).2]; rfl
  refine (Tryz.slices_Compact_int b off cap zs w (K6u hh hz) (by have := hln.2; simp only [roomB] at this; omega) hln.1).mono ?_
  rintro e w' ⟨rfl, n, rfl⟩
  have hB := bel_put (zs := Lib.compact zs ++ List.replicate (zs.length - (Lib.compact zs).length) 0) (b := b) (off := off) (G := [b]) n #[] (by simp) hb
  have hO := ow_put (m := (Lib.compact zs).length) (n := n) (os := #[]) (ds := Lib.compact zs ++ List.replicate (zs.length - (Lib.compact zs).length) 0) hb hh hc hln hz (by simp; omega) hin (by simp)
  rw [List.take_left] at hO
  rw [Go.Sort.grow_empty] at hB hO
  refine ⟨hB, [_], [], [b], rfl, rfl, ⟨[b], [], ?_, rfl, rfl⟩, by simp, fun b' hb' => ⟨.inl (by simpa using hb'), ?_⟩⟩
  ·exact ⟨⟨_, rfl⟩, [b], [], hO, rfl, rfl⟩
  ·rw [show b' = b by simpa using hb']
   exact Nat.lt_of_lt_of_le hb hB.size
end Go.Proofs.YtgkeplbnnjogiaaGreatR
namespace Go.Proofs.YtgkeplbnnjogiaaGreatR
open Go Go.RowKit Go.Proofs
open Nat (reduceEqDiff reduceLT reduceLeDiff reduceAdd reduceMul)
open List (reduceReplicate)
def put : List Int → Int → List Int
 | [], n => [n]
 | x :: l, n => if x < n then x :: put l n else if x = n then x :: l else n :: x :: l
theorem K8l : ∀ {l : List Int} {n x : Int}, x ∈ put l n ↔ x = n ∨ x ∈ l
 | [], n, x => by simp [put]
 | y :: l, n, x => by
  rw [put]
  split
  ·rw [List.mem_cons, K8l, List.mem_cons]
   constructor
   ·rintro (h | h | h) <;> simp [h]
   ·rintro (h | h | h) <;> simp [h]
  ·split
   ·rename_i h1 h2
    subst h2
    simp
   ·simp
theorem put_up : ∀ {l : List Int} {n : Int}, l.Pairwise (· < ·) → (put l n).Pairwise (· < ·)
 | [], n, _ => by simp [put]
 | y :: l, n, h => by
  rw [List.pairwise_cons] at h
  rw [put]
  split
  ·rw [List.pairwise_cons]
   refine ⟨fun x hx => ?_, put_up h.2⟩
   rcases K8l.1 hx with rfl | hx
   ·assumption
   ·exact h.1 x hx
  ·split
   ·rw [List.pairwise_cons]; exact h
   ·rw [List.pairwise_cons, List.pairwise_cons]
    refine ⟨fun x hx => ?_, h⟩
    rcases List.mem_cons.1 hx with rfl | hx
    ·omega
    ·have := h.1 x hx; omega
theorem up_eq : ∀ {l m : List Int}, l.Pairwise (· < ·) → m.Pairwise (· < ·) → (∀ x, x ∈ l ↔ x ∈ m) → l = m
 | [], [], _, _, _ => rfl
 | [], b :: m, _, _, h => by have := (h b).2 (by simp); simp at this
 | a :: l, [], _, _, h => by have := (h a).1 (by simp); simp at this
 | a :: l, b :: m, h1, h2, h => by
  rw [List.pairwise_cons] at h1 h2
  have hab : a = b := by
   rcases List.mem_cons.1 ((h a).1 (by simp)) with e | e
   ·exact e
   ·rcases List.mem_cons.1 ((h b).2 (by simp)) with e2 | e2
    ·exact e2.symm
    ·have := h1.1 b e2; have := h2.1 a e; omega
  subst hab
  congr 1
  refine up_eq h1.2 h2.2 fun x => ⟨fun hx => ?_, fun hx => ?_⟩
  ·rcases List.mem_cons.1 ((h x).1 (by simp [hx])) with e | e
   ·have := h1.1 x hx; omega
   ·exact e
  ·rcases List.mem_cons.1 ((h x).2 (by simp [hx])) with e | e
   ·have := h2.1 x hx; omega
   ·exact e
theorem sortI_up (zs : List Int) : (sortI zs).Pairwise (· ≤ ·) := by
 have := List.pairwise_mergeSort (le := fun x y : Int => decide (x ≤ y)) (fun a b c h1 h2 => by simp only [decide_eq_true_eq] at *; omega) (fun a b => by simp only [Bool.or_eq_true, decide_eq_true_eq]; omega) zs
 exact this.imp (by simp)
theorem uniq_up {zs : List Int} (h : zs.Pairwise (· ≤ ·)) : ∀ m, m ≤ zs.length → (Lib.compactUpTo zs.toArray m).Pairwise (· < ·) ∧ ∀ x, x ∈ Lib.compactUpTo zs.toArray m ↔ x ∈ zs.take m
 | 0, _ => by simp [Lib.compactUpTo]
 | m + 1, hm => by
  obtain ⟨ih1, ih2⟩ := uniq_up h m (by omega)
  obtain ⟨x, hx⟩ := Kf (l := zs) (k := m) (by omega)
  have e0 : zs.toArray[m]! = x := by
   rw [getElem!_pos _ m (by simpa using (by omega : m < zs.length))]
   simpa using (List.getElem?_eq_some_iff.1 hx).2
  rw [Lib.compactUpTo_succ, Kc hx, e0]
  cases m with
  | zero =>
   have hk : Lib.keeps zs.toArray 0 = true := by simp [Lib.keeps]
   rw [hk]
   simp [Lib.compactUpTo]
  | succ m =>
   obtain ⟨y, hy⟩ := Kf (l := zs) (k := m) (by omega)
   have e1 : zs.toArray[m + 1 - 1]! = y := by
    rw [Nat.add_sub_cancel, getElem!_pos _ m (by simpa using (by omega : m < zs.length))]
    simpa using (List.getElem?_eq_some_iff.1 hy).2
   have hyx : y ≤ x := by
    have := List.pairwise_iff_getElem.1 h m (m + 1) (by omega) (by omega) (by omega)
    rw [(List.getElem?_eq_some_iff.1 hy).2, (List.getElem?_eq_some_iff.1 hx).2] at this
    exact this
   have hyt : y ∈ zs.take (m + 1) := by rw [Kc hy]; simp
   have hle : ∀ z ∈ zs.take (m + 1), z ≤ y := fun z hz => by
    rw [Kc hy] at hz
    rcases List.mem_append.1 hz with hz | hz
    ·have hp := h.sublist (List.take_sublist (m + 1) zs)
     rw [Kc hy, List.pairwise_append] at hp
     exact hp.2.2 z hz y (by simp)
    ·rw [List.mem_singleton.1 hz]; exact Int.le_refl _
   by_cases hxy : x = y
   ·have hk : Lib.keeps zs.toArray (m + 1) = false := Lib.keeps_neg (by omega) (by rw [e0, e1, hxy])
    rw [hk]
    simp only [Bool.false_eq_true, if_false, List.append_nil]
    refine ⟨ih1, fun z => ?_⟩
    rw [ih2, List.mem_append, List.mem_singleton]
    constructor
    ·exact .inl
    ·rintro (hz | rfl)
     ·exact hz
     ·rw [hxy]; exact hyt
   ·have hk : Lib.keeps zs.toArray (m + 1) = true := Lib.keeps_pos (by rw [e0, e1]; exact hxy)
    rw [hk, if_pos rfl]
    refine ⟨?_, fun z => ?_⟩
    ·rw [List.pairwise_append]
     refine ⟨ih1, by simp, fun z hz w hw => ?_⟩
     rw [List.mem_singleton.1 hw]
     have := hle z ((ih2 z).1 hz)
     omega
    ·rw [List.mem_append, List.mem_append, ih2]
theorem Kal (zs : List Int) : (sortU zs).Pairwise (· < ·) ∧ ∀ x, x ∈ sortU zs ↔ x ∈ zs := by
 have h := uniq_up (sortI_up zs) (sortI zs).length (Nat.le_refl _)
 refine ⟨h.1, fun x => ?_⟩
 rw [sortU, uniqI, Lib.compact, h.2 x, List.take_length, sortI]
 exact (List.mergeSort_perm _ _).mem_iff
def puts (zs : List Int) : List Int := zs.foldl put []
theorem K6r : ∀ (zs l : List Int), l.Pairwise (· < ·) → (zs.foldl put l).Pairwise (· < ·) ∧ ∀ x, x ∈ zs.foldl put l ↔ x ∈ l ∨ x ∈ zs
 | [], l, h => ⟨h, by simp⟩
 | z :: zs, l, h => by
  obtain ⟨h1, h2⟩ := K6r zs (put l z) (put_up h)
  refine ⟨h1, fun x => ?_⟩
  rw [List.foldl_cons, h2, K8l, List.mem_cons]
  constructor
  ·rintro ((h | h) | h) <;> simp [h]
  ·rintro (h | h | h) <;> simp [h]
theorem sortU_puts (zs : List Int) : sortU zs = puts zs := by
 obtain ⟨h1, h2⟩ := Kal zs
 obtain ⟨h3, h4⟩ := K6r zs [] List.Pairwise.nil
 exact up_eq h1 h3 fun x => by rw [h2, puts, h4]; simp
theorem K8x : ∀ {l : List Int} {n : Int}, (put l n).length ≤ l.length + 1
 | [], n => by simp [put]
 | y :: l, n => by
  have := K8x (l := l) (n := n)
  rw [put]
  split
  ·simp only [List.length_cons]; omega
  ·split <;> simp
end Go.Proofs.YtgkeplbnnjogiaaGreatR
namespace Go.Proofs.YtgkeplbnnjogiaaGreatR
open Go Go.RowKit Go.Proofs
open Nat (reduceEqDiff reduceLT reduceLeDiff reduceAdd reduceMul)
open List (reduceReplicate)
end Go.Proofs.YtgkeplbnnjogiaaGreatR
namespace Go.Proofs.YtgkeplbnnjogiaaGreatR
open Go Go.RowKit Go.Proofs
open Nat (reduceEqDiff reduceLT reduceLeDiff reduceAdd reduceMul)
open List (reduceReplicate)
end Go.Proofs.YtgkeplbnnjogiaaGreatR
namespace Go.Proofs.YtgkeplbnnjogiaaGreatR
open Go Go.RowKit Go.Proofs
open Nat (reduceEqDiff reduceLT reduceLeDiff reduceAdd reduceMul)
open List (reduceReplicate)
def Mcx : MC :=
(Zs [.nilo 2 0 1] [0] (Zs [mS 4 0, .call 5 [1] (.f N3) [.s 4], mS 3 5] [3] (Zs [mS 6 3, .callI 7 [] (.f N3j) [.s 6] [1] []] [3] (Zs [mS 8 3, .callI 9 [0] (.f N2s) [.s 8] [1] [], mS 2 9] [2] .ret))))
theorem Cgs (l : List Int) (hl : l.length ≤ 1073741824) : Ctr Tryz.prog Nch [aL 1 (l.map encI)] [rL 1 ((sortU l).map encI)] := by
 refine cA Mcx 2 10 [(.tmp 2, [true])] Tryz.func301 rfl rfl ?_; unfold Mcx
 intro hb
 clear hb
 simp only [go_sem]
 apply K0 (Cc l hl)
 simp only [go_sem]
 try intros
 apply K7 (Cf0 l)
 simp only [go_sem]
 try intros
 refine ⟨(K4y l).symm, ?_⟩
 apply K7 (Cc9 (sortI l))
 simp only [go_sem]
 try intros
 rfl
theorem K71 {n : Int} : ∀ {l : List Int} {k : Nat}, (∀ x ∈ l.take k, x < n) → put l n = l.take k ++ put (l.drop k) n
 | l, 0, _ => by simp
 | [], k + 1, _ => by simp
 | x :: l, k + 1, h => by
  have hx : x < n := h x (by simp)
  rw [put, if_pos hx, List.take_succ_cons, List.drop_succ_cons, List.cons_append, ← K71 (fun y hy => h y (by simp [hy]))]
def Meb : MC :=
(Zs [.nilo 4 0 1] [0,1] (Zs [.mv 5 (ci 0)] [0,1,5] (.seq (.block 0 (.loop ([0,1,5], [0,1]) (.seq (.seq (.reg [Za (mS 6 5), Za (mS 7 0), Za (nS 8 7), Za (bS 9 .lss 6 8), Za (mS 10 9), Zb 10 true (mS 11 0), Zb 10 true (mS 12 5), Zb 10 true (xS 13 1 11 12), Zb 10 true (lF 14 1 13), Zb 10 true (mS 15 1), Zb 10 true (bS 16 .lss 14 15), Za (.pick 17 (.s 10) (.s 16) cF)] [0,1,5,17])
(cX 17 0))
(.block 1 (pr [mS 18 5, bC 19 .add 18 1, mS 5 19] [0,1,5])))))
(.seq (.seq (.reg [Za (mS 20 5), Za (mS 21 0), Za (nS 22 21), Za (bS 23 .lss 20 22), Za (mS 24 23), Zb 24 true (mS 25 0), Zb 24 true (mS 26 5), Zb 24 true (xS 27 1 25 26), Zb 24 true (lF 28 1 27), Zb 24 true (mS 29 1), Zb 24 true (bS 30 .eql 28 29), Za (.pick 31 (.s 24) (.s 30) cF)] [0,1,5,31])
(.cond (.s 31) (Zs [.lit 32 0 1 8 [], mS 33 0, .app 34 0 1 8 (.s 32) (.s 33), mS 4 34] [4] .ret) .skip))
(.seq (.dreg [{ o := .lit 35 0 1 8 [], hs := [36,37,38,40,41,43,44,45], ho := [1], ws := [0] }, Zf [35,37,40,41,43,44,45] [0,1] (mS 36 0), Zf [35,36,40,41,43,44,45] [0,1] (mS 37 5), Zg [35,40,41,43,44,45] [0,1] [1,2] (.slc 38 1 (.s 36) none (some (.s 37)) none), { o := .app 39 0 1 8 (.s 35) (.s 38), hs := [40,41,43,44,45], ho := [1], ws := [0], bf := (.range 4) }, Zf [35,36,37,38,39,43,44,45] [0] (mS 40 1), { o := .lit 41 1 1 8 [.s 40], hs := [35,36,37,38,39,43,44,45], ho := [0], ws := [1], bf := [5] }, { o := .app 42 0 1 8 (.s 39) (.s 41), hs := [43,44,45], ws := [0], bf := (.range 7) }, Zf [35,36,37,38,39,40,41,42,44] [0,1] (mS 43 0), Zf [35,36,37,38,39,40,41,42,43] [0,1] (mS 44 5), Zg [35,36,37,38,39,40,41,42] [0,1] [8,9] (.slc 45 1 (.s 43) (some (.s 44)) none none), { o := .app 46 0 1 8 (.s 42) (.s 45), ws := [0], bf := (.range 11) }, Ze (.range 12) (mS 4 46)] [4])
.ret)))))
theorem Cgv (l : List Int) (n : Int) (hs : l.length ≤ 1073741824) : Ctr Tryz.prog Ndj [aL 1 (l.map encI), aI n] [rL 1 ((put l n).map encI)] := by
 refine cA Meb 2 47 [(.tmp 4, [true])] Tryz.func97 rfl rfl ?_; unfold Meb
 intro hb
 clear hb
 simp only [go_sem]
 refine Ko (fun k : Nat => [(5, vI k)]) (fun k => []) (fun k => k ≤ l.length ∧ ∀ x ∈ l.take k, x < n) (fun k => l.length - k) 0 ?_
 simp only [go_sem]
 refine ⟨?_, ⟨by omega, by simp⟩, ?_⟩
 ·simp only [go_sem]
 ·rintro k ⟨hk, hlt⟩
  by_cases hkl : k < l.length
  ·obtain ⟨x, hx⟩ := Kf hkl
   have h1 : (k : Int) < (l.length : Int) := by omega
   have h0 : (0 : Int) ≤ (k : Int) := by omega
   simp only [go_sem, h1, h0, K6 hx, ↓K6n (f := encI) (l := l) hk, ↓K8b (f := encI) (l := l) hk, ↓Km (f := encI) (fun _ => rfl) l, ↓Km (f := encI) (fun _ => rfl) (l.take k), ↓Km (f := encI) (fun _ => rfl) (l.drop k), List.length_append, List.length_map, List.length_cons, List.length_nil, Nat.zero_add]
   refine ⟨fun hxn => ?_, fun hxn => ?_⟩
   ·refine ⟨k + 1, by rw [wI (by omega) (by omega)]; omega, ⟨by omega, fun y hy => ?_⟩, by omega⟩
    rw [Kc hx] at hy
    rcases List.mem_append.1 hy with hy | hy
    ·exact hlt y hy
    ·rw [List.mem_singleton.1 hy]; exact hxn
   ·have hp := K71 hlt
    rw [Kn hx, put, if_neg hxn] at hp
    have ht := List.length_take_le k l
    have hd : (l.drop k).length ≤ l.length := by simp
    refine ⟨fun he => ⟨by simp only [roomB]; omega, ?_⟩, fun he => ⟨⟨by omega, by omega⟩, by simp only [roomB]; omega, by decide, by simp only [roomB]; omega, ⟨by omega, by omega⟩, by simp only [roomB]; omega, ?_⟩⟩
    ·rw [if_pos he, ← Kn hx, List.take_append_drop] at hp
     rw [hp]
    ·rw [if_neg he, ← Kn hx] at hp
     rw [hp]
     simp [encI]
  ·have h1 : ¬ (k : Int) < (l.length : Int) := by omega
   simp only [go_sem, h1, ↓K6n (f := encI) (l := l) hk, ↓K8b (f := encI) (l := l) hk, ↓Km (f := encI) (fun _ => rfl) (l.take k), ↓Km (f := encI) (fun _ => rfl) (l.drop k), List.length_append, List.length_map, List.length_cons, List.length_nil, Nat.zero_add]
   obtain rfl : k = l.length := by omega
   have hp := K71 hlt
   rw [List.drop_length, List.take_length, put] at hp
   refine ⟨⟨by omega, by omega, by omega⟩, ?_⟩
   rw [hp, List.take_length, List.drop_length]
   exact ⟨by simp only [roomB]; omega, by decide, by simp only [roomB]; omega, ⟨by omega, by omega, by omega⟩, by simp only [roomB, List.length_nil]; omega, by simp [encI]⟩
def ticks (l : List GCapture) (a : GAddress) : List Int := (l.filter fun c => decide (c.Address = a)).map (·.Tick)
theorem puts_len : ∀ (zs : List Int) , (puts zs).length ≤ zs.length := by
 intro zs
 suffices H : ∀ (zs l : List Int), (zs.foldl put l).length ≤ l.length + zs.length by simpa [puts] using H zs []
 intro zs
 induction zs with
 | nil => intro l; simp
 | cons z zs ih =>
  intro l
  have h1 := ih (put l z)
  have h2 := K8x (l := l) (n := z)
  rw [List.foldl_cons, List.length_cons]; omega
def lo (a : GArchive) (x : GAddress) : List Int := puts (ticks (served a) x)
end Go.Proofs.YtgkeplbnnjogiaaGreatR
