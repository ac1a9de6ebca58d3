/- What the functions compute that the laws of KeepVisit reach: contracts. Conditions stand in each theorem. -/
import Derived.Shelf.Spec.SlicesInsertGrow
import Derived.Test.YtgkeplbnnjogiaaGreatTKeepVisitb
set_option linter.unusedVariables false
set_option linter.unusedSimpArgs false
namespace Go.Proofs.YtgkeplbnnjogiaaGreatR
open Go Go.RowKit Go.Proofs
open Nat (reduceEqDiff reduceLT reduceLeDiff reduceAdd reduceMul)
open List (reduceReplicate)
def zeros (n : Nat) : List Int := List.replicate n 0
theorem zeros_snoc {k : Nat} : zeros (k + 1) = zeros k ++ [0] := by
 unfold zeros; rw [List.replicate_succ']
def st0 : GState := ⟨0, zeros 4, zeros 3, zeros 4⟩
def Me5 : MC :=
(Zs [.nilo 2 0 1] [0] (Zs [.lit 5 0 1 8 [], mS 3 5] [0,3] (.seq (Zs [.mv 4 (ci 0)] [0,3,4] (.block 0 (.loop ([0,3,4], [1]) (.seq (Zs [mS 6 4, mS 7 0, bS 8 .lss 6 7] [0,3,4,8] (cX 8 0))
(.seq (.block 1 (pr [mS 11 3, .lit 12 1 1 8 [.c (.int .i64 0)], .app 13 0 1 8 (.s 11) (.s 12), mS 3 13] [0,3,4]))
(pr [mS 9 4, bC 10 .add 9 1, mS 4 10] [0,3,4]))))))
(Zs [mS 14 3, mS 2 14] [2] .ret))))
theorem C5t (n : Nat) (hn : n ≤ 4) : Ctr Tryz.prog N3f [aI n] [rL 1 ((zeros n).map encI)] := by
 refine cA Me5 2 15 [(.tmp 2, [true])] Tryz.func225 rfl rfl ?_; unfold Me5
 intro hb
 clear hb
 simp only [go_sem]
 refine Kg (fun k : Nat => [(3, .val false [.ref 0 0 1 0 (zeros k).length]), (4, vI k)]) (fun k => [(0, ⟨0, .row true 1 ((zeros k).map encI)⟩)]) (fun k => k ≤ n) (fun k => n - k) 0 ?_
 simp only [go_sem]
 refine ⟨?_, Nat.zero_le _, ?_⟩
 ·simp only [go_sem]
  exact ⟨rfl, rfl⟩
 ·intro k hk
  have hzl : (zeros k).length = k := by simp [zeros]
  have hw1 : IntKind.i64.wrap ((k : Int) + 1) = ((k + 1 : Nat) : Int) := by rw [wI (by omega) (by omega)]; omega
  simp only [go_sem, hw1]
  refine ⟨fun hlt => ⟨by decide, ?_⟩, fun hge => ?_⟩
  ·exact ⟨by simp only [roomB]; omega, k + 1, ⟨⟨by simp [zeros], rfl⟩, by rw [zeros_snoc]; simp [encI]⟩, by omega, by omega⟩
  ·rw [show k = n by omega]
def Maw : MC :=
(Zs [.alloc 0 0 [pz, .emp 1, .emp 1, .emp 1]] [0] (Zs [.call 1 [1] (.f N3f) [.c (.int .i64 4)], .call 2 [2] (.f N3f) [.c (.int .i64 3)], .call 3 [3] (.f N3f) [.c (.int .i64 4)], .build 4 [pz, .emp 1, .emp 1, .emp 1] [(1, 1, .s 1), (2, 1, .s 2), (3, 1, .s 3)], sS 4 0 4] [0] .ret))
theorem Cj6 : Ctr Tryz.prog N9g [] [rS st0.enc] := by
 refine cA Maw 4 5 [(.cell 0 true 4, [false, true, true, true])] Tryz.func222 rfl rfl ?_; unfold Maw
 intro hb
 clear hb
 simp only [go_sem]
 apply K0 (C5t 4 (by omega))
 simp only [go_sem]
 try intros
 apply K0 (C5t 3 (by omega))
 simp only [go_sem]
 try intros
 apply K0 (C5t 4 (by omega))
 simp only [go_sem]
 try intros
 exact ⟨rfl, rfl, rfl, rfl⟩
def Max : MC :=
(Zs [.alloc 0 0 [pz, .emp 1, .emp 1, .emp 1]] [0] (.seq (.dreg [{ o := .mk 1 1 1 8 [.sc (.int .i64 0)] (ci 4), hs := [2,3], ho := [2,3], ws := [1] }, { o := .mk 2 2 1 8 [.sc (.int .i64 0)] (ci 3), hs := [1,3], ho := [1,3], ws := [2] }, { o := .mk 3 3 1 8 [.sc (.int .i64 0)] (ci 4), hs := [1,2], ho := [1,2], ws := [3] }, Ze [0,1,2] (.build 4 [pz, .emp 1, .emp 1, .emp 1] [(1, 1, .s 1), (2, 1, .s 2), (3, 1, .s 3)]), { o := sS 4 0 4, ws := [0,1,2,3], bf := (.range 4) }] [0])
.ret))
theorem Cj7 : Ctr Tryz.prog N9h [] [rS st0.enc] := by
 refine cA Max 4 5 [(.cell 0 true 4, [false, true, true, true])] Tryz.func235 rfl rfl ?_; unfold Max
 intro hb
 clear hb
 simp only [go_sem]
 exact ⟨by simp only [roomB]; omega, by simp only [roomB]; omega, by simp only [roomB]; omega, rfl, rfl, rfl, rfl, rfl, rfl, rfl⟩
def Mcl : MC :=
(Zs [.box 1 0 (.s 0), .alloc 2 1 [pz, .emp 1, .emp 1, .emp 1]] [1,2] (.seq (.dreg [Zf [5,6,7,8,9,10,11,12,13] [2,3,4] (fS 3 1 0), Zg [5,6,7,8,9,10,11,12,13] [2,3,4] [0] (lF 4 1 3), Zc [3,4,8,9,11,12] (fS 5 1 1), Zd [3,4,8,9,11,12] [2] (lF 6 1 5), { o := .call 7 [2] (.f N2) [.s 6], hs := [3,4,8,9,11,12], ws := [2], bf := [2,3] }, Zf [3,4,5,6,7,11,12] [2] (fS 8 1 2), Zg [3,4,5,6,7,11,12] [2] [5] (lF 9 1 8), { o := .call 10 [3] (.f N2) [.s 9], hs := [3,4,11,12], ws := [3], bf := [2,3,4,5,6] }, Zf [3,4,5,6,7,8,9,10] [2,3] (fS 11 1 3), Zg [3,4,5,6,7,8,9,10] [2,3] [8] (lF 12 1 11), { o := .call 13 [4] (.f N2) [.s 12], hs := [3,4], ws := [4], bf := [2,3,4,5,6,7,8,9] }, Ze (.range 11) (.build 14 [pz, .emp 1, .emp 1, .emp 1] [(0, 1, .s 4), (1, 1, .s 7), (2, 1, .s 10), (3, 1, .s 13)]), { o := sS 4 2 14, ws := [1,2,3,4], bf := (.range 12) }] [2])
.ret))
theorem Ccm (s : GState) (hs : s.size ≤ 1073741824) : Ctr Tryz.prog N4q [aS s.enc] [rS s.enc] := by
 refine cA Mcl 5 15 [(.cell 2 true 4, [false, true, true, true])] Tryz.func338 rfl rfl ?_; unfold Mcl
 intro hb
 clear hb
 simp only [GState.size] at hs
 simp only [go_sem]
 apply K0 (C6 s.Regs (by omega))
 simp only [go_sem]
 try intros
 apply K0 (C6 s.Slots (by omega))
 simp only [go_sem]
 try intros
 apply K0 (C6 s.Nodes (by omega))
 simp only [go_sem]
 try intros
 try trivial
def Mfg : MC :=
(Zs [.box 1 0 (.s 0), .alloc 2 1 [pz, .emp 1, .emp 1, .emp 1]] [1,2] (.seq (.dreg [Zf [5,6,7,8,9,10,11,12,13,14,15,16] [2,3,4] (fS 3 1 0), Zg [5,6,7,8,9,10,11,12,13,14,15,16] [2,3,4] [0] (lF 4 1 3), { o := .lit 5 2 1 8 [], hs := [3,4,6,7,9,10,11,13,14,15], ho := [3,4], ws := [2] }, Zf [3,4,5,9,10,11,13,14,15] [2,3,4] (fS 6 1 1), Zg [3,4,5,9,10,11,13,14,15] [2,3,4] [3] (lF 7 1 6), { o := .app 8 2 1 8 (.s 5) (.s 7), hs := [3,4,9,10,11,13,14,15], ho := [3,4], ws := [2], bf := [2,3,4] }, { o := .lit 9 3 1 8 [], hs := [3,4,5,6,7,8,10,11,13,14,15], ho := [2,4], ws := [3] }, Zf [3,4,5,6,7,8,9,13,14,15] [2,3,4] (fS 10 1 2), Zg [3,4,5,6,7,8,9,13,14,15] [2,3,4] [7] (lF 11 1 10), { o := .app 12 3 1 8 (.s 9) (.s 11), hs := [3,4,13,14,15], ho := [4], ws := [3], bf := [2,3,4,5,6,7,8] }, { o := .lit 13 4 1 8 [], hs := [3,4,5,6,7,8,9,10,11,12,14,15], ho := [2,3], ws := [4] }, Zf [3,4,5,6,7,8,9,10,11,12,13] [2,3,4] (fS 14 1 3), Zg [3,4,5,6,7,8,9,10,11,12,13] [2,3,4] [11] (lF 15 1 14), { o := .app 16 4 1 8 (.s 13) (.s 15), hs := [3,4], ws := [4], bf := [2,3,4,5,6,7,8,9,10,11,12] }, Ze (.range 14) (.build 17 [pz, .emp 1, .emp 1, .emp 1] [(0, 1, .s 4), (1, 1, .s 8), (2, 1, .s 12), (3, 1, .s 16)]), { o := sS 4 2 17, ws := [1,2,3,4], bf := (.range 15) }] [2])
.ret))
theorem Cfh (s : GState) (hs : s.size ≤ 1073741824) : Ctr Tryz.prog N7f [aS s.enc] [rS s.enc] := by
 refine cA Mfg 5 18 [(.cell 2 true 4, [false, true, true, true])] Tryz.func326 rfl rfl ?_; unfold Mfg
 intro hb
 clear hb
 simp only [GState.size] at hs
 simp only [go_sem, ↓Kk (f := encI) (fun _ => rfl) s.Regs, ↓Kk (f := encI) (fun _ => rfl) s.Slots, ↓Kk (f := encI) (fun _ => rfl) s.Nodes]
 simp only [roomB]
 omega
def stOk (s : GState) : Bool := decide (0 ≤ s.Pc ∧ s.Pc ≤ 19) && (decide (s.Regs.length = 4 ∧ s.Slots.length = 3 ∧ s.Nodes.length = 4) && (K21 s.Regs 0 999 && (K21 s.Slots 0 999 && K21 s.Nodes 0 999)))
def Mgs : MC :=
(Zs [.mv 4 cF] [0,1] (.seq (Zs [.mv 5 (ci 0)] [0,1,5] (.block 0 (.loop ([0,1,5], []) (.seq (Zs [mS 6 5, mS 7 0, nS 8 7, bS 9 .lss 6 8] [0,1,5,9] (cX 9 0))
(.seq (.block 1 (Zs [mS 12 0, mS 13 5, xS 14 1 12 13, lF 15 1 14, .call 16 [] (.f N0) [.s 15, .c (.int .i64 0), .c (.int .i64 999)], .un 17 .not (.s 16)] [0,1,5,17] (.cond (.s 17) (Zs [.mv 4 cF] [4] .ret) .skip)))
(pr [mS 10 5, bC 11 .add 10 1, mS 5 11] [0,1,5]))))))
(Zs [mS 18 0, nS 19 18, mS 20 1, bS 21 .eql 19 20, mS 4 21] [4] .ret)))
theorem C4o (l : List Int) (n : Nat) : Ctr Tryz.prog N30 [aL 1 (l.map encI), aI n] [rB (decide (l.length = n) && K21 l 0 999)] := by
 refine cA Mgs 0 22 [(.tmp 4, [false])] Tryz.func340 rfl rfl ?_; unfold Mgs
 intro hb
 simp only [bdA, bdL, bdT, Kc, Ko, roomB, and_true, List.length_map] at hb
 obtain ⟨⟨hl, -⟩, -⟩ := hb
 simp only [go_sem]
 refine K5 l (fun k => [(5, vI k)]) (fun k => []) (fun k => ((l.take k).all fun x => decide (0 ≤ x ∧ x ≤ 999)) = true) hl ?_
 simp only [go_sem]
 refine ⟨?_, by simp, ?_, ?_⟩
 ·simp only [go_sem]
 ·intro k x hx h h0 h1 hw
  simp only [go_sem, K4 hx, h0, h1]
  refine K0 (C4 _ _ _) ?_
  simp only [go_sem, hw]
  refine ⟨fun hn => ?_, fun hn => K30 hx h (by simpa using hn)⟩
  rw [show K21 l 0 999 = false from (K8j hx (by simpa using hn)).symm, Bool.and_false]
 ·intro h
  simp only [go_sem]
  rw [List.take_length] at h
  rw [show K21 l 0 999 = true from h, Bool.and_true, Bool.eq_iff_iff]
  simp only [decide_eq_true_eq, beq_iff_eq]
  omega
def Mfi : MC :=
(Zs [.box 1 0 (.s 0), .mv 2 cF] [1] (.seq (.reg [Za (fS 3 1 0), Za (lF 4 1 3), Za (.call 5 [] (.f N3) [.s 4, .c (.int .i64 0), .c (.int .i64 19)]), Za (mS 6 5), Zb 6 true (fS 7 1 1), Zb 6 true (lF 8 1 7), Zb 6 true (nS 9 8), Zb 6 true (bC 10 .eql 9 4), Za (.pick 11 (.s 6) (.s 10) cF), Za (mS 12 11), Zb 12 true (fS 13 1 2), Zb 12 true (lF 14 1 13), Zb 12 true (nS 15 14), Zb 12 true (bC 16 .eql 15 3), Za (.pick 17 (.s 12) (.s 16) cF), Za (mS 18 17), Zb 18 true (fS 19 1 3), Zb 18 true (lF 20 1 19), Zb 18 true (nS 21 20), Zb 18 true (bC 22 .eql 21 4), Za (.pick 23 (.s 18) (.s 22) cF), Za (mS 24 23), Zb 24 true (fS 25 1 1), Zb 24 true (lF 26 1 25), Zb 24 true (.call 27 [] (.f N2o) [.s 26, .c (.int .i64 0), .c (.int .i64 999)]), Za (.pick 28 (.s 24) (.s 27) cF), Za (mS 29 28), Zb 29 true (fS 30 1 2), Zb 29 true (lF 31 1 30), Zb 29 true (.call 32 [] (.f N2o) [.s 31, .c (.int .i64 0), .c (.int .i64 999)]), Za (.pick 33 (.s 29) (.s 32) cF), Za (mS 34 33), Zb 34 true (fS 35 1 3), Zb 34 true (lF 36 1 35), Zb 34 true (.call 37 [] (.f N2o) [.s 36, .c (.int .i64 0), .c (.int .i64 999)]), Za (.pick 38 (.s 34) (.s 37) cF), Za (mS 2 38)] [2])
.ret))
theorem Cl4 (s : GState) : Ctr Tryz.prog Neo [aS s.enc] [rB (stOk s)] := by
 refine cA Mfi 1 39 [(.tmp 2, [false])] Tryz.func398 rfl rfl ?_; unfold Mfi
 intro hb
 clear hb
 simp only [go_sem]
 repeat' first
  | (refine And.intro ?_ ?_ <;> intro h)
  | (apply K0 (C1 _ _ _); simp only [go_sem])
  | (apply K0 (C5j _ _ _); simp only [go_sem])
 all_goals (unfold stOk; by_cases c1 : s.Regs.length = 4 <;> by_cases c2 : s.Slots.length = 3 <;> by_cases c3 : s.Nodes.length = 4 <;> simp_all <;> omega)
def Mfj : MC :=
(Zs [.box 1 0 (.s 0), .mv 2 cF] [1] (.seq (.reg [Za (fS 3 1 0), Za (lF 4 1 3), Za (.call 5 [] (.f N0) [.s 4, .c (.int .i64 0), .c (.int .i64 19)]), Za (mS 6 5), Zb 6 true (fS 7 1 1), Zb 6 true (lF 8 1 7), Zb 6 true (.call 9 [] (.f N30) [.s 8, .c (.int .i64 4)]), Za (.pick 10 (.s 6) (.s 9) cF), Za (mS 11 10), Zb 11 true (fS 12 1 2), Zb 11 true (lF 13 1 12), Zb 11 true (.call 14 [] (.f N30) [.s 13, .c (.int .i64 3)]), Za (.pick 15 (.s 11) (.s 14) cF), Za (mS 16 15), Zb 16 true (fS 17 1 3), Zb 16 true (lF 18 1 17), Zb 16 true (.call 19 [] (.f N30) [.s 18, .c (.int .i64 4)]), Za (.pick 20 (.s 16) (.s 19) cF), Za (mS 2 20)] [2])
.ret))
theorem Cl5 (s : GState) : Ctr Tryz.prog Nen [aS s.enc] [rB (stOk s)] := by
 refine cA Mfj 1 21 [(.tmp 2, [false])] Tryz.func392 rfl rfl ?_; unfold Mfj
 intro hb
 clear hb
 simp only [go_sem]
 repeat' first
  | (refine And.intro ?_ ?_ <;> intro h)
  | (apply K0 (C4 _ _ _); simp only [go_sem])
  | (apply K0 (C4o s.Regs 4); simp only [go_sem])
  | (apply K0 (C4o s.Slots 3); simp only [go_sem])
  | (apply K0 (C4o s.Nodes 4); simp only [go_sem])
 all_goals (unfold stOk; by_cases c1 : s.Regs.length = 4 <;> by_cases c2 : s.Slots.length = 3 <;> by_cases c3 : s.Nodes.length = 4 <;> simp_all <;> omega)
end Go.Proofs.YtgkeplbnnjogiaaGreatR
namespace Go.Proofs.YtgkeplbnnjogiaaGreatR
open Go Go.RowKit Go.Proofs
open Nat (reduceEqDiff reduceLT reduceLeDiff reduceAdd reduceMul)
open List (reduceReplicate)
def K3s (l : List GOp) (s : GState) : Bool := K1g l && (stOk s && decide (s.Pc < l.length))
def zAt (l : List Int) (i : Int) : Int := (l[i.toNat]?).getD 0
def opAt (l : List GOp) (i : Int) : GOp := (l[i.toNat]?).getD ⟨0, 0, 0, 0⟩
theorem K2b {l : List Int} {i : Nat} {x : Int} (h : l[i]? = some x) : zAt l i = x := by simp [zAt, h]
structure Doing (l : List GOp) (s : GState) (k : Nat) (o : GOp) : Prop where
 pc : s.Pc = k
 op : l[k]? = some o
 at_ : opAt l s.Pc = o
 ok : opOk o = true
 lt : k < l.length
 few : l.length ≤ 16
 regs : s.Regs.length = 4
 slots : s.Slots.length = 3
 nodes : s.Nodes.length = 4
 rin : ∀ (i : Nat) (x : Int), s.Regs[i]? = some x → 0 ≤ x ∧ x ≤ 999
 sin : ∀ (i : Nat) (x : Int), s.Slots[i]? = some x → 0 ≤ x ∧ x ≤ 999
 nin : ∀ (i : Nat) (x : Int), s.Nodes[i]? = some x → 0 ≤ x ∧ x ≤ 999
theorem K4p {l : List Int} {a b : Int} (h : K21 l a b = true) (i : Nat) (x : Int) (hx : l[i]? = some x) : a ≤ x ∧ x ≤ b := by
 have := List.all_eq_true.1 h x (Kt hx)
 simpa using this
theorem K4c {l : List GOp} {s : GState} (h : K3s l s = true) : ∃ k o, Doing l s k o := by
 simp only [K3s, K1g, K1q, stOk, Bool.and_eq_true, decide_eq_true_eq] at h
 obtain ⟨⟨h1, h2⟩, ⟨⟨h3, h4⟩, ⟨h5, h6, h7⟩, h8, h9, h10⟩, h11⟩ := h
 obtain ⟨k, hk⟩ := Int.eq_ofNat_of_zero_le h3
 obtain ⟨o, ho⟩ := Kb (show k < l.length by omega)
 exact ⟨k, o, hk, ho, by simp [opAt, hk, ho], List.all_eq_true.1 h2 o (Kt ho), by omega, h1, h5, h6, h7, K4p h8, K4p h9, K4p h10⟩
theorem K4k {o : GOp} (h : opOk o = true) : ∃ i : Nat, i < 4 ∧ o.A = i ∧ (
  (o.Kind = 5 ∧ ∃ j m : Nat, j < 4 ∧ m < 4 ∧ o.B = j ∧ o.C = m) ∨ (o.Kind = 6 ∧ ∃ j : Nat, j < 4 ∧ o.B = j) ∨ (o.Kind = 7 ∧ 1 ≤ o.B ∧ o.B ≤ 3) ∨
  (o.Kind = 8 ∧ ∃ j : Nat, j < 3 ∧ o.B = j) ∨ (o.Kind = 9 ∧ ∃ j : Nat, j < 3 ∧ o.B = j) ∨ (1 ≤ o.Kind ∧ o.Kind ≤ 4)) := by
 simp only [opOk, decide_eq_true_eq] at h
 obtain ⟨⟨h1, h2⟩, h⟩ := h
 refine ⟨o.A.toNat, by omega, by omega, ?_⟩
 rcases h with h | h | ⟨h, h3, h4⟩ | ⟨h, h3, h4⟩ | h | ⟨h, h3, h4⟩
 ·omega
 ·omega
 ·exact .inl ⟨h, o.B.toNat, o.C.toNat, by omega, by omega, by omega, by omega⟩
 ·exact .inr (.inl ⟨h, o.B.toNat, by omega, by omega⟩)
 ·omega
 ·rcases h with h | h
  ·exact .inr (.inr (.inr (.inl ⟨h, o.B.toNat, by omega, by omega⟩)))
  ·exact .inr (.inr (.inr (.inr (.inl ⟨h, o.B.toNat, by omega, by omega⟩))))
def Y34 (v0 : Nat) (v1 : Nat) : MC :=
(Zs [.box 3 0 (.s 1), .mv 4 cF] [0,3] (.seq (.reg [Za (mS 5 0), Za (.call 6 [] (.f v0) [.s 5]), Za (mS 7 6), Zb 7 true (lT 8 4 3), Zb 7 true (.call 9 [] (.f v1) [.s 8]), Za (.pick 10 (.s 7) (.s 9) cF), Za (mS 11 10), Zb 11 true (fS 12 3 0), Zb 11 true (lF 13 1 12), Zb 11 true (mS 14 0), Zb 11 true (nS 15 14), Zb 11 true (bS 16 .lss 13 15), Za (.pick 17 (.s 11) (.s 16) cF), Za (mS 4 17)] [4])
.ret))
attribute [go_sem] Y34
def Mfk : MC := Y34 N29 Neo
theorem Cfl (l : List GOp) (s : GState) : Ctr Tryz.prog N7g [aL 4 (l.map GOp.enc), aS s.enc] [rB (K3s l s)] := by
 refine cA Mfk 1 18 [(.tmp 4, [false])] Tryz.func333 rfl rfl ?_; unfold Mfk
 intro hb
 clear hb
 simp only [go_sem]
 repeat' first
  | (refine And.intro ?_ ?_ <;> intro h)
  | (apply K0 (C3i _); simp only [go_sem])
  | (apply K0 (Cl4 s); simp only [go_sem])
 all_goals (unfold K3s; simp_all)
def Mgt : MC := Y34 N28 Nen
theorem Cgu (l : List GOp) (s : GState) : Ctr Tryz.prog N8y [aL 4 (l.map GOp.enc), aS s.enc] [rB (K3s l s)] := by
 refine cA Mgt 1 18 [(.tmp 4, [false])] Tryz.func322 rfl rfl ?_; unfold Mgt
 intro hb
 clear hb
 simp only [go_sem]
 repeat' first
  | (refine And.intro ?_ ?_ <;> intro h)
  | (apply K0 (C3j _); simp only [go_sem])
  | (apply K0 (Cl5 s); simp only [go_sem])
 all_goals (unfold K3s; simp_all)
def Kh (l : List GOp) (s : GState) : GWant := if K3s l s = true ∧ asks (opAt l s.Pc).Kind = true then ⟨(opAt l s.Pc).Kind, if (opAt l s.Pc).Kind = 1 then ⟨(opAt l s.Pc).B, (opAt l s.Pc).C, (zAt s.Regs (opAt l s.Pc).A).tmod 100⟩ else ⟨0, 0, 0⟩⟩ else ⟨0, ⟨0, 0, 0⟩⟩
theorem c100 : ¬ (100 : Int) = 0 := by decide
theorem c1000 : ¬ (1000 : Int) = 0 := by decide
def Y35 (v0 : Nat) (v1 : Nat) : MC :=
(Zs [.box 3 0 (.s 1), .alloc 4 1 [pz, pz, pz, pz]] [0,3,4] (.seq (.seq (.reg [Za (mS 7 0), Za (lT 8 4 3), Za (.call 9 [] (.f v0) [.s 7, .s 8]), Za (.un 10 .not (.s 9)), Za (mS 11 10), Zb 11 false (mS 12 0), Zb 11 false (fS 13 3 0), Zb 11 false (lF 14 1 13), Zb 11 false (xS 15 4 12 14), Zb 11 false (fS 16 15 0), Zb 11 false (lF 17 1 16), Zb 11 false (.call 18 [] (.f v1) [.s 17]), Zb 11 false (.un 19 .not (.s 18)), Za (.pick 20 (.s 11) cT (.s 19))] [0,3,4,20])
(.cond (.s 20) (Zs [.build 21 [pz, pz, pz, pz] [], sS 4 4 21] [4] .ret) .skip))
(Zs [mS 22 0, fS 23 3 0, lF 24 1 23, xS 25 4 22 24, lT 26 4 25, .alloc 5 2 [pz, pz, pz, pz], sS 4 5 26] [3,4,5] (Zs [fS 27 5 0, lF 28 1 27, .build 29 [pz, pz, pz, pz] [(0, 1, .s 28)], .alloc 6 3 [pz, pz, pz, pz], sS 4 6 29] [3,4,5,6] (.seq (Zs [fS 30 5 0, lF 31 1 30, bC 32 .eql 31 1] [3,4,5,6,32] (.cond (.s 32) (.dreg [Zc [35,36,37,38,39,40,41,42,43] (fS 33 5 2), Zd [35,36,37,38,39,40,41,42,43] [0] (lF 34 1 33), Zc [33,34,37,38,39,40,41,42,43] (fS 35 5 3), Zd [33,34,37,38,39,40,41,42,43] [2] (lF 36 1 35), Zc [33,34,35,36,39,40] (fS 37 3 1), Zd [33,34,35,36,39,40] [4] (lF 38 1 37), Zc [33,34,35,36,37,38] (fS 39 5 1), Zd [33,34,35,36,37,38] [6] (lF 40 1 39), Zd [33,34,35,36] [4,5,6,7] (xS 41 1 38 40), Zd [33,34,35,36] [4,5,6,7,8] (lF 42 1 41), Zd [33,34,35,36] [4,5,6,7,8,9] (bC 43 .rem 42 100), Ze (.range 11) (.build 44 [pz, pz, pz] [(0, 1, .s 34), (1, 1, .s 36), (2, 1, .s 43)]), Ze (.range 12) (fS 45 6 1), { o := sS 3 45 44, ws := [3], bf := (.range 13) }] [4,6]) .skip))
(Zs [lT 46 4 6, sS 4 4 46] [4] .ret))))))
attribute [go_sem] Y35
def Mgv : MC := Y35 N7g Nea
theorem Cld (l : List GOp) (s : GState) : Ctr Tryz.prog Ng7 [aL 4 (l.map GOp.enc), aS s.enc] [rS (Kh l s).enc] := by
 refine cA Mgv 4 47 [(.cell 4 true 4, [false, false, false, false])] Tryz.func239 rfl rfl ?_; unfold Mgv
 intro hb
 clear hb
 simp only [go_sem]
 apply K0 (Cfl l s)
 simp only [go_sem]
 refine And.intro ?_ ?_ <;> intro h
 ·rw [Kh, if_neg (by simp [h])]
  try exact ⟨rfl, rfl, rfl, rfl⟩
 ·obtain ⟨k, o, D⟩ := K4c h
  obtain ⟨i, hi, hA, -⟩ := K4k D.ok
  have hrl := D.regs
  obtain ⟨r, hr⟩ := Kb (show i < s.Regs.length by omega)
  have hp0 : (0 : Int) ≤ (k : Int) := by omega
  have hp1 : (k : Int) < l.length := by have := D.lt; omega
  have hi0 : (0 : Int) ≤ (i : Int) := by omega
  have hi1 : (i : Int) < s.Regs.length := by omega
  have hz : zAt s.Regs o.A = r := by rw [hA]; exact K2b hr
  have hW : Kh l s = if asks o.Kind = true then ⟨o.Kind, if o.Kind = 1 then ⟨o.B, o.C, r.tmod 100⟩ else ⟨0, 0, 0⟩⟩ else ⟨0, ⟨0, 0, 0⟩⟩ := by
   simp only [Kh, h, D.at_, hz, true_and]
  rw [hW]
  simp only [go_sem, D.pc, K4 D.op, hp0, hp1]
  apply K0 (Cjp o.Kind)
  simp only [go_sem, K4 D.op, hp0, hp1]
  refine And.intro ?_ ?_ <;> intro h2
  ·rw [if_neg (by simp [h2])]
   try exact ⟨rfl, rfl, rfl, rfl⟩
  ·rw [if_pos h2]
   refine And.intro ?_ ?_ <;> intro h3
   ·simp only [go_sem, hA, K4 hr, hi0, hi1, h3, c100]
   ·rw [if_neg h3]
    try exact ⟨rfl, rfl, rfl, rfl⟩
def Mgw : MC := Y35 N8y Ne9
theorem Cle (l : List GOp) (s : GState) : Ctr Tryz.prog Ng5 [aL 4 (l.map GOp.enc), aS s.enc] [rS (Kh l s).enc] := by
 refine cA Mgw 4 47 [(.cell 4 true 4, [false, false, false, false])] Tryz.func227 rfl rfl ?_; unfold Mgw
 intro hb
 clear hb
 simp only [go_sem]
 apply K0 (Cgu l s)
 simp only [go_sem]
 refine And.intro ?_ ?_ <;> intro h
 ·rw [Kh, if_neg (by simp [h])]
  try exact ⟨rfl, rfl, rfl, rfl⟩
 ·obtain ⟨k, o, D⟩ := K4c h
  obtain ⟨i, hi, hA, -⟩ := K4k D.ok
  have hrl := D.regs
  obtain ⟨r, hr⟩ := Kb (show i < s.Regs.length by omega)
  have hp0 : (0 : Int) ≤ (k : Int) := by omega
  have hp1 : (k : Int) < l.length := by have := D.lt; omega
  have hi0 : (0 : Int) ≤ (i : Int) := by omega
  have hi1 : (i : Int) < s.Regs.length := by omega
  have hz : zAt s.Regs o.A = r := by rw [hA]; exact K2b hr
  have hW : Kh l s = if asks o.Kind = true then ⟨o.Kind, if o.Kind = 1 then ⟨o.B, o.C, r.tmod 100⟩ else ⟨0, 0, 0⟩⟩ else ⟨0, ⟨0, 0, 0⟩⟩ := by
   simp only [Kh, h, D.at_, hz, true_and]
  rw [hW]
  simp only [go_sem, D.pc, K4 D.op, hp0, hp1]
  apply K0 (Cjr o.Kind)
  simp only [go_sem, K4 D.op, hp0, hp1]
  refine And.intro ?_ ?_ <;> intro h2
  ·rw [if_neg (by simp [h2])]
   try exact ⟨rfl, rfl, rfl, rfl⟩
  ·rw [if_pos h2]
   refine And.intro ?_ ?_ <;> intro h3
   ·simp only [go_sem, hA, K4 hr, hi0, hi1, h3, c100]
   ·rw [if_neg h3]
    try exact ⟨rfl, rfl, rfl, rfl⟩
end Go.Proofs.YtgkeplbnnjogiaaGreatR
namespace Go.Proofs.YtgkeplbnnjogiaaGreatR
open Go Go.RowKit Go.Proofs
open Nat (reduceEqDiff reduceLT reduceLeDiff reduceAdd reduceMul)
open List (reduceReplicate)
def clamp (v : Int) : Int := if 999 < (if 0 > v then 0 else v) then 999 else (if 0 > v then 0 else v)
theorem clamp_eq {v : Int} : (if (if v < 999 then v else 999) > 0 then (if v < 999 then v else 999) else 0) = clamp v := by
 unfold clamp; repeat' split
 all_goals omega
def pcTo (n : Int) : Int := IntKind.i64.wrap (n + 1)
def doOp (o : GOp) (s : GState) (v : Int) : GState :=
 if o.Kind = 5 then { s with Pc := pcTo s.Pc, Regs := s.Regs.set o.A.toNat ((IntKind.i64.wrap (zAt s.Regs o.B + zAt s.Regs o.C)).tmod 1000) }
 else if o.Kind = 6 then { s with Pc := pcTo s.Pc, Nodes := s.Nodes.set o.B.toNat (zAt s.Regs o.A) }
 else if o.Kind = 7 then { s with Pc := if (zAt s.Regs o.A).tmod 2 = 0 then IntKind.i64.wrap (pcTo s.Pc + o.B) else pcTo s.Pc }
 else if o.Kind = 8 then { s with Pc := pcTo s.Pc, Regs := s.Regs.set o.A.toNat (zAt s.Slots o.B) }
 else if o.Kind = 9 then { s with Pc := pcTo s.Pc, Slots := s.Slots.set o.B.toNat (zAt s.Regs o.A) }
 else { s with Pc := pcTo s.Pc, Regs := s.Regs.set o.A.toNat (clamp v) }
def K13 (l : List GOp) (s : GState) (v : Int) : GState := if K3s l s then doOp (opAt l s.Pc) s v else s
theorem Kam {l : List GOp} {s : GState} {v : Int} (h : K3s l s = false) : K13 l s v = s := by unfold K13; rw [h]; rfl
theorem K71 {l : List GOp} {s : GState} {v : Int} {k : Nat} {o : GOp} (h : K3s l s = true) (D : Doing l s k o) : K13 l s v = doOp o s v := by unfold K13; rw [h, D.at_]; rfl
theorem c2 : ¬ (2 : Int) = 0 := by decide
def Mcn : MC :=
(Zs [.box 4 0 (.s 1), .alloc 6 1 [pz, .emp 1, .emp 1, .emp 1]] [0,2,4,6] (Zs [lT 9 4 4, .call 10 [2, 3, 4] (.f N4q) [.s 9], .alloc 7 5 [pz, .emp 1, .emp 1, .emp 1], sS 4 7 10] [0,2,4,6,7] (.seq (Zs [mS 11 0, lT 12 4 4, .call 13 [] (.f N7g) [.s 11, .s 12], .un 14 .not (.s 13)] [0,2,4,6,7,14] (.cond (.s 14) (Zs [lT 15 4 7, sS 4 6 15] [6] .ret) .skip))
(Zs [mS 16 0, fS 17 4 0, lF 18 1 17, xS 19 4 16 18, lT 20 4 19, .alloc 8 6 [pz, pz, pz, pz], sS 4 8 20] [2,4,6,7,8] (Zs [fS 21 7 0, lF 22 1 21, bC 23 .add 22 1, fS 24 7 0, sS 1 24 23] [2,4,6,7,8] (.seq (Zs [fS 25 8 0, lF 26 1 25] [2,4,6,7,8,26] (.block 0 (Zs [bC 36 .eql 26 5, mS 35 36] [2,4,6,7,8,26,35] (.cond (.s 35) (.dreg [Zc [39,40,41,42,43,44,45,46,47,48,49,50,51,52,53,54] (fS 37 7 1), Zd [39,40,41,42,43,44,45,46,47,48,49,50,51,52,53,54] [0] (lF 38 1 37), Zc [37,38,41,42,43,44,45,46,47,48,49,50,51,52,53,54] (fS 39 8 1), Zd [37,38,41,42,43,44,45,46,47,48,49,50,51,52,53,54] [2] (lF 40 1 39), Zc [37,38,39,40,43,44,47,48,49,50,51,52] (fS 41 4 1), Zd [37,38,39,40,43,44,47,48,49,50,51,52] [4] (lF 42 1 41), Zc [37,38,39,40,41,42,47,48,49,50,51,52] (fS 43 8 2), Zd [37,38,39,40,41,42,47,48,49,50,51,52] [6] (lF 44 1 43), Zd [37,38,39,40,47,48,49,50,51,52] [4,5,6,7] (xS 45 1 42 44), Zd [37,38,39,40,47,48,49,50,51,52] [4,5,6,7,8] (lF 46 1 45), Zc [37,38,39,40,41,42,43,44,45,46,49,50] (fS 47 4 1), Zd [37,38,39,40,41,42,43,44,45,46,49,50] [10] (lF 48 1 47), Zc [37,38,39,40,41,42,43,44,45,46,47,48] (fS 49 8 3), Zd [37,38,39,40,41,42,43,44,45,46,47,48] [12] (lF 50 1 49), Zd [37,38,39,40,41,42,43,44,45,46] [10,11,12,13] (xS 51 1 48 50), Zd [37,38,39,40,41,42,43,44,45,46] [10,11,12,13,14] (lF 52 1 51), Zd [37,38,39,40] [4,5,6,7,8,9,10,11,12,13,14,15] (bS 53 .add 46 52), Zd [37,38,39,40] [4,5,6,7,8,9,10,11,12,13,14,15,16] (bC 54 .rem 53 1000), Ze (.range 18) (xS 55 1 38 40), { o := sS 1 55 54, ws := [2], bf := (.range 19) }] [6,7]) (Zs [bC 57 .eql 26 6, mS 56 57] [2,4,6,7,8,26,56] (.cond (.s 56) (.dreg [Zc [60,61,62,63,64,65,66,67] (fS 58 7 3), Zd [60,61,62,63,64,65,66,67] [0] (lF 59 1 58), Zc [58,59,62,63,64,65,66,67] (fS 60 8 2), Zd [58,59,62,63,64,65,66,67] [2] (lF 61 1 60), Zc [58,59,60,61,64,65] (fS 62 4 1), Zd [58,59,60,61,64,65] [4] (lF 63 1 62), Zc [58,59,60,61,62,63] (fS 64 8 1), Zd [58,59,60,61,62,63] [6] (lF 65 1 64), Zd [58,59,60,61] [4,5,6,7] (xS 66 1 63 65), Zd [58,59,60,61] [4,5,6,7,8] (lF 67 1 66), Ze (.range 10) (xS 68 1 59 61), { o := sS 1 68 67, ws := [4], bf := (.range 11) }] [6,7]) (Zs [bC 70 .eql 26 7, mS 69 70] [2,4,6,7,8,26,69] (.cond (.s 69) (Zs [fS 71 4 1, lF 72 1 71, fS 73 8 1, lF 74 1 73, xS 75 1 72 74, lF 76 1 75, bC 77 .rem 76 2, bC 78 .eql 77 0] [6,7,8,78] (.cond (.s 78) (pr [fS 79 7 0, lF 80 1 79, fS 81 8 2, lF 82 1 81, bS 83 .add 80 82, fS 84 7 0, sS 1 84 83] [6,7]) .skip)) (Zs [bC 86 .eql 26 8, mS 85 86] [2,4,6,7,8,26,85] (.cond (.s 85) (.dreg [Zc [89,90,91,92,93,94,95,96] (fS 87 7 1), Zd [89,90,91,92,93,94,95,96] [0] (lF 88 1 87), Zc [87,88,91,92,93,94,95,96] (fS 89 8 1), Zd [87,88,91,92,93,94,95,96] [2] (lF 90 1 89), Zc [87,88,89,90,93,94] (fS 91 4 2), Zd [87,88,89,90,93,94] [4] (lF 92 1 91), Zc [87,88,89,90,91,92] (fS 93 8 2), Zd [87,88,89,90,91,92] [6] (lF 94 1 93), Zd [87,88,89,90] [4,5,6,7] (xS 95 1 92 94), Zd [87,88,89,90] [4,5,6,7,8] (lF 96 1 95), Ze (.range 10) (xS 97 1 88 90), { o := sS 1 97 96, ws := [2], bf := (.range 11) }] [6,7]) (Zs [bC 99 .eql 26 9, mS 98 99] [2,4,6,7,8,98] (.cond (.s 98) (.dreg [Zc [102,103,104,105,106,107,108,109] (fS 100 7 2), Zd [102,103,104,105,106,107,108,109] [0] (lF 101 1 100), Zc [100,101,104,105,106,107,108,109] (fS 102 8 2), Zd [100,101,104,105,106,107,108,109] [2] (lF 103 1 102), Zc [100,101,102,103,106,107] (fS 104 4 1), Zd [100,101,102,103,106,107] [4] (lF 105 1 104), Zc [100,101,102,103,104,105] (fS 106 8 1), Zd [100,101,102,103,104,105] [6] (lF 107 1 106), Zd [100,101,102,103] [4,5,6,7] (xS 108 1 105 107), Zd [100,101,102,103] [4,5,6,7,8] (lF 109 1 108), Ze (.range 10) (xS 110 1 101 103), { o := sS 1 110 109, ws := [3], bf := (.range 11) }] [6,7]) (pr [fS 27 7 1, lF 28 1 27, fS 29 8 1, lF 30 1 29, mS 31 2, .mm 32 true (.s 31) (ci 0), .mm 33 false (.s 32) (ci 999), xS 34 1 28 30, sS 1 34 33] [6,7])))))))))))))
(Zs [lT 111 4 7, sS 4 6 111] [6] .ret)))))))
set_option maxHeartbeats 1000000 in
theorem Cco (l : List GOp) (s : GState) (v : Int) (hs : s.size ≤ 1073741824) : Ctr Tryz.prog Nbo [aL 4 (l.map GOp.enc), aS s.enc, aI v] [rS (K13 l s v).enc] := by
 refine cA Mcn 7 112 [(.cell 6 true 4, [false, true, true, true])] Tryz.func244 rfl rfl ?_; unfold Mcn
 intro hb
 clear hb
 simp only [go_sem]
 apply K0 (Ccm s hs)
 simp only [go_sem]
 intros
 apply K0 (Cfl l s)
 simp only [go_sem]
 refine And.intro ?_ ?_ <;> intro h
 ·rw [Kam h]
  try exact ⟨rfl, rfl, rfl, rfl⟩
 ·obtain ⟨k, o, D⟩ := K4c h
  rw [K71 h D]
  obtain ⟨i, hi, hA, hk⟩ := K4k D.ok
  have hrl := D.regs
  have hsl := D.slots
  have hnl := D.nodes
  obtain ⟨r, hr⟩ := Kb (show i < s.Regs.length by omega)
  have hp0 : (0 : Int) ≤ (k : Int) := by omega
  have hp1 : (k : Int) < l.length := by have := D.lt; omega
  have hi0 : (0 : Int) ≤ (i : Int) := by omega
  have hi1 : (i : Int) < s.Regs.length := by omega
  have hz : zAt s.Regs (i : Int) = r := K2b hr
  simp only [go_sem, D.pc, K4 D.op, hp0, hp1]
  rcases hk with ⟨hK, j, m, hj, hm, hB, hC⟩ | ⟨hK, j, hj, hB⟩ | ⟨hK, hB⟩ | ⟨hK, j, hj, hB⟩ | ⟨hK, j, hj, hB⟩ | hK
  ·obtain ⟨rj, hrj⟩ := Kb (show j < s.Regs.length by omega)
   obtain ⟨rm, hrm⟩ := Kb (show m < s.Regs.length by omega)
   have hj0 : (0 : Int) ≤ (j : Int) := by omega
   have hj1 : (j : Int) < s.Regs.length := by omega
   have hm0 : (0 : Int) ≤ (m : Int) := by omega
   have hm1 : (m : Int) < s.Regs.length := by omega
   simp only [go_sem, hK, hA, hB, hC, hi0, hi1, hj0, hj1, hm0, hm1, K4 hrj, K4 hrm, K4 hr, Int.reduceEq, c1000]
   simp [doOp, hK, hA, hB, hC, pcTo, D.pc, K2b hrj, K2b hrm, encI, List.map_set]
  ·obtain ⟨nj, hnj⟩ := Kb (show j < s.Nodes.length by omega)
   have hj0 : (0 : Int) ≤ (j : Int) := by omega
   have hj1 : (j : Int) < s.Nodes.length := by omega
   simp only [go_sem, hK, hA, hB, hi0, hi1, hj0, hj1, K4 hnj, K4 hr, Int.reduceEq]
   simp [doOp, hK, hA, hB, pcTo, D.pc, hz, encI, List.map_set]
  ·simp only [go_sem, hK, hA, hi0, hi1, K4 hr, Int.reduceEq, c2]
   exact ⟨fun h7 => by simp [doOp, hK, hA, pcTo, D.pc, hz, h7], fun h7 => by simp [doOp, hK, hA, pcTo, D.pc, hz, h7]⟩
  ·obtain ⟨sj, hsj⟩ := Kb (show j < s.Slots.length by omega)
   have hj0 : (0 : Int) ≤ (j : Int) := by omega
   have hj1 : (j : Int) < s.Slots.length := by omega
   simp only [go_sem, hK, hA, hB, hi0, hi1, hj0, hj1, K4 hsj, K4 hr, Int.reduceEq]
   simp [doOp, hK, hA, hB, pcTo, D.pc, K2b hsj, encI, List.map_set]
  ·obtain ⟨sj, hsj⟩ := Kb (show j < s.Slots.length by omega)
   have hj0 : (0 : Int) ≤ (j : Int) := by omega
   have hj1 : (j : Int) < s.Slots.length := by omega
   simp only [go_sem, hK, hA, hB, hi0, hi1, hj0, hj1, K4 hsj, K4 hr, Int.reduceEq]
   simp [doOp, hK, hA, hB, pcTo, D.pc, hz, encI, List.map_set]
  ·have k5 : ¬ o.Kind = 5 := by omega
   have k6 : ¬ o.Kind = 6 := by omega
   have k7 : ¬ o.Kind = 7 := by omega
   have k8 : ¬ o.Kind = 8 := by omega
   have k9 : ¬ o.Kind = 9 := by omega
   simp only [go_sem, k5, k6, k7, k8, k9, hA, hi0, hi1, K4 hr]
   simp [doOp, k5, k6, k7, k8, k9, hA, pcTo, D.pc, clamp, encI, List.map_set]
def Mcp : MC :=
(Zs [.box 4 0 (.s 1), .alloc 6 1 [pz, .emp 1, .emp 1, .emp 1]] [0,2,4,6] (Zs [lT 9 4 4, .call 10 [2, 3, 4] (.f N7f) [.s 9], .alloc 7 5 [pz, .emp 1, .emp 1, .emp 1], sS 4 7 10] [0,2,4,6,7] (.seq (Zs [mS 11 0, lT 12 4 4, .call 13 [] (.f N8y) [.s 11, .s 12], .un 14 .not (.s 13)] [0,2,4,6,7,14] (.cond (.s 14) (Zs [lT 15 4 7, sS 4 6 15] [6] .ret) .skip))
(Zs [mS 16 0, fS 17 4 0, lF 18 1 17, xS 19 4 16 18, lT 20 4 19, .alloc 8 6 [pz, pz, pz, pz], sS 4 8 20] [2,4,6,7,8] (Zs [fS 21 4 0, lF 22 1 21, bC 23 .add 22 1, fS 24 7 0, sS 1 24 23] [2,4,6,7,8] (.seq (Zs [fS 25 8 0, lF 26 1 25] [2,4,6,7,8,26] (.block 0 (Zs [bC 36 .eql 26 5, mS 35 36] [2,4,6,7,8,26,35] (.cond (.s 35) (.dreg [Zc [39,40,41,42,43,44,45,46,47,48,49,50,51,52,53,54] (fS 37 7 1), Zd [39,40,41,42,43,44,45,46,47,48,49,50,51,52,53,54] [0] (lF 38 1 37), Zc [37,38,41,42,43,44,45,46,47,48,49,50,51,52,53,54] (fS 39 8 1), Zd [37,38,41,42,43,44,45,46,47,48,49,50,51,52,53,54] [2] (lF 40 1 39), Zc [37,38,39,40,43,44,47,48,49,50,51,52] (fS 41 4 1), Zd [37,38,39,40,43,44,47,48,49,50,51,52] [4] (lF 42 1 41), Zc [37,38,39,40,41,42,47,48,49,50,51,52] (fS 43 8 2), Zd [37,38,39,40,41,42,47,48,49,50,51,52] [6] (lF 44 1 43), Zd [37,38,39,40,47,48,49,50,51,52] [4,5,6,7] (xS 45 1 42 44), Zd [37,38,39,40,47,48,49,50,51,52] [4,5,6,7,8] (lF 46 1 45), Zc [37,38,39,40,41,42,43,44,45,46,49,50] (fS 47 4 1), Zd [37,38,39,40,41,42,43,44,45,46,49,50] [10] (lF 48 1 47), Zc [37,38,39,40,41,42,43,44,45,46,47,48] (fS 49 8 3), Zd [37,38,39,40,41,42,43,44,45,46,47,48] [12] (lF 50 1 49), Zd [37,38,39,40,41,42,43,44,45,46] [10,11,12,13] (xS 51 1 48 50), Zd [37,38,39,40,41,42,43,44,45,46] [10,11,12,13,14] (lF 52 1 51), Zd [37,38,39,40] [4,5,6,7,8,9,10,11,12,13,14,15] (bS 53 .add 46 52), Zd [37,38,39,40] [4,5,6,7,8,9,10,11,12,13,14,15,16] (bC 54 .rem 53 1000), Ze (.range 18) (xS 55 1 38 40), { o := sS 1 55 54, ws := [2], bf := (.range 19) }] [6,7]) (Zs [bC 57 .eql 26 6, mS 56 57] [2,4,6,7,8,26,56] (.cond (.s 56) (.dreg [Zc [60,61,62,63,64,65,66,67] (fS 58 7 3), Zd [60,61,62,63,64,65,66,67] [0] (lF 59 1 58), Zc [58,59,62,63,64,65,66,67] (fS 60 8 2), Zd [58,59,62,63,64,65,66,67] [2] (lF 61 1 60), Zc [58,59,60,61,64,65] (fS 62 4 1), Zd [58,59,60,61,64,65] [4] (lF 63 1 62), Zc [58,59,60,61,62,63] (fS 64 8 1), Zd [58,59,60,61,62,63] [6] (lF 65 1 64), Zd [58,59,60,61] [4,5,6,7] (xS 66 1 63 65), Zd [58,59,60,61] [4,5,6,7,8] (lF 67 1 66), Ze (.range 10) (xS 68 1 59 61), { o := sS 1 68 67, ws := [4], bf := (.range 11) }] [6,7]) (Zs [bC 70 .eql 26 7, mS 69 70] [2,4,6,7,8,26,69] (.cond (.s 69) (Zs [fS 71 4 1, lF 72 1 71, fS 73 8 1, lF 74 1 73, xS 75 1 72 74, lF 76 1 75, bC 77 .rem 76 2, bC 78 .eql 77 0] [4,6,7,8,78] (.cond (.s 78) (pr [fS 79 4 0, lF 80 1 79, bC 81 .add 80 1, fS 82 8 2, lF 83 1 82, bS 84 .add 81 83, fS 85 7 0, sS 1 85 84] [6,7]) .skip)) (Zs [bC 87 .eql 26 8, mS 86 87] [2,4,6,7,8,26,86] (.cond (.s 86) (.dreg [Zc [90,91,92,93,94,95,96,97] (fS 88 7 1), Zd [90,91,92,93,94,95,96,97] [0] (lF 89 1 88), Zc [88,89,92,93,94,95,96,97] (fS 90 8 1), Zd [88,89,92,93,94,95,96,97] [2] (lF 91 1 90), Zc [88,89,90,91,94,95] (fS 92 4 2), Zd [88,89,90,91,94,95] [4] (lF 93 1 92), Zc [88,89,90,91,92,93] (fS 94 8 2), Zd [88,89,90,91,92,93] [6] (lF 95 1 94), Zd [88,89,90,91] [4,5,6,7] (xS 96 1 93 95), Zd [88,89,90,91] [4,5,6,7,8] (lF 97 1 96), Ze (.range 10) (xS 98 1 89 91), { o := sS 1 98 97, ws := [2], bf := (.range 11) }] [6,7]) (Zs [bC 100 .eql 26 9, mS 99 100] [2,4,6,7,8,99] (.cond (.s 99) (.dreg [Zc [103,104,105,106,107,108,109,110] (fS 101 7 2), Zd [103,104,105,106,107,108,109,110] [0] (lF 102 1 101), Zc [101,102,105,106,107,108,109,110] (fS 103 8 2), Zd [101,102,105,106,107,108,109,110] [2] (lF 104 1 103), Zc [101,102,103,104,107,108] (fS 105 4 1), Zd [101,102,103,104,107,108] [4] (lF 106 1 105), Zc [101,102,103,104,105,106] (fS 107 8 1), Zd [101,102,103,104,105,106] [6] (lF 108 1 107), Zd [101,102,103,104] [4,5,6,7] (xS 109 1 106 108), Zd [101,102,103,104] [4,5,6,7,8] (lF 110 1 109), Ze (.range 10) (xS 111 1 102 104), { o := sS 1 111 110, ws := [3], bf := (.range 11) }] [6,7]) (.dreg [Zc [29,30,31,32,33] (fS 27 7 1), Zd [29,30,31,32,33] [0] (lF 28 1 27), Zc [27,28,31,32,33] (fS 29 8 1), Zd [27,28,31,32,33] [2] (lF 30 1 29), Zc [27,28,29,30] (mS 31 2), Zd [27,28,29,30] [4] (.call 32 [] (.f N59) [.c (.int .i64 999), .s 31]), Zd [27,28,29,30] [4,5] (.call 33 [] (.f Nfr) [.c (.int .i64 0), .s 32]), Ze (.range 7) (xS 34 1 28 30), { o := sS 1 34 33, ws := [2], bf := (.range 8) }] [6,7])))))))))))))
(Zs [lT 112 4 7, sS 4 6 112] [6] .ret)))))))
set_option maxHeartbeats 1000000 in
theorem Ccq (l : List GOp) (s : GState) (v : Int) (hs : s.size ≤ 1073741824) : Ctr Tryz.prog Nbn [aL 4 (l.map GOp.enc), aS s.enc, aI v] [rS (K13 l s v).enc] := by
 refine cA Mcp 7 113 [(.cell 6 true 4, [false, true, true, true])] Tryz.func234 rfl rfl ?_; unfold Mcp
 intro hb
 clear hb
 simp only [go_sem]
 apply K0 (Cfh s hs)
 simp only [go_sem]
 intros
 apply K0 (Cgu l s)
 simp only [go_sem]
 refine And.intro ?_ ?_ <;> intro h
 ·rw [Kam h]
  try exact ⟨rfl, rfl, rfl, rfl⟩
 ·obtain ⟨k, o, D⟩ := K4c h
  rw [K71 h D]
  obtain ⟨i, hi, hA, hk⟩ := K4k D.ok
  have hrl := D.regs
  have hsl := D.slots
  have hnl := D.nodes
  obtain ⟨r, hr⟩ := Kb (show i < s.Regs.length by omega)
  have hp0 : (0 : Int) ≤ (k : Int) := by omega
  have hp1 : (k : Int) < l.length := by have := D.lt; omega
  have hi0 : (0 : Int) ≤ (i : Int) := by omega
  have hi1 : (i : Int) < s.Regs.length := by omega
  have hz : zAt s.Regs (i : Int) = r := K2b hr
  simp only [go_sem, D.pc, K4 D.op, hp0, hp1]
  rcases hk with ⟨hK, j, m, hj, hm, hB, hC⟩ | ⟨hK, j, hj, hB⟩ | ⟨hK, hB⟩ | ⟨hK, j, hj, hB⟩ | ⟨hK, j, hj, hB⟩ | hK
  ·obtain ⟨rj, hrj⟩ := Kb (show j < s.Regs.length by omega)
   obtain ⟨rm, hrm⟩ := Kb (show m < s.Regs.length by omega)
   have hj0 : (0 : Int) ≤ (j : Int) := by omega
   have hj1 : (j : Int) < s.Regs.length := by omega
   have hm0 : (0 : Int) ≤ (m : Int) := by omega
   have hm1 : (m : Int) < s.Regs.length := by omega
   simp only [go_sem, hK, hA, hB, hC, hi0, hi1, hj0, hj1, hm0, hm1, K4 hrj, K4 hrm, K4 hr, Int.reduceEq, c1000]
   simp [doOp, hK, hA, hB, hC, pcTo, D.pc, K2b hrj, K2b hrm, encI, List.map_set]
  ·obtain ⟨nj, hnj⟩ := Kb (show j < s.Nodes.length by omega)
   have hj0 : (0 : Int) ≤ (j : Int) := by omega
   have hj1 : (j : Int) < s.Nodes.length := by omega
   simp only [go_sem, hK, hA, hB, hi0, hi1, hj0, hj1, K4 hnj, K4 hr, Int.reduceEq]
   simp [doOp, hK, hA, hB, pcTo, D.pc, hz, encI, List.map_set]
  ·simp only [go_sem, hK, hA, hi0, hi1, K4 hr, Int.reduceEq, c2]
   exact ⟨fun h7 => by simp [doOp, hK, hA, pcTo, D.pc, hz, h7], fun h7 => by simp [doOp, hK, hA, pcTo, D.pc, hz, h7]⟩
  ·obtain ⟨sj, hsj⟩ := Kb (show j < s.Slots.length by omega)
   have hj0 : (0 : Int) ≤ (j : Int) := by omega
   have hj1 : (j : Int) < s.Slots.length := by omega
   simp only [go_sem, hK, hA, hB, hi0, hi1, hj0, hj1, K4 hsj, K4 hr, Int.reduceEq]
   simp [doOp, hK, hA, hB, pcTo, D.pc, K2b hsj, encI, List.map_set]
  ·obtain ⟨sj, hsj⟩ := Kb (show j < s.Slots.length by omega)
   have hj0 : (0 : Int) ≤ (j : Int) := by omega
   have hj1 : (j : Int) < s.Slots.length := by omega
   simp only [go_sem, hK, hA, hB, hi0, hi1, hj0, hj1, K4 hsj, K4 hr, Int.reduceEq]
   simp [doOp, hK, hA, hB, pcTo, D.pc, hz, encI, List.map_set]
  ·have k5 : ¬ o.Kind = 5 := by omega
   have k6 : ¬ o.Kind = 6 := by omega
   have k7 : ¬ o.Kind = 7 := by omega
   have k8 : ¬ o.Kind = 8 := by omega
   have k9 : ¬ o.Kind = 9 := by omega
   simp only [go_sem, k5, k6, k7, k8, k9, hA, hi0, hi1, K4 hr]
   apply K0 (Cb5 999 v)
   simp only [go_sem]
   try intros
   apply K0 (Ckr 0 _)
   simp only [go_sem, hi0, hi1, K4 hr]
   try intros
   rw [clamp_eq]
   simp [doOp, k5, k6, k7, k8, k9, hA, pcTo, D.pc, encI, List.map_set]
end Go.Proofs.YtgkeplbnnjogiaaGreatR
namespace Go.Proofs.YtgkeplbnnjogiaaGreatR
open Go Go.RowKit Go.Proofs
open Nat (reduceEqDiff reduceLT reduceLeDiff reduceAdd reduceMul)
open List (reduceReplicate)
theorem K4y {l : List Int} {a b : Int} {i : Nat} {x : Int} (h : K21 l a b = true) (hx : a ≤ x ∧ x ≤ b) : K21 (l.set i x) a b = true := by
 refine List.all_eq_true.2 fun y hy => ?_
 rcases List.mem_or_eq_of_mem_set hy with hy | rfl
 ·exact List.all_eq_true.1 h y hy
 ·simpa using hx
theorem clamp_in (v : Int) : 0 ≤ clamp v ∧ clamp v ≤ 999 := by
 unfold clamp; repeat' split
 all_goals omega
theorem K5i {s : GState} (h0 : 0 ≤ s.Pc ∧ s.Pc ≤ 19) (h1 : s.Regs.length = 4) (h2 : s.Slots.length = 3) (h3 : s.Nodes.length = 4) (h4 : K21 s.Regs 0 999 = true) (h5 : K21 s.Slots 0 999 = true) (h6 : K21 s.Nodes 0 999 = true) : stOk s = true := by
 unfold stOk; simp [h0, h1, h2, h3, h4, h5, h6]
theorem K5p {s : GState} (h : stOk s = true) : (0 ≤ s.Pc ∧ s.Pc ≤ 19) ∧ s.Regs.length = 4 ∧ s.Slots.length = 3 ∧ s.Nodes.length = 4 ∧ K21 s.Regs 0 999 = true ∧ K21 s.Slots 0 999 = true ∧ K21 s.Nodes 0 999 = true := by
 simp only [stOk, Bool.and_eq_true, decide_eq_true_eq] at h
 exact ⟨h.1, h.2.1.1, h.2.1.2.1, h.2.1.2.2, h.2.2.1, h.2.2.2.1, h.2.2.2.2⟩
theorem doOp_ok {l : List GOp} {s : GState} {k : Nat} {o : GOp} {v : Int} (hs : stOk s = true) (D : Doing l s k o) : stOk (doOp o s v) = true ∧ s.Pc < (doOp o s v).Pc := by
 obtain ⟨h0, h1, h2, h3, h4, h5, h6⟩ := K5p hs
 obtain ⟨i, hi, hA, hk⟩ := K4k D.ok
 have hpc := D.pc
 have hlt := D.lt
 have hfw := D.few
 have hp : pcTo s.Pc = s.Pc + 1 := wI (by omega) (by omega)
 obtain ⟨r, hr⟩ := Kb (show i < s.Regs.length by omega)
 have hz : zAt s.Regs o.A = r := by rw [hA]; exact K2b hr
 have hri := D.rin i r hr
 rcases hk with ⟨hK, j, m, hj, hm, hB, hC⟩ | ⟨hK, j, hj, hB⟩ | ⟨hK, hB⟩ | ⟨hK, j, hj, hB⟩ | ⟨hK, j, hj, hB⟩ | hK
 ·obtain ⟨rj, hrj⟩ := Kb (show j < s.Regs.length by omega)
  obtain ⟨rm, hrm⟩ := Kb (show m < s.Regs.length by omega)
  have e1 : zAt s.Regs o.B = rj := by rw [hB]; exact K2b hrj
  have e2 : zAt s.Regs o.C = rm := by rw [hC]; exact K2b hrm
  have b1 := D.rin j rj hrj
  have b2 := D.rin m rm hrm
  have e3 : IntKind.i64.wrap (rj + rm) = rj + rm := wI (by omega) (by omega)
  simp only [doOp, hK, if_true, hp, e1, e2, e3]
  refine ⟨K5i (by simp only; omega) (by simp [h1]) h2 h3 (K4y h4 ?_) h5 h6, by omega⟩
  rw [Int.tmod_eq_emod_of_nonneg (by omega)]
  omega
 ·simp only [doOp, hK, Int.reduceEq, if_false, if_true, hp, hz]
  exact ⟨K5i (by simp only; omega) h1 h2 (by simp [h3]) h4 h5 (K4y h6 hri), by omega⟩
 ·have e4 : IntKind.i64.wrap (s.Pc + 1 + o.B) = s.Pc + 1 + o.B := wI (by omega) (by omega)
  simp only [doOp, hK, Int.reduceEq, if_false, if_true, hp, hz, e4]
  refine ⟨K5i (by simp only; split <;> omega) h1 h2 h3 h4 h5 h6, by split <;> omega⟩
 ·obtain ⟨sj, hsj⟩ := Kb (show j < s.Slots.length by omega)
  have e1 : zAt s.Slots o.B = sj := by rw [hB]; exact K2b hsj
  simp only [doOp, hK, Int.reduceEq, if_false, if_true, hp, e1]
  exact ⟨K5i (by simp only; omega) (by simp [h1]) h2 h3 (K4y h4 (D.sin j sj hsj)) h5 h6, by omega⟩
 ·simp only [doOp, hK, Int.reduceEq, if_false, if_true, hp, hz]
  exact ⟨K5i (by simp only; omega) h1 (by simp [h2]) h3 h4 (K4y h5 hri) h6, by omega⟩
 ·have k5 : ¬ o.Kind = 5 := by omega
  have k6 : ¬ o.Kind = 6 := by omega
  have k7 : ¬ o.Kind = 7 := by omega
  have k8 : ¬ o.Kind = 8 := by omega
  have k9 : ¬ o.Kind = 9 := by omega
  simp only [doOp, k5, k6, k7, k8, k9, if_false, hp]
  exact ⟨K5i (by simp only; omega) (by simp [h1]) h2 h3 (K4y h4 (clamp_in v)) h5 h6, by omega⟩
theorem K4z {l : List GOp} {s : GState} {v : Int} (hs : stOk s = true) : stOk (K13 l s v) = true := by
 cases h : K3s l s
 ·rw [Kam h]; exact hs
 ·obtain ⟨k, o, D⟩ := K4c h
  rw [K71 h D]; exact (doOp_ok hs D).1
theorem stepTo_lt {l : List GOp} {s : GState} {v : Int} (hl : K1g l = true) (hs : stOk s = true) (hp : s.Pc < l.length) : s.Pc < (K13 l s v).Pc := by
 have h : K3s l s = true := by unfold K3s; rw [hl, hs, decide_eq_true hp]; rfl
 obtain ⟨k, o, D⟩ := K4c h
 rw [K71 h D]; exact (doOp_ok hs D).2
theorem K69 {s : GState} (h : stOk s = true) : s.size = 11 := by
 obtain ⟨h0, h1, h2, h3, -⟩ := K5p h
 simp only [GState.size]; omega
theorem K9f : stOk st0 = true := by decide
theorem K8p (l : List GOp) (s : GState) : 0 ≤ (Kh l s).Kind := by
 unfold Kh
 split
 ·rename_i h
  have := h.2
  simp only [asks, decide_eq_true_eq] at this
  simp only
  omega
 ·simp
def rP (p : GPlayed) : RV := ⟨true, [(false, tI p.Code), (false, tI p.At), (false, tI p.State.Pc), (false, .sl 1 (p.State.Regs.map encI)), (false, .sl 1 (p.State.Slots.map encI)), (false, .sl 1 (p.State.Nodes.map encI))]⟩
def rT (tr : List GState) : RV := ⟨false, [(false, .sl 4 (tr.map GState.enc))]⟩
attribute [go_sem] rP rT
def Mgx : MC :=
(Zs [.box 3 0 (.s 1), .mv 4 cF] [0,3] (Zs [fS 5 3 0, lF 6 1 5, mS 7 0, nS 8 7, bS 9 .geq 6 8, mS 4 9] [4] .ret))
theorem Clf (l : List GOp) (s : GState) : Ctr Tryz.prog Ng6 [aL 4 (l.map GOp.enc), aS s.enc] [rB (decide (s.Pc ≥ l.length))] := by
 refine cA Mgx 1 10 [(.tmp 4, [false])] Tryz.func238 rfl rfl ?_; unfold Mgx
 intro hb
 clear hb
 simp only [go_sem]
def Mgy : MC :=
(Zs [.box 3 0 (.s 1), .mv 4 cF] [0,3] (Zs [fS 5 3 0, lF 6 1 5, mS 7 0, nS 8 7, bS 9 .geq 6 8, mS 4 9] [4] .ret))
theorem Clg (l : List GOp) (s : GState) : Ctr Tryz.prog Ng4 [aL 4 (l.map GOp.enc), aS s.enc] [rB (decide (s.Pc ≥ l.length))] := by
 refine cA Mgy 1 10 [(.tmp 4, [false])] Tryz.func226 rfl rfl ?_; unfold Mgy
 intro hb
 clear hb
 simp only [go_sem]
end Go.Proofs.YtgkeplbnnjogiaaGreatR
namespace Go.Proofs.YtgkeplbnnjogiaaGreatR
open Go Go.RowKit Go.Proofs
open Nat (reduceEqDiff reduceLT reduceLeDiff reduceAdd reduceMul)
open List (reduceReplicate)
def K40 (v : GVersion) : Bool := K36 v.Address && (decide (0 ≤ v.From ∧ v.From ≤ 1000) && K1e v.Resource)
def K5u (l : List GVersion) : Bool := K1q 12 K40 l
def Me6 : MC := Y31 1000
theorem Ckt (c : GVersion) : Ctr Tryz.prog Ndd [aS c.enc] [rB (!K40 c)] := by
 refine cA Me6 1 19 [(.tmp 2, [false])] Tryz.func349 rfl rfl ?_; unfold Me6
 intro hb
 clear hb
 simp only [go_sem]
 repeat' first
  | (refine And.intro ?_ ?_ <;> intro h)
  | (apply K0 (C2w _); simp only [go_sem])
  | (apply K0 (C48 _); simp only [go_sem])
  | (apply K0 (C1 _ _ _); simp only [go_sem])
 all_goals (simp_all [K40]; try omega)
def Mgz : MC :=
(Zs [.mv 2 cF] [0] (.seq (.reg [Za (mS 3 0), Za (nS 4 3), Za (bC 5 .leq 4 12), Za (mS 6 5), Zb 6 true (mS 7 0), Zb 6 true (.call 8 [] (.f Nh) [.s 7, .f Ndd]), Zb 6 true (.un 9 .not (.s 8)), Za (.pick 10 (.s 6) (.s 9) cF), Za (mS 2 10)] [2])
.ret))
theorem Clh (l : List GVersion) : Ctr Tryz.prog Ng8 [aL 9 (l.map GVersion.enc)] [rB (K5u l)] := by
 refine cA Mgz 0 11 [(.tmp 2, [false])] Tryz.func254 rfl rfl ?_; unfold Mgz
 intro hb
 clear hb
 simp only [go_sem]
 refine ⟨fun h => ?_, fun h => K6a (by omega)⟩
 refine K0 (C5w l _ [] (fun o => !K40 o) fun o _ => Ckt o) ?_
 simp only [go_sem]
 exact K5d (by omega)
def Mh0 : MC :=
(Zs [.mv 2 cF] [0] (.seq (Zs [.mv 3 (ci 0)] [0,3] (.block 0 (.loop ([0,3], []) (.seq (Zs [mS 4 3, mS 5 0, nS 6 5, bS 7 .lss 4 6] [0,3,7] (cX 7 0))
(.seq (.block 1 (.seq (.reg [Za (mS 10 0), Za (mS 11 3), Za (xS 12 9 10 11), Za (fS 13 12 0), Za (lT 14 3 13), Za (.call 15 [] (.f N1z) [.s 14]), Za (.un 16 .not (.s 15)), Za (mS 17 16), Zb 17 false (mS 18 0), Zb 17 false (mS 19 3), Zb 17 false (xS 20 9 18 19), Zb 17 false (fS 21 20 3), Zb 17 false (lF 22 1 21), Zb 17 false (.call 23 [] (.f N0) [.s 22, .c (.int .i64 0), .c (.int .i64 1000)]), Zb 17 false (.un 24 .not (.s 23)), Za (.pick 25 (.s 17) cT (.s 24)), Za (mS 26 25), Zb 26 false (mS 27 0), Zb 26 false (mS 28 3), Zb 26 false (xS 29 9 27 28), Zb 26 false (fS 30 29 4), Zb 26 false (lT 31 5 30), Zb 26 false (.call 32 [] (.f N2k) [.s 31]), Zb 26 false (.un 33 .not (.s 32)), Za (.pick 34 (.s 26) cT (.s 33))] [0,3,34])
(.cond (.s 34) (Zs [.mv 2 cF] [2] .ret) .skip)))
(pr [mS 8 3, bC 9 .add 8 1, mS 3 9] [0,3]))))))
(Zs [mS 35 0, nS 36 35, bC 37 .leq 36 12, mS 2 37] [2] .ret)))
theorem Cli (l : List GVersion) : Ctr Tryz.prog Nga [aL 9 (l.map GVersion.enc)] [rB (K5u l)] := by
 refine cA Mh0 0 38 [(.tmp 2, [false])] Tryz.func339 rfl rfl ?_; unfold Mh0
 intro hb
 simp only [bdA, bdL, bdT, Kc, roomB, and_true, List.length_map] at hb
 have hl := hb.1
 clear hb
 simp only [go_sem]
 refine K5 l (fun k => [(3, vI k)]) (fun k => []) (fun k => (l.take k).all K40 = true) hl ?_
 simp only [go_sem]
 refine ⟨?_, by simp, ?_, ?_⟩
 ·simp only [go_sem]
 ·intro k x hx hT h0 h1 hw
  have hy : K40 x = true → (l.take (k + 1)).all K40 = true := fun hn => K30 hx hT hn
  have hn : K40 x = false → false = K5u l := fun hn => K46 hx hn
  clear hT
  simp only [go_sem, K4 hx, h0, h1]
  repeat' first
   | (refine And.intro ?_ ?_ <;> intro h)
   | (apply K0 (C2x _); simp only [go_sem, K4 hx, h0, h1])
   | (apply K0 (C49 _); simp only [go_sem, hw])
   | (apply K0 (C4 _ _ _); simp only [go_sem, K4 hx, h0, h1])
  all_goals first | (apply hy; clear hy hn hx hw; simp_all [K40]; done) | (apply hn; clear hy hn hx hw; simp_all [K40]; done) | (apply hn; clear hy hn hx hw; unfold K40; rw [decide_eq_false (by assumption)]; simp; done)
 ·intro h
  simp only [go_sem]
  rw [List.take_length] at h
  exact K8d.trans (K58 h)
end Go.Proofs.YtgkeplbnnjogiaaGreatR
namespace Go.Proofs.YtgkeplbnnjogiaaGreatR
open Go Go.RowKit Go.Proofs
open Nat (reduceEqDiff reduceLT reduceLeDiff reduceAdd reduceMul)
open List (reduceReplicate)
def K29 (v : GVisit) : Bool := K5u v.Site && (decide (0 ≤ v.Tick ∧ v.Tick ≤ 1000) && (decide (0 ≤ v.Seed ∧ v.Seed ≤ 9999) && (decide (v.Inputs.length ≤ 8) && K21 v.Inputs 0 999)))
def Mfm : MC :=
(Zs [.box 1 0 (.s 0), .mv 2 cF] [1] (.seq (.reg [Za (fS 3 1 0), Za (lF 4 1 3), Za (.call 5 [] (.f Ng8) [.s 4]), Za (mS 6 5), Zb 6 true (fS 7 1 1), Zb 6 true (lF 8 1 7), Zb 6 true (.call 9 [] (.f N3) [.s 8, .c (.int .i64 0), .c (.int .i64 1000)]), Za (.pick 10 (.s 6) (.s 9) cF), Za (mS 11 10), Zb 11 true (fS 12 1 2), Zb 11 true (lF 13 1 12), Zb 11 true (.call 14 [] (.f N3) [.s 13, .c (.int .i64 0), .c (.int .i64 9999)]), Za (.pick 15 (.s 11) (.s 14) cF), Za (mS 16 15), Zb 16 true (fS 17 1 3), Zb 16 true (lF 18 1 17), Zb 16 true (nS 19 18), Zb 16 true (bC 20 .leq 19 8), Za (.pick 21 (.s 16) (.s 20) cF), Za (mS 22 21), Zb 22 true (fS 23 1 3), Zb 22 true (lF 24 1 23), Zb 22 true (.call 25 [] (.f N2o) [.s 24, .c (.int .i64 0), .c (.int .i64 999)]), Za (.pick 26 (.s 22) (.s 25) cF), Za (mS 2 26)] [2])
.ret))
theorem C40 (v : GVisit) : Ctr Tryz.prog N2l [aS v.enc] [rB (K29 v)] := by
 refine cA Mfm 1 27 [(.tmp 2, [false])] Tryz.func132 rfl rfl ?_; unfold Mfm
 intro hb
 clear hb
 simp only [go_sem]
 repeat' first
  | (refine And.intro ?_ ?_ <;> intro h)
  | (apply K0 (Clh _); simp only [go_sem])
  | (apply K0 (C1 _ _ _); simp only [go_sem])
  | (apply K0 (C5j _ _ _); simp only [go_sem])
 all_goals (unfold K29; by_cases c1 : v.Inputs.length ≤ 8 <;> simp_all <;> omega)
def Mfn : MC :=
(Zs [.box 1 0 (.s 0), .mv 2 cF] [1] (.seq (.reg [Za (fS 3 1 0), Za (lF 4 1 3), Za (.call 5 [] (.f Nga) [.s 4]), Za (mS 6 5), Zb 6 true (fS 7 1 1), Zb 6 true (lF 8 1 7), Zb 6 true (.call 9 [] (.f N0) [.s 8, .c (.int .i64 0), .c (.int .i64 1000)]), Za (.pick 10 (.s 6) (.s 9) cF), Za (mS 11 10), Zb 11 true (fS 12 1 2), Zb 11 true (lF 13 1 12), Zb 11 true (.call 14 [] (.f N0) [.s 13, .c (.int .i64 0), .c (.int .i64 9999)]), Za (.pick 15 (.s 11) (.s 14) cF), Za (mS 16 15), Zb 16 true (fS 17 1 3), Zb 16 true (lF 18 1 17), Zb 16 true (nS 19 18), Zb 16 true (bC 20 .leq 19 8), Za (.pick 21 (.s 16) (.s 20) cF), Za (mS 22 21), Zb 22 true (fS 23 1 3), Zb 22 true (lF 24 1 23), Zb 22 true (fS 25 1 3), Zb 22 true (lF 26 1 25), Zb 22 true (nS 27 26), Zb 22 true (.call 28 [] (.f N30) [.s 24, .s 27]), Za (.pick 29 (.s 22) (.s 28) cF), Za (mS 2 29)] [2])
.ret))
theorem C41 (v : GVisit) : Ctr Tryz.prog N3u [aS v.enc] [rB (K29 v)] := by
 refine cA Mfn 1 30 [(.tmp 2, [false])] Tryz.func246 rfl rfl ?_; unfold Mfn
 intro hb
 clear hb
 simp only [go_sem]
 repeat' first
  | (refine And.intro ?_ ?_ <;> intro h)
  | (apply K0 (Cli _); simp only [go_sem])
  | (apply K0 (C4 _ _ _); simp only [go_sem])
  | (apply K0 (C4o v.Inputs v.Inputs.length); simp only [go_sem])
 all_goals (unfold K29; by_cases c1 : v.Inputs.length ≤ 8 <;> simp_all <;> omega)
def sumI (l : List Int) : Int := l.foldl (· + ·) 0
theorem K7t {l : List Int} {k : Nat} {x : Int} (h : l[k]? = some x) : sumI (l.take (k + 1)) = sumI (l.take k) + x := by
 rw [Ke h, sumI, List.foldl_append]; rfl
theorem K6s {l : List Int} (h : K21 l 0 255 = true) : ∀ k : Nat, 0 ≤ sumI (l.take k) ∧ sumI (l.take k) ≤ 255 * (k : Int)
 | 0 => by simp [sumI]
 | k + 1 => by
  have ih := K6s h k
  by_cases hk : k < l.length
  ·obtain ⟨x, hx⟩ := Kb hk
   rw [K7t hx]
   have := K4p h k x hx
   omega
  ·rw [List.take_of_length_le (by omega)] at ih ⊢
   omega
def K4f (r : GResource) : Bool := K1e r && decide (r.Kind = 1 ∨ r.Kind = 2)
def K4d (r : GResource) : Int := if K4f r then (if (sumI r.Body).tmod 1000 < 999 then (sumI r.Body).tmod 1000 + 1 else (sumI r.Body).tmod 1000) else 0
theorem Ka1 {r : GResource} (h : K4f r = true) : r.Body.length ≤ 6 ∧ K21 r.Body 0 255 = true ∧ (r.Kind = 1 ∨ r.Kind = 2) := by
 simp only [K4f, Bool.and_eq_true, decide_eq_true_eq] at h
 obtain ⟨h1, h2⟩ := h
 unfold K1e at h1
 rw [if_pos h2] at h1
 simp only [Bool.and_eq_true, decide_eq_true_eq] at h1
 exact ⟨h1.1, h1.2.1, h2⟩
theorem tmod_step {s x : Int} (hs : 0 ≤ s) (hx : 0 ≤ x) : (s.tmod 1000 + x).tmod 1000 = (s + x).tmod 1000 := by
 rw [Int.tmod_eq_emod_of_nonneg hs, Int.tmod_eq_emod_of_nonneg (by omega), Int.tmod_eq_emod_of_nonneg (by omega)]
 omega
theorem Kae {s : Int} (hs : 0 ≤ s) : 0 ≤ s.tmod 1000 ∧ s.tmod 1000 ≤ 999 := by
 rw [Int.tmod_eq_emod_of_nonneg hs]; omega
def Mfo : MC :=
(Zs [.mv 2 cF] [0] (.seq (.reg [Za (mS 3 0), Za (bC 4 .eql 3 1), Za (mS 5 4), Zb 5 false (mS 6 0), Zb 5 false (bC 7 .eql 6 2), Za (.pick 8 (.s 5) cT (.s 7)), Za (mS 2 8)] [2])
.ret))
theorem Cfp (k : Int) : Ctr Tryz.prog Nek [aI k] [rB (decide (k = 1 ∨ k = 2))] := by
 refine cA Mfo 0 9 [(.tmp 2, [false])] Tryz.func336 rfl rfl ?_; unfold Mfo
 intro hb
 clear hb
 simp only [go_sem]
 refine ⟨fun h => by simp [h], fun h => ?_⟩
 rw [Bool.eq_iff_iff]; simp [h]
def M4h : MC :=
(Zs [.box 1 0 (.s 0), .mv 2 (ci 0)] [1] (.seq (.seq (.reg [Za (lT 6 5 1), Za (.call 7 [] (.f N46) [.s 6]), Za (.un 8 .not (.s 7)), Za (mS 9 8), Zb 9 false (fS 10 1 0), Zb 9 false (lF 11 1 10), Zb 9 false (.call 12 [] (.f Nek) [.s 11]), Zb 9 false (.un 13 .not (.s 12)), Za (.pick 14 (.s 9) cT (.s 13))] [1,14])
(.cond (.s 14) (Zs [.mv 2 (ci 0)] [2] .ret) .skip))
(Zs [.mv 3 (ci 0)] [1,3] (.seq (Zs [fS 15 1 1, lF 16 1 15, nS 17 16, .mv 18 (ci 0)] [3,16,17,18] (.block 0 (.loop ([3,16,17,18], [0]) (Zs [bS 19 .lss 18 17] [3,16,17,18,19] (.seq (cX 19 0)
(.seq (.block 1 (Zs [xS 20 1 16 18, lF 21 1 20, mS 5 21] [3,5,16,17,18] (pr [mS 22 3, mS 23 5, bS 24 .add 22 23, mS 3 24] [3,16,17,18])))
(pr [bC 25 .add 18 1, mS 18 25] [3,16,17,18])))))))
(Zs [mS 26 3, bC 27 .rem 26 1000, mS 3 27] [3] (.seq (Zs [mS 28 3, bC 29 .lss 28 999] [3,29] (.cond (.s 29) (pr [mS 30 3, bC 31 .add 30 1, mS 3 31] [3]) .skip))
(Zs [mS 32 3, mS 2 32] [2] .ret)))))))
theorem Ced (r : GResource) : Ctr Tryz.prog N4e [aS r.enc] [rI (K4d r)] := by
 refine cA M4h 1 33 [(.tmp 2, [false])] Tryz.func241 rfl rfl ?_; unfold M4h
 intro hb
 clear hb
 simp only [go_sem]
 apply K0 (C48 r)
 simp only [go_sem]
 cases hv : K4f r
 ·have e0 : K4d r = 0 := by unfold K4d; rw [hv]; rfl
  rw [e0]
  refine ⟨fun h => rfl, fun h => ?_⟩
  have hk : decide (r.Kind = 1 ∨ r.Kind = 2) = false := by simp only [K4f, h, Bool.true_and] at hv; exact hv
  apply K0 (Cfp r.Kind)
  simp only [go_sem, hk, h]
 ·obtain ⟨h1, h2, h3⟩ := Ka1 hv
  have hres : K1e r = true := by simp only [K4f, Bool.and_eq_true] at hv; exact hv.1
  have hdec : decide (r.Kind = 1 ∨ r.Kind = 2) = true := decide_eq_true h3
  simp only [go_sem, hres]
  apply K0 (Cfp r.Kind)
  simp only [go_sem, hdec]
  refine K5 r.Body (fun k => [(3, vI (sumI (r.Body.take k))), (18, vI k)]) (fun k => []) (fun _ => True) (by simp only [roomB]; omega) ?_
  simp only [go_sem]
  refine ⟨?_, trivial, ?_, ?_⟩
  ·simp only [go_sem, List.take_zero]
   try rfl
  ·intro k x hx _ h0 h1 hw
   have hk := K6s h2 k
   have hxi := K4p h2 k x hx
   have hkl := Km hx
   have hws : IntKind.i64.wrap (sumI (r.Body.take k) + x) = sumI (r.Body.take k) + x := wI (by omega) (by omega)
   simp only [go_sem, K4 hx, h0, h1, hw, hws, K7t hx]
   try trivial
  ·intro _
   have hk := K6s h2 r.Body.length
   rw [List.take_length] at hk
   have hk2 := Kae hk.1
   have hws : IntKind.i64.wrap ((sumI r.Body).tmod 1000 + 1) = (sumI r.Body).tmod 1000 + 1 := wI (by omega) (by omega)
   simp only [go_sem, List.take_length, c1000, hws]
   have e1 : K4d r = if (sumI r.Body).tmod 1000 < 999 then (sumI r.Body).tmod 1000 + 1 else (sumI r.Body).tmod 1000 := by unfold K4d; rw [hv]; rfl
   rw [e1]
   refine ⟨fun h => by rw [if_pos h], fun h => by rw [if_neg h]⟩
def M4i : MC :=
(Zs [.box 1 0 (.s 0), .mv 2 (ci 0)] [1] (.seq (.seq (.reg [Za (lT 5 5 1), Za (.call 6 [] (.f N2k) [.s 5]), Za (.un 7 .not (.s 6)), Za (mS 8 7), Zb 8 false (fS 9 1 0), Zb 8 false (lF 10 1 9), Zb 8 false (bC 11 .gtr 10 2), Za (.pick 12 (.s 8) cT (.s 11))] [1,12])
(.cond (.s 12) (Zs [.mv 2 (ci 0)] [2] .ret) .skip))
(Zs [.mv 3 (ci 0)] [1,3] (.seq (Zs [.mv 4 (ci 0)] [1,3,4] (.block 0 (.loop ([1,3,4], []) (.seq (Zs [mS 13 4, fS 14 1 1, lF 15 1 14, nS 16 15, bS 17 .lss 13 16] [1,3,4,17] (cX 17 0))
(.seq (.block 1 (pr [mS 20 3, fS 21 1 1, lF 22 1 21, mS 23 4, xS 24 1 22 23, lF 25 1 24, bS 26 .add 20 25, bC 27 .rem 26 1000, mS 3 27] [1,3,4]))
(pr [mS 18 4, bC 19 .add 18 1, mS 4 19] [1,3,4]))))))
(Zs [mS 28 3, bC 29 .add 28 1, .call 30 [] (.f N59) [.c (.int .i64 999), .s 29], mS 2 30] [2] .ret)))))
theorem Cee (r : GResource) : Ctr Tryz.prog N4d [aS r.enc] [rI (K4d r)] := by
 refine cA M4i 1 31 [(.tmp 2, [false])] Tryz.func229 rfl rfl ?_; unfold M4i
 intro hb
 clear hb
 simp only [go_sem]
 apply K0 (C49 r)
 simp only [go_sem]
 cases hv : K4f r
 ·have e0 : K4d r = 0 := by unfold K4d; rw [hv]; rfl
  rw [e0]
  refine ⟨fun h => rfl, fun h => ⟨fun _ => rfl, fun hk => ?_⟩⟩
  have hk2 : ¬ (r.Kind = 1 ∨ r.Kind = 2) := by simpa [K4f, h] using hv
  simp only [K1e, if_neg hk2] at h
  split at h <;> first | omega | (split at h <;> first | omega | cases h)
 ·obtain ⟨h1, h2, h3⟩ := Ka1 hv
  have hres : K1e r = true := by simp only [K4f, Bool.and_eq_true] at hv; exact hv.1
  have hkd : ¬ r.Kind > 2 := by omega
  simp only [go_sem, hres, hkd]
  refine K5 r.Body (fun k => [(3, vI ((sumI (r.Body.take k)).tmod 1000)), (4, vI k)]) (fun k => []) (fun _ => True) (by simp only [roomB]; omega) ?_
  simp only [go_sem]
  refine ⟨?_, trivial, ?_, ?_⟩
  ·simp only [go_sem, List.take_zero]
   try rfl
  ·intro k x hx _ h0 h1 hw
   have hk := K6s h2 k
   have hxi := K4p h2 k x hx
   have hk2 := Kae hk.1
   have hws : IntKind.i64.wrap ((sumI (r.Body.take k)).tmod 1000 + x) = (sumI (r.Body.take k)).tmod 1000 + x := wI (by omega) (by omega)
   simp only [go_sem, K4 hx, h0, h1, hw, hws, K7t hx, c1000, tmod_step hk.1 hxi.1]
   try trivial
  ·intro _
   have hk := K6s h2 r.Body.length
   rw [List.take_length] at hk
   have hk2 := Kae hk.1
   have hws : IntKind.i64.wrap ((sumI r.Body).tmod 1000 + 1) = (sumI r.Body).tmod 1000 + 1 := wI (by omega) (by omega)
   simp only [go_sem, List.take_length, hws]
   apply K0 (Cb5 999 _)
   simp only [go_sem]
   have e1 : K4d r = if (sumI r.Body).tmod 1000 < 999 then (sumI r.Body).tmod 1000 + 1 else (sumI r.Body).tmod 1000 := by unfold K4d; rw [hv]; rfl
   rw [e1]
   repeat' split
   all_goals omega
def mod1000 (v : Int) : Int := (IntKind.i64.wrap (v.tmod 1000 + 1000)).tmod 1000
theorem Cl6 (v : Int) : Ctr Tryz.prog N3w [aI v, aI 1000] [rI (mod1000 v)] := by
 refine cA M3z 0 15 [(.tmp 4, [false])] Tryz.func387 rfl rfl ?_; unfold M3z
 intro hb
 clear hb
 simp only [go_sem]
 apply K0 (C1 _ _ _)
 simp only [go_sem, c1000]
 refine And.intro ?_ ?_ <;> intro h
 ·exact absurd (by decide) h
 ·rfl
theorem Cl7 (v : Int) : Ctr Tryz.prog N3x [aI v, aI 1000] [rI (mod1000 v)] := by
 refine cA M3y 0 15 [(.tmp 4, [false])] Tryz.func390 rfl rfl ?_; unfold M3y
 intro hb
 clear hb
 simp only [go_sem]
 apply K0 (C4 _ _ _)
 simp only [go_sem, c1000]
 refine And.intro ?_ ?_ <;> intro h
 ·exact absurd (by decide) h
 ·rfl
def keyOk (k : Int) : Bool := decide (1 ≤ k ∧ k ≤ 2147483646)
def May : MC := Y30 N3 2147483646
theorem Cj8 (k : Int) : Ctr Tryz.prog N9l [aI k] [rB (keyOk k)] := by
 refine cA May 0 5 [(.tmp 2, [false])] Tryz.func261 rfl rfl ?_; unfold May
 intro hb
 clear hb
 simp only [go_sem]
 apply K0 (C1 _ _ _)
 simp only [go_sem]
 rfl
def Maz : MC := Y30 N0 2147483646
theorem Cj9 (k : Int) : Ctr Tryz.prog N9j [aI k] [rB (keyOk k)] := by
 refine cA Maz 0 5 [(.tmp 2, [false])] Tryz.func252 rfl rfl ?_; unfold Maz
 intro hb
 clear hb
 simp only [go_sem]
 apply K0 (C4 _ _ _)
 simp only [go_sem]
 rfl
def Mcr : MC :=
(Zs [.mv 4 (ci 0)] [0,1] (Zs [mS 6 0, .lit 7 0 1 8 [.s 6], mS 8 1, .app 9 0 1 8 (.s 7) (.s 8), mS 5 9] [0,5] (Zs [mS 10 5, mS 11 0, .lit 12 1 1 8 [.s 11], .app 13 0 1 8 (.s 10) (.s 12), .call 14 [] (.f N1o) [.s 13], mS 4 14] [4] .ret)))
theorem Ck6 (k : Int) (l : List Int) (hl : l.length ≤ 1073741824) : Ctr Tryz.prog Nbq [aI k, aL 1 (l.map encI)] [rI (hashL (k :: (l ++ [k])))] := by
 refine cA Mcr 2 15 [(.tmp 4, [false])] Tryz.func262 rfl rfl ?_; unfold Mcr
 intro hb
 clear hb
 have ha : 1 + l.length = l.length + 1 := Nat.add_comm _ _
 have e : ([T.sc (Value.int IntKind.i64 k)] :: List.map encI l ++ [[T.sc (Value.int IntKind.i64 k)]]) = (k :: (l ++ [k])).map encI := by simp [encI]
 simp only [go_sem, ↓Kk (f := encI) (fun _ => rfl) l, ha, List.length_append, List.length_cons, List.length_map, List.length_nil, Nat.zero_add, e]
 refine ⟨by simp only [roomB]; omega, by simp only [roomB]; omega, by simp only [roomB]; omega, by simp only [roomB]; omega, ?_⟩
 rw [show [T.sc (Value.int IntKind.i64 k)] :: List.map encI (l ++ [k]) = (k :: (l ++ [k])).map encI from rfl]
 apply K0 (C2e (k :: (l ++ [k])))
 simp only [go_sem]
def Mcs : MC :=
(Zs [.mv 4 (ci 0)] [0,1] (Zs [mS 5 0, .lit 6 0 1 8 [.s 5], mS 7 1, .app 8 0 1 8 (.s 6) (.s 7), mS 9 0, .lit 10 1 1 8 [.s 9], .app 11 0 1 8 (.s 8) (.s 10), .call 12 [] (.f N1n) [.s 11], mS 4 12] [4] .ret))
theorem Ck7 (k : Int) (l : List Int) (hl : l.length ≤ 1073741824) : Ctr Tryz.prog Nbp [aI k, aL 1 (l.map encI)] [rI (hashL (k :: (l ++ [k])))] := by
 refine cA Mcs 2 13 [(.tmp 4, [false])] Tryz.func253 rfl rfl ?_; unfold Mcs
 intro hb
 clear hb
 have ha : 1 + l.length = l.length + 1 := Nat.add_comm _ _
 have e : ([T.sc (Value.int IntKind.i64 k)] :: List.map encI l ++ [[T.sc (Value.int IntKind.i64 k)]]) = (k :: (l ++ [k])).map encI := by simp [encI]
 simp only [go_sem, ↓Kk (f := encI) (fun _ => rfl) l, ha, List.length_append, List.length_cons, List.length_map, List.length_nil, Nat.zero_add, e]
 refine ⟨by simp only [roomB]; omega, by simp only [roomB]; omega, by simp only [roomB]; omega, by simp only [roomB]; omega, ?_⟩
 rw [show [T.sc (Value.int IntKind.i64 k)] :: List.map encI (l ++ [k]) = (k :: (l ++ [k])).map encI from rfl]
 apply K0 (C2d (k :: (l ++ [k])))
 simp only [go_sem]
def K3h (k : Int) (s : GStatement) : GStatement := { s with Seal := if keyOk k then hashL [k, s.Witness, s.Digest, s.Tick, k] else 0 }
def Y36 (v0 : Nat) (v1 : Nat) : MC :=
(Zs [.box 3 0 (.s 1), .alloc 4 1 [pz, pz, pz, pz]] [0,3,4] (Zs [fS 5 3 3, .store 1 (.s 5) (ci 0)] [0,3,4] (.seq (Zs [mS 6 0, .call 7 [] (.f v0) [.s 6]] [0,3,4,7] (.cond (.s 7) (pr [mS 8 0, fS 9 3 0, lF 10 1 9, fS 11 3 1, lF 12 1 11, fS 13 3 2, lF 14 1 13, .lit 15 2 1 8 [.s 10, .s 12, .s 14], .call 16 [] (.f v1) [.s 8, .s 15], fS 17 3 3, sS 1 17 16] [3,4]) .skip))
(Zs [lT 18 4 3, sS 4 4 18] [4] .ret))))
attribute [go_sem] Y36
def M5u : MC := Y36 N9l Nbq
theorem Cfy (k : Int) (s : GStatement) : Ctr Tryz.prog N58 [aI k, aS s.enc] [rS (K3h k s).enc] := by
 refine cA M5u 3 19 [(.cell 4 true 4, [false, false, false, false])] Tryz.func135 rfl rfl ?_; unfold M5u
 intro hb
 clear hb
 simp only [go_sem]
 apply K0 (Cj8 k)
 simp only [go_sem]
 refine And.intro ?_ ?_ <;> intro h
 ·refine ⟨⟨by decide, by decide⟩, ?_⟩
  apply K0 (Ck6 k [s.Witness, s.Digest, s.Tick] (by simp))
  simp only [go_sem]
  intros
  have e : K3h k s = { s with Seal := hashL [k, s.Witness, s.Digest, s.Tick, k] } := by simp only [K3h, if_pos h]
  rw [e]
  simp
 ·have e : K3h k s = { s with Seal := 0 } := by rw [K3h, h, if_neg Bool.false_ne_true]
  rw [e]
  simp
def M5v : MC := Y36 N9j Nbp
theorem Cfz (k : Int) (s : GStatement) : Ctr Tryz.prog N57 [aI k, aS s.enc] [rS (K3h k s).enc] := by
 refine cA M5v 3 19 [(.cell 4 true 4, [false, false, false, false])] Tryz.func131 rfl rfl ?_; unfold M5v
 intro hb
 clear hb
 simp only [go_sem]
 apply K0 (Cj9 k)
 simp only [go_sem]
 refine And.intro ?_ ?_ <;> intro h
 ·refine ⟨⟨by decide, by decide⟩, ?_⟩
  apply K0 (Ck7 k [s.Witness, s.Digest, s.Tick] (by simp))
  simp only [go_sem]
  intros
  have e : K3h k s = { s with Seal := hashL [k, s.Witness, s.Digest, s.Tick, k] } := by simp only [K3h, if_pos h]
  rw [e]
  simp
 ·have e : K3h k s = { s with Seal := 0 } := by rw [K3h, h, if_neg Bool.false_ne_true]
  rw [e]
  simp
end Go.Proofs.YtgkeplbnnjogiaaGreatR
namespace Go.Proofs.YtgkeplbnnjogiaaGreatR
open Go Go.RowKit Go.Proofs
open Nat (reduceEqDiff reduceLT reduceLeDiff reduceAdd reduceMul)
open List (reduceReplicate)
def K11 (v : GVisit) (w : GWant) (n : Int) : Int := if K29 v = true ∧ 0 ≤ n ∧ n ≤ 100 then (
  if w.Kind = 1 then K4d (follow v.Site w.Address (IntKind.i64.wrap (v.Tick + n))).1
  else if w.Kind = 2 then (if IntKind.i64.wrap (v.Tick + n) < 999 then IntKind.i64.wrap (v.Tick + n) else 999)
  else if w.Kind = 3 then mod1000 (hashL [v.Seed, n])
  else if w.Kind = 4 then (if 0 < v.Inputs.length then zAt v.Inputs (n.tmod v.Inputs.length) else 0)
  else 0) else 0
def Mct : MC :=
(Zs [.box 3 0 (.s 0), .box 4 1 (.s 1), .mv 6 (ci 0)] [2,3,4] (.seq (.seq (.reg [Za (lT 9 4 3), Za (.call 10 [] (.f N2l) [.s 9]), Za (.un 11 .not (.s 10)), Za (mS 12 11), Zb 12 false (mS 13 2), Zb 12 false (.call 14 [] (.f N3) [.s 13, .c (.int .i64 0), .c (.int .i64 100)]), Zb 12 false (.un 15 .not (.s 14)), Za (.pick 16 (.s 12) cT (.s 15))] [2,3,4,16])
(.cond (.s 16) (Zs [.mv 6 (ci 0)] [6] .ret) .skip))
(.seq (Zs [fS 17 4 0, lF 18 1 17] [2,3,4,18] (.block 0 (Zs [bC 20 .eql 18 1, mS 19 20] [2,3,4,18,19] (.cond (.s 19) (Zs [fS 22 3 0, lF 23 1 22, fS 24 4 1, lT 25 3 24, fS 26 3 1, lF 27 1 26, mS 28 2, bS 29 .add 27 28, .call 30 [2, 3] (.f N5d) [.s 23, .s 25, .s 29], mS 21 30, .ext 31 (.s 21) 0, .ext 32 (.s 21) 1, .alloc 7 4 [pz, .emp 1, pz, pz, pz], sS 5 7 31, mS 8 32] [7] (Zs [lT 33 5 7, .call 34 [] (.f N4e) [.s 33], mS 6 34] [6] .ret)) (Zs [bC 36 .eql 18 2, mS 35 36] [2,3,18,35] (.cond (.s 35) (Zs [fS 37 3 1, lF 38 1 37, mS 39 2, bS 40 .add 38 39, .mm 41 false (ci 999) (.s 40), mS 6 41] [6] .ret) (Zs [bC 43 .eql 18 3, mS 42 43] [2,3,18,42] (.cond (.s 42) (Zs [fS 44 3 2, lF 45 1 44, mS 46 2, .lit 47 5 1 8 [.s 45, .s 46], .call 48 [] (.f N1o) [.s 47], .call 49 [] (.f N3w) [.s 48, .c (.int .i64 1000)], mS 6 49] [6] .ret) (Zs [bC 51 .eql 18 4, mS 50 51] [2,3,50] (.cond (.s 50) (Zs [fS 52 3 3, lF 53 1 52, nS 54 53, bC 55 .gtr 54 0] [2,3,55] (.cond (.s 55) (.seq (.dreg [Zc [58,59,60,61,62] (fS 56 3 3), Zd [58,59,60,61,62] [0] (lF 57 1 56), Zc [56,57,59,60,61] (mS 58 2), Zc [56,57,58] (fS 59 3 3), Zd [56,57,58] [3] (lF 60 1 59), Zd [56,57,58] [3,4] (nS 61 60), Zd [56,57] [2,3,4,5] (bS 62 .rem 58 61), Ze (.range 7) (xS 63 1 57 62), Ze (.range 8) (lF 64 1 63), Ze (.range 9) (mS 6 64)] [6])
.ret) .skip)) .skip))))))))))
(Zs [.mv 6 (ci 0)] [6] .ret))))
theorem Ck8 (v : GVisit) (w : GWant) (n : Nat) (hv : v.Site.length + (v.Site.map GVersion.size).sum ≤ 1073741824) : Ctr Tryz.prog Nbu [aS v.enc, aS w.enc, aI n] [rI (K11 v w n)] := by
 refine cA Mct 6 65 [(.tmp 6, [false])] Tryz.func405 rfl rfl ?_; unfold Mct
 intro hb
 clear hb
 simp only [go_sem]
 apply K0 (C40 v)
 simp only [go_sem]
 by_cases hc : K29 v = true ∧ 0 ≤ (n : Int) ∧ (n : Int) ≤ 100
 ·obtain ⟨c1, c2, c3⟩ := hc
  rw [K11, if_pos ⟨c1, c2, c3⟩]
  have hdec : decide ((0 : Int) ≤ (n : Int) ∧ (n : Int) ≤ 100) = true := decide_eq_true ⟨c2, c3⟩
  simp only [go_sem, c1]
  apply K0 (C1 (n : Int) 0 100)
  simp only [go_sem, hdec]
  refine ⟨fun k1 => ?_, fun k1 => ?_⟩
  ·rw [if_pos k1]
   apply K0 (Ce2 v.Site w.Address _ hv)
   simp only [go_sem]
   intros
   apply K0 (Ced _)
   simp only [go_sem]
  rw [if_neg k1]
  refine ⟨fun k2 => by rw [if_pos k2], fun k2 => ?_⟩
  rw [if_neg k2]
  refine ⟨fun k3 => ?_, fun k3 => ?_⟩
  ·rw [if_pos k3]
   refine ⟨⟨by decide, by decide⟩, ?_⟩
   apply K0 (C2e [v.Seed, (n : Int)])
   simp only [go_sem]
   try intros
   apply K0 (Cl6 _)
   simp only [go_sem]
  rw [if_neg k3]
  refine ⟨fun k4 => ?_, fun k4 => ?_⟩
  ·rw [if_pos k4]
   refine ⟨fun k5 => ?_, fun k5 => ?_⟩
   ·rw [if_pos (show 0 < v.Inputs.length by omega)]
    obtain ⟨x, hx⟩ := Kb (l := v.Inputs) (k := n % v.Inputs.length) (Nat.mod_lt _ (by omega))
    have hm : (n : Int).tmod (v.Inputs.length : Int) = ((n % v.Inputs.length : Nat) : Int) := (Int.ofNat_tmod n _).symm
    have hz := K2b hx
    have hz0 : ¬ (v.Inputs.length : Int) = 0 := by omega
    have hz1 : (v.Inputs.length : Int) ≠ 0 := by omega
    have hlt := Nat.mod_lt n (show 0 < v.Inputs.length by omega)
    rw [if_neg hz0, hm]
    simp only [go_sem]
    refine ⟨⟨by omega, by omega⟩, ?_⟩
    rw [hx, hz]
    simp only [go_sem]
   ·rw [if_neg (show ¬ 0 < v.Inputs.length by omega)]
  ·rw [if_neg k4]
 ·have e0 : K11 v w n = 0 := by rw [K11, if_neg hc]
  rw [e0]
  refine ⟨fun _ => rfl, fun h => ?_⟩
  have hk : decide ((0 : Int) ≤ (n : Int) ∧ (n : Int) ≤ 100) = false := decide_eq_false (fun hh => hc ⟨h, hh⟩)
  apply K0 (C1 (n : Int) 0 100)
  simp only [go_sem, hk]
def Mcu : MC :=
(Zs [.box 3 0 (.s 0), .box 4 1 (.s 1), .mv 6 (ci 0)] [2,3,4] (.seq (.seq (.reg [Za (lT 9 4 3), Za (.call 10 [] (.f N3u) [.s 9]), Za (.un 11 .not (.s 10)), Za (mS 12 11), Zb 12 false (mS 13 2), Zb 12 false (.call 14 [] (.f N0) [.s 13, .c (.int .i64 0), .c (.int .i64 100)]), Zb 12 false (.un 15 .not (.s 14)), Za (.pick 16 (.s 12) cT (.s 15))] [2,3,4,16])
(.cond (.s 16) (Zs [.mv 6 (ci 0)] [6] .ret) .skip))
(.seq (Zs [fS 17 4 0, lF 18 1 17] [2,3,4,18] (.block 0 (Zs [bC 20 .eql 18 1, mS 19 20] [2,3,4,18,19] (.cond (.s 19) (Zs [fS 22 3 0, lF 23 1 22, fS 24 4 1, lT 25 3 24, fS 26 3 1, lF 27 1 26, mS 28 2, bS 29 .add 27 28, .call 30 [2, 3] (.f N5c) [.s 23, .s 25, .s 29], mS 21 30, .ext 31 (.s 21) 0, .ext 32 (.s 21) 1, .alloc 7 4 [pz, .emp 1, pz, pz, pz], sS 5 7 31, mS 8 32] [7] (Zs [lT 33 5 7, .call 34 [] (.f N4d) [.s 33], mS 6 34] [6] .ret)) (Zs [bC 36 .eql 18 2, mS 35 36] [2,3,18,35] (.cond (.s 35) (Zs [fS 37 3 1, lF 38 1 37, mS 39 2, bS 40 .add 38 39, .call 41 [] (.f N59) [.c (.int .i64 999), .s 40], mS 6 41] [6] .ret) (Zs [bC 43 .eql 18 3, mS 42 43] [2,3,18,42] (.cond (.s 42) (Zs [fS 44 3 2, lF 45 1 44, mS 46 2, .lit 47 5 1 8 [.s 45, .s 46], .call 48 [] (.f N1n) [.s 47], .call 49 [] (.f N3x) [.s 48, .c (.int .i64 1000)], mS 6 49] [6] .ret) (Zs [bC 51 .eql 18 4, mS 50 51] [2,3,50] (.cond (.s 50) (Zs [fS 52 3 3, lF 53 1 52, nS 54 53, bC 55 .gtr 54 0] [2,3,55] (.cond (.s 55) (.seq (.dreg [Zc [58,59,60,61,62] (fS 56 3 3), Zd [58,59,60,61,62] [0] (lF 57 1 56), Zc [56,57,59,60,61] (mS 58 2), Zc [56,57,58] (fS 59 3 3), Zd [56,57,58] [3] (lF 60 1 59), Zd [56,57,58] [3,4] (nS 61 60), Zd [56,57] [2,3,4,5] (bS 62 .rem 58 61), Ze (.range 7) (xS 63 1 57 62), Ze (.range 8) (lF 64 1 63), Ze (.range 9) (mS 6 64)] [6])
.ret) .skip)) .skip))))))))))
(Zs [.mv 6 (ci 0)] [6] .ret))))
theorem Ck9 (v : GVisit) (w : GWant) (n : Nat) (hv : v.Site.length + (v.Site.map GVersion.size).sum ≤ 1073741824) : Ctr Tryz.prog Nbt [aS v.enc, aS w.enc, aI n] [rI (K11 v w n)] := by
 refine cA Mcu 6 65 [(.tmp 6, [false])] Tryz.func401 rfl rfl ?_; unfold Mcu
 intro hb
 clear hb
 simp only [go_sem]
 apply K0 (C41 v)
 simp only [go_sem]
 by_cases hc : K29 v = true ∧ 0 ≤ (n : Int) ∧ (n : Int) ≤ 100
 ·obtain ⟨c1, c2, c3⟩ := hc
  rw [K11, if_pos ⟨c1, c2, c3⟩]
  have hdec : decide ((0 : Int) ≤ (n : Int) ∧ (n : Int) ≤ 100) = true := decide_eq_true ⟨c2, c3⟩
  simp only [go_sem, c1]
  apply K0 (C4 (n : Int) 0 100)
  simp only [go_sem, hdec]
  refine ⟨fun k1 => ?_, fun k1 => ?_⟩
  ·rw [if_pos k1]
   apply K0 (Ce4 v.Site w.Address _ hv)
   simp only [go_sem]
   intros
   apply K0 (Cee _)
   simp only [go_sem]
  rw [if_neg k1]
  refine ⟨fun k2 => ?_, fun k2 => ?_⟩
  ·rw [if_pos k2]
   apply K0 (Cb5 999 _)
   simp only [go_sem]
   try intros
   repeat' split
   all_goals omega
  rw [if_neg k2]
  refine ⟨fun k3 => ?_, fun k3 => ?_⟩
  ·rw [if_pos k3]
   refine ⟨⟨by decide, by decide⟩, ?_⟩
   apply K0 (C2d [v.Seed, (n : Int)])
   simp only [go_sem]
   try intros
   apply K0 (Cl7 _)
   simp only [go_sem]
  rw [if_neg k3]
  refine ⟨fun k4 => ?_, fun k4 => ?_⟩
  ·rw [if_pos k4]
   refine ⟨fun k5 => ?_, fun k5 => ?_⟩
   ·rw [if_pos (show 0 < v.Inputs.length by omega)]
    obtain ⟨x, hx⟩ := Kb (l := v.Inputs) (k := n % v.Inputs.length) (Nat.mod_lt _ (by omega))
    have hm : (n : Int).tmod (v.Inputs.length : Int) = ((n % v.Inputs.length : Nat) : Int) := (Int.ofNat_tmod n _).symm
    have hz := K2b hx
    have hz0 : ¬ (v.Inputs.length : Int) = 0 := by omega
    have hz1 : (v.Inputs.length : Int) ≠ 0 := by omega
    have hlt := Nat.mod_lt n (show 0 < v.Inputs.length by omega)
    rw [if_neg hz0, hm]
    simp only [go_sem]
    refine ⟨⟨by omega, by omega⟩, ?_⟩
    rw [hx, hz]
    simp only [go_sem]
   ·rw [if_neg (show ¬ 0 < v.Inputs.length by omega)]
  ·rw [if_neg k4]
 ·have e0 : K11 v w n = 0 := by rw [K11, if_neg hc]
  rw [e0]
  refine ⟨fun _ => rfl, fun h => ?_⟩
  have hk : decide ((0 : Int) ≤ (n : Int) ∧ (n : Int) ≤ 100) = false := decide_eq_false (fun hh => hc ⟨h, hh⟩)
  apply K0 (C4 (n : Int) 0 100)
  simp only [go_sem, hk]
def visF (l : List GOp) (v : GVisit) : Nat → GState → List GEntry → List GState → List GEntry × List GState
 | 0, s, es, tr => (es, tr)
 | f + 1, s, es, tr =>
  if s.Pc ≥ l.length then (es, tr)
  else if (Kh l s).Kind = 0 then visF l v f (K13 l s 0) es (tr ++ [K13 l s 0])
  else visF l v f (K13 l s (K11 v (Kh l s) es.length)) (es ++ [⟨(Kh l s).Kind, (Kh l s).Address, K11 v (Kh l s) es.length⟩]) (tr ++ [K13 l s (K11 v (Kh l s) es.length)])
def visit (l : List GOp) (v : GVisit) : List GEntry × List GState := if K1g l = true ∧ K29 v = true then visF l v 20 st0 [] [st0] else ([], [st0])
theorem K9c {l : List GOp} {v : GVisit} : ∀ {f : Nat} {s : GState} {es : List GEntry} {tr : List GState}, (visF l v f s es tr).1.length ≤ es.length + f ∧ tr.length ≤ (visF l v f s es tr).2.length
 | 0, s, es, tr => ⟨Nat.le_refl _, Nat.le_refl _⟩
 | f + 1, s, es, tr => by
  rw [visF]
  split
  ·exact ⟨by simp, Nat.le_refl _⟩
  ·split
   ·have := K9c (l := l) (v := v) (f := f) (s := K13 l s 0) (es := es) (tr := tr ++ [K13 l s 0])
    simp only [List.length_append, List.length_cons, List.length_nil] at this
    omega
   ·have := K9c (l := l) (v := v) (f := f) (s := K13 l s (K11 v (Kh l s) es.length)) (es := es ++ [⟨(Kh l s).Kind, (Kh l s).Address, K11 v (Kh l s) es.length⟩]) (tr := tr ++ [K13 l s (K11 v (Kh l s) es.length)])
    simp only [List.length_append, List.length_cons, List.length_nil] at this
    omega
theorem Kaa {l : List GOp} {v : GVisit} : ∀ {f : Nat} {s : GState} {es : List GEntry} {tr : List GState}, stOk s = true → (∀ x ∈ tr, stOk x = true) → ∀ x ∈ (visF l v f s es tr).2, stOk x = true
 | 0, s, es, tr, _, h => h
 | f + 1, s, es, tr, hs, h => by
  rw [visF]
  have hn : ∀ u, ∀ x ∈ tr ++ [K13 l s u], stOk x = true := fun u x hx => by
   rcases List.mem_append.1 hx with hx | hx
   ·exact h x hx
   ·rw [List.mem_singleton.1 hx]; exact K4z hs
  split
  ·exact h
  ·split
   ·exact Kaa (K4z hs) (hn _)
   ·exact Kaa (K4z hs) (hn _)
theorem K2z (l : List GOp) (v : GVisit) : (visit l v).1.length ≤ 20 ∧ 1 ≤ (visit l v).2.length := by
 unfold visit
 split
 ·have := K9c (l := l) (v := v) (f := 20) (s := st0) (es := []) (tr := [st0])
  simp only [List.length_nil, List.length_cons] at this
  omega
 ·simp
theorem Kc7 (l : List GOp) (v : GVisit) : ∀ x ∈ (visit l v).2, stOk x = true := by
 unfold visit
 split
 ·exact Kaa K9f (by simp [K9f])
 ·simp [K9f]
structure VisI (l : List GOp) (v : GVisit) (s : GState) (es : List GEntry) (tr : List GState) : Prop where
 ok : stOk s = true
 len : tr.length ≤ 20 ∧ es.length ≤ 20
 run : K1g l = true → K29 v = true → ∃ f, l.length - s.Pc.toNat < f ∧ tr.length + (l.length - s.Pc.toNat) ≤ 18 ∧ es.length + (l.length - s.Pc.toNat) ≤ 18 ∧ visF l v f s es tr = visit l v
 bad : ¬ (K1g l = true ∧ K29 v = true) → (es, tr) = visit l v
theorem K5m {l : List GOp} (h : K1g l = true) : l.length ≤ 16 := by
 simp only [K1g, K1q, Bool.and_eq_true, decide_eq_true_eq] at h
 exact h.1
theorem VisI.start (l : List GOp) (v : GVisit) : VisI l v st0 [] [st0] :=
 ⟨K9f, by simp, fun h1 h2 => ⟨20, by have := K5m h1; simp only [st0]; omega, by have := K5m h1; simp only [st0, List.length_cons, List.length_nil]; omega, by have := K5m h1; simp only [st0, List.length_nil]; omega, by rw [visit, if_pos ⟨h1, h2⟩]⟩, fun h => by rw [visit, if_neg h]⟩
section
variable {l : List GOp} {v : GVisit} {s : GState} {es : List GEntry} {tr : List GState}
theorem VisI.fin (h : VisI l v s es tr) (h1 : K1g l = true) (h2 : K29 v = true) (hd : s.Pc ≥ l.length) : (es, tr) = visit l v := by
 obtain ⟨f, hf, _, _, hp⟩ := h.run h1 h2
 obtain ⟨f, rfl⟩ : ∃ f', f = f' + 1 := ⟨f - 1, by omega⟩
 rw [visF, if_pos hd] at hp
 exact hp
theorem VisI.less (h : VisI l v s es tr) (h1 : K1g l = true) (h2 : K29 v = true) (hd : ¬ s.Pc ≥ l.length) (u : Int) : l.length - (K13 l s u).Pc.toNat < l.length - s.Pc.toNat := by
 have h0 := (K5p h.ok).1.1
 have := stepTo_lt (v := u) h1 h.ok (by omega)
 omega
theorem VisI.step0 (h : VisI l v s es tr) (h1 : K1g l = true) (h2 : K29 v = true) (hd : ¬ s.Pc ≥ l.length) (hw : (Kh l s).Kind = 0) : VisI l v (K13 l s 0) es (tr ++ [K13 l s 0]) := by
 obtain ⟨f, hf, ht, he, hp⟩ := h.run h1 h2
 obtain ⟨f, rfl⟩ : ∃ f', f = f' + 1 := ⟨f - 1, by omega⟩
 have hl := h.less h1 h2 hd 0
 rw [visF, if_neg hd, if_pos hw] at hp
 refine ⟨K4z h.ok, by simp only [List.length_append, List.length_cons, List.length_nil]; omega, fun _ _ => ⟨f, by omega, by simp only [List.length_append, List.length_cons, List.length_nil]; omega, by omega, hp⟩, fun hb => (hb ⟨h1, h2⟩).elim⟩
theorem VisI.step1 (h : VisI l v s es tr) (h1 : K1g l = true) (h2 : K29 v = true) (hd : ¬ s.Pc ≥ l.length) (hw : ¬ (Kh l s).Kind = 0) :
  VisI l v (K13 l s (K11 v (Kh l s) es.length)) (es ++ [⟨(Kh l s).Kind, (Kh l s).Address, K11 v (Kh l s) es.length⟩]) (tr ++ [K13 l s (K11 v (Kh l s) es.length)]) := by
 obtain ⟨f, hf, ht, he, hp⟩ := h.run h1 h2
 obtain ⟨f, rfl⟩ : ∃ f', f = f' + 1 := ⟨f - 1, by omega⟩
 have hl := h.less h1 h2 hd (K11 v (Kh l s) es.length)
 rw [visF, if_neg hd, if_neg hw] at hp
 refine ⟨K4z h.ok, by simp only [List.length_append, List.length_cons, List.length_nil]; omega, fun _ _ => ⟨f, by omega, by simp only [List.length_append, List.length_cons, List.length_nil]; omega, by simp only [List.length_append, List.length_cons, List.length_nil]; omega, hp⟩, fun hb => (hb ⟨h1, h2⟩).elim⟩
end
def Mfq : MC :=
(Zs [.box 3 0 (.s 1), .nilo 4 1 5, .nilo 5 2 4] [0,3] (Zs [.call 11 [3, 4, 5] (.f N9h) [], .alloc 6 6 [pz, .emp 1, .emp 1, .emp 1], sS 4 6 11] [0,3,6] (Zs [.nilo 7 1 5] [0,3,6,7] (Zs [lT 12 4 6, .lit 13 2 4 80 [.s 12], mS 8 13] [0,3,6,7,8] (.seq (.seq (.reg [Za (mS 14 0), Za (.call 15 [] (.f N29) [.s 14]), Za (.un 16 .not (.s 15)), Za (mS 17 16), Zb 17 false (lT 18 4 3), Zb 17 false (.call 19 [] (.f N2l) [.s 18]), Zb 17 false (.un 20 .not (.s 19)), Za (.pick 21 (.s 17) cT (.s 20))] [0,3,6,7,8,21])
(.cond (.s 21) (Zs [mS 22 8, .nilo 4 1 5, mS 5 22] [4,5] .ret) .skip))
(.seq (.block 0 (.loop ([0,3,6,7,8], [7,8,9]) (.seq (Zs [mS 23 0, lT 24 4 6, .call 25 [] (.f Ng6) [.s 23, .s 24], .un 26 .not (.s 25)] [0,3,6,7,8,26] (cX 26 0))
(.block 1 (Zs [.mv 9 (ci 0)] [0,3,6,7,8,9] (.seq (Zs [mS 27 0, lT 28 4 6, .call 29 [] (.f Ng7) [.s 27, .s 28], .alloc 10 7 [pz, pz, pz, pz], sS 4 10 29] [0,3,6,7,8,9,10] (Zs [fS 30 10 0, lF 31 1 30, bC 32 .neq 31 0] [0,3,6,7,8,9,10,32] (.cond (.s 32) (Zs [lT 33 4 3, lT 34 4 10, mS 35 7, nS 36 35, .call 37 [] (.f Nbu) [.s 33, .s 34, .s 36], mS 9 37] [0,3,6,7,8,9,10] (pr [mS 38 7, fS 39 10 0, lF 40 1 39, fS 41 10 1, lT 42 3 41, mS 43 9, .build 44 [pz, pz, pz, pz, pz] [(0, 1, .s 40), (1, 3, .s 42), (4, 1, .s 43)], .lit 45 8 5 40 [.s 44], .app 46 1 5 40 (.s 38) (.s 45), mS 7 46] [0,3,6,7,8,9])) .skip)))
(Zs [mS 47 0, lT 48 4 6, mS 49 9, .call 50 [3, 4, 5] (.f Nbo) [.s 47, .s 48, .s 49], sS 4 6 50] [0,3,6,7,8] (pr [mS 51 8, lT 52 4 6, .lit 53 9 4 80 [.s 52], .app 54 2 4 80 (.s 51) (.s 53), mS 8 54] [0,3,6,7,8]))))))))
(Zs [mS 55 7, mS 56 8, mS 4 55, mS 5 56] [4,5] .ret)))))))
set_option maxHeartbeats 2000000 in
theorem Cl8 (l : List GOp) (v : GVisit) (hv : v.Site.length + (v.Site.map GVersion.size).sum ≤ 1073741824) : Ctr Tryz.prog Nel [aL 4 (l.map GOp.enc), aS v.enc] [rL 5 ((visit l v).1.map GEntry.enc), rL 4 ((visit l v).2.map GState.enc)] := by
 refine cA Mfq 10 57 [(.tmp 4, [true]), (.tmp 5, [true])] Tryz.func350 rfl rfl ?_; unfold Mfq
 intro hb
 clear hb
 simp only [go_sem]
 apply K0 Cj7
 simp only [go_sem]
 intros
 refine ⟨by decide, ?_⟩
 apply K0 (C3i l)
 simp only [go_sem]
 repeat' first
  | (refine And.intro ?_ ?_ <;> intro h)
  | (apply K0 (C40 v); simp only [go_sem])
 ·have hP : visit l v = ([], [st0]) := by rw [visit, if_neg (by simp_all)]
  rw [hP]
  try exact ⟨rfl, rfl⟩
  try trivial
 ·have hP : visit l v = ([], [st0]) := by rw [visit, if_neg (by simp_all)]
  rw [hP]
  try exact ⟨rfl, rfl⟩
  try trivial
 ·have hl : K1g l = true := by assumption
  have hv2 : K29 v = true := by assumption
  refine Kg (ι := GState × List GEntry × List GState) (fun t => [(7, .val false [.ref 1 0 5 0 t.2.1.length]), (8, .val false [.ref 2 0 4 0 t.2.2.length])]) (fun t => [(1, ⟨0, .row true 5 (t.2.1.map GEntry.enc)⟩), (2, ⟨0, .row true 4 (t.2.2.map GState.enc)⟩), (3, ⟨0, .lent 1 (t.1.Regs.map encI)⟩), (4, ⟨0, .lent 1 (t.1.Slots.map encI)⟩), (5, ⟨0, .lent 1 (t.1.Nodes.map encI)⟩), (6, ⟨0, .box [.pl (tI t.1.Pc), .ref 3 0 1 0 t.1.Regs.length, .ref 4 0 1 0 t.1.Slots.length, .ref 5 0 1 0 t.1.Nodes.length]⟩)])
   (fun t => VisI l v t.1 t.2.1 t.2.2) (fun t => l.length - t.1.Pc.toNat) (st0, [], [st0]) ?_
  simp only [go_sem]
  refine ⟨?_, VisI.start l v, ?_⟩
  ·simp only [go_sem]
   try exact ⟨rfl, rfl⟩
   try trivial
  ·rintro ⟨s, es, tr⟩ hI
   simp only at hI
   have hs := hI.ok
   have hsz := K69 hs
   have h0 := (K5p hs).1.1
   have hlt := hI.len
   simp only [go_sem]
   apply K0 (Clf l s)
   by_cases hd : s.Pc ≥ l.length
   ·have hf := hI.fin hl hv2 hd
    simp only [go_sem, hd]
    rw [← hf]
    try exact ⟨rfl, rfl⟩
    try trivial
   ·simp only [go_sem, hd]
    apply K0 (Cld l s)
    simp only [go_sem]
    intros
    by_cases hw : (Kh l s).Kind = 0
    ·simp only [go_sem, hw]
     apply K0 (Cco l s 0 (by omega))
     simp only [go_sem]
     intros
     refine ⟨by decide, by simp only [roomB]; omega, (K13 l s 0, es, tr ++ [K13 l s 0]), ⟨⟨rfl, by simp⟩, rfl, by simp [GState.enc], rfl, rfl, rfl, rfl, rfl, rfl, rfl⟩, hI.step0 hl hv2 hd hw, hI.less hl hv2 hd _⟩
    ·have hw' : (Kh l s).Kind > 0 := by have := K8p l s; omega
     simp only [go_sem, hw]
     apply K0 (Ck8 v (Kh l s) es.length hv)
     simp only [go_sem]
     try intros
     refine ⟨by decide, by simp only [roomB]; omega, ?_⟩
     apply K0 (Cco l s (K11 v (Kh l s) es.length) (by omega))
     simp only [go_sem]
     intros
     refine ⟨by decide, by simp only [roomB]; omega, (K13 l s (K11 v (Kh l s) es.length), es ++ [⟨(Kh l s).Kind, (Kh l s).Address, K11 v (Kh l s) es.length⟩], tr ++ [K13 l s (K11 v (Kh l s) es.length)]), ⟨⟨by simp, by simp⟩, by simp [GEntry.enc], by simp [GState.enc], rfl, rfl, rfl, rfl, rfl, rfl, rfl⟩, hI.step1 hl hv2 hd hw, hI.less hl hv2 hd _⟩
def Mh1 : MC :=
(Zs [.box 3 0 (.s 1), .nilo 4 1 5, .nilo 5 2 4] [0,3] (Zs [.lit 11 1 5 40 [], mS 6 11] [0,3,6] (Zs [.call 12 [3, 4, 5] (.f N9g) [], .alloc 7 6 [pz, .emp 1, .emp 1, .emp 1], sS 4 7 12] [0,3,6,7] (Zs [lT 13 4 7, .lit 14 2 4 80 [.s 13], mS 8 14] [0,3,6,7,8] (.seq (.block 0 (.loop ([0,3,6,7,8], [7,8,9]) (.seq (.seq (.reg [Za (mS 15 0), Za (.call 16 [] (.f N28) [.s 15]), Za (mS 17 16), Zb 17 true (lT 18 4 3), Zb 17 true (.call 19 [] (.f N3u) [.s 18]), Za (.pick 20 (.s 17) (.s 19) cF), Za (mS 21 20), Zb 21 true (mS 22 0), Zb 21 true (lT 23 4 7), Zb 21 true (.call 24 [] (.f Ng4) [.s 22, .s 23]), Zb 21 true (.un 25 .not (.s 24)), Za (.pick 26 (.s 21) (.s 25) cF)] [0,3,6,7,8,26])
(cX 26 0))
(.block 1 (Zs [mS 27 0, lT 28 4 7, .call 29 [] (.f Ng5) [.s 27, .s 28], .alloc 9 7 [pz, pz, pz, pz], sS 4 9 29] [0,3,6,7,8,9] (Zs [.mv 10 (ci 0)] [0,3,6,7,8,9,10] (.seq (Zs [fS 30 9 0, lF 31 1 30, bC 32 .gtr 31 0] [0,3,6,7,8,9,10,32] (.cond (.s 32) (Zs [lT 33 4 3, lT 34 4 9, mS 35 6, nS 36 35, .call 37 [] (.f Nbt) [.s 33, .s 34, .s 36], mS 10 37] [0,3,6,7,8,9,10] (pr [mS 38 6, fS 39 9 0, lF 40 1 39, fS 41 9 1, lT 42 3 41, mS 43 10, .build 44 [pz, pz, pz, pz, pz] [(0, 1, .s 40), (1, 3, .s 42), (4, 1, .s 43)], .lit 45 8 5 40 [.s 44], .app 46 1 5 40 (.s 38) (.s 45), mS 6 46] [0,3,6,7,8,10])) .skip))
(Zs [mS 47 0, lT 48 4 7, mS 49 10, .call 50 [3, 4, 5] (.f Nbn) [.s 47, .s 48, .s 49], sS 4 7 50] [0,3,6,7,8] (pr [mS 51 8, lT 52 4 7, .lit 53 9 4 80 [.s 52], .app 54 2 4 80 (.s 51) (.s 53), mS 8 54] [0,3,6,7,8])))))))))
(Zs [mS 55 6, mS 56 8, mS 4 55, mS 5 56] [4,5] .ret))))))
set_option maxHeartbeats 2000000 in
theorem Clj (l : List GOp) (v : GVisit) (hv : v.Site.length + (v.Site.map GVersion.size).sum ≤ 1073741824) : Ctr Tryz.prog Ngb [aL 4 (l.map GOp.enc), aS v.enc] [rL 5 ((visit l v).1.map GEntry.enc), rL 4 ((visit l v).2.map GState.enc)] := by
 refine cA Mh1 10 57 [(.tmp 4, [true]), (.tmp 5, [true])] Tryz.func341 rfl rfl ?_; unfold Mh1
 intro hb
 clear hb
 simp only [go_sem]
 apply K0 Cj6
 simp only [go_sem]
 intros
 refine ⟨by decide, ?_⟩
 refine Kg (ι := GState × List GEntry × List GState) (fun t => [(6, .val false [.ref 1 0 5 0 t.2.1.length]), (8, .val false [.ref 2 0 4 0 t.2.2.length])]) (fun t => [(1, ⟨0, .row true 5 (t.2.1.map GEntry.enc)⟩), (2, ⟨0, .row true 4 (t.2.2.map GState.enc)⟩), (3, ⟨0, .lent 1 (t.1.Regs.map encI)⟩), (4, ⟨0, .lent 1 (t.1.Slots.map encI)⟩), (5, ⟨0, .lent 1 (t.1.Nodes.map encI)⟩), (6, ⟨0, .box [.pl (tI t.1.Pc), .ref 3 0 1 0 t.1.Regs.length, .ref 4 0 1 0 t.1.Slots.length, .ref 5 0 1 0 t.1.Nodes.length]⟩)])
  (fun t => VisI l v t.1 t.2.1 t.2.2) (fun t => l.length - t.1.Pc.toNat) (st0, [], [st0]) ?_
 simp only [go_sem]
 refine ⟨?_, VisI.start l v, ?_⟩
 ·simp only [go_sem]
  try exact ⟨rfl, rfl⟩
  try trivial
 ·rintro ⟨s, es, tr⟩ hI
  simp only at hI
  have hs := hI.ok
  have hsz := K69 hs
  have h0 := (K5p hs).1.1
  have hlt := hI.len
  simp only [go_sem]
  apply K0 (C3j l)
  by_cases hval : K1g l = true ∧ K29 v = true
  ·obtain ⟨hl, hv2⟩ := hval
   simp only [go_sem, hl]
   apply K0 (C41 v)
   simp only [go_sem, hv2]
   apply K0 (Clg l s)
   by_cases hd : s.Pc ≥ l.length
   ·have hf := hI.fin hl hv2 hd
    simp only [go_sem, hd]
    rw [← hf]
    try exact ⟨rfl, rfl⟩
    try trivial
   ·simp only [go_sem, hd]
    apply K0 (Cle l s)
    simp only [go_sem]
    intros
    by_cases hw : (Kh l s).Kind = 0
    ·simp only [go_sem, hw]
     apply K0 (Ccq l s 0 (by omega))
     simp only [go_sem]
     intros
     refine ⟨by decide, by simp only [roomB]; omega, (K13 l s 0, es, tr ++ [K13 l s 0]), ⟨⟨rfl, by simp⟩, rfl, by simp [GState.enc], rfl, rfl, rfl, rfl, rfl, rfl, rfl⟩, hI.step0 hl hv2 hd hw, hI.less hl hv2 hd _⟩
    ·have hw' : (Kh l s).Kind > 0 := by have := K8p l s; omega
     simp only [go_sem, hw']
     apply K0 (Ck9 v (Kh l s) es.length hv)
     simp only [go_sem]
     try intros
     refine ⟨by decide, by simp only [roomB]; omega, ?_⟩
     apply K0 (Ccq l s (K11 v (Kh l s) es.length) (by omega))
     simp only [go_sem]
     intros
     refine ⟨by decide, by simp only [roomB]; omega, (K13 l s (K11 v (Kh l s) es.length), es ++ [⟨(Kh l s).Kind, (Kh l s).Address, K11 v (Kh l s) es.length⟩], tr ++ [K13 l s (K11 v (Kh l s) es.length)]), ⟨⟨by simp, by simp⟩, by simp [GEntry.enc], by simp [GState.enc], rfl, rfl, rfl, rfl, rfl, rfl, rfl⟩, hI.step1 hl hv2 hd hw, hI.less hl hv2 hd _⟩
  ·have hf := hI.bad hval
   rw [← hf]
   simp only [go_sem]
   intro h
   have hvb : K29 v = false := by
    cases hh : K29 v
    ·rfl
    ·exact (hval ⟨h, hh⟩).elim
   apply K0 (C41 v)
   simp only [go_sem, hvb, h]
end Go.Proofs.YtgkeplbnnjogiaaGreatR
namespace Go.Proofs.YtgkeplbnnjogiaaGreatR
open Go Go.RowKit Go.Proofs
open Nat (reduceEqDiff reduceLT reduceLeDiff reduceAdd reduceMul)
open List (reduceReplicate)
def K7v (l : List GState) : GState := (l[l.length - 1]?).getD st0
theorem Kb4 {l : List GState} {x : GState} (h : l[l.length - 1]? = some x) : K7v l = x := by rw [K7v, h]; rfl
def Mjs : MC :=
(Zs [.alloc 2 0 [pz, .emp 1, .emp 1, .emp 1]] [0,2] (Zs [mS 3 0, mS 4 0, nS 5 4, bC 6 .sub 5 1, xS 7 4 3 6, lT 8 4 7, .call 9 [1, 2, 3] (.f N4q) [.s 8], sS 4 2 9] [2] .ret))
theorem Clt (l : List GState) (h1 : 1 ≤ l.length) (h2 : ∀ x ∈ l, stOk x = true) : Ctr Tryz.prog Njh [aL 4 (l.map GState.enc)] [rS (K7v l).enc] := by
 refine cA Mjs 4 10 [(.cell 2 true 4, [false, true, true, true])] Tryz.func351 rfl rfl ?_; unfold Mjs
 intro hb
 simp only [bdA, bdL, bdT, Kc, roomB, and_true, List.length_map] at hb
 have hl := hb.1
 clear hb
 obtain ⟨x, hx⟩ := Kb (l := l) (k := l.length - 1) (by omega)
 have hsz := K69 (h2 x (Kt hx))
 have hw1 : IntKind.i64.wrap ((l.length : Int) - 1) = ((l.length - 1 : Nat) : Int) := by rw [wI (by omega) (by omega)]; omega
 have hlt : ((l.length - 1 : Nat) : Int) < (l.length : Int) := by omega
 rw [Kb4 hx]
 simp only [go_sem, hw1, K4 hx, hlt]
 refine ⟨by omega, ?_⟩
 apply K0 (Ccm x (by omega))
 simp only [go_sem]
def M8l : MC :=
(Zs [.box 3 0 (.s 1), .nilo 4 1 5, .alloc 5 2 [pz, .emp 1, .emp 1, .emp 1]] [0,3,5] (Zs [mS 9 0, lT 10 4 3, .call 11 [1, 3] (.f Nel) [.s 9, .s 10], mS 8 11, .ext 12 (.s 8) 0, .ext 13 (.s 8) 1, mS 6 12, mS 7 13] [5,6,7] (Zs [mS 14 6, mS 15 7, .call 16 [4, 5, 6] (.f Njh) [.s 15], mS 4 14, sS 4 5 16] [4,5] .ret)))
theorem C8m (l : List GOp) (v : GVisit) (hv : v.Site.length + (v.Site.map GVersion.size).sum ≤ 1073741824) : Ctr Tryz.prog N3o [aL 4 (l.map GOp.enc), aS v.enc] [rL 5 ((visit l v).1.map GEntry.enc), rS (K7v (visit l v).2).enc] := by
 refine cA M8l 7 17 [(.tmp 4, [true]), (.cell 5 true 4, [false, true, true, true])] Tryz.func256 rfl rfl ?_; unfold M8l
 intro hb
 clear hb
 simp only [go_sem]
 apply K0 (Cl8 l v hv)
 simp only [go_sem]
 intros
 apply K0 (Clt (visit l v).2 (K2z l v).2 (Kc7 l v))
 simp only [go_sem]
def M8n : MC :=
(Zs [.box 3 0 (.s 1), .nilo 4 1 5, .alloc 5 2 [pz, .emp 1, .emp 1, .emp 1]] [0,3,5] (Zs [mS 9 0, lT 10 4 3, .call 11 [1, 3] (.f Ngb) [.s 9, .s 10], mS 8 11, .ext 12 (.s 8) 0, .ext 13 (.s 8) 1, mS 6 12, mS 7 13] [5,6,7] (Zs [mS 14 6, mS 15 7, mS 16 7, nS 17 16, bC 18 .sub 17 1, xS 19 4 15 18, lT 20 4 19, .call 21 [4, 5, 6] (.f N7f) [.s 20], mS 4 14, sS 4 5 21] [4,5] .ret)))
theorem C8o (l : List GOp) (v : GVisit) (hv : v.Site.length + (v.Site.map GVersion.size).sum ≤ 1073741824) : Ctr Tryz.prog N3n [aL 4 (l.map GOp.enc), aS v.enc] [rL 5 ((visit l v).1.map GEntry.enc), rS (K7v (visit l v).2).enc] := by
 refine cA M8n 7 22 [(.tmp 4, [true]), (.cell 5 true 4, [false, true, true, true])] Tryz.func247 rfl rfl ?_; unfold M8n
 intro hb
 clear hb
 simp only [go_sem]
 apply K0 (Clj l v hv)
 simp only [go_sem]
 intros
 have h1 := (K2z l v).2
 have hrb : roomB = 140737488355328 := rfl
 obtain ⟨x, hx⟩ := Kb (l := (visit l v).2) (k := (visit l v).2.length - 1) (by omega)
 have hsz := K69 (Kc7 l v x (Kt hx))
 have hlt : (((visit l v).2.length - 1 : Nat) : Int) < ((visit l v).2.length : Int) := by omega
 rw [Kb4 hx]
 have hw1 : IntKind.i64.wrap (((visit l v).2.length : Int) - 1) = (((visit l v).2.length - 1 : Nat) : Int) := by rw [wI (by omega) (by omega)]; omega
 simp only [go_sem, hw1, K4 hx, hlt]
 refine ⟨by omega, ?_⟩
 apply K0 (Cfh x (by omega))
 simp only [go_sem]
def K7a (v : GVisit) (k : Nat) (e : GEntry) : List GCapture := if e.Kind = 1 then [⟨e.Address, IntKind.i64.wrap (v.Tick + k), (follow v.Site e.Address (IntKind.i64.wrap (v.Tick + k))).1⟩] else []
def K1x (v : GVisit) (es : List GEntry) : Nat → List GCapture
 | 0 => []
 | k + 1 => K1x v es k ++ (match es[k]? with | some e => K7a v k e | none => [])
def capsV (v : GVisit) (es : List GEntry) : List GCapture := K1x v es es.length
theorem K9s {v : GVisit} {es : List GEntry} {k : Nat} {e : GEntry} (h : es[k]? = some e) (h1 : e.Kind = 1) : K1x v es (k + 1) = K1x v es k ++ [⟨e.Address, IntKind.i64.wrap (v.Tick + k), (follow v.Site e.Address (IntKind.i64.wrap (v.Tick + k))).1⟩] := by
 rw [K1x, h]; simp only [K7a, if_pos h1]
theorem Kaw {v : GVisit} {es : List GEntry} {k : Nat} {e : GEntry} (h : es[k]? = some e) (h1 : ¬ e.Kind = 1) : K1x v es (k + 1) = K1x v es k := by
 rw [K1x, h]; simp only [K7a, if_neg h1, List.append_nil]
theorem K4l {v : GVisit} {es : List GEntry} : ∀ k, (K1x v es k).length ≤ k
 | 0 => Nat.le_refl _
 | k + 1 => by
  have ih := K4l (v := v) (es := es) k
  rw [K1x, List.length_append]
  have : (match es[k]? with | some e => K7a v k e | none => []).length ≤ 1 := by
   split
   ·unfold K7a; split <;> simp
   ·simp
  omega
def Mb0 : MC :=
(Zs [.box 3 0 (.s 1), .nilo 4 1 9] [0,3] (Zs [mS 13 0, lT 14 4 3, .call 15 [2, 3, 4, 5] (.f N3o) [.s 13, .s 14], mS 12 15, .ext 16 (.s 12) 0, .ext 17 (.s 12) 1, .alloc 6 6 [pz, .emp 1, .emp 1, .emp 1], mS 5 16, sS 4 6 17] [3,5] (Zs [.nilo 7 1 9] [3,5,7] (.seq (Zs [mS 18 5, nS 19 18, .mv 20 (ci 0)] [3,7,18,19,20] (.block 0 (.loop ([3,7,18,19,20], [3,4,5,6,7,8,9,10,11]) (Zs [bS 21 .lss 20 19] [3,7,18,19,20,21] (.seq (cX 21 0)
(.seq (.block 1 (Zs [mS 22 20, xS 23 5 18 20, lT 24 5 23, .alloc 9 7 [pz, pz, pz, pz, pz], mS 8 22, sS 5 9 24] [3,7,8,9,18,19,20] (Zs [fS 25 9 0, lF 26 1 25, bC 27 .eql 26 1] [3,7,8,9,18,19,20,27] (.cond (.s 27) (Zs [fS 29 3 0, lF 30 1 29, fS 31 9 1, lT 32 3 31, fS 33 3 1, lF 34 1 33, mS 35 8, bS 36 .add 34 35, .call 37 [8, 9] (.f N5d) [.s 30, .s 32, .s 36], mS 28 37, .ext 38 (.s 28) 0, .ext 39 (.s 28) 1, .alloc 10 10 [pz, .emp 1, pz, pz, pz], sS 5 10 38, mS 11 39] [3,7,8,9,10,18,19,20] (pr [mS 40 7, fS 41 9 1, lT 42 3 41, fS 43 3 1, lF 44 1 43, mS 45 8, bS 46 .add 44 45, lT 47 5 10, .build 48 [pz, pz, pz, pz, pz, .emp 1, pz, pz, pz] [(0, 3, .s 42), (3, 1, .s 46), (4, 5, .s 47)], .lit 49 11 9 88 [.s 48], .app 50 1 9 88 (.s 40) (.s 49), mS 7 50] [3,7,18,19,20])) .skip))))
(pr [bC 51 .add 20 1, mS 20 51] [3,7,18,19,20])))))))
(Zs [mS 52 7, mS 4 52] [4] .ret)))))
theorem Cja (l : List GOp) (v : GVisit) (hv : v.Site.length + (v.Site.map GVersion.size).sum ≤ 1073741824) : Ctr Tryz.prog N9k [aL 4 (l.map GOp.enc), aS v.enc] [rL 9 ((capsV v (visit l v).1).map GCapture.enc)] := by
 refine cA Mb0 12 53 [(.tmp 4, [true])] Tryz.func258 rfl rfl ?_; unfold Mb0
 intro hb
 clear hb
 simp only [go_sem]
 apply K0 (C8m l v hv)
 simp only [go_sem]
 intros
 have hn := (K2z l v).1
 generalize (visit l v).1 = es at *
 refine K5 es (fun k => [(7, .val false [.ref 1 0 9 0 (K1x v es k).length]), (20, vI k)]) (fun k => [(1, ⟨0, .row true 9 ((K1x v es k).map GCapture.enc)⟩)]) (fun _ => True) (by simp only [roomB]; omega) ?_
 simp only [go_sem]
 refine ⟨?_, trivial, ?_, ?_⟩
 ·simp only [go_sem, K1x]
  try exact ⟨rfl, rfl⟩
 ·intro k e hx _ h0 h1 hw
  have hl := K4l (v := v) (es := es) k
  have hk := Km hx
  simp only [go_sem, K4 hx, h0, h1, hw]
  refine ⟨fun hA => ?_, fun hA => ?_⟩
  ·apply K0 (Ce2 v.Site e.Address _ hv)
   simp only [go_sem, K9s hx hA, hw, List.length_append]
   intros
   exact ⟨by decide, by simp only [roomB]; omega, by rw [List.map_append]; rfl⟩
  ·simp only [go_sem, Kaw hx hA]
 ·intro _
  simp only [go_sem]
  rfl
def Mb1 : MC :=
(Zs [.box 3 0 (.s 1), .nilo 4 1 9] [0,3] (Zs [.lit 11 1 9 88 [], mS 5 11] [0,3,5] (Zs [mS 13 0, lT 14 4 3, .call 15 [2, 3, 4, 5] (.f N3n) [.s 13, .s 14], mS 12 15, .ext 16 (.s 12) 0, .ext 17 (.s 12) 1, .alloc 7 6 [pz, .emp 1, .emp 1, .emp 1], mS 6 16, sS 4 7 17] [3,5,6] (.seq (Zs [.mv 8 (ci 0)] [3,5,6,8] (.block 0 (.loop ([3,5,6,8], [3,4,5,6,7,8,9,10]) (.seq (Zs [mS 18 8, mS 19 6, nS 20 19, bS 21 .lss 18 20] [3,5,6,8,21] (cX 21 0))
(.seq (.block 1 (Zs [mS 24 6, mS 25 8, xS 26 5 24 25, fS 27 26 0, lF 28 1 27, bC 29 .eql 28 1] [3,5,6,8,29] (.cond (.s 29) (.seq (.dreg [Zf [9,33,34,35,36,37,38,39,40,41] [9] (fS 31 3 0), Zg [9,33,34,35,36,37,38,39,40,41] [9] [0] (lF 32 1 31), Zf [9,31,32,34,38,39,40,41] [9] (mS 33 6), Zf [9,31,32,33,38,39,40,41] [9] (mS 34 8), Zg [9,31,32,38,39,40,41] [9] [2,3] (xS 35 5 33 34), Zg [9,31,32,38,39,40,41] [9] [2,3,4] (fS 36 35 1), Zg [9,31,32,38,39,40,41] [9] [2,3,4,5] (lT 37 3 36), Zf [9,31,32,33,34,35,36,37,40] [9] (fS 38 3 1), Zg [9,31,32,33,34,35,36,37,40] [9] [7] (lF 39 1 38), Zf [9,31,32,33,34,35,36,37,38,39] [9] (mS 40 8), Zg [9,31,32,33,34,35,36,37] [9] [7,8,9] (bS 41 .add 39 40), { o := .call 42 [7, 8] (.f N5c) [.s 32, .s 37, .s 41], hs := [9], ho := [9], ws := [7,8], bf := (.range 11) }, Zg [9] [9] (.range 12) (mS 30 42), Zg [9,44] [9] (.range 13) (.ext 43 (.s 30) 0), Zg [9,43] [7,9] (.range 13) (.ext 44 (.s 30) 1), { o := .alloc 9 9 [pz, .emp 1, pz, pz, pz], hs := [30,31,32,33,34,35,36,37,38,39,40,41,42,43,44], ho := [7,8], ws := [9] }, { o := sS 5 9 43, hs := [44], ws := [7,9], bf := [0,1,2,3,4,5,6,7,8,9,10,11,12,13,15] }, Ze (.range 17) (mS 10 44)] [3,5,6,8,9])
(.dreg [Zf [46,47,48,49,50,51,52,53,54,55,56,57] [7,10] (mS 45 5), Zc [45,47,51,52,53,54,55] (mS 46 6), Zc [45,46,51,52,53,54,55] (mS 47 8), Zd [45,51,52,53,54,55] [1,2] (xS 48 5 46 47), Zd [45,51,52,53,54,55] [1,2,3] (fS 49 48 1), Zd [45,51,52,53,54,55] [1,2,3,4] (lT 50 3 49), Zc [45,46,47,48,49,50,53,55] (fS 51 3 1), Zd [45,46,47,48,49,50,53,55] [6] (lF 52 1 51), Zc [45,46,47,48,49,50,51,52,55] (mS 53 8), Zd [45,46,47,48,49,50,55] [6,7,8] (bS 54 .add 52 53), Zc [45,46,47,48,49,50,51,52,53,54] (lT 55 5 9), Zd [45] [1,2,3,4,5,6,7,8,9,10] (.build 56 [pz, pz, pz, pz, pz, .emp 1, pz, pz, pz] [(0, 3, .s 50), (3, 1, .s 54), (4, 5, .s 55)]), { o := .lit 57 10 9 88 [.s 56], hs := [45], ws := [7,10], bf := [1,2,3,4,5,6,7,8,9,10,11] }, { o := .app 58 1 9 88 (.s 45) (.s 57), ws := [1,10], bf := (.range 13) }, Ze (.range 14) (mS 5 58)] [3,5,6,8])) .skip)))
(pr [mS 22 8, bC 23 .add 22 1, mS 8 23] [3,5,6,8]))))))
(Zs [mS 59 5, mS 4 59] [4] .ret)))))
theorem Cjb (l : List GOp) (v : GVisit) (hv : v.Site.length + (v.Site.map GVersion.size).sum ≤ 1073741824) : Ctr Tryz.prog N9i [aL 4 (l.map GOp.enc), aS v.enc] [rL 9 ((capsV v (visit l v).1).map GCapture.enc)] := by
 refine cA Mb1 11 60 [(.tmp 4, [true])] Tryz.func249 rfl rfl ?_; unfold Mb1
 intro hb
 clear hb
 simp only [go_sem]
 apply K0 (C8o l v hv)
 simp only [go_sem]
 intros
 have hn := (K2z l v).1
 generalize (visit l v).1 = es at *
 refine K5 es (fun k => [(5, .val false [.ref 1 0 9 0 (K1x v es k).length]), (8, vI k)]) (fun k => [(1, ⟨0, .row true 9 ((K1x v es k).map GCapture.enc)⟩)]) (fun _ => True) (by simp only [roomB]; omega) ?_
 simp only [go_sem]
 refine ⟨?_, trivial, ?_, ?_⟩
 ·simp only [go_sem, K1x]
  try exact ⟨rfl, rfl⟩
 ·intro k e hx _ h0 h1 hw
  have hl := K4l (v := v) (es := es) k
  have hk := Km hx
  simp only [go_sem, K4 hx, h0, h1, hw]
  refine ⟨fun hA => ?_, fun hA => ?_⟩
  ·apply K0 (Ce4 v.Site e.Address _ hv)
   simp only [go_sem, K4 hx, h0, h1, K9s hx hA, hw, List.length_append]
   intros
   exact ⟨by decide, by simp only [roomB]; omega, by rw [List.map_append]; rfl⟩
  ·simp only [go_sem, Kaw hx hA]
 ·intro _
  simp only [go_sem]
  rfl
theorem K7y {l : List GVersion} {tick : Int} : ∀ {n : Nat} {r : GResource} {q : List GAddress}, r.Body.length ≤ (l.map GVersion.size).sum → (followF l tick n r q).1.Body.length ≤ (l.map GVersion.size).sum
 | 0, r, q, h => h
 | n + 1, r, q, h => by
  rw [followF]
  split
  ·exact K7y K8l
  ·exact h
theorem Kcz {l : List GVersion} {tick : Int} {a : GAddress} : (follow l a tick).1.Body.length ≤ (l.map GVersion.size).sum := K7y K8l
theorem K6c {v : GVisit} {es : List GEntry} : ∀ k, ((K1x v es k).map GCapture.size).sum ≤ k * (v.Site.map GVersion.size).sum
 | 0 => by simp [K1x]
 | k + 1 => by
  have ih := K6c (v := v) (es := es) k
  rw [K1x, List.map_append, List.sum_append, Nat.succ_mul]
  have : ((match es[k]? with | some e => K7a v k e | none => []).map GCapture.size).sum ≤ (v.Site.map GVersion.size).sum := by
   split
   ·unfold K7a
    split
    ·simp only [List.map_cons, List.map_nil, List.sum_cons, List.sum_nil, GCapture.size, GResource.size]
     have := Kcz (l := v.Site) (tick := IntKind.i64.wrap (v.Tick + k)) (a := (by assumption : GEntry).Address)
     omega
    ·simp
   ·simp
  omega
def madeC (l : List GOp) (v : GVisit) : GContainer := ⟨l, (visit l v).1, capsV v (visit l v).1, K75 l (visit l v).1 (capsV v (visit l v).1)⟩
def emptyC : GContainer := ⟨[], [], [], 0⟩
def K15 (l : List GOp) (v : GVisit) : Bool := K1g l && K29 v
def K1a (l : List GOp) (v : GVisit) : GContainer := if K15 l v then madeC l v else emptyC
theorem K92 {v : GVisit} {es : List GEntry} (hn : es.length ≤ 20) (hv : (v.Site.map GVersion.size).sum ≤ 16777216) : (capsV v es).length + ((capsV v es).map GCapture.size).sum ≤ 335544340 := by
 have h1 := K4l (v := v) (es := es) es.length
 have h2 := K6c (v := v) (es := es) es.length
 have h3 : es.length * (v.Site.map GVersion.size).sum ≤ 20 * 16777216 := Nat.mul_le_mul hn hv
 unfold capsV
 omega
def Y37 (v0 : Nat) (v1 : Nat) (v2 : Nat) (v3 : Nat) (v4 : Nat) : MC :=
(Zs [.box 3 0 (.s 1), .alloc 4 1 [.emp 4, .emp 5, .emp 9, pz], .mv 5 cF] [0,3,4] (.seq (.seq (.reg [Za (mS 8 0), Za (.call 9 [] (.f v0) [.s 8]), Za (.un 10 .not (.s 9)), Za (mS 11 10), Zb 11 false (lT 12 4 3), Zb 11 false (.call 13 [] (.f v1) [.s 12]), Zb 11 false (.un 14 .not (.s 13)), Za (.pick 15 (.s 11) cT (.s 14))] [0,3,4,15])
(.cond (.s 15) (Zs [.build 16 [.emp 4, .emp 5, .emp 9, pz] [], sS 4 4 16, .mv 5 cF] [4,5] .ret) .skip))
(Zs [mS 18 0, lT 19 4 3, .call 20 [2, 3, 4, 5] (.f v2) [.s 18, .s 19], mS 17 20, .ext 21 (.s 17) 0, .ext 22 (.s 17) 1, .alloc 7 6 [pz, .emp 1, .emp 1, .emp 1], mS 6 21, sS 4 7 22] [0,3,4,6] (Zs [mS 23 0, mS 24 6, mS 25 0, lT 26 4 3, .call 27 [7] (.f v3) [.s 25, .s 26], .call 28 [8, 9, 10] (.f v4) [.s 23, .s 24, .s 27], sS 4 4 28, .mv 5 cT] [4,5] .ret))))
attribute [go_sem] Y37
def M78 : MC := Y37 N29 N2l N3o N9k N2s
theorem Chn (l : List GOp) (v : GVisit) (hl : l.length ≤ 1073741824) (hv : v.Site.length + (v.Site.map GVersion.size).sum ≤ 16777216) : Ctr Tryz.prog N69 [aL 4 (l.map GOp.enc), aS v.enc] [rS (K1a l v).enc, rB (K15 l v)] := by
 refine cA M78 11 29 [(.cell 4 true 4, [true, true, true, false]), (.tmp 5, [false])] Tryz.func133 rfl rfl ?_; unfold M78
 intro hb
 clear hb
 simp only [go_sem]
 apply K0 (C3i l)
 simp only [go_sem]
 repeat' first
  | (refine And.intro ?_ ?_ <;> intro h)
  | (apply K0 (C40 v); simp only [go_sem])
 ·have hc : K15 l v = false := by unfold K15; simp_all
  rw [K1a, hc]
  exact ⟨⟨rfl, rfl, rfl, rfl⟩, rfl⟩
 ·have hc : K15 l v = false := by unfold K15; simp_all
  rw [K1a, hc]
  exact ⟨⟨rfl, rfl, rfl, rfl⟩, rfl⟩
 ·have hc : K15 l v = true := by unfold K15; simp_all
  have hn := (K2z l v).1
  have hz := K92 hn (v := v) (by omega)
  apply K0 (C8m l v (by omega))
  simp only [go_sem]
  intros
  apply K0 (Cja l v (by omega))
  simp only [go_sem]
  intros
  apply K0 (C5r l (visit l v).1 (capsV v (visit l v).1) hl (by omega) (by omega))
  simp only [go_sem]
  intros
  rw [K1a, hc, if_pos rfl]
  exact ⟨⟨rfl, rfl, rfl, rfl⟩, rfl⟩
def M79 : MC := Y37 N28 N3u N3n N9i N1l
theorem Cho (l : List GOp) (v : GVisit) (hl : l.length ≤ 1073741824) (hv : v.Site.length + (v.Site.map GVersion.size).sum ≤ 16777216) : Ctr Tryz.prog N68 [aL 4 (l.map GOp.enc), aS v.enc] [rS (K1a l v).enc, rB (K15 l v)] := by
 refine cA M79 11 29 [(.cell 4 true 4, [true, true, true, false]), (.tmp 5, [false])] Tryz.func129 rfl rfl ?_; unfold M79
 intro hb
 clear hb
 simp only [go_sem]
 apply K0 (C3j l)
 simp only [go_sem]
 repeat' first
  | (refine And.intro ?_ ?_ <;> intro h)
  | (apply K0 (C41 v); simp only [go_sem])
 ·have hc : K15 l v = false := by unfold K15; simp_all
  rw [K1a, hc]
  exact ⟨⟨rfl, rfl, rfl, rfl⟩, rfl⟩
 ·have hc : K15 l v = false := by unfold K15; simp_all
  rw [K1a, hc]
  exact ⟨⟨rfl, rfl, rfl, rfl⟩, rfl⟩
 ·have hc : K15 l v = true := by unfold K15; simp_all
  have hn := (K2z l v).1
  have hz := K92 hn (v := v) (by omega)
  apply K0 (C8o l v (by omega))
  simp only [go_sem]
  intros
  apply K0 (Cjb l v (by omega))
  simp only [go_sem]
  intros
  apply K0 (C2y l (visit l v).1 (capsV v (visit l v).1) hl (by omega) (by omega))
  simp only [go_sem]
  intros
  rw [K1a, hc, if_pos rfl]
  exact ⟨⟨rfl, rfl, rfl, rfl⟩, rfl⟩
end Go.Proofs.YtgkeplbnnjogiaaGreatR
namespace Go.Proofs.YtgkeplbnnjogiaaGreatR
open Go Go.RowKit Go.Proofs
open Nat (reduceEqDiff reduceLT reduceLeDiff reduceAdd reduceMul)
open List (reduceReplicate)
def Kr (a : GArchive) (seed : Int) (ins : List Int) : GVisit := ⟨a.Site, a.Now, seed, ins⟩
def K9l (a : GArchive) (root : Int) (k : Nat) (key : Int) : GStatement := K3h key ⟨k, root, a.Now, 0⟩
def K1t (a : GArchive) (root : Int) : Nat → List GStatement
 | 0 => []
 | k + 1 => K1t a root k ++ (match a.Keys[k]? with | some key => [K9l a root k key] | none => [])
theorem Ka0 {a : GArchive} {root : Int} {k : Nat} {key : Int} (h : a.Keys[k]? = some key) : K1t a root (k + 1) = K1t a root k ++ [K9l a root k key] := by
 rw [K1t, h]
theorem K4u {a : GArchive} {root : Int} : ∀ k, (K1t a root k).length ≤ k
 | 0 => Nat.le_refl _
 | k + 1 => by
  have ih := K4u (a := a) (root := root) k
  rw [K1t, List.length_append]
  split <;> simp <;> omega
def K12 (a : GArchive) (seed : Int) (ins : List Int) : Bool := K15 a.Script (Kr a seed ins) && (decide (a.Statements.length + a.Keys.length ≤ 40) && K27 a.Disk (madeC a.Script (Kr a seed ins)))
def K10 (a : GArchive) (seed : Int) (ins : List Int) : GArchive :=
 if K12 a seed ins then { a with Disk := K2k a.Disk (madeC a.Script (Kr a seed ins)), Statements := a.Statements ++ K1t a (madeC a.Script (Kr a seed ins)).Root a.Keys.length } else a
theorem emptyC_no : K1l emptyC = false := by decide
theorem Kbk (d : GDisk) : K27 d emptyC = false := by simp [K27, emptyC_no]
theorem K6t {l : List GOp} {v : GVisit} (hl : l.length ≤ 16777216) (hv : (v.Site.map GVersion.size).sum ≤ 16777216) : (K1a l v).size ≤ 500000000 := by
 unfold K1a
 split
 ·have hn := (K2z l v).1
  have hz := K92 hn (v := v) hv
  simp only [GContainer.size, madeC]
  omega
 ·decide
def Mcv : MC :=
(Zs [.box 3 0 (.s 0), .alloc 6 1 [.emp 9, .emp 4, .emp 4, .emp 6, .emp 4, .emp 5, .emp 4, .emp 1, .emp 4, pz], .mv 7 cF] [1,2,3,6] (Zs [lT 16 10 3, .call 17 [2, 3, 4, 5, 6, 7, 8, 9, 10] (.f N3m) [.s 16], .alloc 8 11 [.emp 9, .emp 4, .emp 4, .emp 6, .emp 4, .emp 5, .emp 4, .emp 1, .emp 4, pz], sS 10 8 17] [1,2,3,6,8] (Zs [fS 18 3 0, lF 19 1 18, fS 20 3 9, lF 21 1 20, mS 22 1, mS 23 2, .build 24 [.emp 9, pz, pz, .emp 1] [(0, 1, .s 19), (1, 1, .s 21), (2, 1, .s 22), (3, 1, .s 23)], .alloc 9 12 [.emp 9, pz, pz, .emp 1], sS 4 9 24] [3,6,8,9] (.seq (Zs [lT 25 4 9, .call 26 [] (.f N2l) [.s 25], .un 27 .not (.s 26)] [3,6,8,9,27] (.cond (.s 27) (Zs [lT 28 10 8, sS 10 6 28, .mv 7 cF] [6,7] .ret) .skip))
(Zs [fS 30 3 1, lF 31 1 30, lT 32 4 9, .call 33 [13, 14, 15] (.f N69) [.s 31, .s 32], mS 29 33, .ext 34 (.s 29) 0, .ext 35 (.s 29) 1, .alloc 10 16 [.emp 4, .emp 5, .emp 9, pz], sS 4 10 34, mS 11 35] [3,6,8,10] (Zs [fS 37 3 2, lT 38 3 37, lT 39 4 10, .call 40 [17, 18, 19] (.f N9c) [.s 38, .s 39], mS 36 40, .ext 41 (.s 36) 0, .ext 42 (.s 36) 1, .alloc 12 20 [.emp 4, .emp 6, .emp 4], sS 3 12 41, mS 13 42] [3,6,8,10,12,13] (.seq (.seq (.reg [Za (mS 43 13), Za (.un 44 .not (.s 43)), Za (mS 45 44), Zb 45 false (fS 46 3 8), Zb 45 false (lF 47 1 46), Zb 45 false (nS 48 47), Zb 45 false (fS 49 3 7), Zb 45 false (lF 50 1 49), Zb 45 false (nS 51 50), Zb 45 false (bS 52 .add 48 51), Zb 45 false (bC 53 .gtr 52 40), Za (.pick 54 (.s 45) cT (.s 53))] [3,6,8,10,12,54])
(.cond (.s 54) (Zs [lT 55 10 8, sS 10 6 55, .mv 7 cF] [6,7] .ret) .skip))
(Zs [lT 56 3 12, fS 57 8 2, sS 3 57 56] [3,6,8,10] (.seq (Zs [fS 58 3 7, lF 59 1 58, nS 60 59, .mv 61 (ci 0)] [3,6,8,10,59,60,61] (.block 0 (.loop ([3,6,8,10,59,60,61], [12,20,21]) (Zs [bS 62 .lss 61 60] [3,6,8,10,59,60,61,62] (.seq (cX 62 0)
(.seq (.block 1 (Zs [mS 63 61, xS 64 1 59 61, lF 65 1 64, mS 14 63, mS 15 65] [3,6,8,10,14,15,59,60,61] (.dreg [Zf [68,69,70,71,72,73,74,75,76] [21] (fS 66 8 8), Zg [68,69,70,71,72,73,74,75,76] [21] [0] (lF 67 1 66), Zc [66,67,69,70,71,72,73,74] (mS 68 15), Zc [66,67,68,70,71,72,73] (mS 69 14), Zc [66,67,68,69,72,73] (fS 70 10 3), Zd [66,67,68,69,72,73] [4] (lF 71 1 70), Zc [66,67,68,69,70,71] (fS 72 3 9), Zd [66,67,68,69,70,71] [6] (lF 73 1 72), Zd [66,67,68] [3,4,5,6,7] (.build 74 [pz, pz, pz, pz] [(0, 1, .s 69), (1, 1, .s 71), (2, 1, .s 73)]), Zd [66,67] [2,3,4,5,6,7,8] (.call 75 [] (.f N58) [.s 68, .s 74]), { o := .lit 76 21 4 32 [.s 75], hs := [66,67], ws := [21], bf := [2,3,4,5,6,7,8,9] }, { o := .app 77 10 4 32 (.s 67) (.s 76), ws := [10], bf := (.range 11) }, Ze (.range 12) (fS 78 8 8), { o := sS 1 78 77, ws := [10,11], bf := (.range 13) }] [3,6,8,10,59,60,61])))
(pr [bC 79 .add 61 1, mS 61 79] [3,6,8,10,59,60,61])))))))
(Zs [lT 80 10 8, sS 10 6 80, .mv 7 cT] [6,7] .ret))))))))))
set_option maxHeartbeats 2000000 in
theorem Cka (a : GArchive) (seed : Int) (ins : List Int) (hs : a.size ≤ 16777216) : Ctr Tryz.prog Nbb [aS a.enc, aI seed, aL 1 (ins.map encI)] [rS (K10 a seed ins).enc, rB (K12 a seed ins)] := by
 refine cA Mcv 22 81 [(.cell 6 true 10, [true, true, true, true, true, true, true, true, true, false]), (.tmp 7, [false])] Tryz.func49 rfl rfl ?_; unfold Mcv
 intro hb
 clear hb
 have hsA := hs
 simp only [GArchive.size] at hsA
 have hl : a.Script.length ≤ 16777216 := by omega
 have hv : (Kr a seed ins).Site.length + ((Kr a seed ins).Site.map GVersion.size).sum ≤ 16777216 := by simp only [Kr]; omega
 have hd : a.Disk.size ≤ 16777216 := by omega
 have hx := K6t (l := a.Script) (v := Kr a seed ins) hl (by omega)
 have hw40 : IntKind.i64.wrap ((a.Statements.length : Int) + a.Keys.length) = ((a.Statements.length + a.Keys.length : Nat) : Int) := by rw [wI (by omega) (by omega)]; omega
 simp only [go_sem]
 apply K0 (C8f a (by omega))
 simp only [go_sem]
 intros
 apply K0 (C40 (Kr a seed ins))
 simp only [go_sem]
 refine ⟨fun h1 => ?_, fun h1 => ?_⟩
 ·have hF : K12 a seed ins = false := by simp [K12, K15, h1]
  rw [K10, hF]
  exact ⟨⟨rfl, rfl, rfl, rfl, rfl, rfl, rfl, rfl, rfl, rfl⟩, rfl⟩
 apply K0 (Chn a.Script (Kr a seed ins) (by omega) hv)
 simp only [go_sem]
 intros
 apply K0 (Cj3 a.Disk (K1a a.Script (Kr a seed ins)) (by omega) (by omega))
 simp only [go_sem, hw40]
 intros
 refine ⟨fun h2 => ?_, fun h2 => ⟨fun h3 => ?_, fun h3 => ?_⟩⟩
 ·have hF : K12 a seed ins = false := by
   cases hc : K15 a.Script (Kr a seed ins)
   ·simp [K12, hc]
   ·rw [K1a, hc, if_pos rfl] at h2
    simp [K12, h2]
  rw [K10, hF]
  exact ⟨⟨rfl, rfl, rfl, rfl, rfl, rfl, rfl, rfl, rfl, rfl⟩, rfl⟩
 ·have hF : K12 a seed ins = false := by
   have : ¬ a.Statements.length + a.Keys.length ≤ 40 := by omega
   simp [K12, this]
  rw [K10, hF]
  exact ⟨⟨rfl, rfl, rfl, rfl, rfl, rfl, rfl, rfl, rfl, rfl⟩, rfl⟩
 have hc : K15 a.Script (Kr a seed ins) = true := by
  cases hc : K15 a.Script (Kr a seed ins)
  ·rw [K1a, hc, if_neg Bool.false_ne_true, Kbk] at h2; cases h2
  ·rfl
 rw [show K1a a.Script (Kr a seed ins) = madeC a.Script (Kr a seed ins) by rw [K1a, hc, if_pos rfl]] at h2 hx ⊢
 have hT : K12 a seed ins = true := by
  have : a.Statements.length + a.Keys.length ≤ 40 := by omega
  simp [K12, hc, h2, this]
 have eT : K10 a seed ins = { a with Disk := K2k a.Disk (madeC a.Script (Kr a seed ins)), Statements := a.Statements ++ K1t a (madeC a.Script (Kr a seed ins)).Root a.Keys.length } := by rw [K10, if_pos hT]
 rw [eT, hT]
 generalize K2k a.Disk (madeC a.Script (Kr a seed ins)) = d
 generalize madeC a.Script (Kr a seed ins) = x at hx ⊢
 have h40 : a.Statements.length + a.Keys.length ≤ 40 := by omega
 refine K5 a.Keys (fun k => [(61, vI k)]) (fun k => [(10, ⟨0, .row true 4 ((a.Statements ++ K1t a x.Root k).map GStatement.enc)⟩), (11, ⟨0, .box [.ref 2 0 9 0 a.Site.length, .ref 3 0 4 0 a.Script.length, .ref 17 0 4 0 d.Containers.length, .ref 18 0 6 0 d.Index.length, .ref 19 0 4 0 d.Wanted.length, .ref 7 0 5 0 a.Exclusions.length, .ref 8 0 4 0 a.Libraries.length, .ref 9 0 1 0 a.Keys.length, .ref 10 0 4 0 (a.Statements ++ K1t a x.Root k).length, .pl (tI a.Now)]⟩)]) (fun _ => True) (by simp only [roomB]; omega) ?_
 simp only [go_sem]
 refine ⟨?_, trivial, ?_, ?_⟩
 ·simp only [go_sem, K1t, List.append_nil]
  try exact ⟨rfl, rfl⟩
 ·intro k key hk _ h0 h1 hw
  have hsl := K4u (a := a) (root := x.Root) k
  have hkl := Km hk
  simp only [go_sem, K4 hk, h0, h1]
  apply K0 (Cfy key ⟨k, x.Root, a.Now, 0⟩)
  simp only [go_sem, hw]
  try intros
  rw [Ka0 hk]
  refine ⟨by decide, by simp only [roomB, List.length_append]; omega, fun _ => ⟨?_, ?_⟩⟩
  ·rw [← List.append_assoc]; exact (List.map_append (f := GStatement.enc) (l₁ := a.Statements ++ K1t a x.Root k) (l₂ := [K9l a x.Root k key])).symm
  ·simp only [List.length_append, List.length_cons, List.length_nil]; omega
 ·intro _
  simp only [go_sem]
def Mcw : MC :=
(Zs [.box 3 0 (.s 0), .alloc 6 1 [.emp 9, .emp 4, .emp 4, .emp 6, .emp 4, .emp 5, .emp 4, .emp 1, .emp 4, pz], .mv 7 cF] [1,2,3,6] (Zs [lT 15 10 3, .call 16 [2, 3, 4, 5, 6, 7, 8, 9, 10] (.f N7c) [.s 15], .alloc 8 11 [.emp 9, .emp 4, .emp 4, .emp 6, .emp 4, .emp 5, .emp 4, .emp 1, .emp 4, pz], sS 10 8 16] [1,2,3,6,8] (Zs [fS 17 3 0, lF 18 1 17, fS 19 3 9, lF 20 1 19, mS 21 1, mS 22 2, .build 23 [.emp 9, pz, pz, .emp 1] [(0, 1, .s 18), (1, 1, .s 20), (2, 1, .s 21), (3, 1, .s 22)], .alloc 9 12 [.emp 9, pz, pz, .emp 1], sS 4 9 23] [3,6,8,9] (Zs [fS 25 3 1, lF 26 1 25, lT 27 4 9, .call 28 [13, 14, 15] (.f N68) [.s 26, .s 27], mS 24 28, .ext 29 (.s 24) 0, .ext 30 (.s 24) 1, .alloc 10 16 [.emp 4, .emp 5, .emp 9, pz], sS 4 10 29, mS 11 30] [3,6,8,10,11] (.seq (.seq (.reg [Za (mS 31 11), Za (.un 32 .not (.s 31)), Za (mS 33 32), Zb 33 false (fS 34 3 8), Zb 33 false (lF 35 1 34), Zb 33 false (nS 36 35), Zb 33 false (fS 37 3 7), Zb 33 false (lF 38 1 37), Zb 33 false (nS 39 38), Zb 33 false (bS 40 .add 36 39), Zb 33 false (bC 41 .gtr 40 40), Za (.pick 42 (.s 33) cT (.s 41))] [3,6,8,10,42])
(.cond (.s 42) (Zs [lT 43 10 8, sS 10 6 43, .mv 7 cF] [6,7] .ret) .skip))
(Zs [fS 45 3 2, lT 46 3 45, lT 47 4 10, .call 48 [17, 18, 19] (.f N9b) [.s 46, .s 47], mS 44 48, .ext 49 (.s 44) 0, .ext 50 (.s 44) 1, .alloc 12 20 [.emp 4, .emp 6, .emp 4], sS 3 12 49, mS 13 50] [3,6,8,10,12,13] (.seq (Zs [mS 51 13, .un 52 .not (.s 51)] [3,6,8,10,12,52] (.cond (.s 52) (Zs [lT 53 10 8, sS 10 6 53, .mv 7 cF] [6,7] .ret) .skip))
(Zs [lT 54 3 12, fS 55 8 2, sS 3 55 54] [3,6,8,10] (.seq (Zs [.mv 14 (ci 0)] [3,6,8,10,14] (.block 0 (.loop ([3,6,8,10,14], [12,20,21]) (.seq (Zs [mS 56 14, fS 57 3 7, lF 58 1 57, nS 59 58, bS 60 .lss 56 59] [3,6,8,10,14,60] (cX 60 0))
(.seq (.block 1 (.dreg [Zf [65,66,67,68,69,70,71,72,73,74,75,76,77] [21] (fS 63 8 8), Zg [65,66,67,68,69,70,71,72,73,74,75,76,77] [21] [0] (lF 64 1 63), Zc [63,64,67,70,71,72,73,74,75] (fS 65 3 7), Zd [63,64,67,70,71,72,73,74,75] [2] (lF 66 1 65), Zc [63,64,65,66,70,71,72,73,74,75] (mS 67 14), Zd [63,64,70,71,72,73,74,75] [2,3,4] (xS 68 1 66 67), Zd [63,64,70,71,72,73,74,75] [2,3,4,5] (lF 69 1 68), Zc [63,64,65,66,67,68,69,71,72,73,74] (mS 70 14), Zc [63,64,65,66,67,68,69,70,73,74] (fS 71 10 3), Zd [63,64,65,66,67,68,69,70,73,74] [8] (lF 72 1 71), Zc [63,64,65,66,67,68,69,70,71,72] (fS 73 3 9), Zd [63,64,65,66,67,68,69,70,71,72] [10] (lF 74 1 73), Zd [63,64,65,66,67,68,69] [7,8,9,10,11] (.build 75 [pz, pz, pz, pz] [(0, 1, .s 70), (1, 1, .s 72), (2, 1, .s 74)]), Zd [63,64] [2,3,4,5,6,7,8,9,10,11,12] (.call 76 [] (.f N57) [.s 69, .s 75]), { o := .lit 77 21 4 32 [.s 76], hs := [63,64], ws := [21], bf := [2,3,4,5,6,7,8,9,10,11,12,13] }, { o := .app 78 10 4 32 (.s 64) (.s 77), ws := [10], bf := (.range 15) }, Ze (.range 16) (fS 79 8 8), { o := sS 1 79 78, ws := [10,11], bf := (.range 17) }] [3,6,8,10,14]))
(pr [mS 61 14, bC 62 .add 61 1, mS 14 62] [3,6,8,10,14]))))))
(Zs [lT 80 10 8, sS 10 6 80, .mv 7 cT] [6,7] .ret))))))))))
set_option maxHeartbeats 2000000 in
theorem Ckb (a : GArchive) (seed : Int) (ins : List Int) (hs : a.size ≤ 16777216) : Ctr Tryz.prog Nba [aS a.enc, aI seed, aL 1 (ins.map encI)] [rS (K10 a seed ins).enc, rB (K12 a seed ins)] := by
 refine cA Mcw 22 81 [(.cell 6 true 10, [true, true, true, true, true, true, true, true, true, false]), (.tmp 7, [false])] Tryz.func48 rfl rfl ?_; unfold Mcw
 intro hb
 clear hb
 have hsA := hs
 simp only [GArchive.size] at hsA
 have hl : a.Script.length ≤ 16777216 := by omega
 have hv : (Kr a seed ins).Site.length + ((Kr a seed ins).Site.map GVersion.size).sum ≤ 16777216 := by simp only [Kr]; omega
 have hd : a.Disk.size ≤ 16777216 := by omega
 have hx := K6t (l := a.Script) (v := Kr a seed ins) hl (by omega)
 have hw40 : IntKind.i64.wrap ((a.Statements.length : Int) + a.Keys.length) = ((a.Statements.length + a.Keys.length : Nat) : Int) := by rw [wI (by omega) (by omega)]; omega
 simp only [go_sem]
 apply K0 (Cff a (by omega))
 simp only [go_sem]
 intros
 apply K0 (Cho a.Script (Kr a seed ins) (by omega) hv)
 simp only [go_sem, hw40]
 intros
 refine ⟨fun h1 => ?_, fun h1 => ⟨fun h2 => ?_, fun h2 => ?_⟩⟩
 ·have hF : K12 a seed ins = false := by simp [K12, h1]
  rw [K10, hF]
  exact ⟨⟨rfl, rfl, rfl, rfl, rfl, rfl, rfl, rfl, rfl, rfl⟩, rfl⟩
 ·have hF : K12 a seed ins = false := by
   have : ¬ a.Statements.length + a.Keys.length ≤ 40 := by omega
   simp [K12, this]
  rw [K10, hF]
  exact ⟨⟨rfl, rfl, rfl, rfl, rfl, rfl, rfl, rfl, rfl, rfl⟩, rfl⟩
 apply K0 (Cj4 a.Disk (K1a a.Script (Kr a seed ins)) (by omega) (by omega))
 simp only [go_sem]
 intros
 rw [show K1a a.Script (Kr a seed ins) = madeC a.Script (Kr a seed ins) by rw [K1a, h1, if_pos rfl]] at hx ⊢
 refine ⟨fun h3 => ?_, fun h3 => ?_⟩
 ·have hF : K12 a seed ins = false := by simp [K12, h3]
  rw [K10, hF]
  exact ⟨⟨rfl, rfl, rfl, rfl, rfl, rfl, rfl, rfl, rfl, rfl⟩, rfl⟩
 have hT : K12 a seed ins = true := by
  have : a.Statements.length + a.Keys.length ≤ 40 := by omega
  simp [K12, h1, h3, this]
 have eT : K10 a seed ins = { a with Disk := K2k a.Disk (madeC a.Script (Kr a seed ins)), Statements := a.Statements ++ K1t a (madeC a.Script (Kr a seed ins)).Root a.Keys.length } := by rw [K10, if_pos hT]
 rw [eT, hT]
 generalize K2k a.Disk (madeC a.Script (Kr a seed ins)) = d
 generalize madeC a.Script (Kr a seed ins) = x at hx ⊢
 have h40 : a.Statements.length + a.Keys.length ≤ 40 := by omega
 refine K5 a.Keys (fun k => [(14, vI k)]) (fun k => [(10, ⟨0, .row true 4 ((a.Statements ++ K1t a x.Root k).map GStatement.enc)⟩), (11, ⟨0, .box [.ref 2 0 9 0 a.Site.length, .ref 3 0 4 0 a.Script.length, .ref 17 0 4 0 d.Containers.length, .ref 18 0 6 0 d.Index.length, .ref 19 0 4 0 d.Wanted.length, .ref 7 0 5 0 a.Exclusions.length, .ref 8 0 4 0 a.Libraries.length, .ref 9 0 1 0 a.Keys.length, .ref 10 0 4 0 (a.Statements ++ K1t a x.Root k).length, .pl (tI a.Now)]⟩)]) (fun _ => True) (by simp only [roomB]; omega) ?_
 simp only [go_sem]
 refine ⟨?_, trivial, ?_, ?_⟩
 ·simp only [go_sem, K1t, List.append_nil]
  try exact ⟨rfl, rfl⟩
 ·intro k key hk _ h0 h1 hw
  have hsl := K4u (a := a) (root := x.Root) k
  have hkl := Km hk
  simp only [go_sem, K4 hk, h0, h1]
  apply K0 (Cfz key ⟨k, x.Root, a.Now, 0⟩)
  simp only [go_sem, hw]
  try intros
  rw [Ka0 hk]
  refine ⟨by decide, by simp only [roomB, List.length_append]; omega, fun _ => ⟨?_, ?_⟩⟩
  ·rw [← List.append_assoc]; exact (List.map_append (f := GStatement.enc) (l₁ := a.Statements ++ K1t a x.Root k) (l₂ := [K9l a x.Root k key])).symm
  ·simp only [List.length_append, List.length_cons, List.length_nil]; omega
 ·intro _
  simp only [go_sem]
end Go.Proofs.YtgkeplbnnjogiaaGreatR
namespace Go.Proofs.YtgkeplbnnjogiaaGreatR
open Go Go.RowKit Go.Proofs
open Nat (reduceEqDiff reduceLT reduceLeDiff reduceAdd reduceMul)
open List (reduceReplicate)
def Mh2 : MC :=
(Zs [.nilo 2 0 1] [0] (Zs [mS 4 0, .call 5 [1] (.f N2) [.s 4], mS 3 5] [3] (Zs [mS 6 3, .callI 7 [] (.f N4v) [.s 6] [1] []] [3] (Zs [mS 8 3, .callI 9 [0] (.f N3q) [.s 8] [1] [], mS 2 9] [2] .ret))))
theorem Clk (l : List Int) (hl : l.length ≤ 1073741824) : Ctr Tryz.prog Ng9 [aL 1 (l.map encI)] [rL 1 ((sortU l).map encI)] := by
 refine cA Mh2 2 10 [(.tmp 2, [true])] Tryz.func301 rfl rfl ?_; unfold Mh2
 intro hb
 clear hb
 simp only [go_sem]
 apply K0 (C6 l hl)
 simp only [go_sem]
 try intros
 apply K7 (Cj5 l)
 simp only [go_sem]
 try intros
 refine ⟨(K66 l).symm, ?_⟩
 apply K7 (Cfx (sortI l))
 simp only [go_sem]
 try intros
 rfl
theorem K8b {n : Int} : ∀ {l : List Int} {k : Nat}, (∀ x ∈ l.take k, x < n) → put l n = l.take k ++ put (l.drop k) n
 | l, 0, _ => by simp
 | [], k + 1, _ => by simp
 | x :: l, k + 1, h => by
  have hx : x < n := h x (by simp)
  rw [put, if_pos hx, List.take_succ_cons, List.drop_succ_cons, List.cons_append, ← K8b (fun y hy => h y (by simp [hy]))]
def Mig : MC :=
(Zs [.nilo 4 0 1] [0,1] (Zs [.mv 5 (ci 0)] [0,1,5] (.seq (.block 0 (.loop ([0,1,5], [0,1]) (.seq (.seq (.reg [Za (mS 6 5), Za (mS 7 0), Za (nS 8 7), Za (bS 9 .lss 6 8), Za (mS 10 9), Zb 10 true (mS 11 0), Zb 10 true (mS 12 5), Zb 10 true (xS 13 1 11 12), Zb 10 true (lF 14 1 13), Zb 10 true (mS 15 1), Zb 10 true (bS 16 .lss 14 15), Za (.pick 17 (.s 10) (.s 16) cF)] [0,1,5,17])
(cX 17 0))
(.block 1 (pr [mS 18 5, bC 19 .add 18 1, mS 5 19] [0,1,5])))))
(.seq (.seq (.reg [Za (mS 20 5), Za (mS 21 0), Za (nS 22 21), Za (bS 23 .lss 20 22), Za (mS 24 23), Zb 24 true (mS 25 0), Zb 24 true (mS 26 5), Zb 24 true (xS 27 1 25 26), Zb 24 true (lF 28 1 27), Zb 24 true (mS 29 1), Zb 24 true (bS 30 .eql 28 29), Za (.pick 31 (.s 24) (.s 30) cF)] [0,1,5,31])
(.cond (.s 31) (Zs [.lit 32 0 1 8 [], mS 33 0, .app 34 0 1 8 (.s 32) (.s 33), mS 4 34] [4] .ret) .skip))
(.seq (.dreg [{ o := .lit 35 0 1 8 [], hs := [36,37,38,40,41,43,44,45], ho := [1], ws := [0] }, Zf [35,37,40,41,43,44,45] [0,1] (mS 36 0), Zf [35,36,40,41,43,44,45] [0,1] (mS 37 5), Zg [35,40,41,43,44,45] [0,1] [1,2] (.slc 38 1 (.s 36) none (some (.s 37)) none), { o := .app 39 0 1 8 (.s 35) (.s 38), hs := [40,41,43,44,45], ho := [1], ws := [0], bf := (.range 4) }, Zf [35,36,37,38,39,43,44,45] [0] (mS 40 1), { o := .lit 41 1 1 8 [.s 40], hs := [35,36,37,38,39,43,44,45], ho := [0], ws := [1], bf := [5] }, { o := .app 42 0 1 8 (.s 39) (.s 41), hs := [43,44,45], ws := [0], bf := (.range 7) }, Zf [35,36,37,38,39,40,41,42,44] [0,1] (mS 43 0), Zf [35,36,37,38,39,40,41,42,43] [0,1] (mS 44 5), Zg [35,36,37,38,39,40,41,42] [0,1] [8,9] (.slc 45 1 (.s 43) (some (.s 44)) none none), { o := .app 46 0 1 8 (.s 42) (.s 45), ws := [0], bf := (.range 11) }, Ze (.range 12) (mS 4 46)] [4])
.ret)))))
theorem Clo (l : List Int) (n : Int) (hs : l.length ≤ 1073741824) : Ctr Tryz.prog Nhr [aL 1 (l.map encI), aI n] [rL 1 ((put l n).map encI)] := by
 refine cA Mig 2 47 [(.tmp 4, [true])] Tryz.func97 rfl rfl ?_; unfold Mig
 intro hb
 clear hb
 simp only [go_sem]
 refine Kg (fun k : Nat => [(5, vI k)]) (fun k => []) (fun k => k ≤ l.length ∧ ∀ x ∈ l.take k, x < n) (fun k => l.length - k) 0 ?_
 simp only [go_sem]
 refine ⟨?_, ⟨by omega, by simp⟩, ?_⟩
 ·simp only [go_sem]
 ·rintro k ⟨hk, hlt⟩
  by_cases hkl : k < l.length
  ·obtain ⟨x, hx⟩ := Kb hkl
   have h1 : (k : Int) < (l.length : Int) := by omega
   have h0 : (0 : Int) ≤ (k : Int) := by omega
   simp only [go_sem, h1, h0, K4 hx, ↓K7q (f := encI) (l := l) hk, ↓K9n (f := encI) (l := l) hk, ↓Kk (f := encI) (fun _ => rfl) l, ↓Kk (f := encI) (fun _ => rfl) (l.take k), ↓Kk (f := encI) (fun _ => rfl) (l.drop k), List.length_append, List.length_map, List.length_cons, List.length_nil, Nat.zero_add]
   refine ⟨fun hxn => ?_, fun hxn => ?_⟩
   ·refine ⟨k + 1, by rw [wI (by omega) (by omega)]; omega, ⟨by omega, fun y hy => ?_⟩, by omega⟩
    rw [Ke hx] at hy
    rcases List.mem_append.1 hy with hy | hy
    ·exact hlt y hy
    ·rw [List.mem_singleton.1 hy]; exact hxn
   ·have hp := K8b hlt
    rw [Ks hx, put, if_neg hxn] at hp
    have ht := List.length_take_le k l
    have hd : (l.drop k).length ≤ l.length := by simp
    refine ⟨fun he => ⟨by simp only [roomB]; omega, ?_⟩, fun he => ⟨⟨by omega, by omega⟩, by simp only [roomB]; omega, by decide, by simp only [roomB]; omega, ⟨by omega, by omega⟩, by simp only [roomB]; omega, ?_⟩⟩
    ·rw [if_pos he, ← Ks hx, List.take_append_drop] at hp
     rw [hp]
    ·rw [if_neg he, ← Ks hx] at hp
     rw [hp]
     simp [encI]
  ·have h1 : ¬ (k : Int) < (l.length : Int) := by omega
   simp only [go_sem, h1, ↓K7q (f := encI) (l := l) hk, ↓K9n (f := encI) (l := l) hk, ↓Kk (f := encI) (fun _ => rfl) (l.take k), ↓Kk (f := encI) (fun _ => rfl) (l.drop k), List.length_append, List.length_map, List.length_cons, List.length_nil, Nat.zero_add]
   obtain rfl : k = l.length := by omega
   have hp := K8b hlt
   rw [List.drop_length, List.take_length, put] at hp
   refine ⟨⟨by omega, by omega, by omega⟩, ?_⟩
   rw [hp, List.take_length, List.drop_length]
   exact ⟨by simp only [roomB]; omega, by decide, by simp only [roomB]; omega, ⟨by omega, by omega, by omega⟩, by simp only [roomB, List.length_nil]; omega, by simp [encI]⟩
def ticks (l : List GCapture) (a : GAddress) : List Int := (l.filter fun c => decide (c.Address = a)).map (·.Tick)
theorem puts_len : ∀ (zs : List Int) , (puts zs).length ≤ zs.length := by
 intro zs
 suffices H : ∀ (zs l : List Int), (zs.foldl put l).length ≤ l.length + zs.length by simpa [puts] using H zs []
 intro zs
 induction zs with
 | nil => intro l; simp
 | cons z zs ih =>
  intro l
  have h1 := ih (put l z)
  have h2 := Ka7 (l := l) (n := z)
  rw [List.foldl_cons, List.length_cons]; omega
def lo (a : GArchive) (x : GAddress) : List Int := puts (ticks (served a) x)
end Go.Proofs.YtgkeplbnnjogiaaGreatR
namespace Go.Proofs.YtgkeplbnnjogiaaGreatR
open Go Go.RowKit Go.Proofs
open Nat (reduceEqDiff reduceLT reduceLeDiff reduceAdd reduceMul)
open List (reduceReplicate)
abbrev fC (f : FuncId) (cs : List T) : RV := ⟨false, [(false, .fn f cs)]⟩
attribute [go_sem] fC
def M2h : MC :=
(Zs [.mv 10 (ci 0)] [0,1,2,3,10] (.block 0 (.loop ([0,1,2,3,10], []) (.seq (Zs [mS 11 10, mS 12 3, bS 13 .lss 11 12] [0,1,2,3,10,13] (cX 13 0))
(.seq (.block 1 (.dreg [Zc [17,18,19,20,21,22,23,24,25,26,27,28,29,30,31,32,33,34,35] (mS 16 0), Zc [16,18,20,21,22,23,24,25,26,27,28,29,30,31,32,33,34,35] (mS 17 1), Zc [16,17,20,21,22,23,24,25,26,27,28,29,30,31,32,33,34,35] (mS 18 10), Zd [16,20,21,22,23,24,25,26,27,28,29,30,31,32,33,34,35] [1,2] (bS 19 .add 17 18), Zf [16,17,18,19,21,22,23,24,25,26,27,28,29,30,31,32,33,34,35,36] [0] (mS 20 0), Zf [16,17,18,19,20,22,24,25,26,27,28,29,30,31,32,33,34,35,36] [0] (mS 21 2), Zf [16,17,18,19,20,21,24,25,26,27,28,29,30,31,32,33,34,35,36] [0] (mS 22 10), Zg [16,17,18,19,20,24,25,26,27,28,29,30,31,32,33,34,35,36] [0] [5,6] (bS 23 .add 21 22), Zc [16,17,18,19,20,21,22,23,25,26,27,30,31,32,33,34,35] (mS 24 0), Zc [16,17,18,19,20,21,22,23,24,26,30,31,32,33,34,35] (mS 25 2), Zc [16,17,18,19,20,21,22,23,24,25,30,31,32,33,34,35] (mS 26 10), Zd [16,17,18,19,20,21,22,23,24,30,31,32,33,34,35] [9,10] (bS 27 .add 25 26), Zd [16,17,18,19,20,21,22,23,30,31,32,33,34,35] [8,9,10,11] (xS 28 1 24 27), Zd [16,17,18,19,20,21,22,23,30,31,32,33,34,35] [8,9,10,11,12] (lF 29 1 28), Zc [16,17,18,19,20,21,22,23,24,25,26,27,28,29,31,32,33] (mS 30 0), Zc [16,17,18,19,20,21,22,23,24,25,26,27,28,29,30,32] (mS 31 1), Zc [16,17,18,19,20,21,22,23,24,25,26,27,28,29,30,31] (mS 32 10), Zd [16,17,18,19,20,21,22,23,24,25,26,27,28,29,30] [15,16] (bS 33 .add 31 32), Zd [16,17,18,19,20,21,22,23,24,25,26,27,28,29] [14,15,16,17] (xS 34 1 30 33), Zd [16,17,18,19,20,21,22,23,24,25,26,27,28,29] [14,15,16,17,18] (lF 35 1 34), Zd [20,21,22,23] [0,1,2,3,8,9,10,11,12,13,14,15,16,17,18,19] (xS 36 1 16 19), { o := sS 1 36 29, hs := [20,21,22,23], ws := [0], bf := [0,1,2,3,8,9,10,11,12,13,14,15,16,17,18,19,20] }, Ze (.range 22) (xS 37 1 20 23), { o := sS 1 37 35, ws := [0], bf := (.range 23) }] [0,1,2,3,10]))
(pr [mS 14 10, bC 15 .add 14 1, mS 10 15] [0,1,2,3,10]))))))
theorem C3c (P X M Y Q : List Int) (f : FuncId) {cs : List T} {a b n : Nat} (ha : P.length = a) (hb : (P ++ X ++ M).length = b) (hX : X.length = n) (hY : Y.length = n) : CtrI Tryz.prog N2f [oL 1 ((P ++ X ++ M ++ Y ++ Q).map encI), iI a, iI b, iI n, fC f cs] [some (1, (P ++ Y ++ M ++ X ++ Q).map encI)] [] := by
 have hL0 : (P ++ X ++ M ++ Y ++ Q).length = b + n + Q.length := by rw [List.length_append, List.length_append, hb, hY]
 have hL1 : (P ++ Y ++ M ++ X ++ Q).length = (P ++ X ++ M ++ Y ++ Q).length := by simp; omega
 have hb' : b = a + n + M.length := by rw [← hb]; simp; omega
 have hsw0 : swp P X M Y Q 0 = P ++ X ++ M ++ Y ++ Q := by simp [swp]
 have hswn : swp P X M Y Q n = P ++ Y ++ M ++ X ++ Q := by simp [swp, ← hX, List.take_of_length_le (show Y.length ≤ X.length by omega), List.drop_of_length_le (show Y.length ≤ X.length by omega)]
 refine K18 (M := M2h) (m := 0) (n := 38) (res := []) hmix Tryz.func435 rfl (by kernel_rfl) rfl (by kernel_rfl) (by kernel_rfl) (Nat.le_of_ble_eq_true rfl) rfl rfl ?_; unfold M2h
 intro hbd
 have hl := Kw hbd
 clear hbd
 simp only [roomB] at hl
 rw [← hsw0, ← hswn]
 rw [← hsw0, ← hswn] at hL1
 rw [← hsw0] at hl hL0
 subst hX
 generalize hN : (swp P X M Y Q 0).length = N at *
 simp only [go_sem, hN]
 refine K5 X (fun i => [(10, vI i)]) (fun i => [(0, ⟨1, .row true 1 ((swp P X M Y Q i).map encI)⟩)]) (fun _ => True) (by simp only [roomB]; omega) ?_
 simp only [go_sem]
 refine ⟨?_, trivial, ?_, ?_⟩
 ·simp only [go_sem]
 ·intro i x hx _ h0 h1 hw
  have hi := Km hx
  obtain ⟨y, hy⟩ := Kb (show i < Y.length by omega)
  obtain ⟨e1, e2⟩ := swp_two (P := P) (M := M) (Q := Q) (f := encI) hx hy
  have hlen := swp_len (P := P) (X := X) (M := M) (Y := Y) (Q := Q) (i := i) hY.symm
  rw [e1, e2]
  generalize hAe : (P ++ Y.take i).map encI = A at e1 e2
  generalize hBe : (X.drop (i + 1) ++ M ++ X.take i).map encI = B at e1 e2
  generalize hCe : (Y.drop (i + 1) ++ Q).map encI = C at e1 e2
  have hA : A.length = a + i := by subst hAe; simp; omega
  have hB : (a + i) + 1 + B.length = b + i := by subst hBe; simp; omega
  have hC : C.length = Y.length - (i + 1) + Q.length := by subst hCe; simp
  obtain ⟨g1, g2, s1, s2, hL, d1, d2⟩ := K4w (C := C) hA hB
  have hL' : ∀ e e', (two A e B e' C).length = N := fun e e' => by rw [hL]; omega
  have k1 : (0 : Int) ≤ ((a + i : Nat) : Int) := by omega
  have k2 : ((a + i : Nat) : Int) < (N : Int) := by omega
  have k3 : (0 : Int) ≤ ((b + i : Nat) : Int) := by omega
  have k4 : ((b + i : Nat) : Int) < (N : Int) := by omega
  have k5 : ¬ b + i = a + i := by omega
  simp only [go_sem, g1, g2, s1, s2, hL', hw, h1, wN (a := a) (b := i) (by omega), wN (a := b) (b := i) (by omega), k1, k2, k3, k4]
 ·intro _
  simp only [go_sem]
def RotZ (P X Y Q : List Int) (m : Nat) (d : List Int) (i j : Nat) : Prop :=
 ∃ C X' Y' D, d = P ++ C ++ X' ++ Y' ++ D ++ Q ∧ X'.length = i ∧ Y'.length = j ∧ P.length + C.length + i = m ∧ C ++ Y' ++ X' ++ D = Y ++ X ∧ 0 < i ∧ 0 < j
theorem RotZ.gt {P X Y Q : List Int} {m : Nat} {d : List Int} {i j : Nat} (h : RotZ P X Y Q m d i j) (hij : j < i) :
  ∃ P' X1 M Y' Q', d = P' ++ X1 ++ M ++ Y' ++ Q' ∧ P'.length = m - i ∧ (P' ++ X1 ++ M).length = m ∧ X1.length = j ∧ Y'.length = j ∧ RotZ P X Y Q m (P' ++ Y' ++ M ++ X1 ++ Q') (i - j) j := by
 obtain ⟨C, X', Y', D, rfl, rfl, rfl, h3, h4, h5, h6⟩ := h
 obtain ⟨X1, X2, rfl, hX1⟩ : ∃ X1 X2, X' = X1 ++ X2 ∧ X1.length = Y'.length := ⟨X'.take Y'.length, X'.drop Y'.length, (List.take_append_drop _ _).symm, by simp; omega⟩
 simp only [List.length_append] at *
 exact ⟨P ++ C, X1, X2, Y', D ++ Q, by simp, by simp; omega, by simp; omega, hX1, rfl, C ++ Y', X2, X1, D, by simp, by omega, by omega, by simp; omega, by rw [← h4]; simp, by omega, by omega⟩
theorem RotZ.le {P X Y Q : List Int} {m : Nat} {d : List Int} {i j : Nat} (h : RotZ P X Y Q m d i j) (hij : i < j) :
  ∃ P' X' M Y2 Q', d = P' ++ X' ++ M ++ Y2 ++ Q' ∧ P'.length = m - i ∧ (P' ++ X' ++ M).length = m + j - i ∧ X'.length = i ∧ Y2.length = i ∧ RotZ P X Y Q m (P' ++ Y2 ++ M ++ X' ++ Q') i (j - i) := by
 obtain ⟨C, X', Y', D, rfl, rfl, rfl, h3, h4, h5, h6⟩ := h
 obtain ⟨Y1, Y2, rfl, hY2⟩ : ∃ Y1 Y2, Y' = Y1 ++ Y2 ∧ Y2.length = X'.length := ⟨Y'.take (Y'.length - X'.length), Y'.drop (Y'.length - X'.length), (List.take_append_drop _ _).symm, by simp; omega⟩
 simp only [List.length_append] at *
 exact ⟨P ++ C, X', Y1, Y2, D ++ Q, by simp, by simp; omega, by simp; omega, rfl, hY2, C, Y2, Y1, X' ++ D, by simp, by omega, by omega, by omega, by rw [← h4]; simp, by omega, by omega⟩
theorem RotZ.eq {P X Y Q : List Int} {m : Nat} {d : List Int} {i : Nat} (h : RotZ P X Y Q m d i i) :
  ∃ P' X' Y' Q', d = P' ++ X' ++ [] ++ Y' ++ Q' ∧ P'.length = m - i ∧ (P' ++ X' ++ []).length = m ∧ X'.length = i ∧ Y'.length = i ∧ P' ++ Y' ++ [] ++ X' ++ Q' = P ++ Y ++ X ++ Q := by
 obtain ⟨C, X', Y', D, rfl, rfl, h2, h3, h4, h5, h6⟩ := h
 refine ⟨P ++ C, X', Y', D ++ Q, by simp, by simp; omega, by simp; omega, rfl, h2, ?_⟩
 have := congrArg (fun l => P ++ (l ++ Q)) h4
 simpa using this
theorem RotZ.len {P X Y Q : List Int} {m : Nat} {d : List Int} {i j : Nat} (h : RotZ P X Y Q m d i j) : d.length = (P ++ X ++ Y ++ Q).length ∧ i ≤ m ∧ m + j ≤ d.length ∧ 0 < i ∧ 0 < j := by
 obtain ⟨C, X', Y', D, rfl, rfl, rfl, h3, h4, h5, h6⟩ := h
 have := congrArg List.length h4
 simp at this ⊢
 omega
theorem RotZ.start {P X Y Q : List Int} {m i j : Nat} (hm : P.length + X.length = m) (hi : X.length = i) (hj : Y.length = j) (hX : 0 < X.length) (hY : 0 < Y.length) : RotZ P X Y Q m (P ++ X ++ Y ++ Q) i j :=
 ⟨[], X, Y, [], by simp, hi, hj, by simp; omega, by simp, by omega, by omega⟩
def M33 : MC := Y28 N2f
theorem Cf (P X Y Q : List Int) (f : FuncId) {cs : List T} {a m b : Nat} (ha : P.length = a) (hm : (P ++ X).length = m) (hb : (P ++ X ++ Y).length = b) (hX : 0 < X.length) (hY : 0 < Y.length) : CtrI Tryz.prog N32 [oL 1 ((P ++ X ++ Y ++ Q).map encI), iI a, iI m, iI b, fC f cs] [some (1, (P ++ Y ++ X ++ Q).map encI)] [] := by
 refine K18 (M := M33) (m := 0) (n := 58) (res := []) hmix Tryz.func433 rfl (by kernel_rfl) rfl (by kernel_rfl) (by kernel_rfl) (Nat.le_of_ble_eq_true rfl) rfl rfl ?_; unfold M33
 intro hbd
 have hl := Kw hbd
 clear hbd
 have hN2 : (P ++ Y ++ X ++ Q).length = (P ++ X ++ Y ++ Q).length := by simp; omega
 have hm' : m = a + X.length := by rw [← hm, ← ha]; simp
 have hb' : b = m + Y.length := by rw [← hb, ← hm]; simp; omega
 have hbN : b ≤ (P ++ X ++ Y ++ Q).length := by rw [List.length_append, hb]; omega
 generalize hN : (P ++ X ++ Y ++ Q).length = N at *
 simp only [roomB] at hl
 simp only [go_sem, hN, wS (a := m) (b := a) (by omega) (by omega), wS (a := b) (b := m) (by omega) (by omega)]
 refine Kg (ι := List Int × Nat × Nat) (fun s => [(10, vI s.2.1), (11, vI s.2.2)]) (fun s => [(0, ⟨1, .row true 1 (s.1.map encI)⟩)]) (fun s => RotZ P X Y Q m s.1 s.2.1 s.2.2) (fun s => s.2.1 + s.2.2) (P ++ X ++ Y ++ Q, m - a, b - m) ?_
 simp only [go_sem]
 refine ⟨?_, RotZ.start (by omega) (show X.length = m - a by omega) (show Y.length = b - m by omega) hX hY, ?_⟩
 ·simp only [go_sem]
 ·rintro ⟨d, i, j⟩ hI
  simp only at hI
  obtain ⟨hd, h1, h2, h3, h4⟩ := hI.len
  rw [hN] at hd
  simp only [go_sem, hd]
  refine ⟨fun hne => ⟨fun hgt => ?_, fun hle => ?_⟩, fun heq => ?_⟩
  ·obtain ⟨P', X1, M, Y', Q', rfl, k1, k2, k3, k4, hR⟩ := hI.gt (by omega)
   have hd2 := hR.len.1
   rw [hN] at hd2
   rw [wS h1 (by omega)]
   apply K7 (C3c P' X1 M Y' Q' f k1 k2 k3 k4)
   simp only [go_sem, wS (a := i) (b := j) (by omega) (by omega)]
   exact ⟨(_, i - j, j), ⟨⟨rfl, rfl⟩, rfl⟩, hR, by show i - j + j < i + j; omega⟩
  ·obtain ⟨P', X1, M, Y', Q', rfl, k1, k2, k3, k4, hR⟩ := hI.le (by omega)
   have hd2 := hR.len.1
   rw [hN] at hd2
   rw [wS h1 (by omega), wN (by omega), wS (a := m + j) (b := i) (by omega) (by omega)]
   apply K7 (C3c P' X1 M Y' Q' f k1 k2 k3 k4)
   simp only [go_sem, wS (a := j) (b := i) (by omega) (by omega)]
   exact ⟨(_, i, j - i), ⟨⟨rfl, rfl⟩, rfl⟩, hR, by show i + (j - i) < i + j; omega⟩
  ·obtain rfl : i = j := by omega
   obtain ⟨P', X1, Y', Q', rfl, k1, k2, k3, k4, hR⟩ := hI.eq
   rw [wS h1 (by omega)]
   apply K7 (C3c P' X1 [] Y' Q' f k1 k2 k3 k4)
   rw [hR]
   simp only [go_sem]
def ltz (c : Int → Int → Int) (x y : Int) : Bool := decide (c x y < 0)
def InsZ (lt : Int → Int → Bool) (P S R : List Int) (x : Int) (d : List Int) (j : Nat) : Prop :=
 ∃ s1 s2, d = P ++ s1 ++ x :: s2 ++ R ∧ P.length + s1.length = j ∧ s1 ++ s2 = S ∧ ∀ y ∈ s2, lt x y = true
theorem InsZ.len {lt : Int → Int → Bool} {P S R : List Int} {x : Int} {d : List Int} {j : Nat} (h : InsZ lt P S R x d j) : d.length = P.length + S.length + 1 + R.length ∧ P.length ≤ j ∧ j ≤ P.length + S.length := by
 obtain ⟨s1, s2, rfl, rfl, rfl, h⟩ := h
 simp; omega
theorem InsZ.done {lt : Int → Int → Bool} (hw : Srt.Swo lt) {P S R : List Int} {x : Int} {d : List Int} {j : Nat} (h : InsZ lt P S R x d j) (hs : Srt.srt lt S) (hj : j = P.length ∨ ∀ z ∈ d[j - 1]?, lt x z = false) : d = P ++ Srt.ins lt x S ++ R := by
 obtain ⟨s1, s2, rfl, rfl, rfl, h⟩ := h
 rw [Srt.ins_mid]
 ·simp
 ·intro y hy
  rcases List.eq_nil_or_concat s1 with rfl | ⟨s, z, rfl⟩
  ·simp at hy
  ·rcases hj with hj | hj
   ·simp at hj
   ·rw [List.concat_eq_append] at *
    have hz : lt x z = false := hj z (by simp [])
    rcases List.mem_append.1 hy with k | k
    ·have := (Srt.srt_append.1 (Srt.srt_append.1 hs).1).2.2 y k z (by simp)
     exact hw.ntr hz this
    ·obtain rfl := List.mem_singleton.1 k
     exact hz
 ·intro y hy
  exact h y (List.mem_of_mem_head? hy)
theorem InsZ.step {lt : Int → Int → Bool} {P S R : List Int} {x : Int} {d : List Int} {j : Nat} (h : InsZ lt P S R x d j) (hj : P.length < j) :
  ∃ A z C, d = A ++ z :: ([] ++ x :: C) ∧ A.length = j - 1 ∧ d[j - 1]? = some z ∧ (lt x z = true → InsZ lt P S R x (A ++ x :: ([] ++ z :: C)) (j - 1)) := by
 obtain ⟨s1, s2, rfl, rfl, rfl, h⟩ := h
 rcases List.eq_nil_or_concat s1 with rfl | ⟨s, z, rfl⟩
 ·simp at hj
 ·rw [List.concat_eq_append] at *
  refine ⟨P ++ s, z, s2 ++ R, by simp, by simp, by simp [], fun hl => ⟨s, z :: s2, by simp, by simp, by simp, ?_⟩⟩
  intro y hy
  rcases List.mem_cons.1 hy with rfl | k
  ·exact hl
  ·exact h y k
def M1u : MC :=
(Zs [mS 10 1, bC 11 .add 10 1, mS 8 11] [0,1,2,3,8] (.block 0 (.loop ([0,1,2,3,8], []) (.seq (Zs [mS 12 8, mS 13 2, bS 14 .lss 12 13] [0,1,2,3,8,14] (cX 14 0))
(.seq (.block 1 (Zs [mS 17 8, mS 9 17] [0,1,2,3,8,9] (.block 2 (.loop ([0,1,2,3,8,9], []) (.seq (.seq (.dreg [Zc [19] (mS 18 9), Zc [18] (mS 19 1), Ze [0,1] (bS 20 .gtr 18 19), Ze [0,1,2] (mS 21 20), { o := mS 22 3, g := some (21, true), hs := [23,24,25,26,27,28,29,30,31], bf := (.range 4) }, { o := mS 23 0, g := some (21, true), hs := [22,24,27,28,29,30,31], bf := (.range 4) }, { o := mS 24 9, g := some (21, true), hs := [22,23,27,28,29,30,31], bf := (.range 4) }, { o := xS 25 1 23 24, g := some (21, true), hs := [22,27,28,29,30,31], bf := [0,1,2,3,5,6] }, { o := lF 26 1 25, g := some (21, true), hs := [22,27,28,29,30,31], bf := [0,1,2,3,5,6,7] }, { o := mS 27 0, g := some (21, true), hs := [22,23,24,25,26,28,29], bf := (.range 4) }, { o := mS 28 9, g := some (21, true), hs := [22,23,24,25,26,27], bf := (.range 4) }, { o := bC 29 .sub 28 1, g := some (21, true), hs := [22,23,24,25,26,27], bf := [0,1,2,3,10] }, { o := xS 30 1 27 29, g := some (21, true), hs := [22,23,24,25,26], bf := [0,1,2,3,9,10,11] }, { o := lF 31 1 30, g := some (21, true), hs := [22,23,24,25,26], bf := [0,1,2,3,9,10,11,12] }, { o := .call 32 [] (.s 22) [.s 26, .s 31], g := some (21, true), bf := (.range 14) }, { o := bC 33 .lss 32 0, g := some (21, true), bf := (.range 15) }, Ze (.range 16) (.pick 34 (.s 21) (.s 33) cF)] [0,1,2,3,8,9,34])
(cX 34 2))
(.seq (.block 3 (.dreg [Zc [38,39,40,41,42,43,44,45,46,47,48,49,50] (mS 37 0), Zc [37,39,40,41,42,43,44,45,46,47,48,49,50] (mS 38 9), Zf [37,38,40,41,42,43,44,45,46,47,48,49,50,51] [0] (mS 39 0), Zf [37,38,39,42,43,44,45,46,47,48,49,50,51] [0] (mS 40 9), Zg [37,38,39,42,43,44,45,46,47,48,49,50,51] [0] [3] (bC 41 .sub 40 1), Zc [37,38,39,40,41,43,44,47,48,49,50] (mS 42 0), Zc [37,38,39,40,41,42,47,48,49,50] (mS 43 9), Zd [37,38,39,40,41,42,47,48,49,50] [6] (bC 44 .sub 43 1), Zd [37,38,39,40,41,47,48,49,50] [5,6,7] (xS 45 1 42 44), Zd [37,38,39,40,41,47,48,49,50] [5,6,7,8] (lF 46 1 45), Zc [37,38,39,40,41,42,43,44,45,46,48] (mS 47 0), Zc [37,38,39,40,41,42,43,44,45,46,47] (mS 48 9), Zd [37,38,39,40,41,42,43,44,45,46] [10,11] (xS 49 1 47 48), Zd [37,38,39,40,41,42,43,44,45,46] [10,11,12] (lF 50 1 49), Zd [39,40,41] [0,1,5,6,7,8,9,10,11,12,13] (xS 51 1 37 38), { o := sS 1 51 46, hs := [39,40,41], ws := [0], bf := [0,1,5,6,7,8,9,10,11,12,13,14] }, Ze (.range 16) (xS 52 1 39 41), { o := sS 1 52 50, ws := [0], bf := (.range 17) }] [0,1,2,3,8,9]))
(pr [mS 35 9, bC 36 .sub 35 1, mS 9 36] [0,1,2,3,8,9])))))))
(pr [mS 15 8, bC 16 .add 15 1, mS 8 16] [0,1,2,3,8]))))))
theorem C43 (P X Q : List Int) (f : FuncId) {cs : List T} (c : Int → Int → Int) (hc : ∀ x y, Ctr Tryz.prog f (aI x :: aI y :: cs.map (fun t => (false, [t]))) [rI (c x y)]) (hw : Srt.Swo (ltz c)) {a b : Nat} (ha : P.length = a) (hb : (P ++ X).length = b) : CtrI Tryz.prog N1q [oL 1 ((P ++ X ++ Q).map encI), iI a, iI b, fC f cs] [some (1, (P ++ Srt.isort (ltz c) X ++ Q).map encI)] [] := by
 have hlk : ∀ k, (P ++ Srt.isort (ltz c) (X.take k) ++ (X.drop k ++ Q)).length = (P ++ X ++ Q).length := fun k => by simp [Srt.len_isort]; omega
 refine K18 (M := M1u) (m := 0) (n := 53) (res := []) hmix Tryz.func424 rfl (by kernel_rfl) rfl (by kernel_rfl) (by kernel_rfl) (Nat.le_of_ble_eq_true rfl) rfl rfl ?_; unfold M1u
 intro hbd
 have hl := Kw hbd
 clear hbd
 have hb' : b = a + X.length := by rw [← hb, ← ha]; simp
 have hbN : b ≤ (P ++ X ++ Q).length := by rw [List.length_append, hb]; omega
 generalize hN : (P ++ X ++ Q).length = N at *
 simp only [roomB] at hl
 simp only [go_sem, hN, wN1 (a := a) (by omega)]
 refine Kg (fun k : Nat => [(8, vI ((a + k : Nat) : Int))]) (fun k => [(0, ⟨1, .row true 1 ((P ++ Srt.isort (ltz c) (X.take k) ++ (X.drop k ++ Q)).map encI)⟩)]) (fun k => 1 ≤ k ∧ (k ≤ X.length ∨ k = 1)) (fun k => X.length - k) 1 ?_
 simp only [go_sem]
 refine ⟨?_, ⟨by omega, by omega⟩, ?_⟩
 ·simp only [go_sem]
  cases X with
  | nil => simp [Srt.isort, Srt.mrg]
  | cons x X => simp [Srt.isort, Srt.mrg, Srt.ins]
 ·rintro k ⟨h1, h2⟩
  simp only [go_sem]
  refine ⟨fun hlt => ?_, fun hge => ?_⟩
  ·obtain ⟨x, hx⟩ := Kb (show k < X.length by omega)
   refine Kg (ι := List Int × Nat) (fun s => [(9, vI s.2)]) (fun s => [(0, ⟨1, .row true 1 (s.1.map encI)⟩)]) (fun s => InsZ (ltz c) P (Srt.isort (ltz c) (X.take k)) (X.drop (k + 1) ++ Q) x s.1 s.2) (fun s => s.2) (P ++ Srt.isort (ltz c) (X.take k) ++ (X.drop k ++ Q), a + k) ?_
   simp only [go_sem]
   refine ⟨?_, ⟨Srt.isort (ltz c) (X.take k), [], by simp [Ks hx], by simp [Srt.len_isort]; omega, by simp, by simp⟩, ?_⟩
   ·simp only [go_sem]
   ·rintro ⟨d, j⟩ hI
    simp only at hI
    obtain ⟨hd, h3, h4⟩ := hI.len
    have hdN : d.length = N := by
     have := hlk k
     simp [Ks hx] at this hd
     omega
    have hdone : (j = P.length ∨ ∀ z ∈ d[j - 1]?, ltz c x z = false) → d.map encI = (P ++ Srt.isort (ltz c) (X.take (k + 1)) ++ (X.drop (k + 1) ++ Q)).map encI := fun h => by
     rw [hI.done hw (Srt.srt_isort hw _) h, Ke hx, Srt.isort_snoc]
    by_cases hj : P.length < j
    ·obtain ⟨A, z, C, e, k1, k2, k3⟩ := hI.step hj
     have e' : d.map encI = two (A.map encI) (encI z) [] (encI x) (C.map encI) := by subst e; simp [two]
     have e2 : (A ++ x :: ([] ++ z :: C)).map encI = two (A.map encI) (encI x) [] (encI z) (C.map encI) := by simp [two]
     obtain ⟨g1, g2, s1, s2, hL, d1, d2⟩ := K4w (A := A.map encI) (B := []) (C := C.map encI) (p := j - 1) (q := j) (by simpa using k1) (by simp; omega)
     have hL' : ∀ u v, (two (A.map encI) u [] v (C.map encI)).length = N := fun u v => by
      rw [← hdN, hL, e]; simp; omega
     rw [e']
     have j0 : (j : Int) > (a : Int) := by omega
     have j1 : (0 : Int) ≤ (j : Int) := by omega
     have j2 : (j : Int) < (N : Int) := by omega
     have j3 : (0 : Int) ≤ ((j - 1 : Nat) : Int) := by omega
     have j4 : ((j - 1 : Nat) : Int) < (N : Int) := by omega
     simp only [go_sem, hL', g1, g2, j0, j1, j2, j3, j4, wS1 (a := j) (by omega) (by omega)]
     apply K0 (hc x z)
     simp only [go_sem, hL', g1, g2, s1, s2, j1, j2, j3, j4, wS1 (a := j) (by omega) (by omega), wN1 (a := a + k) (by omega)]
     intro _
     refine ⟨fun hn => ⟨(A ++ x :: ([] ++ z :: C), j - 1), ⟨rfl, e2.symm⟩, k3 (by simpa [ltz] using hn), by show j - 1 < j; omega⟩, fun hn => ?_⟩
     have hz : ltz c x z = false := by simpa [ltz] using hn
     have := hdone (.inr (by rw [k2]; intro y hy; obtain rfl := Option.some.inj hy; exact hz))
     rw [e'] at this
     exact ⟨k + 1, ⟨rfl, this⟩, ⟨by omega, by omega⟩, by omega⟩
    ·have j0 : ¬ (j : Int) > (a : Int) := by omega
     simp only [go_sem, j0, wN1 (a := a + k) (by omega)]
     have := hdone (.inl (by omega))
     exact ⟨k + 1, ⟨rfl, this⟩, ⟨by omega, by omega⟩, by omega⟩
  ·have hk : X.length ≤ k := by omega
   rw [List.take_of_length_le hk, List.drop_of_length_le hk, List.nil_append]
def SymZ (lt : Int → Int → Bool) (X Y : List Int) (M u0 v0 u v : Nat) : Prop :=
 u0 ≤ u ∧ u ≤ v ∧ v ≤ v0 ∧ (u = 0 ∨ Y.length ≤ M - u ∨ ∃ y x, Y[M - u]? = some y ∧ X[u - 1]? = some x ∧ lt y x = false) ∧
  (v = M ∨ v = X.length ∨ ∃ y x, Y[M - 1 - v]? = some y ∧ X[v]? = some x ∧ lt y x = true)
theorem SymZ.fin {lt : Int → Int → Bool} (hw : Srt.Swo lt) {X Y : List Int} {M u0 v0 u : Nat} (h : SymZ lt X Y M u0 v0 u u) (hX : Srt.srt lt X) (hY : Srt.srt lt Y) (q2 : v0 ≤ M) (q3 : v0 ≤ X.length) (q4 : M ≤ u0 + Y.length) :
  ∃ A1 A2 B1 B2, X = A1 ++ A2 ∧ Y = B1 ++ B2 ∧ A1.length = u ∧ B1.length = M - u ∧ u ≤ M ∧ Srt.mrg lt X Y = Srt.mrg lt A1 B1 ++ Srt.mrg lt A2 B2 ∧ Srt.srt lt A1 ∧ Srt.srt lt A2 ∧ Srt.srt lt B1 ∧ Srt.srt lt B2 := by
 obtain ⟨h1, h2, h3, h4, h5⟩ := h
 have e := Srt.mrg_sym hw hX hY (by omega) (by omega) h4 h5
 have sX := Srt.srt_append.1 ((List.take_append_drop u X).symm ▸ hX)
 have sY := Srt.srt_append.1 ((List.take_append_drop (M - u) Y).symm ▸ hY)
 exact ⟨X.take u, X.drop u, Y.take (M - u), Y.drop (M - u), (List.take_append_drop _ _).symm, (List.take_append_drop _ _).symm, by simp; omega, by simp; omega, by omega, e, sX.1, sX.2.1, sY.1, sY.2.1⟩
theorem symZL (lt : Int → Int → Bool) {P A1 A2 B1 B2 Q : List Int} {a m b M u N n : Nat} (ha : P.length = a) (hA1 : A1.length = u) (hB1 : B1.length = M - u) (huM : u ≤ M) (hm : m = a + (A1 ++ A2).length) (hb : b = m + (B1 ++ B2).length)
  (hN : (P ++ (A1 ++ A2) ++ (B1 ++ B2) ++ Q).length = N) (hM : M = ((A1 ++ A2).length + (B1 ++ B2).length) / 2) (hn : (A1 ++ A2).length + (B1 ++ B2).length ≤ n + 1) (h1 : ¬ ((m - a : Nat) : Int) = 1) (h2 : ¬ ((b - m : Nat) : Int) = 1) (hX : 0 < (A1 ++ A2).length) (hY : 0 < (B1 ++ B2).length) :
  ((P ++ A1 ++ B1 ++ A2 ++ (B2 ++ Q)).length = N ∧ (P ++ A1 ++ A2 ++ B1 ++ (B2 ++ Q)).length = N ∧ (P ++ A1 ++ B1 ++ (A2 ++ (B2 ++ Q))).length = N ∧ (P ++ Srt.mrg lt A1 B1 ++ A2 ++ B2 ++ Q).length = N ∧ (P ++ Srt.mrg lt A1 B1 ++ (A2 ++ (B2 ++ Q))).length = N ∧ (P ++ Srt.mrg lt A1 B1 ++ Srt.mrg lt A2 B2 ++ Q).length = N) ∧
  ((P ++ A1).length = a + u ∧ (P ++ A1 ++ A2).length = m ∧ (P ++ A1 ++ A2 ++ B1).length = m + (M - u) ∧ (P ++ A1 ++ B1).length = a + M ∧ (P ++ Srt.mrg lt A1 B1).length = a + M ∧ (P ++ Srt.mrg lt A1 B1 ++ A2).length = m + (M - u) ∧ (P ++ Srt.mrg lt A1 B1 ++ A2 ++ B2).length = b) ∧
  A1.length + B1.length ≤ n ∧ A2.length + B2.length ≤ n ∧
  (m = a + u + A2.length ∧ m + (M - u) = m + B1.length ∧ a + u = a + A1.length ∧ a + M = a + u + B1.length ∧ m + (M - u) = a + M + A2.length ∧ b = m + (M - u) + B2.length) ∧
  ((0 < A1.length ∧ 0 < A2.length ∧ 0 < B1.length ∧ 0 < B2.length) ∨ (A1.length = 0 ∧ 0 < A2.length ∧ 0 < B1.length ∧ 0 < B2.length) ∨ (0 < A1.length ∧ A2.length = 0 ∧ 0 < B1.length ∧ 0 < B2.length) ∨ (0 < A1.length ∧ 0 < A2.length ∧ B1.length = 0 ∧ 0 < B2.length) ∨ (0 < A1.length ∧ 0 < A2.length ∧ 0 < B1.length ∧ B2.length = 0) ∨ (A1.length = 0 ∧ 0 < A2.length ∧ 0 < B1.length ∧ B2.length = 0) ∨ (0 < A1.length ∧ A2.length = 0 ∧ B1.length = 0 ∧ 0 < B2.length)) := by
 simp only [List.length_append, Srt.len_mrg] at *
 have h7 := sym7 (u := A1.length) (l2 := A2.length) (k := B1.length) (l4 := B2.length) (M := M) (by omega) (by omega) (by omega) (by omega) (by omega)
 refine ⟨⟨?_, ?_, ?_, ?_, ?_, ?_⟩, ⟨?_, ?_, ?_, ?_, ?_, ?_, ?_⟩, ?_, ?_, ⟨?_, ?_, ?_, ?_, ?_, ?_⟩, h7⟩ <;> clear h7 <;> omega
def M2q : MC :=
(.seq (Zs [mS 25 2, mS 26 1, bS 27 .sub 25 26, bC 28 .eql 27 1] [0,1,2,3,4,28] (.cond (.s 28) (Zs [mS 29 2, mS 10 29] [0,1,3,4,10] (Zs [mS 30 3, mS 11 30] [0,1,4,10,11] (.seq (.block 0 (.loop ([0,1,4,10,11], []) (.seq (Zs [mS 31 10, mS 32 11, bS 33 .lss 31 32] [0,1,4,10,11,33] (cX 33 0))
(.block 1 (Zs [mS 34 10, mS 35 11, bS 36 .add 34 35, .convI 37 .u64 (.s 36), .bin 38 false .shr (.s 37) (.c (.int .u64 1)), .convI 39 .i64 (.s 38), mS 12 39] [0,1,4,10,11,12] (.seq (.dreg [Zc [41,42,43,44,45,46,47,48] (mS 40 4), Zc [40,42,45,46,47,48] (mS 41 0), Zc [40,41,45,46,47,48] (mS 42 12), Zd [40,45,46,47,48] [1,2] (xS 43 1 41 42), Zd [40,45,46,47,48] [1,2,3] (lF 44 1 43), Zc [40,41,42,43,44,46] (mS 45 0), Zc [40,41,42,43,44,45] (mS 46 1), Zd [40,41,42,43,44] [5,6] (xS 47 1 45 46), Zd [40,41,42,43,44] [5,6,7] (lF 48 1 47), Ze (.range 9) (.call 49 [] (.s 40) [.s 44, .s 48]), Ze (.range 10) (bC 50 .lss 49 0)] [0,1,4,10,11,12,50])
(.cond (.s 50) (pr [mS 51 12, bC 52 .add 51 1, mS 10 52] [0,1,4,10,11]) (pr [mS 53 12, mS 11 53] [0,1,4,10,11]))))))))
(.seq (Zs [mS 54 1, mS 13 54] [0,10,13] (.block 2 (.loop ([0,10,13], []) (.seq (Zs [mS 55 13, mS 56 10, bC 57 .sub 56 1, bS 58 .lss 55 57] [0,10,13,58] (cX 58 2))
(.seq (.block 3 (.dreg [Zc [62,63,64,65,66,67,68,69,70,71,72,73,74] (mS 61 0), Zc [61,63,64,65,66,67,68,69,70,71,72,73,74] (mS 62 13), Zf [61,62,64,65,66,67,68,69,70,71,72,73,74,75] [0] (mS 63 0), Zf [61,62,63,66,67,68,69,70,71,72,73,74,75] [0] (mS 64 13), Zg [61,62,63,66,67,68,69,70,71,72,73,74,75] [0] [3] (bC 65 .add 64 1), Zc [61,62,63,64,65,67,68,71,72,73,74] (mS 66 0), Zc [61,62,63,64,65,66,71,72,73,74] (mS 67 13), Zd [61,62,63,64,65,66,71,72,73,74] [6] (bC 68 .add 67 1), Zd [61,62,63,64,65,71,72,73,74] [5,6,7] (xS 69 1 66 68), Zd [61,62,63,64,65,71,72,73,74] [5,6,7,8] (lF 70 1 69), Zc [61,62,63,64,65,66,67,68,69,70,72] (mS 71 0), Zc [61,62,63,64,65,66,67,68,69,70,71] (mS 72 13), Zd [61,62,63,64,65,66,67,68,69,70] [10,11] (xS 73 1 71 72), Zd [61,62,63,64,65,66,67,68,69,70] [10,11,12] (lF 74 1 73), Zd [63,64,65] [0,1,5,6,7,8,9,10,11,12,13] (xS 75 1 61 62), { o := sS 1 75 70, hs := [63,64,65], ws := [0], bf := [0,1,5,6,7,8,9,10,11,12,13,14] }, Ze (.range 16) (xS 76 1 63 65), { o := sS 1 76 74, ws := [0], bf := (.range 17) }] [0,10,13]))
(pr [mS 59 13, bC 60 .add 59 1, mS 13 60] [0,10,13]))))))
.ret)))) .skip))
(.seq (Zs [mS 77 3, mS 78 2, bS 79 .sub 77 78, bC 80 .eql 79 1] [0,1,2,3,4,80] (.cond (.s 80) (Zs [mS 81 1, mS 14 81] [0,2,4,14] (Zs [mS 82 2, mS 15 82] [0,2,4,14,15] (.seq (.block 4 (.loop ([0,2,4,14,15], []) (.seq (Zs [mS 83 14, mS 84 15, bS 85 .lss 83 84] [0,2,4,14,15,85] (cX 85 4))
(.block 5 (Zs [mS 86 14, mS 87 15, bS 88 .add 86 87, .convI 89 .u64 (.s 88), .bin 90 false .shr (.s 89) (.c (.int .u64 1)), .convI 91 .i64 (.s 90), mS 16 91] [0,2,4,14,15,16] (.seq (.dreg [Zc [93,94,95,96,97,98,99,100] (mS 92 4), Zc [92,94,97,98,99,100] (mS 93 0), Zc [92,93,97,98,99,100] (mS 94 2), Zd [92,97,98,99,100] [1,2] (xS 95 1 93 94), Zd [92,97,98,99,100] [1,2,3] (lF 96 1 95), Zc [92,93,94,95,96,98] (mS 97 0), Zc [92,93,94,95,96,97] (mS 98 16), Zd [92,93,94,95,96] [5,6] (xS 99 1 97 98), Zd [92,93,94,95,96] [5,6,7] (lF 100 1 99), Ze (.range 9) (.call 101 [] (.s 92) [.s 96, .s 100]), Ze (.range 10) (bC 102 .lss 101 0), Ze (.range 11) (.un 103 .not (.s 102))] [0,2,4,14,15,16,103])
(.cond (.s 103) (pr [mS 104 16, bC 105 .add 104 1, mS 14 105] [0,2,4,14,15]) (pr [mS 106 16, mS 15 106] [0,2,4,14,15]))))))))
(.seq (Zs [mS 107 2, mS 17 107] [0,14,17] (.block 6 (.loop ([0,14,17], []) (.seq (Zs [mS 108 17, mS 109 14, bS 110 .gtr 108 109] [0,14,17,110] (cX 110 6))
(.seq (.block 7 (.dreg [Zc [114,115,116,117,118,119,120,121,122,123,124,125,126] (mS 113 0), Zc [113,115,116,117,118,119,120,121,122,123,124,125,126] (mS 114 17), Zf [113,114,116,117,118,119,120,121,122,123,124,125,126,127] [0] (mS 115 0), Zf [113,114,115,118,119,120,121,122,123,124,125,126,127] [0] (mS 116 17), Zg [113,114,115,118,119,120,121,122,123,124,125,126,127] [0] [3] (bC 117 .sub 116 1), Zc [113,114,115,116,117,119,120,123,124,125,126] (mS 118 0), Zc [113,114,115,116,117,118,123,124,125,126] (mS 119 17), Zd [113,114,115,116,117,118,123,124,125,126] [6] (bC 120 .sub 119 1), Zd [113,114,115,116,117,123,124,125,126] [5,6,7] (xS 121 1 118 120), Zd [113,114,115,116,117,123,124,125,126] [5,6,7,8] (lF 122 1 121), Zc [113,114,115,116,117,118,119,120,121,122,124] (mS 123 0), Zc [113,114,115,116,117,118,119,120,121,122,123] (mS 124 17), Zd [113,114,115,116,117,118,119,120,121,122] [10,11] (xS 125 1 123 124), Zd [113,114,115,116,117,118,119,120,121,122] [10,11,12] (lF 126 1 125), Zd [115,116,117] [0,1,5,6,7,8,9,10,11,12,13] (xS 127 1 113 114), { o := sS 1 127 122, hs := [115,116,117], ws := [0], bf := [0,1,5,6,7,8,9,10,11,12,13,14] }, Ze (.range 16) (xS 128 1 115 117), { o := sS 1 128 126, ws := [0], bf := (.range 17) }] [0,14,17]))
(pr [mS 111 17, bC 112 .sub 111 1, mS 17 112] [0,14,17]))))))
.ret)))) .skip))
(Zs [mS 129 1, mS 130 3, bS 131 .add 129 130, .convI 132 .u64 (.s 131), .bin 133 false .shr (.s 132) (.c (.int .u64 1)), .convI 134 .i64 (.s 133), mS 18 134] [0,1,2,3,4,18] (Zs [mS 135 18, mS 136 2, bS 137 .add 135 136, mS 19 137] [0,1,2,3,4,18,19] (Zs [.mv 20 (ci 0), .mv 21 (ci 0)] [0,1,2,3,4,18,19] (.seq (Zs [mS 138 2, mS 139 18, bS 140 .gtr 138 139] [0,1,2,3,4,18,19,140] (.cond (.s 140) (Zs [mS 141 19, mS 142 3, bS 143 .sub 141 142, mS 20 143] [0,1,2,3,4,18,19,20] (pr [mS 144 18, mS 21 144] [0,1,2,3,4,18,19,20,21])) (Zs [mS 145 1, mS 20 145] [0,1,2,3,4,18,19,20] (pr [mS 146 2, mS 21 146] [0,1,2,3,4,18,19,20,21]))))
(Zs [mS 147 19, bC 148 .sub 147 1, mS 22 148] [0,1,2,3,4,18,19,20,21,22] (.seq (.block 8 (.loop ([0,1,2,3,4,18,19,20,21,22], []) (.seq (Zs [mS 149 20, mS 150 21, bS 151 .lss 149 150] [0,1,2,3,4,18,19,20,21,22,151] (cX 151 8))
(.block 9 (Zs [mS 152 20, mS 153 21, bS 154 .add 152 153, .convI 155 .u64 (.s 154), .bin 156 false .shr (.s 155) (.c (.int .u64 1)), .convI 157 .i64 (.s 156), mS 23 157] [0,1,2,3,4,18,19,20,21,22,23] (.seq (.dreg [Zc [159,160,161,162,163,164,165,166,167,168] (mS 158 4), Zc [158,160,161,162,165,166,167,168] (mS 159 0), Zc [158,159,161,165,166,167,168] (mS 160 22), Zc [158,159,160,165,166,167,168] (mS 161 23), Zd [158,159,165,166,167,168] [2,3] (bS 162 .sub 160 161), Zd [158,165,166,167,168] [1,2,3,4] (xS 163 1 159 162), Zd [158,165,166,167,168] [1,2,3,4,5] (lF 164 1 163), Zc [158,159,160,161,162,163,164,166] (mS 165 0), Zc [158,159,160,161,162,163,164,165] (mS 166 23), Zd [158,159,160,161,162,163,164] [7,8] (xS 167 1 165 166), Zd [158,159,160,161,162,163,164] [7,8,9] (lF 168 1 167), Ze (.range 11) (.call 169 [] (.s 158) [.s 164, .s 168]), Ze (.range 12) (bC 170 .lss 169 0), Ze (.range 13) (.un 171 .not (.s 170))] [0,1,2,3,4,18,19,20,21,22,23,171])
(.cond (.s 171) (pr [mS 172 23, bC 173 .add 172 1, mS 20 173] [0,1,2,3,4,18,19,20,21,22]) (pr [mS 174 23, mS 21 174] [0,1,2,3,4,18,19,20,21,22]))))))))
(Zs [mS 175 19, mS 176 20, bS 177 .sub 175 176, mS 24 177] [0,1,2,3,4,18,20,24] (.seq (.seq (.reg [Za (mS 178 20), Za (mS 179 2), Za (bS 180 .lss 178 179), Za (mS 181 180), Zb 181 true (mS 182 2), Zb 181 true (mS 183 24), Zb 181 true (bS 184 .lss 182 183), Za (.pick 185 (.s 181) (.s 184) cF)] [0,1,2,3,4,18,20,24,185])
(.cond (.s 185) (pr [mS 186 0, mS 187 20, mS 188 2, mS 189 24, mS 190 4, .callI 191 [] (.f N32) [.s 186, .s 187, .s 188, .s 189, .s 190] [0] []] [0,1,3,4,18,20,24]) .skip))
(.seq (.seq (.reg [Za (mS 192 1), Za (mS 193 20), Za (bS 194 .lss 192 193), Za (mS 195 194), Zb 195 true (mS 196 20), Zb 195 true (mS 197 18), Zb 195 true (bS 198 .lss 196 197), Za (.pick 199 (.s 195) (.s 198) cF)] [0,1,3,4,18,20,24,199])
(.cond (.s 199) (pr [mS 200 0, mS 201 1, mS 202 20, mS 203 18, mS 204 4, .callI 205 [] (.f Nk) [.s 200, .s 201, .s 202, .s 203, .s 204] [0] []] [0,3,4,18,24]) .skip))
(.seq (.reg [Za (mS 206 18), Za (mS 207 24), Za (bS 208 .lss 206 207), Za (mS 209 208), Zb 209 true (mS 210 24), Zb 209 true (mS 211 3), Zb 209 true (bS 212 .lss 210 211), Za (.pick 213 (.s 209) (.s 212) cF)] [0,3,4,18,24,213])
(.cond (.s 213) (pr [mS 214 0, mS 215 18, mS 216 24, mS 217 3, mS 218 4, .callI 219 [] (.f Nk) [.s 214, .s 215, .s 216, .s 217, .s 218] [0] []] []) .skip)))))))))))))
set_option maxHeartbeats 4000000 in
theorem C8p (f : FuncId) {cs : List T} (c : Int → Int → Int) (hc : ∀ x y, Ctr Tryz.prog f (aI x :: aI y :: cs.map (fun t => (false, [t]))) [rI (c x y)]) (hw : Srt.Swo (ltz c)) (n : Nat) : ∀ (P X Y Q : List Int) {a m b : Nat}, X.length + Y.length ≤ n → P.length = a → (P ++ X).length = m → (P ++ X ++ Y).length = b → 0 < X.length → 0 < Y.length → Srt.srt (ltz c) X → Srt.srt (ltz c) Y →
  CtrI Tryz.prog Nk [oL 1 ((P ++ X ++ Y ++ Q).map encI), iI a, iI m, iI b, fC f cs] [some (1, (P ++ Srt.mrg (ltz c) X Y ++ Q).map encI)] [] := by
 induction n with
 | zero => intro P X Y Q a m b hn _ _ _ hX; omega
 | succ n ih =>
  intro P X Y Q a m b hn ha hm hb hX hY sX sY
  have hN2 : (P ++ Srt.mrg (ltz c) X Y ++ Q).length = (P ++ X ++ Y ++ Q).length := by simp [Srt.len_mrg]; omega
  refine K18 (M := M2q) (m := 0) (n := 220) (res := []) hmix Tryz.func425 rfl (by kernel_rfl) rfl (by kernel_rfl) (by kernel_rfl) (Nat.le_of_ble_eq_true rfl) rfl rfl ?_; unfold M2q
  intro hbd
  have hl := Kw hbd
  clear hbd
  have hm' : m = a + X.length := by rw [← hm, ← ha]; simp
  have hb' : b = m + Y.length := by rw [← hb, ← hm]; simp; omega
  have hbN : b ≤ (P ++ X ++ Y ++ Q).length := by rw [List.length_append, hb]; omega
  generalize hN : (P ++ X ++ Y ++ Q).length = N at *
  simp only [roomB] at hl
  simp only [go_sem, hN, wS (a := m) (b := a) (by omega) (by omega)]
  refine ⟨fun h1 => ?_, fun h1 => ?_⟩
  ·obtain ⟨x, rfl⟩ : ∃ x, X = [x] := List.length_eq_one_iff.1 (by omega)
   simp only [List.length_cons, List.length_nil] at hm' hn
   have hxa : (P ++ [x] ++ Y ++ Q)[a]? = some x := by rw [← ha]; simp
   have hya : ∀ w, w < Y.length → (P ++ [x] ++ Y ++ Q)[m + w]? = Y[w]? := fun w hw => by
    rw [List.append_assoc, List.getElem?_append_right (by simp; omega), List.getElem?_append_left (by simp; omega)]
    congr 1; simp; omega
   refine Kg (ι := Nat × Nat) (fun s => [(10, vI ((m + s.1 : Nat) : Int)), (11, vI ((m + s.2 : Nat) : Int))]) (fun s => []) (fun s => s.1 ≤ s.2 ∧ s.2 ≤ Y.length ∧ (∀ y ∈ Y.take s.1, ltz c y x = true) ∧ (∀ y ∈ Y.drop s.2, ltz c y x = false)) (fun s => s.2 - s.1) (0, Y.length) ?_
   simp only [go_sem]
   refine ⟨?_, ⟨by omega, by omega, by simp, by simp⟩, ?_⟩
   ·simp only [go_sem]
    exact ⟨by omega, by omega⟩
   ·rintro ⟨u, v⟩ ⟨i1, i2, i3, i4⟩
    simp only at i1 i2 i3 i4
    simp only [go_sem, hN, shr1, K38 (i := m + u) (j := m + v) (by omega)]
    refine ⟨fun hlt => ?_, fun hge => ?_⟩
    ·have hwx : (m + u + (m + v)) / 2 = m + (u + v) / 2 := by omega
     have w1 : u ≤ (u + v) / 2 := by omega
     have w2 : (u + v) / 2 < v := by omega
     rw [hwx]
     generalize (u + v) / 2 = w at w1 w2
     obtain ⟨y, hy⟩ := Kb (show w < Y.length by omega)
     have hyw := (hya w (by omega)).trans hy
     have k1 : (0 : Int) ≤ ((m + w : Nat) : Int) := by omega
     have k2 : ((m + w : Nat) : Int) < (N : Int) := by omega
     have k3 : (0 : Int) ≤ (a : Int) := by omega
     have k4 : (a : Int) < (N : Int) := by omega
     simp only [go_sem, wK (k := m + w) (by omega), k1, k2, k3, k4, K4 hyw, K4 hxa]
     apply K0 (hc y x)
     simp only [go_sem, wN1 (a := m + w) (by omega)]
     intro _
     refine ⟨fun hn => ⟨(w + 1, v), ⟨rfl, rfl⟩, ⟨by omega, i2, Srt.lo_of hw sY hy (by simpa [ltz] using hn), i4⟩, by omega⟩, fun hn => ⟨(u, w), ⟨rfl, rfl⟩, ⟨w1, by omega, i3, Srt.hi_of hw sY hy (by simpa [ltz] using hn)⟩, by omega⟩⟩
    ·obtain rfl : u = v := by omega
     have hres := Srt.mrg_one hw sY i3 i4
     have hlt : ∀ t, (P ++ (Y.take t ++ x :: Y.drop t) ++ Q).length = N := fun t => by rw [← hN]; simp; omega
     refine Kg (fun t : Nat => [(13, vI ((a + t : Nat) : Int))]) (fun t => [(0, ⟨1, .row true 1 ((P ++ (Y.take t ++ x :: Y.drop t) ++ Q).map encI)⟩)]) (fun t => t ≤ u) (fun t => u - t) 0 ?_
     simp only [go_sem]
     refine ⟨?_, by omega, ?_⟩
     ·simp only [go_sem]
      simp
     ·intro t ht
      have hs1 : IntKind.i64.wrap (((m + u : Nat) : Int) - 1) = ((a + u : Nat) : Int) := by
       rw [wI (by omega) (by omega)]; omega
      by_cases htu : t < u
      ·obtain ⟨y, hy⟩ := Kb (show t < Y.length by omega)
       have e1 : (P ++ (Y.take t ++ x :: Y.drop t) ++ Q).map encI = two ((P ++ Y.take t).map encI) (encI x) [] (encI y) ((Y.drop (t + 1) ++ Q).map encI) := by simp [two, Ks hy]
       have e2 : (P ++ (Y.take (t + 1) ++ x :: Y.drop (t + 1)) ++ Q).map encI = two ((P ++ Y.take t).map encI) (encI y) [] (encI x) ((Y.drop (t + 1) ++ Q).map encI) := by simp [two, Ke hy]
       have hA : ((P ++ Y.take t).map encI).length = a + t := by simp; omega
       have hL0 : ∀ p q, (two ((P ++ Y.take t).map encI) p [] q ((Y.drop (t + 1) ++ Q).map encI)).length = N := fun p q => by
        rw [← hlt t]; simp [two, Ks hy]
       generalize (P ++ Y.take t).map encI = A at *
       generalize (Y.drop (t + 1) ++ Q).map encI = C at *
       obtain ⟨g1, g2, s1, s2, hL, d1, d2⟩ := K4w (A := A) (B := []) (C := C) (p := a + t) (q := a + t + 1) hA (by simp)
       have k1 : (0 : Int) ≤ ((a + t : Nat) : Int) := by omega
       have k2 : ((a + t : Nat) : Int) < (N : Int) := by omega
       have k3 : (0 : Int) ≤ ((a + t + 1 : Nat) : Int) := by omega
       have k4 : ((a + t + 1 : Nat) : Int) < (N : Int) := by omega
       have k5 : ((a + t : Nat) : Int) < ((a + u : Nat) : Int) := by omega
       rw [e1]
       simp only [go_sem, hs1, hL0, g1, g2, s1, s2, k1, k2, k3, k4, k5, wN1 (a := a + t) (by omega)]
       exact ⟨t + 1, ⟨rfl, e2.symm⟩, by omega, by omega⟩
      ·obtain rfl : t = u := by omega
       simp only [go_sem, hs1]
       rw [hres]
  ·simp only [go_sem, wS (a := b) (b := m) (by omega) (by omega)]
   refine ⟨fun h2 => ?_, fun h2 => ?_⟩
   ·obtain ⟨y, rfl⟩ : ∃ y, Y = [y] := List.length_eq_one_iff.1 (by omega)
    simp only [List.length_cons, List.length_nil] at hb' hn
    have hym : (P ++ X ++ [y] ++ Q)[m]? = some y := by rw [← hm]; simp
    have hxa : ∀ w, w < X.length → (P ++ X ++ [y] ++ Q)[a + w]? = X[w]? := fun w hw => by
     rw [List.append_assoc, List.append_assoc, List.getElem?_append_right (by omega), List.getElem?_append_left (by omega)]
     congr 1; omega
    refine Kg (ι := Nat × Nat) (fun s => [(14, vI ((a + s.1 : Nat) : Int)), (15, vI ((a + s.2 : Nat) : Int))]) (fun s => []) (fun s => s.1 ≤ s.2 ∧ s.2 ≤ X.length ∧ (∀ z ∈ X.take s.1, ltz c y z = false) ∧ (∀ z ∈ X.drop s.2, ltz c y z = true)) (fun s => s.2 - s.1) (0, X.length) ?_
    simp only [go_sem]
    refine ⟨?_, ⟨by omega, by omega, by simp, by simp⟩, ?_⟩
    ·simp only [go_sem]
     exact ⟨by omega, by omega⟩
    ·rintro ⟨u, v⟩ ⟨i1, i2, i3, i4⟩
     simp only at i1 i2 i3 i4
     simp only [go_sem, hN, shr1, K38 (i := a + u) (j := a + v) (by omega)]
     refine ⟨fun hlt => ?_, fun hge => ?_⟩
     ·have hwx : (a + u + (a + v)) / 2 = a + (u + v) / 2 := by omega
      have w1 : u ≤ (u + v) / 2 := by omega
      have w2 : (u + v) / 2 < v := by omega
      rw [hwx]
      generalize (u + v) / 2 = w at w1 w2
      obtain ⟨x, hx⟩ := Kb (show w < X.length by omega)
      have hxw := (hxa w (by omega)).trans hx
      have k1 : (0 : Int) ≤ ((a + w : Nat) : Int) := by omega
      have k2 : ((a + w : Nat) : Int) < (N : Int) := by omega
      have k3 : (0 : Int) ≤ (m : Int) := by omega
      have k4 : (m : Int) < (N : Int) := by omega
      simp only [go_sem, wK (k := a + w) (by omega), k1, k2, k3, k4, K4 hxw, K4 hym]
      apply K0 (hc y x)
      simp only [go_sem, wN1 (a := a + w) (by omega)]
      intro _
      refine ⟨fun hn => ⟨(w + 1, v), ⟨rfl, rfl⟩, ⟨by omega, i2, Srt.lo_of' hw sX hx (by simpa [ltz] using hn), i4⟩, by omega⟩, fun hn => ⟨(u, w), ⟨rfl, rfl⟩, ⟨w1, by omega, i3, Srt.hi_of' hw sX hx (by simpa [ltz] using hn)⟩, by omega⟩⟩
     ·obtain rfl : u = v := by omega
      have hres := Srt.mrg_last i3 i4
      have hlt : ∀ t, (P ++ (X.take t ++ y :: X.drop t) ++ Q).length = N := fun t => by rw [← hN]; simp; omega
      refine Kg (fun t : Nat => [(17, vI ((a + t : Nat) : Int))]) (fun t => [(0, ⟨1, .row true 1 ((P ++ (X.take t ++ y :: X.drop t) ++ Q).map encI)⟩)]) (fun t => u ≤ t ∧ t ≤ X.length) (fun t => t - u) X.length ?_
      simp only [go_sem]
      refine ⟨?_, ⟨i2, by omega⟩, ?_⟩
      ·simp only [go_sem, hm']
       simp
      ·rintro t ⟨ht, ht2⟩
       by_cases htu : u < t
       ·obtain ⟨t, rfl⟩ : ∃ s, t = s + 1 := ⟨t - 1, by omega⟩
        obtain ⟨x, hx⟩ := Kb (show t < X.length by omega)
        have e1 : (P ++ (X.take (t + 1) ++ y :: X.drop (t + 1)) ++ Q).map encI = two ((P ++ X.take t).map encI) (encI x) [] (encI y) ((X.drop (t + 1) ++ Q).map encI) := by simp [two, Ke hx]
        have e2 : (P ++ (X.take t ++ y :: X.drop t) ++ Q).map encI = two ((P ++ X.take t).map encI) (encI y) [] (encI x) ((X.drop (t + 1) ++ Q).map encI) := by simp [two, Ks hx]
        have hA : ((P ++ X.take t).map encI).length = a + t := by simp; omega
        have hL0 : ∀ p q, (two ((P ++ X.take t).map encI) p [] q ((X.drop (t + 1) ++ Q).map encI)).length = N := fun p q => by
         rw [← hlt t]; simp [two, Ks hx]
        generalize (P ++ X.take t).map encI = A at *
        generalize (X.drop (t + 1) ++ Q).map encI = C at *
        obtain ⟨g1, g2, s1, s2, hL, d1, d2⟩ := K4w (A := A) (B := []) (C := C) (p := a + t) (q := a + t + 1) hA (by simp)
        have k1 : (0 : Int) ≤ ((a + t : Nat) : Int) := by omega
        have k2 : ((a + t : Nat) : Int) < (N : Int) := by omega
        have k3 : (0 : Int) ≤ ((a + t + 1 : Nat) : Int) := by omega
        have k4 : ((a + t + 1 : Nat) : Int) < (N : Int) := by omega
        have k5 : ((a + t + 1 : Nat) : Int) > ((a + u : Nat) : Int) := by omega
        have k6 : IntKind.i64.wrap (((a + t + 1 : Nat) : Int) - 1) = ((a + t : Nat) : Int) := by
         rw [wI (by omega) (by omega)]; omega
        rw [e1, show a + (t + 1) = a + t + 1 from rfl]
        simp only [go_sem, hL0, g1, g2, s1, s2, k1, k2, k3, k4, k5, k6]
        exact ⟨t, ⟨rfl, e2.symm⟩, ⟨by omega, by omega⟩, by omega⟩
       ·obtain rfl : t = u := by omega
        simp only [go_sem]
        rw [hres]
   ·obtain ⟨M, hM⟩ : ∃ M, M = (X.length + Y.length) / 2 := ⟨_, rfl⟩
    have hmid : (a + b) / 2 = a + M := by omega
    have hxa : ∀ w, w < X.length → (P ++ X ++ Y ++ Q)[a + w]? = X[w]? := fun w hw => by
     rw [List.append_assoc, List.append_assoc, List.getElem?_append_right (by omega), List.getElem?_append_left (by omega)]
     congr 1; omega
    have hya : ∀ w, w < Y.length → (P ++ X ++ Y ++ Q)[m + w]? = Y[w]? := fun w hw => by
     rw [List.append_assoc, List.getElem?_append_right (by omega), List.getElem?_append_left (by omega)]
     congr 1; omega
    simp only [go_sem, shr1, K38 (i := a) (j := b) (by omega), hmid, wK (k := a + M) (by omega), wN (a := a + M) (b := m) (by omega)]
    refine ⟨fun h3 => ?_, fun h3 => ?_⟩
    ·have hs : IntKind.i64.wrap (((a + M + m : Nat) : Int) - (b : Int)) = ((a + (M - Y.length) : Nat) : Int) := by
      rw [wI (by omega) (by omega)]; omega
     simp only [go_sem, hs, wS1 (a := a + M + m) (by omega) (by omega)]
     obtain ⟨u0, hu0⟩ : ∃ u, u = M - Y.length := ⟨_, rfl⟩
     obtain ⟨v0, hv0⟩ : ∃ v, v = M := ⟨_, rfl⟩
     rw [← hu0]
     have q1 : u0 ≤ v0 := by omega
     have q2 : v0 ≤ M := by omega
     have q3 : v0 ≤ X.length := by omega
     have q4 : M ≤ u0 + Y.length := by omega
     have q5 : u0 = 0 ∨ Y.length ≤ M - u0 := by omega
     have q6 : v0 = M ∨ v0 = X.length := by omega
     have q7 : a + M = a + v0 := by omega
     refine Kg (ι := Nat × Nat) (fun s => [(20, vI ((a + s.1 : Nat) : Int)), (21, vI ((a + s.2 : Nat) : Int))]) (fun s => []) (fun s => SymZ (ltz c) X Y M u0 v0 s.1 s.2) (fun s => s.2 - s.1) (u0, v0) ?_
     simp only [go_sem]
     refine ⟨?_, ⟨by omega, q1, by omega, q5.imp_right .inl, q6.imp_right .inl⟩, ?_⟩
     ·simp only [go_sem]
      first | exact ⟨by omega, by omega⟩ | omega
     ·rintro ⟨u, v⟩ hI
      obtain ⟨i1, i2, i3, i4, i5⟩ := hI
      simp only at i1 i2 i3 i4 i5
      simp only [go_sem, hN, shr1, K38 (i := a + u) (j := a + v) (by omega)]
      refine ⟨fun hlt => ?_, fun hge => ?_⟩
      ·have hwx : (a + u + (a + v)) / 2 = a + (u + v) / 2 := by omega
       have w1 : u ≤ (u + v) / 2 := by omega
       have w2 : (u + v) / 2 < v := by omega
       rw [hwx]
       generalize (u + v) / 2 = w at w1 w2
       have hpc : IntKind.i64.wrap (((a + M + m - 1 : Nat) : Int) - ((a + w : Nat) : Int)) = ((m + (M - 1 - w) : Nat) : Int) := by
        rw [wI (by omega) (by omega)]; omega
       obtain ⟨x, hx⟩ := Kb (show w < X.length by omega)
       obtain ⟨y, hy⟩ := Kb (show M - 1 - w < Y.length by omega)
       have hxw := (hxa w (by omega)).trans hx
       have hyw := (hya (M - 1 - w) (by omega)).trans hy
       have k1 : (0 : Int) ≤ ((a + w : Nat) : Int) := by omega
       have k2 : ((a + w : Nat) : Int) < (N : Int) := by omega
       have k3 : (0 : Int) ≤ ((m + (M - 1 - w) : Nat) : Int) := by omega
       have k4 : ((m + (M - 1 - w) : Nat) : Int) < (N : Int) := by omega
       simp only [go_sem, wK (k := a + w) (by omega), hpc, k1, k2, k3, k4, K4 hxw, K4 hyw]
       apply K0 (hc y x)
       simp only [go_sem, wN1 (a := a + w) (by omega)]
       intro _
       refine ⟨fun hn => ⟨(w + 1, v), ⟨rfl, rfl⟩, ⟨by omega, by omega, i3, .inr (.inr ⟨y, x, by rw [show M - (w + 1) = M - 1 - w by omega]; exact hy, hx, by simpa [ltz] using hn⟩), i5⟩, by show v - (w + 1) < v - u; omega⟩, fun hn => ⟨(u, w), ⟨rfl, rfl⟩, ⟨i1, w1, by omega, i4, .inr (.inr ⟨y, x, hy, hx, by simpa [ltz] using hn⟩)⟩, by show w - u < v - u; omega⟩⟩
      ·obtain rfl : u = v := by omega
       obtain ⟨A1, A2, B1, B2, rfl, rfl, hA1, hB1, huM, hres, t1, t2, t3, t4⟩ := SymZ.fin hw ⟨i1, i2, i3, i4, i5⟩ sX sY q2 q3 q4
       have hend : IntKind.i64.wrap (((a + M + m : Nat) : Int) - ((a + u : Nat) : Int)) = ((m + (M - u) : Nat) : Int) := by
        rw [wI (by omega) (by omega)]; omega
       have r0 : P ++ (A1 ++ A2) ++ (B1 ++ B2) ++ Q = (P ++ A1) ++ A2 ++ B1 ++ (B2 ++ Q) := by simp
       have r1 : (P ++ A1) ++ B1 ++ A2 ++ (B2 ++ Q) = P ++ A1 ++ B1 ++ (A2 ++ (B2 ++ Q)) := by simp
       have r2 : A2.length = 0 ∨ B1.length = 0 → P ++ (A1 ++ A2) ++ (B1 ++ B2) ++ Q = P ++ A1 ++ B1 ++ (A2 ++ (B2 ++ Q)) := fun h => by
        rcases h with h | h
        ·rw [List.length_eq_zero_iff.1 h]; simp
        ·rw [List.length_eq_zero_iff.1 h]; simp
       have r3 : A1.length = 0 ∨ B1.length = 0 → P ++ A1 ++ B1 ++ (A2 ++ (B2 ++ Q)) = (P ++ Srt.mrg (ltz c) A1 B1) ++ A2 ++ B2 ++ Q := fun h => by
        rcases h with h | h
        ·rw [List.length_eq_zero_iff.1 h, Srt.mrg_nil_srt hw t3]; simp
        ·rw [List.length_eq_zero_iff.1 h, Srt.mrg_nil]; simp
       have r4 : P ++ Srt.mrg (ltz c) A1 B1 ++ (A2 ++ (B2 ++ Q)) = (P ++ Srt.mrg (ltz c) A1 B1) ++ A2 ++ B2 ++ Q := by simp
       have r5 : A2.length = 0 ∨ B2.length = 0 → (P ++ Srt.mrg (ltz c) A1 B1) ++ A2 ++ B2 ++ Q = (P ++ Srt.mrg (ltz c) A1 B1) ++ Srt.mrg (ltz c) A2 B2 ++ Q := fun h => by
        rcases h with h | h
        ·rw [List.length_eq_zero_iff.1 h, Srt.mrg_nil_srt hw t4]; simp
        ·rw [List.length_eq_zero_iff.1 h, Srt.mrg_nil]; simp
       have r6 : P ++ Srt.mrg (ltz c) (A1 ++ A2) (B1 ++ B2) ++ Q = (P ++ Srt.mrg (ltz c) A1 B1) ++ Srt.mrg (ltz c) A2 B2 ++ Q := by rw [hres]; simp
       obtain ⟨⟨l0, l1, l2, l3, l4, l5⟩, ⟨L1, L2, L3, L4, L5, L6, L7⟩, hn1, hn2, ⟨eA, eB, eC, eD, eE, eF⟩, h7⟩ := symZL (ltz c) ha hA1 hB1 huM hm' hb' hN hM hn h1 h2 hX hY
       clear hxa hya hres i4 i5
       rcases h7 with ⟨z1, z2, z3, z4⟩ | ⟨z1, z2, z3, z4⟩ | ⟨z1, z2, z3, z4⟩ | ⟨z1, z2, z3, z4⟩ | ⟨z1, z2, z3, z4⟩ | ⟨z1, z2, z3, z4⟩ | ⟨z1, z2, z3, z4⟩
       ·have fA := K8 A2.length eA z2
        have fB := K8 B1.length eB z3
        have fC := K8 A1.length eC z1
        have fD := K8 B1.length eD z3
        have fE := K8 A2.length eE z2
        have fF := K8 B2.length eF z4
        simp only [go_sem, hend, fA, fB, fC, fD, fE, fF]
        rw [r0]
        apply K7 (Cf (P ++ A1) A2 B1 (B2 ++ Q) f L1 L2 L3 z2 z3)
        simp only [go_sem, fC, fD, l0]
        rw [r1]
        apply K7 (ih P A1 B1 (A2 ++ (B2 ++ Q)) hn1 ha L1 L4 z1 z3 t1 t3)
        simp only [go_sem, fE, fF, l4]
        rw [r4]
        apply K7 (ih (P ++ Srt.mrg (ltz c) A1 B1) A2 B2 Q hn2 L5 L6 L7 z2 z4 t2 t4)
        simp only [go_sem]
        rw [r6]
       ·have fA := K8 A2.length eA z2
        have fB := K8 B1.length eB z3
        have fC := Kq A1.length eC z1
        have fD := K8 B1.length eD z3
        have fE := K8 A2.length eE z2
        have fF := K8 B2.length eF z4
        simp only [go_sem, hend, fA, fB, fC, fD, fE, fF]
        rw [r0]
        apply K7 (Cf (P ++ A1) A2 B1 (B2 ++ Q) f L1 L2 L3 z2 z3)
        simp only [go_sem, fC, fE, fF, l0]
        rw [r1]
        rw [r3 (.inl z1)]
        apply K7 (ih (P ++ Srt.mrg (ltz c) A1 B1) A2 B2 Q hn2 L5 L6 L7 z2 z4 t2 t4)
        simp only [go_sem]
        rw [r6]
       ·have fA := Kq A2.length eA z2
        have fB := K8 B1.length eB z3
        have fC := K8 A1.length eC z1
        have fD := K8 B1.length eD z3
        have fE := Kq A2.length eE z2
        have fF := K8 B2.length eF z4
        simp only [go_sem, hend, fA, fB, fC, fD, fE, fF]
        rw [r2 (.inl z2)]
        apply K7 (ih P A1 B1 (A2 ++ (B2 ++ Q)) hn1 ha L1 L4 z1 z3 t1 t3)
        simp only [go_sem, fE]
        rw [r4]
        rw [r5 (.inl z2)]
        rw [r6]
       ·have fA := K8 A2.length eA z2
        have fB := Kq B1.length eB z3
        have fC := K8 A1.length eC z1
        have fD := Kq B1.length eD z3
        have fE := K8 A2.length eE z2
        have fF := K8 B2.length eF z4
        simp only [go_sem, hend, fA, fB, fC, fD, fE, fF]
        rw [r2 (.inr z3)]
        rw [r3 (.inr z3)]
        apply K7 (ih (P ++ Srt.mrg (ltz c) A1 B1) A2 B2 Q hn2 L5 L6 L7 z2 z4 t2 t4)
        simp only [go_sem]
        rw [r6]
       ·have fA := K8 A2.length eA z2
        have fB := K8 B1.length eB z3
        have fC := K8 A1.length eC z1
        have fD := K8 B1.length eD z3
        have fE := K8 A2.length eE z2
        have fF := Kq B2.length eF z4
        simp only [go_sem, hend, fA, fB, fC, fD, fE, fF]
        rw [r0]
        apply K7 (Cf (P ++ A1) A2 B1 (B2 ++ Q) f L1 L2 L3 z2 z3)
        simp only [go_sem, fC, fD, l0]
        rw [r1]
        apply K7 (ih P A1 B1 (A2 ++ (B2 ++ Q)) hn1 ha L1 L4 z1 z3 t1 t3)
        simp only [go_sem, fE, fF]
        rw [r4]
        rw [r5 (.inr z4)]
        rw [r6]
       ·have fA := K8 A2.length eA z2
        have fB := K8 B1.length eB z3
        have fC := Kq A1.length eC z1
        have fD := K8 B1.length eD z3
        have fE := K8 A2.length eE z2
        have fF := Kq B2.length eF z4
        simp only [go_sem, hend, fA, fB, fC, fD, fE, fF]
        rw [r0]
        apply K7 (Cf (P ++ A1) A2 B1 (B2 ++ Q) f L1 L2 L3 z2 z3)
        simp only [go_sem, fC, fE, fF]
        rw [r1]
        rw [r3 (.inl z1)]
        rw [r5 (.inr z4)]
        rw [r6]
       ·have fA := Kq A2.length eA z2
        have fB := Kq B1.length eB z3
        have fC := K8 A1.length eC z1
        have fD := Kq B1.length eD z3
        have fE := Kq A2.length eE z2
        have fF := K8 B2.length eF z4
        simp only [go_sem, hend, fA, fB, fC, fD, fE, fF]
        rw [r2 (.inl z2)]
        rw [r3 (.inr z3)]
        rw [r5 (.inl z2)]
        rw [r6]
    ·simp only [go_sem, wS1 (a := a + M + m) (by omega) (by omega)]
     obtain ⟨u0, hu0⟩ : ∃ u, u = 0 := ⟨_, rfl⟩
     obtain ⟨v0, hv0⟩ : ∃ v, v = X.length := ⟨_, rfl⟩
     have q1 : u0 ≤ v0 := by omega
     have q2 : v0 ≤ M := by omega
     have q3 : v0 ≤ X.length := by omega
     have q4 : M ≤ u0 + Y.length := by omega
     have q5 : u0 = 0 ∨ Y.length ≤ M - u0 := by omega
     have q6 : v0 = M ∨ v0 = X.length := by omega
     refine Kg (ι := Nat × Nat) (fun s => [(20, vI ((a + s.1 : Nat) : Int)), (21, vI ((a + s.2 : Nat) : Int))]) (fun s => []) (fun s => SymZ (ltz c) X Y M u0 v0 s.1 s.2) (fun s => s.2 - s.1) (u0, v0) ?_
     simp only [go_sem]
     refine ⟨?_, ⟨by omega, q1, by omega, q5.imp_right .inl, q6.imp_right .inl⟩, ?_⟩
     ·simp only [go_sem]
      first | exact ⟨by omega, by omega⟩ | omega
     ·rintro ⟨u, v⟩ hI
      obtain ⟨i1, i2, i3, i4, i5⟩ := hI
      simp only at i1 i2 i3 i4 i5
      simp only [go_sem, hN, shr1, K38 (i := a + u) (j := a + v) (by omega)]
      refine ⟨fun hlt => ?_, fun hge => ?_⟩
      ·have hwx : (a + u + (a + v)) / 2 = a + (u + v) / 2 := by omega
       have w1 : u ≤ (u + v) / 2 := by omega
       have w2 : (u + v) / 2 < v := by omega
       rw [hwx]
       generalize (u + v) / 2 = w at w1 w2
       have hpc : IntKind.i64.wrap (((a + M + m - 1 : Nat) : Int) - ((a + w : Nat) : Int)) = ((m + (M - 1 - w) : Nat) : Int) := by
        rw [wI (by omega) (by omega)]; omega
       obtain ⟨x, hx⟩ := Kb (show w < X.length by omega)
       obtain ⟨y, hy⟩ := Kb (show M - 1 - w < Y.length by omega)
       have hxw := (hxa w (by omega)).trans hx
       have hyw := (hya (M - 1 - w) (by omega)).trans hy
       have k1 : (0 : Int) ≤ ((a + w : Nat) : Int) := by omega
       have k2 : ((a + w : Nat) : Int) < (N : Int) := by omega
       have k3 : (0 : Int) ≤ ((m + (M - 1 - w) : Nat) : Int) := by omega
       have k4 : ((m + (M - 1 - w) : Nat) : Int) < (N : Int) := by omega
       simp only [go_sem, wK (k := a + w) (by omega), hpc, k1, k2, k3, k4, K4 hxw, K4 hyw]
       apply K0 (hc y x)
       simp only [go_sem, wN1 (a := a + w) (by omega)]
       intro _
       refine ⟨fun hn => ⟨(w + 1, v), ⟨rfl, rfl⟩, ⟨by omega, by omega, i3, .inr (.inr ⟨y, x, by rw [show M - (w + 1) = M - 1 - w by omega]; exact hy, hx, by simpa [ltz] using hn⟩), i5⟩, by show v - (w + 1) < v - u; omega⟩, fun hn => ⟨(u, w), ⟨rfl, rfl⟩, ⟨i1, w1, by omega, i4, .inr (.inr ⟨y, x, hy, hx, by simpa [ltz] using hn⟩)⟩, by show w - u < v - u; omega⟩⟩
      ·obtain rfl : u = v := by omega
       obtain ⟨A1, A2, B1, B2, rfl, rfl, hA1, hB1, huM, hres, t1, t2, t3, t4⟩ := SymZ.fin hw ⟨i1, i2, i3, i4, i5⟩ sX sY q2 q3 q4
       have hend : IntKind.i64.wrap (((a + M + m : Nat) : Int) - ((a + u : Nat) : Int)) = ((m + (M - u) : Nat) : Int) := by
        rw [wI (by omega) (by omega)]; omega
       have r0 : P ++ (A1 ++ A2) ++ (B1 ++ B2) ++ Q = (P ++ A1) ++ A2 ++ B1 ++ (B2 ++ Q) := by simp
       have r1 : (P ++ A1) ++ B1 ++ A2 ++ (B2 ++ Q) = P ++ A1 ++ B1 ++ (A2 ++ (B2 ++ Q)) := by simp
       have r2 : A2.length = 0 ∨ B1.length = 0 → P ++ (A1 ++ A2) ++ (B1 ++ B2) ++ Q = P ++ A1 ++ B1 ++ (A2 ++ (B2 ++ Q)) := fun h => by
        rcases h with h | h
        ·rw [List.length_eq_zero_iff.1 h]; simp
        ·rw [List.length_eq_zero_iff.1 h]; simp
       have r3 : A1.length = 0 ∨ B1.length = 0 → P ++ A1 ++ B1 ++ (A2 ++ (B2 ++ Q)) = (P ++ Srt.mrg (ltz c) A1 B1) ++ A2 ++ B2 ++ Q := fun h => by
        rcases h with h | h
        ·rw [List.length_eq_zero_iff.1 h, Srt.mrg_nil_srt hw t3]; simp
        ·rw [List.length_eq_zero_iff.1 h, Srt.mrg_nil]; simp
       have r4 : P ++ Srt.mrg (ltz c) A1 B1 ++ (A2 ++ (B2 ++ Q)) = (P ++ Srt.mrg (ltz c) A1 B1) ++ A2 ++ B2 ++ Q := by simp
       have r5 : A2.length = 0 ∨ B2.length = 0 → (P ++ Srt.mrg (ltz c) A1 B1) ++ A2 ++ B2 ++ Q = (P ++ Srt.mrg (ltz c) A1 B1) ++ Srt.mrg (ltz c) A2 B2 ++ Q := fun h => by
        rcases h with h | h
        ·rw [List.length_eq_zero_iff.1 h, Srt.mrg_nil_srt hw t4]; simp
        ·rw [List.length_eq_zero_iff.1 h, Srt.mrg_nil]; simp
       have r6 : P ++ Srt.mrg (ltz c) (A1 ++ A2) (B1 ++ B2) ++ Q = (P ++ Srt.mrg (ltz c) A1 B1) ++ Srt.mrg (ltz c) A2 B2 ++ Q := by rw [hres]; simp
       obtain ⟨⟨l0, l1, l2, l3, l4, l5⟩, ⟨L1, L2, L3, L4, L5, L6, L7⟩, hn1, hn2, ⟨eA, eB, eC, eD, eE, eF⟩, h7⟩ := symZL (ltz c) ha hA1 hB1 huM hm' hb' hN hM hn h1 h2 hX hY
       clear hxa hya hres i4 i5
       rcases h7 with ⟨z1, z2, z3, z4⟩ | ⟨z1, z2, z3, z4⟩ | ⟨z1, z2, z3, z4⟩ | ⟨z1, z2, z3, z4⟩ | ⟨z1, z2, z3, z4⟩ | ⟨z1, z2, z3, z4⟩ | ⟨z1, z2, z3, z4⟩
       ·have fA := K8 A2.length eA z2
        have fB := K8 B1.length eB z3
        have fC := K8 A1.length eC z1
        have fD := K8 B1.length eD z3
        have fE := K8 A2.length eE z2
        have fF := K8 B2.length eF z4
        simp only [go_sem, hend, fA, fB, fC, fD, fE, fF]
        rw [r0]
        apply K7 (Cf (P ++ A1) A2 B1 (B2 ++ Q) f L1 L2 L3 z2 z3)
        simp only [go_sem, fC, fD, l0]
        rw [r1]
        apply K7 (ih P A1 B1 (A2 ++ (B2 ++ Q)) hn1 ha L1 L4 z1 z3 t1 t3)
        simp only [go_sem, fE, fF, l4]
        rw [r4]
        apply K7 (ih (P ++ Srt.mrg (ltz c) A1 B1) A2 B2 Q hn2 L5 L6 L7 z2 z4 t2 t4)
        simp only [go_sem]
        rw [r6]
       ·have fA := K8 A2.length eA z2
        have fB := K8 B1.length eB z3
        have fC := Kq A1.length eC z1
        have fD := K8 B1.length eD z3
        have fE := K8 A2.length eE z2
        have fF := K8 B2.length eF z4
        simp only [go_sem, hend, fA, fB, fC, fD, fE, fF]
        rw [r0]
        apply K7 (Cf (P ++ A1) A2 B1 (B2 ++ Q) f L1 L2 L3 z2 z3)
        simp only [go_sem, fC, fE, fF, l0]
        rw [r1]
        rw [r3 (.inl z1)]
        apply K7 (ih (P ++ Srt.mrg (ltz c) A1 B1) A2 B2 Q hn2 L5 L6 L7 z2 z4 t2 t4)
        simp only [go_sem]
        rw [r6]
       ·have fA := Kq A2.length eA z2
        have fB := K8 B1.length eB z3
        have fC := K8 A1.length eC z1
        have fD := K8 B1.length eD z3
        have fE := Kq A2.length eE z2
        have fF := K8 B2.length eF z4
        simp only [go_sem, hend, fA, fB, fC, fD, fE, fF]
        rw [r2 (.inl z2)]
        apply K7 (ih P A1 B1 (A2 ++ (B2 ++ Q)) hn1 ha L1 L4 z1 z3 t1 t3)
        simp only [go_sem, fE]
        rw [r4]
        rw [r5 (.inl z2)]
        rw [r6]
       ·have fA := K8 A2.length eA z2
        have fB := Kq B1.length eB z3
        have fC := K8 A1.length eC z1
        have fD := Kq B1.length eD z3
        have fE := K8 A2.length eE z2
        have fF := K8 B2.length eF z4
        simp only [go_sem, hend, fA, fB, fC, fD, fE, fF]
        rw [r2 (.inr z3)]
        rw [r3 (.inr z3)]
        apply K7 (ih (P ++ Srt.mrg (ltz c) A1 B1) A2 B2 Q hn2 L5 L6 L7 z2 z4 t2 t4)
        simp only [go_sem]
        rw [r6]
       ·have fA := K8 A2.length eA z2
        have fB := K8 B1.length eB z3
        have fC := K8 A1.length eC z1
        have fD := K8 B1.length eD z3
        have fE := K8 A2.length eE z2
        have fF := Kq B2.length eF z4
        simp only [go_sem, hend, fA, fB, fC, fD, fE, fF]
        rw [r0]
        apply K7 (Cf (P ++ A1) A2 B1 (B2 ++ Q) f L1 L2 L3 z2 z3)
        simp only [go_sem, fC, fD, l0]
        rw [r1]
        apply K7 (ih P A1 B1 (A2 ++ (B2 ++ Q)) hn1 ha L1 L4 z1 z3 t1 t3)
        simp only [go_sem, fE, fF]
        rw [r4]
        rw [r5 (.inr z4)]
        rw [r6]
       ·have fA := K8 A2.length eA z2
        have fB := K8 B1.length eB z3
        have fC := Kq A1.length eC z1
        have fD := K8 B1.length eD z3
        have fE := K8 A2.length eE z2
        have fF := Kq B2.length eF z4
        simp only [go_sem, hend, fA, fB, fC, fD, fE, fF]
        rw [r0]
        apply K7 (Cf (P ++ A1) A2 B1 (B2 ++ Q) f L1 L2 L3 z2 z3)
        simp only [go_sem, fC, fE, fF]
        rw [r1]
        rw [r3 (.inl z1)]
        rw [r5 (.inr z4)]
        rw [r6]
       ·have fA := Kq A2.length eA z2
        have fB := Kq B1.length eB z3
        have fC := K8 A1.length eC z1
        have fD := Kq B1.length eD z3
        have fE := Kq A2.length eE z2
        have fF := K8 B2.length eF z4
        simp only [go_sem, hend, fA, fB, fC, fD, fE, fF]
        rw [r2 (.inl z2)]
        rw [r3 (.inr z3)]
        rw [r5 (.inl z2)]
        rw [r6]
def M34 : MC := Y29 N1q Nk
set_option maxHeartbeats 4000000 in
theorem Ckc (X : List Int) (f : FuncId) {cs : List T} (c : Int → Int → Int) (hc : ∀ x y, Ctr Tryz.prog f (aI x :: aI y :: cs.map (fun t => (false, [t]))) [rI (c x y)]) (hw : Srt.Swo (ltz c)) : CtrI Tryz.prog N31 [oL 1 (X.map encI), iI X.length, fC f cs] [some (1, (Srt.isort (ltz c) X).map encI)] [] := by
 refine K18 (M := M34) (m := 0) (n := 63) (res := []) hmix Tryz.func386 rfl (by kernel_rfl) rfl (by kernel_rfl) (by kernel_rfl) (Nat.le_of_ble_eq_true rfl) rfl rfl ?_; unfold M34
 intro hbd
 have hl := Kw hbd
 clear hbd
 simp only [roomB] at hl
 simp only [go_sem]
 refine Kg (fun k : Nat => [(7, vI ((k * 20 : Nat) : Int)), (8, vI (((k + 1) * 20 : Nat) : Int))]) (fun k => [(0, ⟨1, .row true 1 ((Srt.blks (ltz c) 20 k X).map encI)⟩)]) (fun k => k * 20 ≤ X.length) (fun k => X.length - k * 20) 0 ?_
 simp only [go_sem]
 refine ⟨?_, by omega, ?_⟩
 ·simp only [go_sem]
  exact ⟨rfl, rfl⟩
 ·intro k hk
  simp only [go_sem, Srt.len_blks]
  refine ⟨fun hlt => ?_, fun hge => ?_⟩
  ·obtain ⟨A, hA, e1, e2⟩ := Srt.blks_snoc (lt := ltz c) (s := 20) (k := k) (l := X) (by omega)
   have g1 := congrArg List.length e1
   have g2 := congrArg List.length e2
   rw [Srt.len_blks] at g1 g2
   rw [← List.append_assoc] at e1 e2 g1 g2
   rw [e1]
   apply K7 (C43 A _ _ f c hc hw hA (by simp [hA]; omega))
   have w1 : IntKind.i64.wrap ((((k + 1) * 20 : Nat) : Int) + 20) = (((k + 1 + 1) * 20 : Nat) : Int) := by
    rw [wI (by omega) (by omega)]; omega
   simp only [go_sem, w1]
   exact ⟨k + 1, ⟨⟨rfl, rfl⟩, by rw [e2]⟩, by omega, by omega⟩
  ·obtain ⟨A, hA, e1, e2⟩ := Srt.blks_last (lt := ltz c) (s := 20) (k := k) (l := X) (by omega) (by omega)
   have g1 := congrArg List.length e1
   have g2 := congrArg List.length e2
   rw [Srt.len_blks] at g1 g2
   have e1' : A ++ X.drop (k * 20) = A ++ X.drop (k * 20) ++ [] := by simp
   rw [e1, e1']
   apply K7 (C43 A _ [] f c hc hw hA (by simp [hA]; omega))
   rw [List.append_nil, ← e2]
   rw [Srt.blks_blk (by omega) (by omega)]
   simp only [go_sem]
   refine Kg (fun s : Nat => [(6, vI (s : Int))]) (fun s => [(0, ⟨1, .row true 1 ((Srt.blk (ltz c) s X).map encI)⟩)]) (fun s => 0 < s ∧ s ≤ 2 * X.length + 20) (fun s => X.length - s) 20 ?_
   simp only [go_sem]
   refine ⟨?_, ⟨by omega, by omega⟩, ?_⟩
   ·simp only [go_sem]
    first | rfl | exact ⟨rfl, rfl⟩
   ·rintro s ⟨hs0, hs1⟩
    clear e1' e1 e2 g1 g2 hA A hge hk
    have w2 : IntKind.i64.wrap (2 * (s : Int)) = ((2 * s : Nat) : Int) := by rw [wI (by omega) (by omega)]; omega
    have w3 : IntKind.i64.wrap ((s : Int) * 2) = ((2 * s : Nat) : Int) := by rw [wI (by omega) (by omega)]; omega
    simp only [go_sem, w2]
    refine ⟨fun hlt => ?_, fun hge => ?_⟩
    ·refine Kg (fun k : Nat => [(7, vI ((k * (2 * s) : Nat) : Int)), (8, vI ((k * (2 * s) + 2 * s : Nat) : Int))]) (fun k => [(0, ⟨1, .row true 1 ((Srt.mix (ltz c) s k X).map encI)⟩)]) (fun k => k * (2 * s) ≤ X.length) (fun k => X.length - k * (2 * s)) 0 ?_
     simp only [go_sem]
     refine ⟨?_, by omega, ?_⟩
     ·simp only [go_sem]
      refine ⟨⟨?_, ?_⟩, rfl⟩
      ·rw [Nat.zero_mul]; rfl
      ·rw [Nat.zero_mul, Nat.zero_add]
     ·intro k hk
      simp only [go_sem, Srt.len_mix, w3]
      refine ⟨fun hle => ?_, fun hgt => ?_⟩
      ·obtain ⟨P, A, B, Q, m1, m2, m3, m4, m5, m6, m7⟩ := Srt.mix_step hw (s := s) (k := k) (l := X) (by omega)
       have g1 : (P ++ A ++ B ++ Q).length = X.length := by rw [← m6, Srt.len_mix]
       have g2 : (P ++ Srt.mrg (ltz c) A B ++ Q).length = X.length := by rw [← m7, Srt.len_mix]
       have wa : IntKind.i64.wrap (((k * (2 * s) : Nat) : Int) + (s : Int)) = ((k * (2 * s) + s : Nat) : Int) := wN (by omega)
       have wb : IntKind.i64.wrap (((k * (2 * s) + 2 * s : Nat) : Int) + ((2 * s : Nat) : Int)) = (((k + 1) * (2 * s) + 2 * s : Nat) : Int) := by
        rw [wN (by omega), Nat.succ_mul k (2 * s)]
       rw [m6]
       simp only [go_sem, wa]
       apply K7 (C8p f c hc hw _ P A B Q (Nat.le_refl _) m1 (m := k * (2 * s) + s) (b := k * (2 * s) + 2 * s) (by rw [List.length_append]; omega) (by rw [List.length_append, List.length_append]; omega) (by omega) (by omega) m4 m5)
       simp only [go_sem]
       have hj : (k + 1) * (2 * s) = k * (2 * s) + 2 * s := Nat.succ_mul k (2 * s)
       exact ⟨k + 1, ⟨⟨by rw [hj], by rw [w2, wb]⟩, by rw [m7]⟩, by omega, by omega⟩
      ·obtain ⟨i1, i2⟩ := Srt.mix_end hw (s := s) (k := k) (l := X) hk (by omega)
       have wa : IntKind.i64.wrap (((k * (2 * s) : Nat) : Int) + (s : Int)) = ((k * (2 * s) + s : Nat) : Int) := wN (by omega)
       simp only [go_sem, wa]
       refine ⟨fun hlt2 => ?_, fun hge2 => ?_⟩
       ·obtain ⟨P, A, B, m1, m2, m3, m4, m5, m6, m7⟩ := i1 (by omega)
        have g1 : (P ++ A ++ B ++ []).length = X.length := by rw [List.append_nil, ← m6, Srt.len_mix]
        have g2 : (P ++ Srt.mrg (ltz c) A B ++ []).length = X.length := by rw [List.append_nil, ← m7, Srt.len_blk (Nat.le_refl _)]
        rw [m6, ← List.append_nil (P ++ A ++ B)]
        apply K7 (C8p f c hc hw _ P A B [] (Nat.le_refl _) m1 (m := k * (2 * s) + s) (b := X.length) (by rw [List.length_append]; omega) (by rw [List.length_append, List.length_append]; omega) (by omega) (by omega) m4 m5)
        simp only [go_sem, w3]
        exact ⟨2 * s, ⟨rfl, by rw [m7]⟩, ⟨by omega, by omega⟩, by omega⟩
       ·exact ⟨2 * s, ⟨rfl, by rw [i2 (by omega)]⟩, ⟨by omega, by omega⟩, by omega⟩
    ·rw [Srt.blk_le (by omega)]
def M25 : MC :=
(pr [mS 4 0, mS 5 0, nS 6 5, mS 7 1, .callI 8 [] (.f N31) [.s 4, .s 6, .s 7] [0] []] [])
theorem Cg0 (X : List Int) (f : FuncId) {cs : List T} (c : Int → Int → Int) (hc : ∀ x y, Ctr Tryz.prog f (aI x :: aI y :: cs.map (fun t => (false, [t]))) [rI (c x y)]) (hw : Srt.Swo (ltz c)) : CtrI Tryz.prog N23 [oL 1 (X.map encI), fC f cs] [some (1, (Srt.isort (ltz c) X).map encI)] [] := by
 refine K18 (M := M25) (m := 0) (n := 9) (res := []) hmix Tryz.func302 rfl (by kernel_rfl) rfl (by kernel_rfl) (by kernel_rfl) (Nat.le_of_ble_eq_true rfl) rfl rfl ?_; unfold M25
 intro hbd
 have hl := Kw hbd
 clear hbd
 simp only [roomB] at hl
 simp only [go_sem]
 apply K7 (Ckc X f c hc hw)
 simp only [go_sem]
 try intros
 try trivial
end Go.Proofs.YtgkeplbnnjogiaaGreatR
namespace Go.Proofs.YtgkeplbnnjogiaaGreatR
open Go Go.RowKit Go.Proofs
open Nat (reduceEqDiff reduceLT reduceLeDiff reduceAdd reduceMul)
open List (reduceReplicate)
def modM (v : Int) : Int := (IntKind.i64.wrap (v.tmod 1000000 + 1000000)).tmod 1000000
theorem K9u : ¬ (1000000 : Int) = 0 := by decide
def K2p (d l : Int) : Int := modM (hashL [d, l])
def cmpR (d a b : Int) : Int := cmpI (K2p d b) (K2p d a)
def ltR (d a b : Int) : Bool := decide (K2p d b < K2p d a)
theorem ltR_eq (d : Int) : ltz (cmpR d) = ltR d := by
 funext a b
 by_cases h1 : K2p d b < K2p d a
 ·simp [ltz, cmpR, cmpI, ltR, h1]
 ·by_cases h2 : K2p d a < K2p d b <;> simp [ltz, cmpR, cmpI, ltR, h1, h2]
theorem swoR (d : Int) : Srt.Swo (ltz (cmpR d)) := by
 rw [ltR_eq]
 refine ⟨fun x y h => ?_, fun x y z h => ?_⟩
 ·simp only [ltR, decide_eq_true_eq, decide_eq_false_iff_not] at *; omega
 ·simp only [ltR, decide_eq_true_eq] at *; omega
def ordB (d a b : Int) : Bool := decide (K2p d b < K2p d a ∨ K2p d a = K2p d b ∧ a < b)
theorem swoB (d : Int) : Srt.Swo (ordB d) := by
 refine ⟨fun x y h => ?_, fun x y z h => ?_⟩
 ·simp only [ordB, decide_eq_true_eq, decide_eq_false_iff_not] at *; omega
 ·simp only [ordB, decide_eq_true_eq] at *; omega
theorem ordB_tot {d a b : Int} (h : a ≠ b) (hf : ordB d a b = false) : ordB d b a = true := by
 simp only [ordB, decide_eq_true_eq, decide_eq_false_iff_not] at *; omega
def K1m (l : List Int) (d : Int) : List Int := Srt.isort (ltz (cmpR d)) (sortU l)
theorem Kax {α : Type} {p q : α → α → Bool} {x : α} : ∀ {A : List α}, (∀ z ∈ A, p x z = q x z) → Srt.ins p x A = Srt.ins q x A
 | [], _ => rfl
 | z :: A, h => by
  simp only [Srt.ins]
  rw [h z (by simp), Kax fun y hy => h y (by simp [hy])]
theorem Kb7 (d : Int) : ∀ (n : Nat) (l : List Int), l.length = n → l.Pairwise (· < ·) → Srt.isort (ltR d) l = Srt.isort (ordB d) l
 | 0, l, hn, _ => by
  obtain rfl := List.length_eq_zero_iff.1 hn
  rfl
 | n + 1, l, hn, h => by
  rcases List.eq_nil_or_concat l with rfl | ⟨s, x, rfl⟩
  ·rfl
  ·rw [List.concat_eq_append] at *
   rw [List.pairwise_append] at h
   rw [Srt.isort_snoc, Srt.isort_snoc, Kb7 d n s (by simpa using hn) h.1]
   refine Kax fun z hz => ?_
   have hz' : z ∈ s := by
    rcases Srt.mem_mrg.1 hz with k | k
    ·simp at k
    ·exact k
   have := h.2.2 z hz' x (by simp)
   simp only [ltR, ordB]
   rw [Bool.eq_iff_iff]
   simp only [decide_eq_true_eq]
   omega
def strictB (d : Int) (l : List Int) : Prop := l.Pairwise fun x y => ordB d x y = true
theorem K76 {d x : Int} : ∀ {l : List Int}, strictB d l → x ∉ l → strictB d (Srt.ins (ordB d) x l)
 | [], _, _ => by simp [Srt.ins, strictB]
 | z :: zs, h, hx => by
  unfold strictB at h ⊢
  rw [List.pairwise_cons] at h
  have hne : x ≠ z := fun e => hx (by simp [e])
  simp only [Srt.ins]
  split
  ·rename_i k
   rw [List.pairwise_cons, List.pairwise_cons]
   refine ⟨fun y hy => ?_, h⟩
   rcases List.mem_cons.1 hy with rfl | hy
   ·exact k
   ·exact (swoB d).tr k (h.1 y hy)
  ·rename_i k
   rw [List.pairwise_cons]
   refine ⟨fun y hy => ?_, K76 h.2 fun e => hx (by simp [e])⟩
   rcases Srt.mem_ins.1 hy with rfl | hy
   ·exact ordB_tot hne (by simpa using k)
   ·exact h.1 y hy
theorem K9q {d : Int} : ∀ {B A : List Int}, strictB d A → B.Nodup → (∀ b ∈ B, b ∉ A) → strictB d (Srt.mrg (ordB d) A B)
 | [], A, h, _, _ => h
 | x :: B, A, h, hn, hd => by
  rw [List.nodup_cons] at hn
  rw [Srt.mrg_cons]
  refine K9q (K76 h (hd x (by simp))) hn.2 fun b hb hm => ?_
  rcases Srt.mem_ins.1 hm with rfl | hm
  ·exact hn.1 hb
  ·exact hd b (by simp [hb]) hm
theorem Kbd {d : Int} : ∀ {l m : List Int}, strictB d l → strictB d m → (∀ x, x ∈ l ↔ x ∈ m) → l = m
 | [], [], _, _, _ => rfl
 | [], b :: m, _, _, h => by have := (h b).2 (by simp); simp at this
 | a :: l, [], _, _, h => by have := (h a).1 (by simp); simp at this
 | a :: l, b :: m, h1, h2, h => by
  unfold strictB at h1 h2
  rw [List.pairwise_cons] at h1 h2
  have hir : ∀ x, ordB d x x = true → False := fun x hx => by have := (swoB d).asy x x hx; simp_all
  have hab : a = b := by
   rcases List.mem_cons.1 ((h a).1 (by simp)) with e | e
   ·exact e
   ·rcases List.mem_cons.1 ((h b).2 (by simp)) with e2 | e2
    ·exact e2.symm
    ·exact (hir a ((swoB d).tr (h1.1 b e2) (h2.1 a e))).elim
  subst hab
  congr 1
  refine Kbd h1.2 h2.2 fun x => ⟨fun hx => ?_, fun hx => ?_⟩
  ·rcases List.mem_cons.1 ((h x).1 (by simp [hx])) with e | e
   ·subst e; exact (hir x (h1.1 x hx)).elim
   ·exact e
  ·rcases List.mem_cons.1 ((h x).2 (by simp [hx])) with e | e
   ·subst e; exact (hir x (h2.1 x hx)).elim
   ·exact e
def addO (d : Int) (out : List Int) (x : Int) : List Int := if out.contains x then out else Srt.ins (ordB d) x out
theorem K6e {d : Int} : ∀ (l out : List Int), strictB d out → strictB d (l.foldl (addO d) out) ∧ ∀ x, x ∈ l.foldl (addO d) out ↔ x ∈ out ∨ x ∈ l
 | [], out, h => ⟨h, by simp⟩
 | z :: l, out, h => by
  have hz : strictB d (addO d out z) ∧ ∀ x, x ∈ addO d out z ↔ x ∈ out ∨ x = z := by
   unfold addO
   split
   ·rename_i k
    have k' : z ∈ out := by simpa using k
    refine ⟨h, fun x => ⟨.inl, ?_⟩⟩
    rintro (k | rfl)
    ·exact k
    ·exact k'
   ·rename_i k
    have k' : z ∉ out := by simpa using k
    refine ⟨K76 h k', fun x => ?_⟩
    rw [Srt.mem_ins]
    constructor <;> rintro (k | k) <;> simp [k]
  obtain ⟨h1, h2⟩ := K6e l (addO d out z) hz.1
  refine ⟨h1, fun x => ?_⟩
  rw [List.foldl_cons, h2, hz.2, List.mem_cons]
  constructor
  ·rintro ((k | k) | k) <;> simp [k]
  ·rintro (k | k | k) <;> simp [k]
def ordS (l : List Int) (d : Int) : List Int := l.foldl (addO d) []
theorem ordS_eq (l : List Int) (d : Int) : ordS l d = K1m l d := by
 obtain ⟨h1, h2⟩ := Kcl l
 obtain ⟨h3, h4⟩ := K6e (d := d) l [] List.Pairwise.nil
 rw [K1m, ltR_eq, Kb7 d _ _ rfl h1]
 refine Kbd h3 (K9q List.Pairwise.nil (h1.imp (fun h => by omega)) (by simp)) fun x => ?_
 rw [Srt.isort, Srt.mem_mrg, h2]
 exact h4 x
theorem ordS_snoc {l : List Int} {d : Int} {k : Nat} {x : Int} (h : l[k]? = some x) : ordS (l.take (k + 1)) d = addO d (ordS (l.take k) d) x := by
 rw [Ke h, ordS, List.foldl_append]; rfl
theorem K7g (l : List Int) (d : Int) : (K1m l d).length ≤ l.length := by
 rw [K1m, Srt.len_isort, sortU_puts]; exact puts_len l
def placedL (l : List Int) (d k : Int) : List Int := (K1m l d).take k.toNat
theorem Clu (v : Int) : Ctr Tryz.prog N3w [aI v, aI 1000000] [rI (modM v)] := by
 refine cA M3z 0 15 [(.tmp 4, [false])] Tryz.func387 rfl rfl ?_; unfold M3z
 intro hb
 clear hb
 simp only [go_sem]
 apply K0 (C1 _ _ _)
 simp only [go_sem, K9u]
 refine And.intro ?_ ?_ <;> intro h
 ·exact absurd (by decide) h
 ·rfl
theorem Clv (v : Int) : Ctr Tryz.prog N3x [aI v, aI 1000000] [rI (modM v)] := by
 refine cA M3y 0 15 [(.tmp 4, [false])] Tryz.func390 rfl rfl ?_; unfold M3y
 intro hb
 clear hb
 simp only [go_sem]
 apply K0 (C4 _ _ _)
 simp only [go_sem, K9u]
 refine And.intro ?_ ?_ <;> intro h
 ·exact absurd (by decide) h
 ·rfl
def Mh3 : MC :=
(Zs [.mv 4 (ci 0)] [0,1] (Zs [mS 5 0, mS 6 1, .lit 7 0 1 8 [.s 5, .s 6], .call 8 [] (.f N1o) [.s 7], .call 9 [] (.f N3w) [.s 8, .c (.int .i64 1000000)], mS 4 9] [4] .ret))
theorem Ch4 (d l : Int) : Ctr Tryz.prog N8x [aI d, aI l] [rI (K2p d l)] := by
 refine cA Mh3 1 10 [(.tmp 4, [false])] Tryz.func304 rfl rfl ?_; unfold Mh3
 intro hb
 clear hb
 simp only [go_sem]
 refine ⟨⟨by simp, by decide⟩, ?_⟩
 apply K0 (C2e [d, l])
 simp only [go_sem]
 apply K0 (Clu _)
 simp only [go_sem]
 intros
 rfl
def Mh5 : MC :=
(Zs [.mv 4 (ci 0)] [0,1] (Zs [mS 5 0, mS 6 1, .lit 7 0 1 8 [.s 5, .s 6], .call 8 [] (.f N1n) [.s 7], .call 9 [] (.f N3x) [.s 8, .c (.int .i64 1000000)], mS 4 9] [4] .ret))
theorem Ch6 (d l : Int) : Ctr Tryz.prog N8z [aI d, aI l] [rI (K2p d l)] := by
 refine cA Mh5 1 10 [(.tmp 4, [false])] Tryz.func382 rfl rfl ?_; unfold Mh5
 intro hb
 clear hb
 simp only [go_sem]
 refine ⟨⟨by simp, by decide⟩, ?_⟩
 apply K0 (C2d [d, l])
 simp only [go_sem]
 apply K0 (Clv _)
 simp only [go_sem]
 intros
 rfl
def Mb2 : MC :=
(Zs [.mv 5 (ci 0)] [0,1,2] (.seq (.dreg [Zc [7,9,10] (lF 6 1 2), Zc [6,9,10] (mS 7 1), Zd [9,10] [0,1] (.call 8 [] (.f N8x) [.s 6, .s 7]), Zc [6,7,8,10] (lF 9 1 2), Zc [6,7,8,9] (mS 10 0), Ze (.range 5) (.call 11 [] (.f N8x) [.s 9, .s 10]), Ze (.range 6) (.call 12 [] (.f N45) [.s 8, .s 11]), Ze (.range 7) (mS 5 12)] [5])
.ret))
theorem Cjc (a b d : Int) : Ctr Tryz.prog N9p [aI a, aI b, (false, [.pb [tI d]])] [rI (cmpR d a b)] := by
 refine cA Mb2 0 13 [(.tmp 5, [false])] Tryz.func303 rfl rfl ?_; unfold Mb2
 intro hb
 clear hb
 simp only [go_sem]
 apply K0 (Ch4 _ _)
 simp only [go_sem]
 intros
 apply K0 (Ch4 _ _)
 simp only [go_sem]
 intros
 apply K0 (Cgn _ _)
 simp only [go_sem]
 intros
 rfl
def Me7 : MC :=
(Zs [.box 3 0 (.s 1), .nilo 4 1 1] [0,3] (Zs [mS 6 0, .call 7 [1] (.f Ng9) [.s 6], mS 5 7] [3,5] (Zs [mS 8 5, .closF 9 N9p 3, .callI 10 [] (.f N23) [.s 8, .s 9] [0,1] []] [5] (Zs [mS 11 5, mS 4 11] [4] .ret))))
theorem Cku (l : List Int) (d : Int) (hl : l.length ≤ 1073741824) : Ctr Tryz.prog Ndc [aL 1 (l.map encI), aI d] [rL 1 ((K1m l d).map encI)] := by
 refine cA Me7 2 12 [(.tmp 4, [true])] Tryz.func190 rfl rfl ?_; unfold Me7
 intro hb
 clear hb
 simp only [go_sem]
 apply K0 (Clk l hl)
 simp only [go_sem]
 intros
 apply K7 (Cg0 (cs := [.pb [tI d]]) (sortU l) _ (cmpR d) (fun x y => Cjc x y d) (swoR d))
 simp only [go_sem]
 exact ⟨Srt.len_isort.symm, rfl⟩
def Mcx : MC :=
(Zs [.mv 6 cF] [0,1,2] (Zs [mS 9 0, mS 10 1, .call 11 [] (.f N8z) [.s 9, .s 10], mS 7 11] [0,1,2,7] (Zs [mS 12 0, mS 13 2, .call 14 [] (.f N8z) [.s 12, .s 13], mS 8 14] [1,2,7,8] (.seq (.reg [Za (mS 15 7), Za (mS 16 8), Za (bS 17 .gtr 15 16), Za (mS 18 17), Zb 18 false (mS 19 7), Zb 18 false (mS 20 8), Zb 18 false (bS 21 .eql 19 20), Zb 18 false (mS 22 21), Zb 22 true (mS 23 1), Zb 22 true (mS 24 2), Zb 22 true (bS 25 .lss 23 24), Zb 18 false (.pick 26 (.s 22) (.s 25) cF), Za (.pick 27 (.s 18) cT (.s 26)), Za (mS 6 27)] [6])
.ret))))
theorem Ckd (d a b : Int) : Ctr Tryz.prog Nbs [aI d, aI a, aI b] [rB (ordB d a b)] := by
 refine cA Mcx 0 28 [(.tmp 6, [false])] Tryz.func294 rfl rfl ?_; unfold Mcx
 intro hb
 clear hb
 simp only [go_sem]
 apply K0 (Ch6 _ _)
 simp only [go_sem]
 intros
 apply K0 (Ch6 _ _)
 simp only [go_sem]
 intros
 repeat' first
  | (refine And.intro ?_ ?_ <;> intro h)
 all_goals (unfold ordB; first | (symm; rw [decide_eq_false_iff_not]; omega) | (rw [Bool.eq_iff_iff]; simp only [decide_eq_true_eq]; omega) | (simp; omega))
def Me8 : MC :=
(Zs [.nilo 4 0 1] [0,1] (Zs [.lit 9 0 1 8 [], mS 5 9] [0,1,5] (.seq (Zs [.mv 6 (ci 0)] [0,1,5,6] (.block 0 (.loop ([0,1,5,6], [1,2]) (.seq (Zs [mS 10 6, mS 11 0, nS 12 11, bS 13 .lss 10 12] [0,1,5,6,13] (cX 13 0))
(.seq (.block 1 (Zs [mS 16 0, mS 17 6, xS 18 1 16 17, lF 19 1 18, mS 7 19] [0,1,5,6,7] (.seq (Zs [mS 20 5, mS 21 7, .call 22 [] (.f N8t) [.s 20, .s 21]] [0,1,5,6,7,22] (.cond (.s 22) (.exit 1) .skip))
(Zs [mS 23 5, nS 24 23, mS 8 24] [0,1,5,6,7,8] (.seq (.block 2 (.loop ([0,1,5,6,7,8], [1,2]) (.seq (.seq (.reg [Za (mS 25 8), Za (bC 26 .gtr 25 0), Za (mS 27 26), Zb 27 true (mS 28 1), Zb 27 true (mS 29 7), Zb 27 true (mS 30 5), Zb 27 true (mS 31 8), Zb 27 true (bC 32 .sub 31 1), Zb 27 true (xS 33 1 30 32), Zb 27 true (lF 34 1 33), Zb 27 true (.call 35 [] (.f Nbs) [.s 28, .s 29, .s 34]), Za (.pick 36 (.s 27) (.s 35) cF)] [0,1,5,6,7,8,36])
(cX 36 2))
(.block 3 (pr [mS 37 8, bC 38 .sub 37 1, mS 8 38] [0,1,5,6,7,8])))))
(.dreg [{ o := .lit 39 1 1 8 [], hs := [40,41,42,44,45,47,48,49], ho := [2], ws := [1] }, Zf [39,41,44,45,47,48,49] [1,2] (mS 40 5), Zf [39,40,44,45,47,48,49] [1,2] (mS 41 8), Zg [39,44,45,47,48,49] [1,2] [1,2] (.slc 42 1 (.s 40) none (some (.s 41)) none), { o := .app 43 1 1 8 (.s 39) (.s 42), hs := [44,45,47,48,49], ho := [2], ws := [1], bf := (.range 4) }, Zf [39,40,41,42,43,47,48,49] [1] (mS 44 7), { o := .lit 45 2 1 8 [.s 44], hs := [39,40,41,42,43,47,48,49], ho := [1], ws := [2], bf := [5] }, { o := .app 46 1 1 8 (.s 43) (.s 45), hs := [47,48,49], ws := [1], bf := (.range 7) }, Zf [39,40,41,42,43,44,45,46,48] [1,2] (mS 47 5), Zf [39,40,41,42,43,44,45,46,47] [1,2] (mS 48 8), Zg [39,40,41,42,43,44,45,46] [1,2] [8,9] (.slc 49 1 (.s 47) (some (.s 48)) none none), { o := .app 50 0 1 8 (.s 46) (.s 49), ws := [0,1], bf := (.range 11) }, Ze (.range 12) (mS 5 50)] [0,1,5,6]))))))
(pr [mS 14 6, bC 15 .add 14 1, mS 6 15] [0,1,5,6]))))))
(Zs [mS 51 5, mS 4 51] [4] .ret))))
set_option maxHeartbeats 1000000 in
theorem Ckv (l : List Int) (d : Int) (hl : l.length ≤ 1073741824) : Ctr Tryz.prog Nda [aL 1 (l.map encI), aI d] [rL 1 ((K1m l d).map encI)] := by
 refine cA Me8 3 52 [(.tmp 4, [true])] Tryz.func179 rfl rfl ?_; unfold Me8
 intro hb
 clear hb
 rw [← ordS_eq]
 simp only [go_sem]
 refine K5 l (fun k => [(5, .val false [.ref 0 0 1 0 (ordS (l.take k) d).length]), (6, vI k)]) (fun k => [(0, ⟨0, .row true 1 ((ordS (l.take k) d).map encI)⟩)]) (fun _ => True) (by simp only [roomB]; omega) ?_
 simp only [go_sem]
 refine ⟨?_, trivial, ?_, ?_⟩
 ·simp only [go_sem, List.take_zero]
  exact ⟨rfl, rfl⟩
 ·intro i y hx _ h0 h1 hw
  have hi := Km hx
  have hol : (ordS (l.take i) d).length ≤ l.length := by
   rw [ordS_eq]
   exact Nat.le_trans (K7g _ _) (by rw [List.length_take]; omega)
  have hsr : Srt.srt (ordB d) (ordS (l.take i) d) := by
   have := (K6e (d := d) (l.take i) [] List.Pairwise.nil).1
   exact this.imp fun {a b} h => (swoB d).asy a b h
  have hst := ordS_snoc (d := d) hx
  rw [hst]
  generalize ordS (l.take i) d = out at *
  clear hst
  simp only [go_sem, K4 hx, h0, h1]
  apply K0 (Cgk out y)
  simp only [go_sem, hw]
  refine ⟨fun hc => ?_, fun hc => ?_⟩
  ·have e : addO d out y = out := by unfold addO; rw [if_pos hc]
   rw [e]
   exact ⟨rfl, rfl⟩
  ·have e : addO d out y = Srt.ins (ordB d) y out := by unfold addO; rw [if_neg (by rw [hc]; simp)]
   rw [e]
   refine Kg (fun n : Nat => [(8, vI n)]) (fun n => []) (fun n => n ≤ out.length ∧ ∀ z ∈ out.drop n, ordB d y z = true) (fun n => n) out.length ?_
   simp only [go_sem]
   refine ⟨?_, ⟨Nat.le_refl _, by simp⟩, ?_⟩
   ·simp only [go_sem]
   ·rintro n ⟨hn1, hn2⟩
    simp only [go_sem]
    refine ⟨fun hpos => ?_, fun hzero => ?_⟩
    ·obtain ⟨m, hm⟩ : ∃ m, m = n - 1 := ⟨_, rfl⟩
     obtain ⟨z, hz⟩ := Kb (show m < out.length by omega)
     have e1 : IntKind.i64.wrap ((n : Int) - 1) = (m : Int) := by rw [wI (by omega) (by omega)]; omega
     rw [e1]
     simp only [go_sem, K4 hz]
     refine ⟨⟨by omega, by omega⟩, ?_⟩
     apply K0 (Ckd d y z)
     simp only [go_sem]
     rw [e1]
     refine ⟨fun ht => ⟨m, rfl, ⟨by omega, ?_⟩, by omega⟩, fun hf => ?_⟩
     ·rw [hm]
      exact Srt.drop_step (by omega) (hm ▸ hz) hn2 ht
     ·have hstop : n = 0 ∨ ∃ y', out[n - 1]? = some y' ∧ ordB d y y' = false := .inr ⟨z, hm ▸ hz, hf⟩
      rw [cutA hn1]
      refine ⟨by omega, by omega, ?_⟩
      have hA : (out.take n).length = n := by rw [List.length_take]; omega
      have hB : out.length = n + (out.drop n).length := by rw [List.length_drop]; omega
      have eC := cutB (f := encI) hn1
      have e5 : List.map encI (out.take n) ++ [[T.sc (Value.int IntKind.i64 y)]] = (out.take n ++ [y]).map encI := by simp [encI]
      have e6 : ((out.take n ++ [y]).map encI).length = (out.take n).length + 1 := by simp
      simp only [go_sem, ↓Kk (f := encI) (fun _ => rfl) (out.take n), ↓eC, ↓e5, ↓e6, ↓Kk (f := encI) (fun _ => rfl) (out.drop n)]
      rw [Srt.ins_at (swoB d) hsr hn2 hstop]
      simp only [roomB]
      exact ⟨by omega, by omega, by omega, ⟨by omega, by omega, by omega⟩, by omega, by omega, ⟨by simp only [List.length_append, List.length_cons, List.length_nil], hw⟩, by rw [← List.map_append]⟩
    ·have hstop : n = 0 ∨ ∃ y', out[n - 1]? = some y' ∧ ordB d y y' = false := .inl (by omega)
     rw [cutA hn1]
     refine ⟨by omega, by omega, ?_⟩
     have hA : (out.take n).length = n := by rw [List.length_take]; omega
     have hB : out.length = n + (out.drop n).length := by rw [List.length_drop]; omega
     have eC := cutB (f := encI) hn1
     have e5 : List.map encI (out.take n) ++ [[T.sc (Value.int IntKind.i64 y)]] = (out.take n ++ [y]).map encI := by simp [encI]
     have e6 : ((out.take n ++ [y]).map encI).length = (out.take n).length + 1 := by simp
     simp only [go_sem, ↓Kk (f := encI) (fun _ => rfl) (out.take n), ↓eC, ↓e5, ↓e6, ↓Kk (f := encI) (fun _ => rfl) (out.drop n)]
     rw [Srt.ins_at (swoB d) hsr hn2 hstop]
     simp only [roomB]
     exact ⟨by omega, by omega, by omega, ⟨by omega, by omega, by omega⟩, by omega, by omega, ⟨by simp only [List.length_append, List.length_cons, List.length_nil], hw⟩, by rw [← List.map_append]⟩
 ·intro _
  simp only [go_sem, List.take_length]
theorem Kce {l : List Int} {d : Int} {k : Int} {n : Nat} (h : (n : Int) = min (max k 0) (K1m l d).length) : placedL l d k = (K1m l d).take n := by
 unfold placedL
 by_cases hk : k.toNat ≤ (K1m l d).length
 ·congr 1; omega
 ·rw [List.take_of_length_le (by omega), List.take_of_length_le (by omega)]
def M8q : MC :=
(Zs [.nilo 6 0 1] [0,1,2] (Zs [mS 8 0, mS 9 1, .call 10 [0] (.f Ndc) [.s 8, .s 9], mS 7 10] [2,7] (Zs [mS 11 7, mS 12 2, .mm 13 true (.s 12) (ci 0), mS 14 7, nS 15 14, .mm 16 false (.s 13) (.s 15), .slc 17 1 (.s 11) none (some (.s 16)) none, mS 6 17] [6] (.trim 6 .ret))))
theorem Cih (l : List Int) (d k : Int) (hl : l.length ≤ 1073741824) : Ctr Tryz.prog N7m [aL 1 (l.map encI), aI d, aI k] [rL 1 ((placedL l d k).map encI)] := by
 refine cA M8q 1 18 [(.tmp 6, [true])] Tryz.func100 rfl rfl ?_; unfold M8q
 intro hb
 clear hb
 have hol := K7g l d
 simp only [go_sem]
 apply K0 (Cku l d hl)
 simp only [go_sem]
 intros
 generalize hX : (if ((K1m l d).length : Int) < (if (0 : Int) > k then 0 else k) then ((K1m l d).length : Int) else (if (0 : Int) > k then 0 else k)) = X
 have hX2 : 0 ≤ X ∧ X ≤ (K1m l d).length ∧ (X.toNat : Int) = min (max k 0) (K1m l d).length := by
  rw [← hX]
  repeat' split
  all_goals omega
 rw [Kce hX2.2.2]
 have e : (X - 0).toNat = X.toNat := by omega
 exact ⟨⟨by omega, by omega, by omega⟩, by omega, by rw [List.length_take, List.length_map]; omega, by rw [e, List.map_take]⟩
def M8r : MC :=
(Zs [.nilo 6 0 1] [0,1,2] (Zs [mS 8 0, mS 9 1, .call 10 [1] (.f Nda) [.s 8, .s 9], mS 7 10] [2,7] (Zs [.lit 11 0 1 8 [], mS 12 7, mS 13 2, mS 14 7, nS 15 14, .call 16 [] (.f N59) [.s 13, .s 15], .call 17 [] (.f Nfr) [.c (.int .i64 0), .s 16], .slc 18 1 (.s 12) none (some (.s 17)) none, .app 19 0 1 8 (.s 11) (.s 18), mS 6 19] [6] .ret)))
theorem Cii (l : List Int) (d k : Int) (hl : l.length ≤ 1073741824) : Ctr Tryz.prog N7l [aL 1 (l.map encI), aI d, aI k] [rL 1 ((placedL l d k).map encI)] := by
 refine cA M8r 2 20 [(.tmp 6, [true])] Tryz.func94 rfl rfl ?_; unfold M8r
 intro hb
 clear hb
 have hol := K7g l d
 simp only [go_sem]
 apply K0 (Ckv l d hl)
 simp only [go_sem]
 intros
 apply K0 (Cb5 k _)
 simp only [go_sem]
 intros
 apply K0 (Ckr 0 _)
 simp only [go_sem]
 intros
 generalize hX : (if (if ((K1m l d).length : Int) < k then ((K1m l d).length : Int) else k) > 0 then (if ((K1m l d).length : Int) < k then ((K1m l d).length : Int) else k) else 0) = X
 have hX2 : 0 ≤ X ∧ X ≤ (K1m l d).length ∧ (X.toNat : Int) = min (max k 0) (K1m l d).length := by
  rw [← hX]
  repeat' split
  all_goals omega
 rw [Kce hX2.2.2]
 obtain ⟨m, rfl⟩ := Int.eq_ofNat_of_zero_le hX2.1
 have hm : m ≤ (K1m l d).length := by omega
 rw [K7q (f := encI) hm, Int.toNat_natCast]
 have hmt : ((K1m l d).take m).length = m := by rw [List.length_take]; omega
 simp only [go_sem, ↓Kk (f := encI) (fun _ => rfl) ((K1m l d).take m), List.length_map, hmt]
 exact ⟨⟨by omega, by omega, by omega⟩, by omega, by simp only [roomB]; omega⟩
end Go.Proofs.YtgkeplbnnjogiaaGreatR
namespace Go.Proofs
open Go.Shelf
def Tryz.laysNm221_ren : Go.Shelf.Ren := ⟨fun | 21 => 192 | 27 => 305 | 28 => 306 | 35 => 388 | 39 => 426 | n => n, fun | 22 => 30 | 3 => 3 | 4 => 4 | 0 => 0 | n => n, fun | n => n⟩
theorem Tryz.laysNm221 : Go.Proofs.Lays2.n21 Tryz.prog Tryz.laysNm221_ren := {
 mixed := by kernel_rfl
 f21 := Tryz.func192.trans (congrArg some (by kernel_rfl))
 f27 := Tryz.func305.trans (congrArg some (by kernel_rfl))
 f28 := Tryz.func306.trans (congrArg some (by kernel_rfl))
 f35 := Tryz.func388.trans (congrArg some (by kernel_rfl))
 f39 := Tryz.func426.trans (congrArg some (by kernel_rfl))
 t0 := Tryz.underlying0
 a0 := Tryz.isAgg0
 z0 := Tryz.sizeOf0
 v0 := Tryz.zeroValue0
 t3 := Tryz.underlying3
 a3 := Tryz.isAgg3
 z3 := Tryz.sizeOf3
 v3 := Tryz.zeroValue3
 t4 := Tryz.underlying4
 a4 := Tryz.isAgg4
 z4 := Tryz.sizeOf4
 v4 := Tryz.zeroValue4
 t22 := Tryz.underlying30
 a22 := Tryz.isAgg30
 z22 := Tryz.sizeOf30
 v22 := Tryz.zeroValue30
 i3 := by kernel_rfl }
end Go.Proofs
namespace Go.Proofs.YtgkeplbnnjogiaaGreatR
open Go Go.RowKit Go.Proofs
open Nat (reduceEqDiff reduceLT reduceLeDiff reduceAdd reduceMul)
open List (reduceReplicate)
theorem argsI_ins {w : World} {X : Nat → Prop} {es es' : List (List T)} {k : Int} {vs : List Value} {G : List Nat} (h : ResVs w X [oL 1 es, iI k, oL 1 es'] vs G) : ∃ v u G1 G2, vs = [v, .int .i64 k, u] ∧ Ow w (.sl 1 es) v G1 ∧ Ow w (.sl 1 es') u G2 ∧ G = G1 ++ G2 := by
 match vs, h with
 | [v, i, u], ⟨Ga, Gb, h1, ⟨Gc, Gd, h2, ⟨Ge, Gf, h3, h4, e3⟩, e2⟩, e1⟩ =>
  obtain ⟨_, G1, G2, k1, k2, e4⟩ := h1
  obtain ⟨_, k3, k4⟩ := h2
  obtain ⟨_, G3, G4, k5, k6, e5⟩ := h3
  simp only [ResVs] at h4
  simp only [ResC] at k2 k4 k6
  simp only [Rd] at k3
  obtain ⟨rfl, _⟩ := k3
  subst h4 k2 k4 k6 e4 e5 e3 e2 e1
  exact ⟨v, u, G1, G3, rfl, k1, k5, by simp⟩
 | [], h => exact h.elim
 | [_], ⟨_, _, _, h, _⟩ => exact h.elim
 | [_, _], ⟨_, _, _, ⟨_, _, _, h, _⟩, _⟩ => exact h.elim
 | _ :: _ :: _ :: _ :: _, ⟨_, _, _, ⟨_, _, _, ⟨_, _, _, h, _⟩, _⟩, _⟩ => exact h.elim
theorem K1z {b : Nat} {ty : TypeId} {fz : Nat × Nat} : ∀ (vs : List Value) (o : Nat) (w : World) (row : Array Value), w.heap[b]? = some (.cells row ty fz) → ∃ row', (w.setCells b o vs).heap[b]? = some (.cells row' ty fz) ∧ row'.size = row.size
 | [], _, _, row, h => ⟨row, h, rfl⟩
 | v :: r, o, w, row, h => by
  have hw : (w.setCell ⟨b, o, none⟩ v).heap[b]? = some (.cells (row.setIfInBounds o v) ty fz) := by simp [World.setCell, Array.getElem?_modify, h]
  obtain ⟨row', h1, h2⟩ := K1z r (o + 1) (w.setCell ⟨b, o, none⟩ v) (row.setIfInBounds o v) hw
  exact ⟨row', h1, h2.trans (by simp)⟩
theorem K5v {B : Nat → Prop} {b : Nat} (hb : ¬ B b) : ∀ (vs : List Value) (o : Nat) (w : World), Bel B w (w.setCells b o vs)
 | [], _, w => Bel.refl _ _
 | v :: r, o, w => by
  refine Bel.trans (b := w.setCell ⟨b, o, none⟩ v) ⟨rfl, rfl, rfl, by simp [World.setCell], fun k hk => ?_⟩ (K5v hb r (o + 1) _)
  have hne : k ≠ b := fun e => hb (e ▸ hk)
  simp [World.setCell, Array.getElem?_modify, Ne.symm hne]
theorem ow_ints {w : World} {b off cap : Nat} {zs : List Int} {row : Array Value} {ty : TypeId} (hh : w.heap[b]? = some (.cells row ty (0, 0))) (hc : off + cap ≤ row.size) (hln : Ln zs.length cap)
  (hz : ∀ (j : Nat) (x : Int), zs[j]? = some x → w.cell? ⟨b, off + j, none⟩ = some (.int .i64 x) ∧ oneW (.int .i64 x) = true) : Ow w (.sl 1 (zs.map encI)) (.slice (some ⟨b, off, none⟩) zs.length cap) [b] := by
 unfold Ow
 exact ⟨some ⟨b, off, none⟩, cap, by rw [List.length_map], by rw [List.length_map]; exact hln, .inr ⟨b, off, row, ty, [], rfl, hh, by simpa using hc, owRow_int' hz, rfl⟩⟩
theorem at_mid {α : Type} {A B : List α} {x : α} {k j : Nat} {y : α} (hA : A.length = k) (h : (A ++ [x] ++ B)[j]? = some y) : (j < k ∧ A[j]? = some y) ∨ (j = k ∧ y = x) ∨ (k < j ∧ B[j - (k + 1)]? = some y) := by
 subst hA
 rw [List.append_assoc] at h
 by_cases h1 : j < A.length
 ·rw [List.getElem?_append_left h1] at h; exact .inl ⟨h1, h⟩
 ·rw [List.getElem?_append_right (by omega)] at h
  by_cases h2 : j = A.length
  ·subst h2
   simp at h
   exact .inr (.inl ⟨rfl, h.symm⟩)
  ·rw [List.getElem?_append_right (by simp; omega)] at h
   refine .inr (.inr ⟨by omega, ?_⟩)
   rw [← h]; simp only [List.length_cons, List.length_nil]; congr 1
theorem ins_len {α : Type} {zs : List α} {x : α} {k : Nat} (hk : k ≤ zs.length) : (zs.take k ++ [x] ++ zs.drop k).length = zs.length + 1 := by
 rw [List.length_append, List.length_append, List.length_take, List.length_drop, List.length_cons, List.length_nil]
 omega
theorem C7a (zs : List Int) (k : Nat) (x : Int) (hk : k ≤ zs.length) (hl : zs.length ≤ 1073741824) : CtrI Tryz.prog N42 [oL 1 (zs.map encI), iI k, oL 1 ([x].map encI)] [none, none] [rL 1 ((zs.take k ++ [x] ++ zs.drop k).map encI)] := by
 refine ⟨⟨Tryz.f192, Tryz.func192, by kernel_rfl, by kernel_rfl⟩, fun w X vs G ht h hG hGb => ?_⟩
 obtain ⟨v, u, G1, G2, rfl, hv, hu, rfl⟩ := argsI_ins h
 unfold Ow at hv hu
 obtain ⟨A, cap, rfl, hln, hv⟩ := hv
 obtain ⟨A2, vc, rfl, hln2, hu⟩ := hu
 rw [List.length_map] at hln ⊢
 simp only [List.length_map, List.length_cons, List.length_nil, Nat.zero_add] at hln2 ⊢
 rcases hu with ⟨_, h0, _⟩ | ⟨vb, voff, rowv, tyv, Gv, rfl, hhv, hcv, hrv, rfl⟩
 ·simp at h0
 obtain ⟨rfl, hzv⟩ := K4x hrv
 have hx1 := hzv 0 x rfl
 rw [Nat.add_zero] at hx1
 have hvbs : vb < w.heap.size := (hGb vb (by simp)).1
 have hvs : ∀ (j : Nat) (v : Value), [Value.int .i64 x][j]? = some v → w.cell? ⟨vb, voff + j, none⟩ = some v := fun j v hj => by
  cases j with
  | zero => simp only [List.getElem?_cons_zero, Option.some.injEq] at hj; rw [← hj]; exact hx1.1
  | succ j => simp at hj
 have h1v : ∀ v ∈ [Value.int .i64 x], v.oneCell' = true := fun v hv => by rw [List.mem_singleton.1 hv]; rfl
 have hlen := ins_len (x := x) hk
 have hcapB : cap ≤ 9223372036854775807 := hln.2.2
 have fin : ∀ (w' : World) (b2 off2 c2 : Nat) (row : Array Value) (ty : TypeId), Bel (fun b' => b' < w.heap.size ∧ b' ∉ G1 ++ [vb]) w w' → (b2 ∈ G1 ∨ w.heap.size ≤ b2) → w'.heap[b2]? = some (.cells row ty (0, 0)) → off2 + c2 ≤ row.size → zs.length + 1 ≤ c2 → c2 ≤ 9223372036854775807 →
   (∀ (j : Nat) (y : Int), j < k → zs[j]? = some y → w'.cell? ⟨b2, off2 + j, none⟩ = some (.int .i64 y)) → w'.cell? ⟨b2, off2 + k, none⟩ = some (.int .i64 x) →
   (∀ (j : Nat) (y : Int), (zs.drop k)[j]? = some y → w'.cell? ⟨b2, off2 + (k + 1) + j, none⟩ = some (.int .i64 y)) → (∀ y ∈ zs, oneW (.int .i64 y) = true) →
   Bel (fun b' => b' < w.heap.size ∧ b' ∉ G1 ++ [vb]) w w' ∧ ∃ us Ga Gb, (Value.slice (some ⟨b2, off2, none⟩) (zs.length + 1) c2) = tupV us ∧ OwOut w' [none, none] (K2n [oL 1 (zs.map encI), iI k, oL 1 ([x].map encI)] [.slice A zs.length cap, .int .i64 k, .slice (some ⟨vb, voff, none⟩) 1 vc]) Ga ∧
    ResVs w' (fun b => (b < w.heap.size → X b ∨ b ∈ G1 ++ [vb]) ∧ b ∉ Ga ++ Gb) [rL 1 ((zs.take k ++ [x] ++ zs.drop k).map encI)] us Gb ∧ (Ga ++ Gb).Nodup ∧ ∀ b ∈ Ga ++ Gb, (b ∈ G1 ++ [vb] ∨ w.heap.size ≤ b) ∧ b < w'.heap.size := by
  intro w' b2 off2 c2 row ty hB hb2 hh hc hcl hcb q1 q2 q3 q4
  have hO := ow_ints hh hc (zs := zs.take k ++ [x] ++ zs.drop k) ⟨by omega, by simp only [roomB]; omega, hcb⟩ (fun j y hj => by
   rcases at_mid (A := zs.take k) (k := k) (by simp; omega) hj with ⟨h1, h2⟩ | ⟨rfl, rfl⟩ | ⟨h1, h2⟩
   ·rw [List.getElem?_take, if_pos h1] at h2
    exact ⟨q1 j y h1 h2, q4 y (Kt h2)⟩
   ·exact ⟨q2, hx1.2⟩
   ·have := q3 _ y h2
    rw [show off2 + (k + 1) + (j - (k + 1)) = off2 + j by omega] at this
    rw [List.getElem?_drop] at h2
    exact ⟨this, q4 y (Kt h2)⟩)
  rw [hlen] at hO
  refine ⟨hB, [_], [], [b2], rfl, rfl, ⟨[b2], [], ⟨⟨_, rfl⟩, [b2], [], hO, rfl, rfl⟩, rfl, rfl⟩, by simp, fun b' hb' => ?_⟩
  obtain rfl : b' = b2 := by simpa using hb'
  exact ⟨hb2.imp (fun h => by simp [h]) id, K2j hh⟩
 rcases hv with ⟨rfl, hz0, rfl⟩ | ⟨b, off, row, ty, Gz, rfl, hh, hc, hrow, rfl⟩
 ·obtain rfl : zs = [] := by simpa using hz0
  obtain rfl : k = 0 := by simpa using hk
  refine (Any2.slices_Insert_int_end_grow Tryz.laysNm221 A 0 0 vb voff 1 vc [] [.int .i64 x] w (by omega) (by omega) (by omega) (by omega) rfl rfl (fun _ => rfl) (fun a _ j v hj => by simp at hj) hvs h1v).mono ?_
  rintro e w' ⟨rfl, rfl⟩
  refine fin _ _ _ _ _ _ ⟨rfl, rfl, rfl, by simp, fun b' hb' => ?_⟩ (.inr (Nat.le_refl _)) (heap_alloc_new w.drew _) ?_ (grownCap_ge w _ _ _) ?_ (fun j y hj _ => by omega) ?_ (fun j y hj => by simp at hj) (by simp)
  ·exact Below.heap_alloc w.drew _ b' hb'.1
  ·have := grownCap_ge w (0 + 1) 0 (Tryz.laysNm221_ren.t 3)
   simp [Builtin.zeroCells, Value.cells]
   omega
  ·have := grownCap_le_maxLen w (0 + 1) 0 (Tryz.laysNm221_ren.t 3) (by unfold maxLen; omega)
   unfold maxLen at this
   omega
  ·rw [World.cell?_alloc_at (w := w.drew) _ _ w.heap.size (0 + 0) rfl, Array.getElem?_append_left (by simp)]
   simp
 ·obtain ⟨rfl, hz⟩ := K4x hrow
  have hbs : b < w.heap.size := (hGb b (by simp)).1
  have hvb : vb ≠ b := by
   have := hG
   simp at this
   exact fun e => this e.symm
  have hcz : off + cap ≤ row.size := by simpa using hc
  have hzw : ∀ y ∈ zs, oneW (.int .i64 y) = true := fun y hy => by
   obtain ⟨j, hj⟩ := List.getElem?_of_mem hy
   exact (hz j y hj).2
  have hcl : (zs.map (Value.int .i64)).length = zs.length := by simp
  have hcs : ∀ (j : Nat) (v : Value), (zs.map (Value.int .i64))[j]? = some v → w.cell? ⟨b, off + j, none⟩ = some v := fun j v hj => by
   rw [List.getElem?_map] at hj
   obtain ⟨y, hy, rfl⟩ := Option.map_eq_some_iff.1 hj
   exact (hz j y hy).1
  have h1c : ∀ v ∈ zs.map (Value.int .i64), v.oneCell' = true := fun v hv => by
   obtain ⟨y, _, rfl⟩ := List.mem_map.1 hv
   rfl
  have hsome : ∀ j, j < cap → (w.cell? ⟨b, off + j, none⟩).isSome = true := fun j hj => by
   have : off + j < row.size := by omega
   simp [World.cell?, hh, this]
  have hfz : ∀ j, w.frozen? ⟨b, j, none⟩ = false := fun j => by simp [World.frozen?, hh]
  have hB0 : ∀ (o : Nat) (us : List Value) (w1 : World), Bel (fun b' => b' < w.heap.size ∧ b' ∉ [b] ++ [vb]) w1 (w1.setCells b o us) := fun o us w1 => K5v (by simp) us o w1
  by_cases hkn : k = zs.length
  ·subst hkn
   by_cases hroom : zs.length + 1 ≤ cap
   ·refine (Any2.slices_Insert_int_end_room Tryz.laysNm221 b off zs.length cap vb voff 1 vc [.int .i64 x] w (by omega) hroom hcapB rfl (fun j hj => by rw [Nat.add_assoc]; exact hsome _ (by omega)) (fun j hj => hfz _) hvs h1v).mono ?_
    rintro e w' ⟨rfl, rfl⟩
    obtain ⟨row', hr1, hr2⟩ := K1z [Value.int .i64 x] (off + zs.length) w row hh
    refine fin _ _ _ _ _ _ (hB0 _ _ _) (.inl (by simp)) hr1 (by omega) hroom hcapB (fun j y hj hy => ?_) ?_ (fun j y hj => by simp at hj) hzw
    ·rw [World.cell?_setCells_out b _ _ w _ (fun _ _ => by left; show off + j < off + zs.length; omega)]
     exact (hz j y hy).1
    ·have := World.cell?_setCells_in b [Value.int .i64 x] (off + zs.length) w (fun j hj => by rw [Nat.add_assoc]; exact hsome _ (by simp at hj; omega)) 0 (by simp)
     simpa using this
   ·have hce : cap = zs.length := by have := hln.1; omega
    refine (Any2.slices_Insert_int_end_grow Tryz.laysNm221 (some ⟨b, off, none⟩) zs.length cap vb voff 1 vc (zs.map (Value.int .i64)) [.int .i64 x] w (by omega) hln.1 (by omega) (by omega) hcl rfl (fun h => by cases h) (fun a ha j v hj => by
     obtain rfl := Option.some.inj ha
     rw [Addr.add_lit]; exact hcs j v hj) hvs h1v).mono ?_
    rintro e w' ⟨rfl, rfl⟩
    have hsz2 : ∀ j, j < zs.length + 1 → ((w.drew.alloc (.cells ((zs.map (Value.int .i64) ++ [Value.int .i64 x]).toArray ++ Builtin.zeroCells (Value.int .i64 0).cells (grownCap w (zs.length + 1) cap (Tryz.laysNm221_ren.t 3) - (zs.length + 1))) (Tryz.laysNm221_ren.t 3))).cell? ⟨w.heap.size, 0 + j, none⟩) = (zs.map (Value.int .i64) ++ [Value.int .i64 x])[j]? := fun j hj => by
     rw [World.cell?_alloc_at (w := w.drew) _ _ w.heap.size (0 + j) rfl, Array.getElem?_append_left (by simp; omega)]
     simp
    refine fin _ _ _ _ _ _ ⟨rfl, rfl, rfl, by simp, fun b' hb' => ?_⟩ (.inr (Nat.le_refl _)) (heap_alloc_new w.drew _) ?_ (grownCap_ge w _ _ _) ?_ (fun j y hj hy => ?_) ?_ (fun j y hj => by simp at hj) hzw
    ·exact Below.heap_alloc w.drew _ b' hb'.1
    ·have := grownCap_ge w (zs.length + 1) cap (Tryz.laysNm221_ren.t 3)
     simp [Builtin.zeroCells, Value.cells]
     omega
    ·have := grownCap_le_maxLen w (zs.length + 1) cap (Tryz.laysNm221_ren.t 3) (by unfold maxLen; omega)
     unfold maxLen at this
     omega
    ·rw [hsz2 j (by omega), List.getElem?_append_left (by simp; omega), List.getElem?_map, hy]; rfl
    ·rw [hsz2 _ (by omega), List.getElem?_append_right (by simp)]
     simp
  ·have hkl : k < zs.length := by omega
   have hdl : ((zs.map (Value.int .i64)).drop k).length = zs.length - k := by simp
   by_cases hroom : zs.length + 1 ≤ cap
   ·refine (Any2.slices_Insert_int_shift Tryz.laysNm221 b off zs.length cap k vb voff 1 vc (zs.map (Value.int .i64)) [.int .i64 x] w hkl (by omega) hroom hcapB hvb hcl rfl hcs (fun j hj => hsome j (by omega)) (fun j hj => hfz _) hvs h1c h1v tyv ty rowv.size row.size (by simp [World.shape?, hhv]) (by simp [World.shape?, hh]) (by omega) (by simp [World.frozen?, hhv]) (by simp [World.frozen?, hhv])).mono ?_
    rintro e w' ⟨rfl, rfl⟩
    obtain ⟨row', hr1, hr2⟩ := K1z ((zs.map (Value.int .i64)).drop k) (off + (k + 1)) w.drew row hh
    obtain ⟨row2, hr3, hr4⟩ := K1z [Value.int .i64 x] (off + k) _ row' hr1
    have hs2 : ∀ j, j < cap → ((w.drew.setCells b (off + (k + 1)) ((zs.map (Value.int .i64)).drop k)).cell? ⟨b, off + j, none⟩).isSome = true := fun j hj => by
     have : off + j < row'.size := by omega
     simp [World.cell?, hr1, this]
    refine fin _ _ _ _ _ _ ((Bel.drew (Bel.refl _ w)).trans ((hB0 _ _ _).trans (hB0 _ _ _))) (.inl (by simp)) hr3 (by omega) hroom hcapB (fun j y hj hy => ?_) ?_ (fun j y hj => ?_) hzw
    ·rw [World.cell?_setCells_out b _ _ _ _ (fun _ _ => by left; show off + j < off + k; omega), World.cell?_setCells_out b _ _ _ _ (fun _ _ => by left; show off + j < off + (k + 1); omega)]
     exact (hz j y hy).1
    ·have := World.cell?_setCells_in b [Value.int .i64 x] (off + k) (w.drew.setCells b (off + (k + 1)) ((zs.map (Value.int .i64)).drop k)) (fun j hj => by rw [Nat.add_assoc]; exact hs2 _ (by simp at hj; omega)) 0 (by simp)
     simpa using this
    ·have hjl := Km hj
     rw [List.length_drop] at hjl
     rw [World.cell?_setCells_out b _ _ _ _ (fun _ _ => by right; show off + k + 1 ≤ off + (k + 1) + j; omega)]
     have := World.cell?_setCells_in b ((zs.map (Value.int .i64)).drop k) (off + (k + 1)) w.drew (fun j hj => by
      rw [hdl] at hj
      have := hsome (k + 1 + j) (by omega)
      rw [Nat.add_assoc]; exact this) j (by rw [hdl]; omega)
     rw [this]
     rw [List.getElem?_drop] at hj
     obtain ⟨hj1, hj2⟩ := List.getElem?_eq_some_iff.1 hj
     simp [← hj2]
   ·refine (Any2.slices_Insert_int_grow Tryz.laysNm221 b off zs.length cap k vb voff 1 vc (zs.map (Value.int .i64)) [.int .i64 x] w hkl (by omega) hln.1 (by omega) (by omega) hcl rfl hcs hvs h1c h1v).mono ?_
    rintro e w' ⟨rfl, rfl⟩
    obtain ⟨g, hg⟩ : ∃ g, g = grownCap w (zs.length + 1) cap (Tryz.laysNm221_ren.t 3) := ⟨_, rfl⟩
    have hg1 : zs.length + 1 ≤ g := hg ▸ grownCap_ge w _ _ _
    have hg2 : g ≤ 9223372036854775807 := by
     have := grownCap_le_maxLen w (zs.length + 1) cap (Tryz.laysNm221_ren.t 3) (by unfold maxLen; omega)
     unfold maxLen at this
     omega
    rw [← hg]
    obtain ⟨ROW, hROW⟩ : ∃ ROW : Array Value, ROW = ((zs.map (Value.int .i64)).take k).toArray ++ Builtin.zeroCells (Value.int .i64 0).cells (zs.length + 1 - k) ++ Builtin.zeroCells (Value.int .i64 0).cells (g - (zs.length + 1)) := ⟨_, rfl⟩
    rw [← hROW]
    have hRs : ROW.size = g := by
     rw [hROW]
     simp [Builtin.zeroCells, Value.cells]
     omega
    obtain ⟨w1, hw1⟩ : ∃ w1, w1 = (w.alloc (.cells ROW (Tryz.laysNm221_ren.t 3))).drew := ⟨_, rfl⟩
    have hh1 : w1.heap[w.heap.size]? = some (.cells ROW (Tryz.laysNm221_ren.t 3) (0, 0)) := by rw [hw1]; exact heap_alloc_new w _
    have hc1 : ∀ j, w1.cell? ⟨w.heap.size, j, none⟩ = ROW[j]? := fun j => by simp [World.cell?, hh1]
    rw [← hw1]
    obtain ⟨row', hr1, hr2⟩ := K1z [Value.int .i64 x] k w1 ROW hh1
    obtain ⟨w2, hw2⟩ : ∃ w2, w2 = (w1.setCells w.heap.size k [Value.int .i64 x]).drew := ⟨_, rfl⟩
    rw [← hw2]
    have hh2 : w2.heap[w.heap.size]? = some (.cells row' (Tryz.laysNm221_ren.t 3) (0, 0)) := by rw [hw2]; exact hr1
    obtain ⟨row2, hr3, hr4⟩ := K1z ((zs.map (Value.int .i64)).drop k) (k + 1) w2 row' hh2
    have hBs : ∀ (o : Nat) (us : List Value) (w3 : World), Bel (fun b' => b' < w.heap.size ∧ b' ∉ [b] ++ [vb]) w3 (w3.setCells w.heap.size o us) := fun o us w3 => K5v (fun h => by have := h.1; omega) us o w3
    have hB1 : Bel (fun b' => b' < w.heap.size ∧ b' ∉ [b] ++ [vb]) w w1 := by
     rw [hw1]
     exact ((Bel.refl _ w).alloc (fun _ h => h.1) _).drew
    have hB2 : Bel (fun b' => b' < w.heap.size ∧ b' ∉ [b] ++ [vb]) w w2 := by
     rw [hw2]
     exact (hB1.trans (hBs _ _ _)).drew
    refine fin _ _ _ _ _ _ (hB2.trans (hBs _ _ _)) (.inr (Nat.le_refl _)) hr3 (by omega) hg1 hg2 (fun j y hj hy => ?_) ?_ (fun j y hj => ?_) hzw
    ·rw [World.cell?_setCells_out _ _ _ _ _ (fun _ _ => by left; show 0 + j < k + 1; omega)]
     have e : w2.cell? ⟨w.heap.size, 0 + j, none⟩ = (w1.setCells w.heap.size k [Value.int .i64 x]).cell? ⟨w.heap.size, 0 + j, none⟩ := by rw [hw2]; rfl
     rw [e, World.cell?_setCells_out _ _ _ _ _ (fun _ _ => by left; show 0 + j < k; omega), hc1, hROW, Nat.zero_add]
     have hjt : j < (List.take k (zs.map (Value.int .i64))).length := by simp; omega
     rw [Array.append_assoc, Array.getElem?_append_left (by simpa using hjt)]
     simp [hj, hy]
    ·rw [World.cell?_setCells_out _ _ _ _ _ (fun _ _ => by left; show 0 + k < k + 1; omega)]
     have e : w2.cell? ⟨w.heap.size, 0 + k, none⟩ = (w1.setCells w.heap.size k [Value.int .i64 x]).cell? ⟨w.heap.size, 0 + k, none⟩ := by rw [hw2]; rfl
     rw [e]
     have := World.cell?_setCells_in w.heap.size [Value.int .i64 x] k w1 (fun j hj => by rw [hc1]; simp at hj; rw [Array.getElem?_eq_getElem (by omega)]; rfl) 0 (by simp)
     simpa using this
    ·have hjl := Km hj
     rw [List.length_drop] at hjl
     have := World.cell?_setCells_in w.heap.size ((zs.map (Value.int .i64)).drop k) (k + 1) w2 (fun j hj => by
      rw [hdl] at hj
      have h1 : k + 1 + j < row'.size := by omega
      simp [World.cell?, hh2, h1]) j (by rw [hdl]; omega)
     rw [Nat.zero_add, this]
     rw [List.getElem?_drop] at hj
     obtain ⟨hj1, hj2⟩ := List.getElem?_eq_some_iff.1 hj
     simp [← hj2]
def Mb3 : MC :=
(Zs [.nilo 4 0 1] [0,1] (Zs [.mv 5 (ci 0)] [0,1,5] (.seq (.block 0 (.loop ([0,1,5], [0,1,2]) (.seq (.seq (.reg [Za (mS 6 5), Za (mS 7 0), Za (nS 8 7), Za (bS 9 .lss 6 8), Za (mS 10 9), Zb 10 true (mS 11 0), Zb 10 true (mS 12 5), Zb 10 true (xS 13 1 11 12), Zb 10 true (lF 14 1 13), Zb 10 true (mS 15 1), Zb 10 true (bS 16 .lss 14 15), Za (.pick 17 (.s 10) (.s 16) cF)] [0,1,5,17])
(cX 17 0))
(.block 1 (pr [mS 18 5, bC 19 .add 18 1, mS 5 19] [0,1,5])))))
(.seq (.seq (.reg [Za (mS 20 5), Za (mS 21 0), Za (nS 22 21), Za (bS 23 .lss 20 22), Za (mS 24 23), Zb 24 true (mS 25 0), Zb 24 true (mS 26 5), Zb 24 true (xS 27 1 25 26), Zb 24 true (lF 28 1 27), Zb 24 true (mS 29 1), Zb 24 true (bS 30 .eql 28 29), Za (.pick 31 (.s 24) (.s 30) cF)] [0,1,5,31])
(.cond (.s 31) (Zs [mS 32 0, .call 33 [0] (.f N2) [.s 32], mS 4 33] [4] .ret) .skip))
(Zs [mS 34 0, .call 35 [1] (.f N2) [.s 34], mS 36 5, mS 37 1, .lit 38 2 1 8 [.s 37], .callI 39 [0] (.f N42) [.s 35, .s 36, .s 38] [1,2] [], mS 4 39] [4] .ret)))))
theorem Cjd (l : List Int) (n : Int) (hs : l.length ≤ 1073741824) : Ctr Tryz.prog N9a [aL 1 (l.map encI), aI n] [rL 1 ((put l n).map encI)] := by
 refine cA Mb3 3 40 [(.tmp 4, [true])] Tryz.func102 rfl rfl ?_; unfold Mb3
 intro hb
 clear hb
 simp only [go_sem]
 refine Kg (fun k : Nat => [(5, vI k)]) (fun k => []) (fun k => k ≤ l.length ∧ ∀ x ∈ l.take k, x < n) (fun k => l.length - k) 0 ?_
 simp only [go_sem]
 refine ⟨?_, ⟨by omega, by simp⟩, ?_⟩
 ·simp only [go_sem]
 ·rintro k ⟨hk, hlt⟩
  have hp := K8b hlt
  by_cases hkl : k < l.length
  ·obtain ⟨x, hx⟩ := Kb hkl
   have h1 : (k : Int) < (l.length : Int) := by omega
   have h0 : (0 : Int) ≤ (k : Int) := by omega
   rw [Ks hx, put] at hp
   simp only [go_sem, h1, h0, K4 hx]
   refine ⟨fun hxn => ?_, fun hxn => ?_⟩
   ·refine ⟨k + 1, by rw [wI (by omega) (by omega)]; omega, ⟨by omega, fun y hy => ?_⟩, by omega⟩
    rw [Ke hx] at hy
    rcases List.mem_append.1 hy with hy | hy
    ·exact hlt y hy
    ·rw [List.mem_singleton.1 hy]; exact hxn
   ·rw [if_neg hxn] at hp
    refine ⟨fun he => ?_, fun he => ?_⟩
    ·rw [if_pos (by simpa using he), ← Ks hx, List.take_append_drop] at hp
     rw [hp]
     apply K0 (C6 l hs)
     simp only [go_sem]
    ·rw [if_neg (by simpa using he), ← Ks hx] at hp
     rw [hp]
     apply K0 (C6 l hs)
     simp only [go_sem]
     try intros
     refine ⟨by decide, ?_⟩
     apply K7 (C7a l k n hk hs)
     simp only [go_sem]
     try simp
  ·have h1 : ¬ (k : Int) < (l.length : Int) := by omega
   obtain rfl : k = l.length := by omega
   rw [List.drop_length, List.take_length, put] at hp
   rw [hp]
   simp only [go_sem, h1]
   apply K0 (C6 l hs)
   simp only [go_sem]
   try intros
   refine ⟨by decide, ?_⟩
   apply K7 (C7a l l.length n (Nat.le_refl _) hs)
   simp only [go_sem]
   try simp
end Go.Proofs.YtgkeplbnnjogiaaGreatR
namespace Go.Proofs.YtgkeplbnnjogiaaGreatR
open Go Go.RowKit Go.Proofs
open Nat (reduceEqDiff reduceLT reduceLeDiff reduceAdd reduceMul)
open List (reduceReplicate)
def K3g (chosen : List Int) (root : Int) (x : GLibrary) : GLibrary := if chosen.contains x.Id then { x with Digests := put x.Digests root } else x
def tellL (chosen : List Int) (root : Int) (l : List GLibrary) : List GLibrary := l.map (K3g chosen root)
def K43 (d : GDisk) : Int := match d.Containers[d.Containers.length - 1]? with
 | some y => y.Root
 | none => 0
def ups (l : List GLibrary) : List Int := (l.filter fun x => x.Up).map fun x => x.Id
def K3n (a : GArchive) : List GLibrary := if (Kj a.Disk).Containers.length = a.Disk.Containers.length then a.Libraries
 else tellL (placedL (ups a.Libraries) (K43 (Kj a.Disk)) 3) (K43 (Kj a.Disk)) a.Libraries
def K1k (a : GArchive) : GArchive := if Kx a.Disk then { a with Disk := Kj a.Disk, Libraries := K3n a } else a
theorem Kaz {chosen : List Int} {root : Int} : ∀ {l : List GLibrary}, ((tellL chosen root l).map GLibrary.size).sum ≤ (l.map GLibrary.size).sum + l.length
 | [] => by simp [tellL]
 | x :: l => by
  have ih := Kaz (chosen := chosen) (root := root) (l := l)
  have hx : (K3g chosen root x).size ≤ x.size + 1 := by
   unfold K3g
   split
   ·simp only [GLibrary.size]; exact Ka7
   ·omega
  simp only [tellL, List.map_cons, List.sum_cons, List.length_cons] at *
  omega
theorem K3o (a : GArchive) : (K1k a).size ≤ 3 * a.size := by
 unfold K1k
 split
 ·have h1 := K7r a.Disk
  have h2 : (K3n a).length = a.Libraries.length ∧ ((K3n a).map GLibrary.size).sum ≤ (a.Libraries.map GLibrary.size).sum + a.Libraries.length := by
   unfold K3n
   split
   ·exact ⟨rfl, by omega⟩
   ·exact ⟨by simp [tellL], Kaz⟩
  simp only [GArchive.size] at *
  omega
 ·omega
theorem Kan (l : List GLibrary) : (ups l).length ≤ l.length := by
 unfold ups; rw [List.length_map]; exact List.length_filter_le _ _
theorem Kb1 {chosen : List Int} {root : Int} {l : List GLibrary} {k : Nat} {x : GLibrary} (h : l[k]? = some x) : (((tellL chosen root (l.take k)).map GLibrary.enc ++ (l.drop k).map GLibrary.enc).set k (K3g chosen root x).enc) = (tellL chosen root (l.take (k + 1))).map GLibrary.enc ++ (l.drop (k + 1)).map GLibrary.enc := by
 have hl := Km h
 rw [Ks h, Ke h, tellL, tellL, List.map_append, List.map_append, List.map_cons]
 rw [List.set_append_right _ _ (by simp; omega)]
 simp [K3g, Nat.min_eq_left (Nat.le_of_lt hl)]
theorem K5k {chosen : List Int} {root : Int} {l : List GLibrary} {k : Nat} {x : GLibrary} (h : l[k]? = some x) : ((tellL chosen root (l.take k)).map GLibrary.enc ++ (l.drop k).map GLibrary.enc)[k]? = some x.enc := by
 have hl := Km h
 rw [List.getElem?_append_right (by simp [tellL]; omega), Ks h]
 simp [tellL, Nat.min_eq_left (Nat.le_of_lt hl)]
theorem K5o {chosen : List Int} {root : Int} {l : List GLibrary} {k : Nat} : ((tellL chosen root (l.take k)).map GLibrary.enc ++ (l.drop k).map GLibrary.enc).length = l.length := by
 simp [tellL]; omega
theorem ups_yes {l : List GLibrary} {k : Nat} {x : GLibrary} (h : l[k]? = some x) (u : x.Up = true) : ups (l.take (k + 1)) = ups (l.take k) ++ [x.Id] := by
 rw [Ke h, ups, List.filter_append, List.map_append]; simp [ups, u]
theorem ups_no {l : List GLibrary} {k : Nat} {x : GLibrary} (h : l[k]? = some x) (u : x.Up = false) : ups (l.take (k + 1)) = ups (l.take k) := by
 rw [Ke h, ups, List.filter_append, List.map_append]; simp [ups, u]
theorem K8x (d : GDisk) : (Kj d).Containers.length = d.Containers.length ∨ (Kj d).Containers.length = d.Containers.length + 1 := by
 unfold Kj
 split
 ·exact .inl rfl
 ·split
  ·exact .inl rfl
  ·split
   ·right; simp
   ·exact .inl rfl
theorem Kb3 {chosen : List Int} {root : Int} {l : List GLibrary} {k : Nat} {x : GLibrary} (h : l[k]? = some x) (hc : chosen.contains x.Id = false) : (tellL chosen root (l.take k)).map GLibrary.enc ++ (l.drop k).map GLibrary.enc = (tellL chosen root (l.take (k + 1))).map GLibrary.enc ++ (l.drop (k + 1)).map GLibrary.enc := by
 have e : K3g chosen root x = x := by unfold K3g; rw [if_neg (by rw [hc]; simp)]
 rw [Ks h, Ke h]
 simp [tellL, e]
theorem Kb0 {a : GArchive} {root : Int} (h : Kx a.Disk = true) (h2 : ¬ (Kj a.Disk).Containers.length = a.Disk.Containers.length) (hr : K43 (Kj a.Disk) = root) : K1k a = { a with Disk := Kj a.Disk, Libraries := tellL (placedL (ups a.Libraries) root 3) root a.Libraries } := by
 simp [K1k, h, K3n, h2, hr]
def Mcy : MC :=
(Zs [.box 1 0 (.s 0), .alloc 2 1 [.emp 9, .emp 4, .emp 4, .emp 6, .emp 4, .emp 5, .emp 4, .emp 1, .emp 4, pz], .mv 3 cF] [1,2] (Zs [lT 14 10 1, .call 15 [2, 3, 4, 5, 6, 7, 8, 9, 10] (.f N3m) [.s 14], .alloc 4 11 [.emp 9, .emp 4, .emp 4, .emp 6, .emp 4, .emp 5, .emp 4, .emp 1, .emp 4, pz], sS 10 4 15] [1,2,4] (Zs [fS 17 1 2, lT 18 3 17, .call 19 [12, 13, 14] (.f Nbg) [.s 18], mS 16 19, .ext 20 (.s 16) 0, .ext 21 (.s 16) 1, .alloc 5 15 [.emp 4, .emp 6, .emp 4], sS 3 5 20, mS 6 21] [1,2,4,5,6] (.seq (Zs [mS 22 6, .un 23 .not (.s 22)] [1,2,4,5,23] (.cond (.s 23) (Zs [lT 24 10 4, sS 10 2 24, .mv 3 cF] [2,3] .ret) .skip))
(Zs [lT 25 3 5, fS 26 4 2, sS 3 26 25] [1,2,4,5] (.seq (Zs [fS 27 5 0, lF 28 1 27, nS 29 28, fS 30 1 2, fS 31 30 0, lF 32 1 31, nS 33 32, bS 34 .eql 29 33] [1,2,4,5,34] (.cond (.s 34) (Zs [lT 35 10 4, sS 10 2 35, .mv 3 cT] [2,3] .ret) .skip))
(Zs [fS 36 5 0, lF 37 1 36, fS 38 5 0, lF 39 1 38, nS 40 39, bC 41 .sub 40 1, xS 42 4 37 41, fS 43 42 3, lF 44 1 43, mS 7 44] [1,2,4,7] (Zs [.nilo 8 16 1] [1,2,4,7,8] (.seq (Zs [fS 45 1 6, lF 46 1 45, nS 47 46, .mv 48 (ci 0)] [2,4,7,8,46,47,48] (.block 0 (.loop ([2,4,7,8,46,47,48], [0,15,17,18,19,20,21]) (Zs [bS 49 .lss 48 47] [2,4,7,8,46,47,48,49] (.seq (cX 49 0)
(.seq (.block 1 (Zs [xS 50 4 46 48, lT 51 4 50, .alloc 10 17 [pz, .emp 1, .pl (.sc (.bool false)), .pl (.sc (.bool false))], sS 4 10 51] [2,4,7,8,10,46,47,48] (Zs [fS 52 10 2, lF 53 1 52] [2,4,7,8,10,46,47,48,53] (.cond (.s 53) (pr [mS 54 8, fS 55 10 0, lF 56 1 55, .lit 57 18 1 8 [.s 56], .app 58 16 1 8 (.s 54) (.s 57), mS 8 58] [2,4,7,8,46,47,48]) .skip))))
(pr [bC 59 .add 48 1, mS 48 59] [2,4,7,8,46,47,48])))))))
(Zs [mS 60 8, mS 61 7, .call 62 [19] (.f N7m) [.s 60, .s 61, .c (.int .i64 3)], mS 11 62] [2,4,7,11] (.seq (Zs [fS 63 4 6, lF 64 1 63, nS 65 64, .mv 66 (ci 0)] [2,4,7,11,64,65,66] (.block 2 (.loop ([2,4,7,11,64,65,66], [0,15,16,17,18,20,21]) (Zs [bS 67 .lss 66 65] [2,4,7,11,64,65,66,67] (.seq (cX 67 2)
(.seq (.block 3 (Zs [mS 68 66, xS 69 4 64 66, lT 70 4 69, .alloc 13 20 [pz, .emp 1, .pl (.sc (.bool false)), .pl (.sc (.bool false))], mS 12 68, sS 4 13 70] [2,4,7,11,12,13,64,65,66] (Zs [mS 71 11, fS 72 13 0, lF 73 1 72, .call 74 [] (.f N1k) [.s 71, .s 73]] [2,4,7,11,12,13,64,65,66,74] (.cond (.s 74) (.dreg [Zf [77,78,79,80,81] [21] (fS 75 4 6), Zg [77,78,79,80,81] [21] [0] (lF 76 1 75), Zf [75,76,78,79,80,81] [21] (mS 77 12), Zc [75,76,77,80] (fS 78 13 1), Zd [75,76,77,80] [3] (lF 79 1 78), Zc [75,76,77,78,79] (mS 80 7), { o := .call 81 [21] (.f N9a) [.s 79, .s 80], hs := [75,76,77], ws := [21], bf := [3,4,5] }, Ze (.range 7) (xS 82 4 76 77), Ze (.range 8) (fS 83 82 1), { o := sS 1 83 81, ws := [8,21], bf := (.range 9) }] [2,4,7,11,64,65,66]) .skip))))
(pr [bC 84 .add 66 1, mS 66 84] [2,4,7,11,64,65,66])))))))
(Zs [lT 85 10 4, sS 10 2 85, .mv 3 cT] [2,3] .ret))))))))))))
set_option maxHeartbeats 2000000 in
theorem Cke (a : GArchive) (hs : a.size ≤ 268435456) : Ctr Tryz.prog Nb8 [aS a.enc] [rS (K1k a).enc, rB (Kx a.Disk)] := by
 refine cA Mcy 22 86 [(.cell 2 true 10, [true, true, true, true, true, true, true, true, true, false]), (.tmp 3, [false])] Tryz.func27 rfl rfl ?_; unfold Mcy
 intro hb
 clear hb
 have hlib : a.Libraries.length ≤ 268435456 := by simp only [GArchive.size] at hs; omega
 simp only [go_sem]
 apply K0 (C8f a (by omega))
 simp only [go_sem]
 intros
 apply K0 (Ck4 a.Disk (by simp only [GArchive.size] at hs; omega))
 simp only [go_sem]
 intro hbd
 clear hbd
 refine ⟨fun hno => ?_, fun hyes => ⟨fun hsame => ?_, fun hmore => ?_⟩⟩
 ·simp [K1k, hno]
 ·have hs' : (Kj a.Disk).Containers.length = a.Disk.Containers.length := by omega
  simp [K1k, hyes, K3n, hs']
 ·have hm' : ¬ (Kj a.Disk).Containers.length = a.Disk.Containers.length := by omega
  have hnl := K8x a.Disk
  have hns := K7r a.Disk
  have hdl : (Kj a.Disk).Containers.length ≤ 536870912 := by simp only [GArchive.size, GDisk.size] at *; omega
  obtain ⟨y, hy⟩ := Kb (l := (Kj a.Disk).Containers) (k := (Kj a.Disk).Containers.length - 1) (by omega)
  have e1 : IntKind.i64.wrap (((Kj a.Disk).Containers.length : Int) - 1) = (((Kj a.Disk).Containers.length - 1 : Nat) : Int) := by rw [wI (by omega) (by omega)]; omega
  have hroot : K43 (Kj a.Disk) = y.Root := by unfold K43; rw [hy]
  have hW := Kb0 hyes hm' hroot
  rw [hW, hyes]
  generalize Kj a.Disk = D at *
  rw [e1, Int.toNat_natCast, hy]
  refine ⟨⟨by omega, by omega⟩, ?_⟩
  simp only [go_sem]
  refine K5 a.Libraries (fun k => [(8, .val false [.ref 16 0 1 0 (ups (a.Libraries.take k)).length]), (48, vI k)]) (fun k => [(16, ⟨0, .row true 1 ((ups (a.Libraries.take k)).map encI)⟩)]) (fun _ => True) (by simp only [roomB]; omega) ?_
  simp only [go_sem]
  refine ⟨?_, trivial, ?_, ?_⟩
  ·simp only [go_sem, List.take_zero]
   exact ⟨rfl, rfl⟩
  ·intro k x hx _ h0 h1 hw
   have hul := Kan (a.Libraries.take k)
   have hkl : (a.Libraries.take k).length ≤ a.Libraries.length := by rw [List.length_take]; omega
   simp only [go_sem, K4 hx, h0, h1, hw]
   refine ⟨fun u => ?_, fun u => ?_⟩
   ·rw [ups_yes hx u]
    simp only [roomB]
    simp [encI]
    omega
   ·rw [ups_no hx u]
    exact ⟨rfl, rfl⟩
  ·intro _
   have hul := Kan a.Libraries
   simp only [go_sem, List.take_length]
   apply K0 (Cih (ups a.Libraries) y.Root 3 (by omega))
   simp only [go_sem]
   intros
   refine K5 a.Libraries (fun k => [(66, vI k)]) (fun k => [(8, ⟨0, .row true 4 ((tellL (placedL (ups a.Libraries) y.Root 3) y.Root (a.Libraries.take k)).map GLibrary.enc ++ (a.Libraries.drop k).map GLibrary.enc)⟩)]) (fun _ => True) (by simp only [roomB]; omega) ?_
   simp only [go_sem]
   refine ⟨?_, trivial, ?_, ?_⟩
   ·simp only [go_sem, List.take_zero, List.drop_zero]
    simp [tellL]
   ·intro k x hx _ h0 h1 hw
    have hxl := K17 (f := GLibrary.size) (Kt hx)
    have hxd : x.Digests.length ≤ 268435456 := by simp only [GLibrary.size] at hxl; simp only [GArchive.size] at hs; omega
    have hst := Kb1 (chosen := placedL (ups a.Libraries) y.Root 3) (root := y.Root) hx
    simp only [go_sem, K5o, K4 (K5k hx), h0, h1]
    apply K0 (Ciw (placedL (ups a.Libraries) y.Root 3) x.Id)
    simp only [go_sem, hw]
    refine ⟨fun hc => ?_, fun hc => ?_⟩
    ·have ex : K3g (placedL (ups a.Libraries) y.Root 3) y.Root x = { x with Digests := put x.Digests y.Root } := by unfold K3g; rw [if_pos hc]
     rw [ex] at hst
     apply K0 (Cjd x.Digests y.Root (by omega))
     simp only [go_sem, K5o, K4 (K5k hx), h0, h1, hw]
     intro _
     exact hst
    ·exact Kb3 (root := y.Root) hx hc
   ·intro _
    simp only [go_sem, List.take_length, List.drop_length]
    simp [tellL]
def Mcz : MC :=
(Zs [.box 1 0 (.s 0), .alloc 2 1 [.emp 9, .emp 4, .emp 4, .emp 6, .emp 4, .emp 5, .emp 4, .emp 1, .emp 4, pz], .mv 3 cF] [1,2] (Zs [lT 10 10 1, .call 11 [2, 3, 4, 5, 6, 7, 8, 9, 10] (.f N7c) [.s 10], .alloc 4 11 [.emp 9, .emp 4, .emp 4, .emp 6, .emp 4, .emp 5, .emp 4, .emp 1, .emp 4, pz], sS 10 4 11] [1,2,4] (Zs [fS 13 1 2, lT 14 3 13, .call 15 [12, 13, 14] (.f Nbf) [.s 14], mS 12 15, .ext 16 (.s 12) 0, .ext 17 (.s 12) 1, .alloc 5 15 [.emp 4, .emp 6, .emp 4], sS 3 5 16, mS 6 17] [1,2,4,5,6] (.seq (Zs [mS 18 6, .un 19 .not (.s 18)] [1,2,4,5,19] (.cond (.s 19) (Zs [lT 20 10 4, sS 10 2 20, .mv 3 cF] [2,3] .ret) .skip))
(Zs [lT 21 3 5, fS 22 4 2, sS 3 22 21] [1,2,4,5] (.seq (Zs [fS 23 5 0, lF 24 1 23, nS 25 24, fS 26 1 2, fS 27 26 0, lF 28 1 27, nS 29 28, bS 30 .gtr 25 29] [1,2,4,5,30] (.cond (.s 30) (Zs [fS 31 5 0, lF 32 1 31, fS 33 5 0, lF 34 1 33, nS 35 34, bC 36 .sub 35 1, xS 37 4 32 36, fS 38 37 3, lF 39 1 38, mS 7 39] [1,2,4,7] (Zs [fS 40 1 6, lF 41 1 40, .call 42 [16] (.f Nhq) [.s 41], mS 43 7, .call 44 [17] (.f N7l) [.s 42, .s 43, .c (.int .i64 3)], mS 8 44] [2,4,7,8] (Zs [.mv 9 (ci 0)] [2,4,7,8,9] (.block 0 (.loop ([2,4,7,8,9], [0,15,16,18]) (.seq (Zs [mS 45 9, fS 46 4 6, lF 47 1 46, nS 48 47, bS 49 .lss 45 48] [2,4,7,8,9,49] (cX 49 0))
(.seq (.block 1 (Zs [mS 52 8, fS 53 4 6, lF 54 1 53, mS 55 9, xS 56 4 54 55, fS 57 56 0, lF 58 1 57, .call 59 [] (.f N8t) [.s 52, .s 58]] [2,4,7,8,9,59] (.cond (.s 59) (.dreg [Zf [62,63,64,65,66,67,68,69,70] [18] (fS 60 4 6), Zg [62,63,64,65,66,67,68,69,70] [18] [0] (lF 61 1 60), Zf [60,61,63,64,65,66,67,68,69,70] [18] (mS 62 9), Zc [60,61,62,65,69] (fS 63 4 6), Zd [60,61,62,65,69] [3] (lF 64 1 63), Zc [60,61,62,63,64,69] (mS 65 9), Zd [60,61,62,69] [3,4,5] (xS 66 4 64 65), Zd [60,61,62,69] [3,4,5,6] (fS 67 66 1), Zd [60,61,62,69] [3,4,5,6,7] (lF 68 1 67), Zc [60,61,62,63,64,65,66,67,68] (mS 69 7), { o := .call 70 [18] (.f Nhr) [.s 68, .s 69], hs := [60,61,62], ws := [18], bf := [3,4,5,6,7,8,9] }, Ze (.range 11) (xS 71 4 61 62), Ze (.range 12) (fS 72 71 1), { o := sS 1 72 70, ws := [8,18], bf := (.range 13) }] [2,4,7,8,9]) .skip)))
(pr [mS 50 9, bC 51 .add 50 1, mS 9 51] [2,4,7,8,9])))))))) .skip))
(Zs [lT 73 10 4, sS 10 2 73, .mv 3 cT] [2,3] .ret)))))))
set_option maxHeartbeats 2000000 in
theorem Ckf (a : GArchive) (hs : a.size ≤ 268435456) : Ctr Tryz.prog Nb7 [aS a.enc] [rS (K1k a).enc, rB (Kx a.Disk)] := by
 refine cA Mcz 19 74 [(.cell 2 true 10, [true, true, true, true, true, true, true, true, true, false]), (.tmp 3, [false])] Tryz.func26 rfl rfl ?_; unfold Mcz
 intro hb
 clear hb
 have hlib : a.Libraries.length ≤ 268435456 := by simp only [GArchive.size] at hs; omega
 simp only [go_sem]
 apply K0 (Cff a (by omega))
 simp only [go_sem]
 intros
 apply K0 (Ck5 a.Disk (by simp only [GArchive.size] at hs; omega))
 simp only [go_sem]
 intro hbd
 clear hbd
 refine ⟨fun hno => ?_, fun hyes => ⟨fun hmore => ?_, fun hsame => ?_⟩⟩
 ·simp [K1k, hno]
 ·have hm' : ¬ (Kj a.Disk).Containers.length = a.Disk.Containers.length := by omega
  have hnl := K8x a.Disk
  have hns := K7r a.Disk
  have hdl : (Kj a.Disk).Containers.length ≤ 536870912 := by simp only [GArchive.size, GDisk.size] at *; omega
  obtain ⟨y, hy⟩ := Kb (l := (Kj a.Disk).Containers) (k := (Kj a.Disk).Containers.length - 1) (by omega)
  have e1 : IntKind.i64.wrap (((Kj a.Disk).Containers.length : Int) - 1) = (((Kj a.Disk).Containers.length - 1 : Nat) : Int) := by rw [wI (by omega) (by omega)]; omega
  have hroot : K43 (Kj a.Disk) = y.Root := by unfold K43; rw [hy]
  have hW := Kb0 hyes hm' hroot
  rw [hW, hyes]
  generalize Kj a.Disk = D at *
  rw [e1, Int.toNat_natCast, hy]
  refine ⟨⟨by omega, by omega⟩, ?_⟩
  simp only [go_sem]
  have hul := Kan a.Libraries
  apply K0 (Cll a.Libraries (by omega))
  simp only [go_sem]
  intros
  apply K0 (Cii (ups a.Libraries) y.Root 3 (by omega))
  simp only [go_sem]
  intros
  refine K5 a.Libraries (fun k => [(9, vI k)]) (fun k => [(8, ⟨0, .row true 4 ((tellL (placedL (ups a.Libraries) y.Root 3) y.Root (a.Libraries.take k)).map GLibrary.enc ++ (a.Libraries.drop k).map GLibrary.enc)⟩)]) (fun _ => True) (by simp only [roomB]; omega) ?_
  simp only [go_sem]
  refine ⟨?_, trivial, ?_, ?_⟩
  ·simp only [go_sem, List.take_zero, List.drop_zero]
   simp [tellL]
  ·intro k x hx _ h0 h1 hw
   have hxl := K17 (f := GLibrary.size) (Kt hx)
   have hxd : x.Digests.length ≤ 268435456 := by simp only [GLibrary.size] at hxl; simp only [GArchive.size] at hs; omega
   have hst := Kb1 (chosen := placedL (ups a.Libraries) y.Root 3) (root := y.Root) hx
   simp only [go_sem, K5o, K4 (K5k hx), h0, h1]
   apply K0 (Cgk (placedL (ups a.Libraries) y.Root 3) x.Id)
   simp only [go_sem, K5o, K4 (K5k hx), h0, h1, hw]
   refine ⟨fun hc => ?_, fun hc => ?_⟩
   ·have ex : K3g (placedL (ups a.Libraries) y.Root 3) y.Root x = { x with Digests := put x.Digests y.Root } := by unfold K3g; rw [if_pos hc]
    rw [ex] at hst
    apply K0 (Clo x.Digests y.Root (by omega))
    simp only [go_sem, K5o, K4 (K5k hx), h0, h1, hw]
    intro _
    exact hst
   ·exact Kb3 (root := y.Root) hx hc
  ·intro _
   simp only [go_sem, List.take_length, List.drop_length]
   simp [tellL]
 ·have hnl := K8x a.Disk
  have hs' : (Kj a.Disk).Containers.length = a.Disk.Containers.length := by omega
  simp [K1k, hyes, K3n, hs']
end Go.Proofs.YtgkeplbnnjogiaaGreatR
namespace Go.Proofs.YtgkeplbnnjogiaaGreatR
open Go Go.RowKit Go.Proofs
open Nat (reduceEqDiff reduceLT reduceLeDiff reduceAdd reduceMul)
open List (reduceReplicate)
def wrIt (x : GArchive) : Nat → GArchive
 | 0 => x
 | k + 1 => K1k (wrIt x k)
def meas (d : GDisk) : Nat := (if d.Wanted.length = 0 then 0 else 2) + (if whole d = true then 0 else 1)
theorem K8a (d : GDisk) : meas d ≤ 3 := by
 unfold meas
 repeat' split
 all_goals omega
theorem meas_down {d : GDisk} (h : Kx d = true) : meas (Kj d) + 1 ≤ meas d := by
 simp only [Kx, Bool.and_eq_true, Bool.or_eq_true, Bool.not_eq_true', decide_eq_true_eq] at h
 obtain ⟨h1, h2⟩ := h
 unfold Kj
 rw [if_neg (by rw [h1]; simp)]
 by_cases hw : whole d = false
 ·rw [if_pos hw]
  have e : whole { d with Index := index d.Containers } = true := by simp [whole]
  unfold meas
  rw [e, hw]
  simp
 ·have hw' : whole d = true := by simpa using hw
  rw [if_neg hw]
  have hpos : 0 < d.Wanted.length := h2.resolve_left hw
  have hne : ¬ d.Wanted.length = 0 := by omega
  have hd : meas d = 2 := by unfold meas; rw [if_neg hne, if_pos hw']
  rw [hd]
  unfold meas
  split
  ·simp only [List.length_nil, if_true]
   split <;> omega
  ·rename_i hx; rw [hx] at hpos; simp at hpos
theorem wrote_disk {a : GArchive} (h : Kx a.Disk = true) : (K1k a).Disk = Kj a.Disk := by
 unfold K1k; rw [if_pos h]
theorem K51 {x : GArchive} : ∀ {k : Nat}, (∀ j, j < k → Kx (wrIt x j).Disk = true) → meas (wrIt x k).Disk + k ≤ meas x.Disk
 | 0, _ => Nat.le_refl _
 | k + 1, h => by
  have ih := K51 (x := x) (k := k) fun j hj => h j (by omega)
  have := meas_down (h k (by omega))
  rw [wrIt, wrote_disk (h k (by omega))]
  omega
def keepF : Nat → GArchive → GArchive
 | 0, a => a
 | n + 1, a => if Kx a.Disk then keepF n (K1k a) else a
theorem Kc0 {x : GArchive} : ∀ {k n : Nat}, (∀ j, j < k → Kx (wrIt x j).Disk = true) → keepF (n + k) x = keepF n (wrIt x k)
 | 0, n, _ => rfl
 | k + 1, n, h => by
  have ih := Kc0 (x := x) (k := k) (n := n + 1) fun j hj => h j (by omega)
  rw [show n + (k + 1) = n + 1 + k by omega, ih, keepF, if_pos (h k (by omega))]
  rfl
def K5h (x : GArchive) : GArchive := keepF 4 x
theorem K3t {x : GArchive} {k : Nat} (h : ∀ j, j < k → Kx (wrIt x j).Disk = true) (hn : Kx (wrIt x k).Disk = false) : K5h x = wrIt x k := by
 have hm := K51 h
 have hl := K8a x.Disk
 have e : 4 = (3 - k) + 1 + k := by omega
 rw [K5h, e, Kc0 h, keepF, hn]
 rfl
theorem K84 {x : GArchive} : ∀ {k : Nat}, k ≤ 3 → (wrIt x k).size ≤ 27 * x.size
 | 0, _ => by simp only [wrIt]; omega
 | 1, _ => by have := K3o x; simp only [wrIt]; omega
 | 2, _ => by have := K3o x; have := K3o (K1k x); simp only [wrIt]; omega
 | 3, _ => by have := K3o x; have := K3o (K1k x); have := K3o (K1k (K1k x)); simp only [wrIt]; omega
 | k + 4, h => by omega
def K1h (a : GArchive) (seed : Int) (ins : List Int) : GArchive := if K12 a seed ins then K5h (K10 a seed ins) else a
theorem isRes_body {r : GResource} (h : K1e r = true) : r.Body.length ≤ 6 := by
 unfold K1e at h
 split at h
 ·simp only [Bool.and_eq_true, decide_eq_true_eq] at h; exact h.1
 ·split at h
  ·simp only [Bool.and_eq_true, decide_eq_true_eq] at h; omega
  ·split at h
   ·simp only [Bool.and_eq_true, decide_eq_true_eq] at h; omega
   ·cases h
theorem sum_all {α : Type} {f : α → Nat} {n : Nat} : ∀ {l : List α}, (∀ x ∈ l, f x ≤ n) → (l.map f).sum ≤ l.length * n
 | [], _ => by simp
 | x :: l, h => by
  have ih := sum_all (f := f) (n := n) (l := l) fun y hy => h y (by simp [hy])
  have hx := h x (by simp)
  rw [List.map_cons, List.sum_cons, List.length_cons, Nat.succ_mul]
  omega
theorem site_small {l : List GVersion} (h : K5u l = true) : (l.map GVersion.size).sum ≤ 72 := by
 simp only [K5u, K1q, Bool.and_eq_true, decide_eq_true_eq] at h
 have h2 := sum_all (f := GVersion.size) (n := 6) (l := l) fun v hv => by
  have := List.all_eq_true.1 h.2 v hv
  simp only [K40, Bool.and_eq_true] at this
  have := isRes_body this.2.2
  simp only [GVersion.size, GResource.size]
  omega
 have h3 : l.length * 6 ≤ 12 * 6 := Nat.mul_le_mul_right _ h.1
 omega
theorem K6i {a : GArchive} {seed : Int} {ins : List Int} (h : K12 a seed ins = true) : (K10 a seed ins).size ≤ 2 * a.size + 2000 := by
 have hc : K15 a.Script (Kr a seed ins) = true := by
  simp only [K12, Bool.and_eq_true] at h; exact h.1
 have hsite : K5u a.Site = true := by
  simp only [K15, K29, Kr, Bool.and_eq_true] at hc; exact hc.2.1
 have hv : ((Kr a seed ins).Site.map GVersion.size).sum ≤ 72 := site_small hsite
 have hn := (K2z a.Script (Kr a seed ins)).1
 have h1 := K4l (v := Kr a seed ins) (es := (visit a.Script (Kr a seed ins)).1) (visit a.Script (Kr a seed ins)).1.length
 have h2 := K6c (v := Kr a seed ins) (es := (visit a.Script (Kr a seed ins)).1) (visit a.Script (Kr a seed ins)).1.length
 have h3 : (visit a.Script (Kr a seed ins)).1.length * ((Kr a seed ins).Site.map GVersion.size).sum ≤ 20 * 72 := Nat.mul_le_mul hn hv
 have hf := Kbu a.Disk (madeC a.Script (Kr a seed ins))
 have hm : (madeC a.Script (Kr a seed ins)).size ≤ a.Script.length + 20 + (20 + 1440) := by
  simp only [GContainer.size, madeC, capsV]; omega
 have h40 : a.Statements.length + a.Keys.length ≤ 40 := by
  simp only [K12, Bool.and_eq_true, decide_eq_true_eq] at h; omega
 have hl := K4u (a := a) (root := (madeC a.Script (Kr a seed ins)).Root) a.Keys.length
 unfold K10
 rw [if_pos h]
 simp only [GArchive.size, List.length_append] at *
 omega
theorem keep_size {a : GArchive} {seed : Int} {ins : List Int} : (K1h a seed ins).size ≤ 54 * a.size + 54000 := by
 unfold K1h
 split
 ·rename_i h
  have h1 := K6i h
  have key : ∃ k, k ≤ 3 ∧ K5h (K10 a seed ins) = wrIt (K10 a seed ins) k := by
   generalize K10 a seed ins = x
   have hall : ¬ ∀ j, j < 4 → Kx (wrIt x j).Disk = true := fun hh => by
    have := K51 hh
    have := K8a x.Disk
    omega
   by_cases c0 : Kx (wrIt x 0).Disk = true
   ·by_cases c1 : Kx (wrIt x 1).Disk = true
    ·by_cases c2 : Kx (wrIt x 2).Disk = true
     ·by_cases c3 : Kx (wrIt x 3).Disk = true
      ·exact (hall fun j hj => by
        match j, hj with
        | 0, _ => exact c0
        | 1, _ => exact c1
        | 2, _ => exact c2
        | 3, _ => exact c3).elim
      ·exact ⟨3, by omega, K3t (fun j hj => by
        match j, hj with
        | 0, _ => exact c0
        | 1, _ => exact c1
        | 2, _ => exact c2) (by simpa using c3)⟩
     ·exact ⟨2, by omega, K3t (fun j hj => by
       match j, hj with
       | 0, _ => exact c0
       | 1, _ => exact c1) (by simpa using c2)⟩
    ·exact ⟨1, by omega, K3t (fun j hj => by
      match j, hj with
      | 0, _ => exact c0) (by simpa using c1)⟩
   ·exact ⟨0, by omega, K3t (fun j hj => by omega) (by simpa using c0)⟩
  obtain ⟨k, hk, e⟩ := key
  have := K84 (x := K10 a seed ins) hk
  rw [e]
  omega
 ·omega
abbrev K8g (x : GArchive) : List (Nat × OV) := [(2, ⟨0, .row true 9 (x.Site.map GVersion.enc)⟩), (3, ⟨0, .row true 4 (x.Script.map GOp.enc)⟩), (4, ⟨0, .row true 4 (x.Disk.Containers.map GContainer.enc)⟩), (5, ⟨0, .row true 6 (x.Disk.Index.map GFound.enc)⟩), (6, ⟨0, .row true 4 (x.Disk.Wanted.map GContainer.enc)⟩), (7, ⟨0, .row true 5 (x.Exclusions.map GExclusion.enc)⟩), (8, ⟨0, .row true 4 (x.Libraries.map GLibrary.enc)⟩), (9, ⟨0, .row true 1 (x.Keys.map encI)⟩), (10, ⟨0, .row true 4 (x.Statements.map GStatement.enc)⟩),
 (11, ⟨0, .box [.ref 2 0 9 0 x.Site.length, .ref 3 0 4 0 x.Script.length, .ref 4 0 4 0 x.Disk.Containers.length, .ref 5 0 6 0 x.Disk.Index.length, .ref 6 0 4 0 x.Disk.Wanted.length, .ref 7 0 5 0 x.Exclusions.length, .ref 8 0 4 0 x.Libraries.length, .ref 9 0 1 0 x.Keys.length, .ref 10 0 4 0 x.Statements.length, .pl (tI x.Now)]⟩)]
def Md0 : MC :=
(Zs [.box 3 0 (.s 0), .alloc 6 1 [.emp 9, .emp 4, .emp 4, .emp 6, .emp 4, .emp 5, .emp 4, .emp 1, .emp 4, pz], .mv 7 cF] [1,2,3,6] (Zs [lT 13 10 3, mS 14 1, mS 15 2, .call 16 [2, 3, 4, 5, 6, 7, 8, 9, 10] (.f Nbb) [.s 13, .s 14, .s 15], mS 12 16, .ext 17 (.s 12) 0, .ext 18 (.s 12) 1, .alloc 8 11 [.emp 9, .emp 4, .emp 4, .emp 6, .emp 4, .emp 5, .emp 4, .emp 1, .emp 4, pz], sS 10 8 17, mS 9 18] [6,8,9] (.seq (Zs [mS 19 9, .un 20 .not (.s 19)] [6,8,20] (.cond (.s 20) (Zs [lT 21 10 8, sS 10 6 21, .mv 7 cF] [6,7] .ret) .skip))
(.block 0 (.loop ([6,8], [0,12,13,14,15,16,17,18,19,20,21]) (.block 1 (Zs [lT 23 10 8, .call 24 [12, 13, 14, 15, 16, 17, 18, 19, 20] (.f Nb8) [.s 23], mS 22 24, .ext 25 (.s 22) 0, .ext 26 (.s 22) 1, .alloc 10 21 [.emp 9, .emp 4, .emp 4, .emp 6, .emp 4, .emp 5, .emp 4, .emp 1, .emp 4, pz], sS 10 10 25, mS 11 26] [6,8,10,11] (.seq (Zs [mS 27 11, .un 28 .not (.s 27)] [6,8,10,28] (.cond (.s 28) (Zs [lT 29 10 8, sS 10 6 29, .mv 7 cT] [6,7] .ret) .skip))
(.ren [(12, 2), (13, 3), (14, 4), (15, 5), (16, 6), (17, 7), (18, 8), (19, 9), (20, 10)] (pr [lT 30 10 10, sS 10 8 30] [6,8]))))))))))
set_option maxHeartbeats 4000000 in
theorem Cd1 (a : GArchive) (seed : Int) (ins : List Int) (hs : a.size ≤ 4194304) : Ctr Tryz.prog N4p [aS a.enc, aI seed, aL 1 (ins.map encI)] [rS (K1h a seed ins).enc, rB (K12 a seed ins)] := by
 refine cA Md0 22 31 [(.cell 6 true 10, [true, true, true, true, true, true, true, true, true, false]), (.tmp 7, [false])] Tryz.func47 rfl rfl ?_; unfold Md0
 intro hb
 clear hb
 simp only [go_sem]
 apply K0 (Cka a seed ins (by omega))
 simp only [go_sem]
 intro hbd
 clear hbd
 refine ⟨fun hno => ?_, fun hyes => ?_⟩
 ·have e : K1h a seed ins = K10 a seed ins := by unfold K1h; rw [if_neg (by rw [hno]; simp), K10, if_neg (by rw [hno]; simp)]
  rw [e, hno]
  exact ⟨⟨rfl, rfl, rfl, rfl, rfl, rfl, rfl, rfl, rfl, rfl⟩, rfl⟩
 ·have e : K1h a seed ins = K5h (K10 a seed ins) := by unfold K1h; rw [if_pos hyes]
  have hsm := K6i hyes
  rw [e, hyes]
  generalize K10 a seed ins = x at *
  refine Kg (fun k : Nat => []) (fun k => K8g (wrIt x k)) (fun k => ∀ j, j < k → Kx (wrIt x j).Disk = true) (fun k => 4 - k) 0 ?_
  simp only [go_sem, K8g]
  refine ⟨?_, fun j hj => by omega, ?_⟩
  ·simp only [go_sem]
   simp only [wrIt, and_self]
  ·intro k hI
   have hm := K51 hI
   have hl := K8a x.Disk
   have hsz := K84 (x := x) (k := k) (by omega)
   simp only [go_sem]
   apply K0 (Cke (wrIt x k) (by omega))
   simp only [go_sem]
   intro hbd
   clear hbd
   refine ⟨fun hn => ?_, fun hy => ⟨k + 1, ?_, fun j hj => ?_, by omega⟩⟩
   ·rw [K3t hI hn]
    simp only [and_self]
   ·simp only [wrIt, and_self]
   ·by_cases hjk : j = k
    ·rw [hjk]; exact hy
    ·exact hI j (by omega)
def Md2 : MC :=
(Zs [.box 3 0 (.s 0), .alloc 6 1 [.emp 9, .emp 4, .emp 4, .emp 6, .emp 4, .emp 5, .emp 4, .emp 1, .emp 4, pz], .mv 7 cF] [1,2,3,6] (Zs [lT 11 10 3, mS 12 1, mS 13 2, .call 14 [2, 3, 4, 5, 6, 7, 8, 9, 10] (.f Nba) [.s 11, .s 12, .s 13], mS 10 14, .ext 15 (.s 10) 0, .ext 16 (.s 10) 1, .alloc 8 11 [.emp 9, .emp 4, .emp 4, .emp 6, .emp 4, .emp 5, .emp 4, .emp 1, .emp 4, pz], sS 10 8 15, mS 9 16] [6,8,9] (.seq (Zs [mS 17 9, .un 18 .not (.s 17)] [6,8,9,18] (.cond (.s 18) (Zs [lT 19 10 8, sS 10 6 19, .mv 7 cF] [6,7] .ret) .skip))
(.seq (.block 0 (.loop ([6,8,9], [0]) (.seq (Zs [mS 20 9] [6,8,20] (cX 20 0))
(.block 1 (pr [lT 22 10 8, .call 23 [2, 3, 4, 5, 6, 7, 8, 9, 10] (.f Nb7) [.s 22], mS 21 23, .ext 24 (.s 21) 0, .ext 25 (.s 21) 1, sS 10 8 24, mS 9 25] [6,8,9])))))
(Zs [lT 26 10 8, sS 10 6 26, .mv 7 cT] [6,7] .ret)))))
set_option maxHeartbeats 4000000 in
theorem Ckg (a : GArchive) (seed : Int) (ins : List Int) (hs : a.size ≤ 4194304) : Ctr Tryz.prog Nb9 [aS a.enc, aI seed, aL 1 (ins.map encI)] [rS (K1h a seed ins).enc, rB (K12 a seed ins)] := by
 refine cA Md2 12 27 [(.cell 6 true 10, [true, true, true, true, true, true, true, true, true, false]), (.tmp 7, [false])] Tryz.func46 rfl rfl ?_; unfold Md2
 intro hb
 clear hb
 simp only [go_sem]
 apply K0 (Ckb a seed ins (by omega))
 simp only [go_sem]
 intro hbd
 clear hbd
 refine ⟨fun hno => ?_, fun hyes => ?_⟩
 ·have e : K1h a seed ins = K10 a seed ins := by unfold K1h; rw [if_neg (by rw [hno]; simp), K10, if_neg (by rw [hno]; simp)]
  rw [e, hno]
  exact ⟨⟨rfl, rfl, rfl, rfl, rfl, rfl, rfl, rfl, rfl, rfl⟩, rfl⟩
 ·have e : K1h a seed ins = K5h (K10 a seed ins) := by unfold K1h; rw [if_pos hyes]
  have hsm := K6i hyes
  rw [e, hyes]
  generalize K10 a seed ins = x at *
  refine Kg (ι := Nat × Bool) (fun s => [(9, vB s.2)]) (fun s => K8g (wrIt x s.1)) (fun s => (∀ j, j < s.1 → Kx (wrIt x j).Disk = true) ∧ (s.2 = false → Kx (wrIt x s.1).Disk = false)) (fun s => (4 - s.1) * 2 + (if s.2 = true then 1 else 0)) (0, true) ?_
  simp only [go_sem, K8g]
  refine ⟨?_, ⟨fun j hj => by simp at hj, fun h => by simp at h⟩, ?_⟩
  ·simp only [go_sem]
   simp only [wrIt, and_self]
  ·rintro ⟨k, b⟩ ⟨hI, hF⟩
   simp only at hI hF
   have hm := K51 hI
   have hl := K8a x.Disk
   have hsz := K84 (x := x) (k := k) (by omega)
   simp only [go_sem]
   refine ⟨fun hbt => ?_, fun hbf => ?_⟩
   ·apply K0 (Ckf (wrIt x k) (by omega))
    simp only [go_sem]
    intro hbd
    clear hbd
    cases hn : Kx (wrIt x k).Disk with
    | true =>
     refine ⟨(k + 1, true), ?_, ⟨fun j hj => ?_, fun h => by simp at h⟩, ?_⟩
     ·simp only [wrIt, and_self]
     ·by_cases hjk : j = k
      ·rw [hjk]; exact hn
      ·exact hI j (by simp only at hj; omega)
     ·simp only [hbt, if_true]; omega
    | false =>
     refine ⟨(k, false), ?_, ⟨hI, fun _ => hn⟩, ?_⟩
     ·have e2 : K1k (wrIt x k) = wrIt x k := by unfold K1k; rw [hn]; rfl
      rw [e2]
      simp only [and_self]
     ·simp [hbt]
   ·rw [K3t hI (hF hbf)]
    simp only [and_self]
end Go.Proofs.YtgkeplbnnjogiaaGreatR
namespace Go.Proofs.YtgkeplbnnjogiaaGreatR
open Go Go.RowKit Go.Proofs
open Nat (reduceEqDiff reduceLT reduceLeDiff reduceAdd reduceMul)
open List (reduceReplicate)
def M44 : MC :=
(Zs [.box 3 0 (.s 0), .mv 6 cF] [1,2,3] (.seq (Zs [mS 19 2, nS 20 19, bC 21 .gtr 20 1048576] [1,2,3,21] (.cond (.s 21) (Zs [.mv 6 cT] [6] .ret) .skip))
(Zs [.mv 7 (ci 1048576)] [1,2,3,7] (Zs [lT 22 10 3, mS 23 7, .call 24 [] (.f Nb6) [.s 22, .s 23], mS 7 24] [1,2,3,7] (.seq (Zs [mS 25 7, bC 26 .lss 25 0] [1,2,3,26] (.cond (.s 26) (Zs [.mv 6 cT] [6] .ret) .skip))
(Zs [lT 28 10 3, .call 29 [1, 2, 3, 4, 5, 6, 7, 8, 9] (.f N1v) [.s 28], mS 30 1, mS 31 2, .call 32 [10] (.f N16) [.s 31], .call 33 [11, 12, 13, 14, 15, 16, 17, 18, 19] (.f Nb9) [.s 29, .s 30, .s 32], mS 27 33, .ext 34 (.s 27) 0, .ext 35 (.s 27) 1, .alloc 8 20 [.emp 9, .emp 4, .emp 4, .emp 6, .emp 4, .emp 5, .emp 4, .emp 1, .emp 4, pz], sS 10 8 34, mS 9 35] [1,2,3,8,9] (Zs [lT 36 10 3, .call 37 [21, 22, 23, 24, 25, 26, 27, 28, 29] (.f N1v) [.s 36], .alloc 10 30 [.emp 9, .emp 4, .emp 4, .emp 6, .emp 4, .emp 5, .emp 4, .emp 1, .emp 4, pz], sS 10 10 37] [1,2,3,8,9,10] (Zs [mS 38 2, .call 39 [31] (.f N16) [.s 38], mS 11 39] [1,2,3,8,9,10,11] (Zs [lT 41 10 10, mS 42 1, mS 43 11, .call 44 [32, 33, 34, 35, 36, 37, 38, 39, 40] (.f N4p) [.s 41, .s 42, .s 43], mS 40 44, .ext 45 (.s 40) 0, .ext 46 (.s 40) 1, .alloc 12 41 [.emp 9, .emp 4, .emp 4, .emp 6, .emp 4, .emp 5, .emp 4, .emp 1, .emp 4, pz], sS 10 12 45, mS 13 46] [1,2,3,8,9,10,11,12,13] (.seq (.seq (.reg [Za (lT 47 10 12), Za (lT 48 10 8), Za (.call 49 [] (.f N1w) [.s 47, .s 48]), Za (.un 50 .not (.s 49)), Za (mS 51 50), Zb 51 false (mS 52 13), Zb 51 false (mS 53 9), Zb 51 false (.bin 54 true .neq (.s 52) (.s 53)), Za (.pick 55 (.s 51) cT (.s 54))] [1,2,3,8,9,10,11,12,13,55])
(.cond (.s 55) (Zs [.mv 6 cF] [6] .ret) .skip))
(.seq (.seq (.dreg [Zf [57,58] [42,43,44,45,46,47,48,49,50] (lT 56 10 10), Zc [56] (lT 57 10 3), { o := .call 58 [42, 43, 44, 45, 46, 47, 48, 49, 50] (.f N1v) [.s 57], hs := [56], ws := [42,43,44,45,46,47,48,49,50], bf := [1] }, Ze [0,1,2] (.call 59 [] (.f N1w) [.s 56, .s 58]), Ze (.range 4) (.un 60 .not (.s 59))] [1,2,3,8,9,10,11,12,13,60])
(.cond (.s 60) (Zs [.mv 6 cF] [6] .ret) .skip))
(.seq (Zs [mS 61 11, mS 62 2, .call 63 [51] (.f N16) [.s 62], .call 64 [] (.f N2z) [.s 61, .s 63], .un 65 .not (.s 64)] [1,2,3,8,9,10,11,12,13,65] (.cond (.s 65) (Zs [.mv 6 cF] [6] .ret) .skip))
(Zs [.mv 14 (ci 1)] [1,2,3,8,9,10,11,12,13,14] (Zs [lT 66 10 10, mS 67 14, .callI 68 [] (.f N3k) [.s 66, .s 67] [21,22,23,24,25,26,27,28,29] [], mS 14 68] [1,2,3,8,9,11,12,13,14] (Zs [mS 69 11, mS 70 14, .callI 71 [] (.f N26) [.s 69, .s 70] [31] [], mS 14 71] [1,2,3,8,9,12,13,14] (.seq (.seq (.reg [Za (mS 72 14), Za (bC 73 .lss 72 0), Za (mS 74 73), Zb 74 false (lT 75 10 12), Zb 74 false (lT 76 10 8), Zb 74 false (.call 77 [] (.f N1w) [.s 75, .s 76]), Zb 74 false (.un 78 .not (.s 77)), Za (.pick 79 (.s 74) cT (.s 78)), Za (mS 80 79), Zb 80 false (mS 81 13), Zb 80 false (mS 82 9), Zb 80 false (.bin 83 true .neq (.s 81) (.s 82)), Za (.pick 84 (.s 80) cT (.s 83))] [1,2,3,8,9,12,84])
(.cond (.s 84) (Zs [.mv 6 cF] [6] .ret) .skip))
(Zs [.mv 15 (ci 1)] [1,2,3,8,9,12,15] (Zs [lT 85 10 12, mS 86 15, .callI 87 [] (.f N3k) [.s 85, .s 86] [32,33,34,35,36,37,38,39,40] [], mS 15 87] [1,2,3,8,9,12,15] (Zs [.mv 16 (ci 1)] [1,2,3,8,9,12,15,16] (Zs [lT 88 10 12, mS 89 16, .call 90 [] (.f N3l) [.s 88, .s 89], mS 16 90] [1,2,3,8,9,12,15,16] (.seq (Zs [mS 91 16, bC 92 .lss 91 0] [1,2,3,8,9,12,15,16,92] (.cond (.s 92) (Zs [.mv 6 cF] [6] .ret) .skip))
(.seq (Zs [mS 93 16, mS 94 15, bS 95 .neq 93 94] [1,2,3,8,9,12,15,95] (.cond (.s 95) (Zs [.mv 6 cF] [6] .ret) .skip))
(Zs [lT 97 10 3, .call 98 [52, 53, 54, 55, 56, 57, 58, 59, 60] (.f N1v) [.s 97], mS 99 1, mS 100 2, .call 101 [61] (.f N16) [.s 100], .call 102 [62, 63, 64, 65, 66, 67, 68, 69, 70] (.f N4p) [.s 98, .s 99, .s 101], mS 96 102, .ext 103 (.s 96) 0, .ext 104 (.s 96) 1, .alloc 17 71 [.emp 9, .emp 4, .emp 4, .emp 6, .emp 4, .emp 5, .emp 4, .emp 1, .emp 4, pz], sS 10 17 103, mS 18 104] [8,9,12,15,17,18] (.seq (.seq (.reg [Za (lT 105 10 17), Za (lT 106 10 8), Za (.call 107 [] (.f N1w) [.s 105, .s 106]), Za (.un 108 .not (.s 107)), Za (mS 109 108), Zb 109 false (mS 110 18), Zb 109 false (mS 111 9), Zb 109 false (.bin 112 true .neq (.s 110) (.s 111)), Za (.pick 113 (.s 109) cT (.s 112))] [12,15,113])
(.cond (.s 113) (Zs [.mv 6 cF] [6] .ret) .skip))
(Zs [.mv 16 (ci 1)] [12,15,16] (Zs [lT 114 10 12, mS 115 16, .call 116 [] (.f N3l) [.s 114, .s 115], mS 16 116] [15,16] (.seq (Zs [mS 117 16, bC 118 .lss 117 0] [15,16,118] (.cond (.s 118) (Zs [.mv 6 cF] [6] .ret) .skip))
(.seq (Zs [mS 119 16, mS 120 15, bS 121 .neq 119 120] [121] (.cond (.s 121) (Zs [.mv 6 cF] [6] .ret) .skip))
(Zs [.mv 6 cT] [6] .ret)))))))))))))))))))))))))))))
theorem c_laws_FnExactKeepVisit (a : GArchive) (seed : Int) (ins : List Int) : Ctr Tryz.prog Nd3 [aS a.enc, aI seed, aL 1 (ins.map encI)] [rB true] := by
 refine cA M44 72 122 [(.tmp 6, [false])] Tryz.func11 rfl rfl ?_; unfold M44
 intro hb
 clear hb
 simp only [go_sem]
 intro hI
 apply K0 (Ck2 a _ (by omega))
 simp only [go_sem]
 intro _ hz
 have hs := szr_ok hz
 have hc_a := GArchive.cts_le a
 have hc_ins := ctL_le' (c := iCt) (fun y => by simp only [iCt]; omega) ins
 have hr0 := GArchive.cts_le (K1h a seed ins)
 have hl_keep_size := keep_size (a := a) (seed := seed) (ins := ins)
 apply K0 (C2u a (by omega))
 simp only [go_sem]
 try intros
 apply K0 (C1h ins (by omega))
 simp only [go_sem]
 try intros
 apply K0 (Ckg a seed ins (by omega))
 simp only [go_sem]
 try intros
 apply K0 (C2u a (by omega))
 simp only [go_sem]
 try intros
 apply K0 (C1h ins (by omega))
 simp only [go_sem]
 try intros
 apply K0 (Cd1 a seed ins (by omega))
 simp only [go_sem]
 try intros
 apply K0 (C2v (K1h a seed ins) (K1h a seed ins))
 simp only [go_sem]
 try intros
 apply K0 (C2u a (by omega))
 simp only [go_sem]
 try intros
 apply K0 (C2v a a)
 simp only [go_sem]
 try intros
 apply K0 (C1h ins (by omega))
 simp only [go_sem]
 try intros
 apply K0 (C4l ins ins)
 simp only [go_sem]
 try intros
 apply K7 (C87 a (1) (by omega) (by omega))
 simp only [go_sem]
 try intros
 apply K7 (C2b ins (1 + ((a).cts : Nat)) (by omega) (by omega))
 simp only [go_sem]
 try intros
 have hk : ¬ ((1 + ((a).cts : Nat) + (ctL iCt (ins) : Nat) : Int)) < 0 := by omega
 simp only [go_sem, hk]
 try intros
 apply K0 (C2v (K1h a seed ins) (K1h a seed ins))
 simp only [go_sem]
 try intros
 apply K7 (C87 (K1h a seed ins) (1) (by omega) (by omega))
 simp only [go_sem]
 try intros
 apply K0 (C89 (K1h a seed ins) (1) (by omega) (by omega))
 simp only [go_sem]
 have hq0 : ¬ ((1 + ((K1h a seed ins).cts : Nat) : Int)) < 0 := by omega
 try simp only [go_sem, hq0]
 try intros
 apply K0 (C2u a (by omega))
 simp only [go_sem]
 try intros
 apply K0 (C1h ins (by omega))
 simp only [go_sem]
 try intros
 apply K0 (Cd1 a seed ins (by omega))
 simp only [go_sem]
 try intros
 apply K0 (C2v (K1h a seed ins) (K1h a seed ins))
 simp only [go_sem]
 try intros
 apply K0 (C89 (K1h a seed ins) (1) (by omega) (by omega))
 simp only [go_sem]
 have hq0 : ¬ ((1 + ((K1h a seed ins).cts : Nat) : Int)) < 0 := by omega
 try simp only [go_sem, hq0]
 try intros
end Go.Proofs.YtgkeplbnnjogiaaGreatR
