/- What the functions compute that the laws of StepChange reach: contracts. Conditions stand in each theorem. -/
import Derived.Test.YtpclnmleldeleaaGreatTStepChangea
namespace Go.Proofs.YtpclnmleldeleaaGreatR
open Go Go.RowKit Go.Proofs
open Nat (reduceEqDiff reduceLT reduceLeDiff reduceAdd reduceMul)
open List (reduceReplicate)
set_option linter.unusedSimpArgs false
set_option linter.unusedVariables false
def m_slices_Clone_int_int : MC :=
(.seq (pr [.nilo 2 0 1] [0])
(.seq (.condN 3 4 (.s 0) (.seq (pr [.nilo 2 0 1] [2])
.ret) .skip)
(.seq (pr [.lit 5 0 1 8 [], .mv 6 (.s 0), .app 7 0 1 8 (.s 5) (.s 6), .mv 2 (.s 7)] [2])
.ret)))
theorem c_slices_Clone_int (xs : List Int) (hs : xs.length ≤ 1073741824) : Ctr Tryz.prog n_slices_Clone_int_int [aL 1 (xs.map encI)] [rL 1 (xs.map encI)] := by
 refine cA m_slices_Clone_int_int 1 8 [(.tmp 2, [true])] Tryz.func138 rfl rfl ?_; unfold m_slices_Clone_int_int
 intro hb
 clear hb
 simp only [↓reduceIte, reduceEqDiff, reduceLT, reduceAdd, reduceMul, reduceCtorEq, go_sem, ↓flat_of (f := encI) (fun _ => rfl) xs]
 refine ⟨fun h => ?_, ?_⟩
 ·rw [h]
 ·simp only [roomB]
  first | done | omega | (refine ⟨?_, ?_⟩ <;> first | omega | simp)
def m_slices_Clone_impl_Op_impl_Op : MC :=
(.seq (pr [.nilo 2 0 4] [0])
(.seq (.condN 3 4 (.s 0) (.seq (pr [.nilo 2 0 4] [2])
.ret) .skip)
(.seq (pr [.lit 5 0 4 32 [], .mv 6 (.s 0), .app 7 0 4 32 (.s 5) (.s 6), .mv 2 (.s 7)] [2])
.ret)))
theorem c_slices_Clone_Op (xs : List GOp) (hs : xs.length ≤ 1073741824) : Ctr Tryz.prog n_slices_Clone_impl_Op_impl_Op [aL 4 (xs.map GOp.enc)] [rL 4 (xs.map GOp.enc)] := by
 refine cA m_slices_Clone_impl_Op_impl_Op 1 8 [(.tmp 2, [true])] Tryz.func134 rfl rfl ?_; unfold m_slices_Clone_impl_Op_impl_Op
 intro hb
 clear hb
 simp only [↓reduceIte, reduceEqDiff, reduceLT, reduceAdd, reduceMul, reduceCtorEq, go_sem, ↓flat_of (f := GOp.enc) (fun _ => rfl) xs]
 refine ⟨fun h => ?_, ?_⟩
 ·rw [h]
 ·simp only [roomB]
  first | done | omega | (refine ⟨?_, ?_⟩ <;> first | omega | simp)
def m_slices_Clone_impl_Entry_impl_Entry : MC :=
(.seq (pr [.nilo 2 0 5] [0])
(.seq (.condN 3 4 (.s 0) (.seq (pr [.nilo 2 0 5] [2])
.ret) .skip)
(.seq (pr [.lit 5 0 5 40 [], .mv 6 (.s 0), .app 7 0 5 40 (.s 5) (.s 6), .mv 2 (.s 7)] [2])
.ret)))
theorem c_slices_Clone_Entry (xs : List GEntry) (hs : xs.length ≤ 1073741824) : Ctr Tryz.prog n_slices_Clone_impl_Entry_impl_Entry [aL 5 (xs.map GEntry.enc)] [rL 5 (xs.map GEntry.enc)] := by
 refine cA m_slices_Clone_impl_Entry_impl_Entry 1 8 [(.tmp 2, [true])] Tryz.func226 rfl rfl ?_; unfold m_slices_Clone_impl_Entry_impl_Entry
 intro hb
 clear hb
 simp only [↓reduceIte, reduceEqDiff, reduceLT, reduceAdd, reduceMul, reduceCtorEq, go_sem, ↓flat_of (f := GEntry.enc) (fun _ => rfl) xs]
 refine ⟨fun h => ?_, ?_⟩
 ·rw [h]
 ·simp only [roomB]
  first | done | omega | (refine ⟨?_, ?_⟩ <;> first | omega | simp)
def m_slices_Clone_impl_Exclusion_impl_Exclusion : MC :=
(.seq (pr [.nilo 2 0 5] [0])
(.seq (.condN 3 4 (.s 0) (.seq (pr [.nilo 2 0 5] [2])
.ret) .skip)
(.seq (pr [.lit 5 0 5 40 [], .mv 6 (.s 0), .app 7 0 5 40 (.s 5) (.s 6), .mv 2 (.s 7)] [2])
.ret)))
theorem c_slices_Clone_Exclusion (xs : List GExclusion) (hs : xs.length ≤ 1073741824) : Ctr Tryz.prog n_slices_Clone_impl_Exclusion_impl_Exclusion [aL 5 (xs.map GExclusion.enc)] [rL 5 (xs.map GExclusion.enc)] := by
 refine cA m_slices_Clone_impl_Exclusion_impl_Exclusion 1 8 [(.tmp 2, [true])] Tryz.func136 rfl rfl ?_; unfold m_slices_Clone_impl_Exclusion_impl_Exclusion
 intro hb
 clear hb
 simp only [↓reduceIte, reduceEqDiff, reduceLT, reduceAdd, reduceMul, reduceCtorEq, go_sem, ↓flat_of (f := GExclusion.enc) (fun _ => rfl) xs]
 refine ⟨fun h => ?_, ?_⟩
 ·rw [h]
 ·simp only [roomB]
  first | done | omega | (refine ⟨?_, ?_⟩ <;> first | omega | simp)
def m_slices_Clone_impl_Statement_impl_Statement : MC :=
(.seq (pr [.nilo 2 0 4] [0])
(.seq (.condN 3 4 (.s 0) (.seq (pr [.nilo 2 0 4] [2])
.ret) .skip)
(.seq (pr [.lit 5 0 4 32 [], .mv 6 (.s 0), .app 7 0 4 32 (.s 5) (.s 6), .mv 2 (.s 7)] [2])
.ret)))
theorem c_slices_Clone_Statement (xs : List GStatement) (hs : xs.length ≤ 1073741824) : Ctr Tryz.prog n_slices_Clone_impl_Statement_impl_Statement [aL 4 (xs.map GStatement.enc)] [rL 4 (xs.map GStatement.enc)] := by
 refine cA m_slices_Clone_impl_Statement_impl_Statement 1 8 [(.tmp 2, [true])] Tryz.func139 rfl rfl ?_; unfold m_slices_Clone_impl_Statement_impl_Statement
 intro hb
 clear hb
 simp only [↓reduceIte, reduceEqDiff, reduceLT, reduceAdd, reduceMul, reduceCtorEq, go_sem, ↓flat_of (f := GStatement.enc) (fun _ => rfl) xs]
 refine ⟨fun h => ?_, ?_⟩
 ·rw [h]
 ·simp only [roomB]
  first | done | omega | (refine ⟨?_, ?_⟩ <;> first | omega | simp)
def m_slices_Clone_impl_Found_impl_Found : MC :=
(.seq (pr [.nilo 2 0 6] [0])
(.seq (.condN 3 4 (.s 0) (.seq (pr [.nilo 2 0 6] [2])
.ret) .skip)
(.seq (pr [.lit 5 0 6 48 [], .mv 6 (.s 0), .app 7 0 6 48 (.s 5) (.s 6), .mv 2 (.s 7)] [2])
.ret)))
theorem c_slices_Clone_Found (xs : List GFound) (hs : xs.length ≤ 1073741824) : Ctr Tryz.prog n_slices_Clone_impl_Found_impl_Found [aL 6 (xs.map GFound.enc)] [rL 6 (xs.map GFound.enc)] := by
 refine cA m_slices_Clone_impl_Found_impl_Found 1 8 [(.tmp 2, [true])] Tryz.func200 rfl rfl ?_; unfold m_slices_Clone_impl_Found_impl_Found
 intro hb
 clear hb
 simp only [↓reduceIte, reduceEqDiff, reduceLT, reduceAdd, reduceMul, reduceCtorEq, go_sem, ↓flat_of (f := GFound.enc) (fun _ => rfl) xs]
 refine ⟨fun h => ?_, ?_⟩
 ·rw [h]
 ·simp only [roomB]
  first | done | omega | (refine ⟨?_, ?_⟩ <;> first | omega | simp)
end Go.Proofs.YtpclnmleldeleaaGreatR
namespace Go.Proofs.YtpclnmleldeleaaGreatR
open Go Go.RowKit Go.Proofs
open Nat (reduceEqDiff reduceLT reduceLeDiff reduceAdd reduceMul)
open List (reduceReplicate)
set_option linter.unusedSimpArgs false
set_option linter.unusedVariables false
theorem anyF_step {α : Type} {p : α → Bool} {l : List α} {k : Nat} {x : α} (hx : l[k]? = some x) (h : (l.take k).any p = false) (hn : p x = false) : (l.take (k + 1)).any p = false := by
 rw [take_snoc hx, List.any_append, h]
 simp [hn]
theorem any_here {α : Type} {p : α → Bool} {l : List α} {k : Nat} {x : α} (hx : l[k]? = some x) (hn : p x = true) : l.any p = true := List.any_eq_true.2 ⟨x, at_mem hx, hn⟩
def idxF {α : Type} (p : α → Bool) (l : List α) : Int := if l.any p then (l.takeWhile fun x => !p x).length else -1
theorem idxF_here {α : Type} {p : α → Bool} {l : List α} {k : Nat} {x : α} (hx : l[k]? = some x) (h : (l.take k).any p = false) (hn : p x = true) : idxF p l = k := by
 unfold idxF
 rw [any_here hx hn, if_pos rfl]
 congr 1
 have e : l = l.take k ++ x :: l.drop (k + 1) := take_drop_at hx
 rw [e, List.takeWhile_append_of_pos]
 ·simp [hn]
  have := len_at hx
  omega
 ·intro a ha
  have := List.any_eq_false.1 h a ha
  simpa using this
theorem idxF_none {α : Type} {p : α → Bool} {l : List α} (h : l.any p = false) : idxF p l = -1 := by
 unfold idxF; rw [h]; rfl
theorem idxF_ge {α : Type} {p : α → Bool} {l : List α} : decide (idxF p l ≥ 0) = l.any p := by
 unfold idxF
 cases l.any p <;> simp
def encS (s : ByteArray) : List T := [tS s]
attribute [go_sem] encS
abbrev aStr (s : ByteArray) : Bool × List T := (false, [tS s])
attribute [go_sem] aStr
def m_slices_IndexFunc_impl_Version_impl_Version : MC :=
(.seq (pr [.mv 4 (ci 0)] [0,1])
(.seq (.seq (pr [.mv 6 (.s 0), .len 7 false (.s 6), .mv 8 (ci 0)] [0,1,7,8])
(.block 0 (.loop ([0,1,7,8], []) (.seq (pr [.bin 9 false .lss (.s 8) (.s 7)] [0,1,7,8,9])
(.seq (.cond (.s 9) .skip (.exit 0))
(.seq (.block 1 (.seq (pr [.mv 10 (.s 8), .mv 5 (.s 10)] [0,1,5,7,8])
(.seq (pr [.mv 11 (.s 1), .mv 12 (.s 0), .mv 13 (.s 5), .idx 14 9 (.s 12) (.s 13), .load 15 true 9 (.s 14), .call 16 [] (.s 11) [.s 15]] [0,1,5,7,8,16])
(.cond (.s 16) (.seq (pr [.mv 17 (.s 5), .mv 4 (.s 17)] [4])
.ret) .skip))))
(pr [.bin 18 false .add (.s 8) (ci 1), .mv 8 (.s 18)] [0,1,7,8])))))))
(.seq (pr [.mv 4 (.c (.int .i64 (-1)))] [4])
.ret)))
theorem c_slices_IndexFunc_Version (xs : List GVersion) (f : FuncId) (cs : List T) (p : GVersion → Bool) (hp : ∀ x, x ∈ xs → Ctr Tryz.prog f (aS (GVersion.enc x) :: cs.map (fun t => (false, [t]))) [rB (p x)]) : Ctr Tryz.prog n_slices_IndexFunc_impl_Version_impl_Version [aL 9 (xs.map GVersion.enc), (false, [.fn f cs])] [rI (idxF p xs)] := by
 refine cA m_slices_IndexFunc_impl_Version_impl_Version 0 19 [(.tmp 4, [false])] Tryz.func201 rfl rfl ?_; unfold m_slices_IndexFunc_impl_Version_impl_Version
 intro hb
 simp only [bdA, bdL, bdT, bdR_map, roomB, and_true, List.length_map] at hb
 obtain ⟨⟨hl, -⟩, -⟩ := hb
 simp only [↓reduceIte, reduceEqDiff, reduceLT, reduceCtorEq, go_sem]
 refine loopK_rng xs (fun k => [(8, vI k)]) (fun k => []) (fun k => (xs.take k).any p = false) hl ?_
 simp only [↓reduceIte, reduceEqDiff, reduceCtorEq, go_sem]
 refine ⟨?_, by simp, ?_, ?_⟩
 ·simp only [↓reduceIte, reduceEqDiff, reduceLT, reduceCtorEq, go_sem]
 ·intro k x hx h h0 h1 hw
  simp only [↓reduceIte, reduceEqDiff, reduceLT, reduceAdd, reduceCtorEq, go_sem, bk_eq hx, h0, h1]
  refine callK_of (hp x (at_mem hx)) ?_
  simp only [↓reduceIte, reduceEqDiff, reduceLT, reduceCtorEq, go_sem, hw]
  exact ⟨fun hn => (idxF_here hx h hn).symm, fun hn => anyF_step hx h hn⟩
 ·intro h
  simp only [↓reduceIte, reduceEqDiff, reduceLT, reduceCtorEq, go_sem]
  rw [List.take_length] at h
  rw [idxF_none h]
def m_slices_ContainsFunc_impl_Version_impl_Version : MC :=
(.seq (pr [.mv 4 cF] [0,1])
(.seq (pr [.mv 5 (.s 0), .mv 6 (.s 1), .call 7 [] (.f n_slices_IndexFunc_impl_Version_impl_Version) [.s 5, .s 6], .bin 8 false .geq (.s 7) (ci 0), .mv 4 (.s 8)] [4])
.ret))
theorem c_slices_ContainsFunc_Version (xs : List GVersion) (f : FuncId) (cs : List T) (p : GVersion → Bool) (hp : ∀ x, x ∈ xs → Ctr Tryz.prog f (aS (GVersion.enc x) :: cs.map (fun t => (false, [t]))) [rB (p x)]) : Ctr Tryz.prog n_slices_ContainsFunc_impl_Version_impl_Version [aL 9 (xs.map GVersion.enc), (false, [.fn f cs])] [rB (xs.any p)] := by
 refine cA m_slices_ContainsFunc_impl_Version_impl_Version 0 9 [(.tmp 4, [false])] Tryz.func141 rfl rfl ?_; unfold m_slices_ContainsFunc_impl_Version_impl_Version
 intro hb
 clear hb
 simp only [↓reduceIte, reduceEqDiff, reduceLT, reduceCtorEq, go_sem]
 refine callK_of (c_slices_IndexFunc_Version xs f cs p hp) ?_
 simp only [↓reduceIte, reduceEqDiff, reduceLT, reduceCtorEq, go_sem]
 intros
 exact idxF_ge
end Go.Proofs.YtpclnmleldeleaaGreatR
namespace Go.Proofs.YtpclnmleldeleaaGreatR
open Go Go.RowKit Go.Proofs
open Nat (reduceEqDiff reduceLT reduceLeDiff reduceAdd reduceMul)
open List (reduceReplicate)
set_option linter.unusedSimpArgs false
set_option linter.unusedVariables false
attribute [go_sem] eqB
def m_spec_l1In : MC :=
(.seq (pr [.mv 6 cF] [0,1,2])
(.seq (.reg [Za (.mv 7 (.s 0)), Za (.mv 8 (.s 1)), Za (.bin 9 false .geq (.s 7) (.s 8)), Za (.mv 10 (.s 9)), Zb 10 true (.mv 11 (.s 0)), Zb 10 true (.mv 12 (.s 2)), Zb 10 true (.bin 13 false .leq (.s 11) (.s 12)), Za (.pick 14 (.s 10) (.s 13) cF), Za (.mv 6 (.s 14))] [6])
.ret))
theorem c_spec_l1In (x a b : Int) : Ctr Tryz.prog n_spec_l1In [aI x, aI a, aI b] [rB (decide (a ≤ x ∧ x ≤ b))] := by
 refine cA m_spec_l1In 0 15 [(.tmp 6, [false])] Tryz.func104 rfl rfl ?_; unfold m_spec_l1In
 intro hb
 clear hb
 simp only [↓reduceIte, reduceEqDiff, reduceLT, reduceAdd, reduceCtorEq, go_sem]
 exact ⟨fun h => by simp [h], fun h => by simp; omega⟩
def m_impl_InRange : MC :=
(.seq (pr [.mv 6 cF] [0,1,2])
(.seq (.reg [Za (.mv 7 (.s 1)), Za (.mv 8 (.s 0)), Za (.bin 9 false .leq (.s 7) (.s 8)), Za (.mv 10 (.s 9)), Zb 10 true (.mv 11 (.s 0)), Zb 10 true (.mv 12 (.s 2)), Zb 10 true (.bin 13 false .leq (.s 11) (.s 12)), Za (.pick 14 (.s 10) (.s 13) cF), Za (.mv 6 (.s 14))] [6])
.ret))
theorem c_impl_InRange (x a b : Int) : Ctr Tryz.prog n_impl_InRange [aI x, aI a, aI b] [rB (decide (a ≤ x ∧ x ≤ b))] := by
 refine cA m_impl_InRange 0 15 [(.tmp 6, [false])] Tryz.func112 rfl rfl ?_; unfold m_impl_InRange
 intro hb
 clear hb
 simp only [↓reduceIte, reduceEqDiff, reduceLT, reduceAdd, reduceCtorEq, go_sem]
 exact ⟨fun h => by simp [h], fun h => by simp; omega⟩
def allIn (l : List Int) (a b : Int) : Bool := l.all fun x => decide (a ≤ x ∧ x ≤ b)
theorem all_step {α : Type} {p : α → Bool} {l : List α} {k : Nat} {x : α} (hx : l[k]? = some x) (h : (l.take k).all p = true) (hn : p x = true) : (l.take (k + 1)).all p = true := by
 rw [take_snoc hx, List.all_append, h]; simp [hn]
theorem all_not {α : Type} {p : α → Bool} {l : List α} {k : Nat} {x : α} (hx : l[k]? = some x) (hn : p x = false) : false = l.all p := by
 symm; rw [List.all_eq_false]; exact ⟨x, at_mem hx, by simp [hn]⟩
def m_impl_allIn : MC :=
(.seq (pr [.mv 6 cF] [0,1,2])
(.seq (.seq (pr [.mv 9 (.s 0), .len 10 false (.s 9), .mv 11 (ci 0)] [1,2,9,10,11])
(.block 0 (.loop ([1,2,9,10,11], []) (.seq (pr [.bin 12 false .lss (.s 11) (.s 10)] [1,2,9,10,11,12])
(.seq (.cond (.s 12) .skip (.exit 0))
(.seq (.block 1 (.seq (pr [.idx 13 1 (.s 9) (.s 11), .load 14 false 1 (.s 13), .mv 8 (.s 14)] [1,2,8,9,10,11])
(.seq (pr [.mv 15 (.s 8), .mv 16 (.s 1), .mv 17 (.s 2), .call 18 [] (.f n_impl_InRange) [.s 15, .s 16, .s 17], .un 19 .not (.s 18)] [1,2,9,10,11,19])
(.cond (.s 19) (.seq (pr [.mv 6 cF] [6])
.ret) .skip))))
(pr [.bin 20 false .add (.s 11) (ci 1), .mv 11 (.s 20)] [1,2,9,10,11])))))))
(.seq (pr [.mv 6 cT] [6])
.ret)))
theorem c_impl_allIn (l : List Int) (a b : Int) : Ctr Tryz.prog n_impl_allIn [aL 1 (l.map encI), aI a, aI b] [rB (allIn l a b)] := by
 refine cA m_impl_allIn 0 21 [(.tmp 6, [false])] Tryz.func164 rfl rfl ?_; unfold m_impl_allIn
 intro hb
 simp only [bdA, bdL, bdT, bdR_map, wfB_i64, roomB, and_true, List.length_map] at hb
 obtain ⟨⟨hl, -⟩, -⟩ := hb
 simp only [↓reduceIte, reduceEqDiff, reduceLT, reduceAdd, reduceCtorEq, go_sem]
 refine loopK_rng l (fun k => [(11, vI k)]) (fun k => []) (fun k => ((l.take k).all fun x => decide (a ≤ x ∧ x ≤ b)) = true) hl ?_
 simp only [↓reduceIte, reduceEqDiff, go_sem]
 refine ⟨?_, by simp, ?_, ?_⟩
 ·simp only [↓reduceIte, reduceEqDiff, reduceLT, go_sem]
 ·intro k x hx h h0 h1 hw
  simp only [↓reduceIte, reduceEqDiff, reduceLT, reduceCtorEq, go_sem, bk_eq hx, h0, h1]
  refine callK_of (c_impl_InRange _ _ _) ?_
  simp only [↓reduceIte, reduceEqDiff, reduceLT, reduceCtorEq, go_sem, hw]
  exact ⟨fun hn => all_not hx (by simpa using hn), fun hn => all_step hx h (by simpa using hn)⟩
 ·intro h
  simp only [↓reduceIte, reduceEqDiff, reduceLT, reduceCtorEq, go_sem]
  rw [List.take_length] at h
  exact h.symm
def m_spec_l5Bytes : MC :=
(.seq (pr [.mv 2 cF] [0])
(.seq (.seq (pr [.mv 3 (ci 0)] [0,3])
(.block 0 (.loop ([0,3], []) (.seq (.seq (pr [.mv 4 (.s 3), .mv 5 (.s 0), .len 6 false (.s 5), .bin 7 false .lss (.s 4) (.s 6)] [0,3,7])
(.cond (.s 7) .skip (.exit 0)))
(.seq (.block 1 (.seq (pr [.mv 10 (.s 0), .mv 11 (.s 3), .idx 12 1 (.s 10) (.s 11), .load 13 false 1 (.s 12), .call 14 [] (.f n_spec_l1In) [.s 13, .c (.int .i64 0), .c (.int .i64 255)], .un 15 .not (.s 14)] [0,3,15])
(.cond (.s 15) (.seq (pr [.mv 2 cF] [2])
.ret) .skip)))
(pr [.mv 8 (.s 3), .bin 9 false .add (.s 8) (ci 1), .mv 3 (.s 9)] [0,3]))))))
(.seq (pr [.mv 2 cT] [2])
.ret)))
theorem c_spec_l5Bytes (l : List Int) : Ctr Tryz.prog n_spec_l5Bytes [aL 1 (l.map encI)] [rB (allIn l 0 255)] := by
 refine cA m_spec_l5Bytes 0 16 [(.tmp 2, [false])] Tryz.func197 rfl rfl ?_; unfold m_spec_l5Bytes
 intro hb
 simp only [bdA, bdL, bdT, bdR_map, roomB, and_true, List.length_map] at hb
 obtain ⟨hl, -⟩ := hb
 simp only [↓reduceIte, reduceLT, reduceCtorEq, go_sem]
 refine loopK_rng l (fun k => [(3, vI k)]) (fun k => []) (fun k => ((l.take k).all fun x => decide (0 ≤ x ∧ x ≤ 255)) = true) hl ?_
 simp only [↓reduceIte, reduceCtorEq, go_sem]
 refine ⟨?_, by simp, ?_, ?_⟩
 ·simp only [↓reduceIte, reduceLT, reduceCtorEq, go_sem]
 ·intro k x hx h h0 h1 hw
  simp only [↓reduceIte, reduceEqDiff, reduceLT, reduceCtorEq, go_sem, bk_eq hx, h0, h1]
  refine callK_of (c_spec_l1In _ _ _) ?_
  simp only [↓reduceIte, reduceEqDiff, reduceLT, reduceCtorEq, go_sem, hw]
  exact ⟨fun hn => all_not hx (by simpa using hn), fun hn => all_step hx h (by simpa using hn)⟩
 ·intro h
  simp only [↓reduceIte, reduceEqDiff, reduceLT, reduceCtorEq, go_sem]
  rw [List.take_length] at h
  exact h.symm
def isAddr (a : GAddress) : Bool := decide (1 ≤ a.Host ∧ a.Host ≤ 9) && (decide (0 ≤ a.Path ∧ a.Path ≤ 99) && decide (0 ≤ a.Query ∧ a.Query ≤ 99))
def m_impl_IsAddress : MC :=
(.seq (pr [.box 1 0 (.s 0), .mv 2 cF] [1])
(.seq (.reg [Za (.fld 3 (.s 1) 0), Za (.load 4 false 1 (.s 3)), Za (.call 5 [] (.f n_impl_InRange) [.s 4, .c (.int .i64 1), .c (.int .i64 9)]), Za (.mv 6 (.s 5)), Zb 6 true (.fld 7 (.s 1) 1), Zb 6 true (.load 8 false 1 (.s 7)), Zb 6 true (.call 9 [] (.f n_impl_InRange) [.s 8, .c (.int .i64 0), .c (.int .i64 99)]), Za (.pick 10 (.s 6) (.s 9) cF), Za (.mv 11 (.s 10)), Zb 11 true (.fld 12 (.s 1) 2), Zb 11 true (.load 13 false 1 (.s 12)), Zb 11 true (.call 14 [] (.f n_impl_InRange) [.s 13, .c (.int .i64 0), .c (.int .i64 99)]), Za (.pick 15 (.s 11) (.s 14) cF), Za (.mv 2 (.s 15))] [2])
.ret))
theorem c_impl_IsAddress (a : GAddress) : Ctr Tryz.prog n_impl_IsAddress [aS a.enc] [rB (isAddr a)] := by
 refine cA m_impl_IsAddress 1 16 [(.tmp 2, [false])] Tryz.func143 rfl rfl ?_; unfold m_impl_IsAddress
 intro hb
 clear hb
 simp only [↓reduceIte, reduceEqDiff, reduceLT, reduceLeDiff, reduceAdd, reduceCtorEq, go_sem]
 refine callK_of (c_impl_InRange _ _ _) ?_
 simp only [↓reduceIte, reduceEqDiff, reduceLT, reduceLeDiff, reduceAdd, reduceCtorEq, go_sem]
 refine ⟨fun h => ?_, fun h => by unfold isAddr; rw [decide_eq_false h]; rfl⟩
 refine callK_of (c_impl_InRange _ _ _) ?_
 simp only [↓reduceIte, reduceEqDiff, reduceLT, reduceAdd, reduceCtorEq, go_sem]
 refine ⟨fun h2 => ?_, fun h2 => by unfold isAddr; rw [decide_eq_false h2]; simp⟩
 refine callK_of (c_impl_InRange _ _ _) ?_
 simp only [↓reduceIte, reduceEqDiff, reduceLT, go_sem]
 unfold isAddr; rw [decide_eq_true h, decide_eq_true h2]; rfl
def m_spec_IsAddress : MC :=
(.seq (pr [.box 1 0 (.s 0), .mv 2 cF] [1])
(.seq (.reg [Za (.fld 3 (.s 1) 0), Za (.load 4 false 1 (.s 3)), Za (.call 5 [] (.f n_spec_l1In) [.s 4, .c (.int .i64 1), .c (.int .i64 9)]), Za (.mv 6 (.s 5)), Zb 6 true (.fld 7 (.s 1) 1), Zb 6 true (.load 8 false 1 (.s 7)), Zb 6 true (.call 9 [] (.f n_spec_l1In) [.s 8, .c (.int .i64 0), .c (.int .i64 99)]), Za (.pick 10 (.s 6) (.s 9) cF), Za (.mv 11 (.s 10)), Zb 11 true (.fld 12 (.s 1) 2), Zb 11 true (.load 13 false 1 (.s 12)), Zb 11 true (.call 14 [] (.f n_spec_l1In) [.s 13, .c (.int .i64 0), .c (.int .i64 99)]), Za (.pick 15 (.s 11) (.s 14) cF), Za (.mv 2 (.s 15))] [2])
.ret))
theorem c_spec_IsAddress (a : GAddress) : Ctr Tryz.prog n_spec_IsAddress [aS a.enc] [rB (isAddr a)] := by
 refine cA m_spec_IsAddress 1 16 [(.tmp 2, [false])] Tryz.func128 rfl rfl ?_; unfold m_spec_IsAddress
 intro hb
 clear hb
 simp only [↓reduceIte, reduceEqDiff, reduceLT, reduceLeDiff, reduceAdd, reduceCtorEq, go_sem]
 refine callK_of (c_spec_l1In _ _ _) ?_
 simp only [↓reduceIte, reduceEqDiff, reduceLT, reduceLeDiff, reduceAdd, reduceCtorEq, go_sem]
 refine ⟨fun h => ?_, fun h => by unfold isAddr; rw [decide_eq_false h]; rfl⟩
 refine callK_of (c_spec_l1In _ _ _) ?_
 simp only [↓reduceIte, reduceEqDiff, reduceLT, reduceAdd, reduceCtorEq, go_sem]
 refine ⟨fun h2 => ?_, fun h2 => by unfold isAddr; rw [decide_eq_false h2]; simp⟩
 refine callK_of (c_spec_l1In _ _ _) ?_
 simp only [↓reduceIte, reduceEqDiff, reduceLT, go_sem]
 unfold isAddr; rw [decide_eq_true h, decide_eq_true h2]; rfl
def noAddr (a : GAddress) : Bool := a.Host == 0 && (a.Path == 0 && a.Query == 0)
def isRes (r : GResource) : Bool :=
 if r.Kind = 1 ∨ r.Kind = 2 then decide (r.Body.length ≤ 6) && (allIn r.Body 0 255 && noAddr r.To)
 else if r.Kind = 3 then decide (r.Body.length = 0) && isAddr r.To
 else if r.Kind = 4 then decide (r.Body.length = 0) && noAddr r.To else false
def m_impl_IsResource : MC :=
(.seq (pr [.box 1 0 (.s 0), .mv 2 cF] [1])
(.seq (.seq (pr [.fld 3 (.s 1) 0, .load 4 false 1 (.s 3)] [1,4])
(.block 0 (.seq (.seq (pr [.bin 6 false .eql (.s 4) (ci 1), .mv 5 (.s 6)] [1,4,5])
(.cond (.s 5) .skip (pr [.bin 7 false .eql (.s 4) (ci 2), .mv 5 (.s 7)] [1,4,5])))
(.cond (.s 5) (.seq (.reg [Za (.fld 8 (.s 1) 1), Za (.load 9 false 1 (.s 8)), Za (.len 10 false (.s 9)), Za (.bin 11 false .leq (.s 10) (ci 6)), Za (.mv 12 (.s 11)), Zb 12 true (.fld 13 (.s 1) 1), Zb 12 true (.load 14 false 1 (.s 13)), Zb 12 true (.call 15 [] (.f n_impl_allIn) [.s 14, .c (.int .i64 0), .c (.int .i64 255)]), Za (.pick 16 (.s 12) (.s 15) cF), Za (.mv 17 (.s 16)), Zb 17 true (.fld 18 (.s 1) 2), Zb 17 true (.load 19 true 3 (.s 18)), Zb 17 true (.build 20 [pz, pz, pz] []), Zb 17 true (.eqA 21 false [.i .i64, .i .i64, .i .i64] (.s 19) (.s 20)), Za (.pick 22 (.s 17) (.s 21) cF), Za (.mv 2 (.s 22))] [2])
.ret) (.seq (pr [.bin 24 false .eql (.s 4) (ci 3), .mv 23 (.s 24)] [1,4,23])
(.cond (.s 23) (.seq (.reg [Za (.fld 25 (.s 1) 1), Za (.load 26 false 1 (.s 25)), Za (.len 27 false (.s 26)), Za (.bin 28 false .eql (.s 27) (ci 0)), Za (.mv 29 (.s 28)), Zb 29 true (.fld 30 (.s 1) 2), Zb 29 true (.load 31 true 3 (.s 30)), Zb 29 true (.call 32 [] (.f n_impl_IsAddress) [.s 31]), Za (.pick 33 (.s 29) (.s 32) cF), Za (.mv 2 (.s 33))] [2])
.ret) (.seq (pr [.bin 35 false .eql (.s 4) (ci 4), .mv 34 (.s 35)] [1,34])
(.cond (.s 34) (.seq (.reg [Za (.fld 36 (.s 1) 1), Za (.load 37 false 1 (.s 36)), Za (.len 38 false (.s 37)), Za (.bin 39 false .eql (.s 38) (ci 0)), Za (.mv 40 (.s 39)), Zb 40 true (.fld 41 (.s 1) 2), Zb 40 true (.load 42 true 3 (.s 41)), Zb 40 true (.build 43 [pz, pz, pz] []), Zb 40 true (.eqA 44 false [.i .i64, .i .i64, .i .i64] (.s 42) (.s 43)), Za (.pick 45 (.s 40) (.s 44) cF), Za (.mv 2 (.s 45))] [2])
.ret) .skip))))))))
(.seq (pr [.mv 2 cF] [2])
.ret)))
theorem c_impl_IsResource (r : GResource) : Ctr Tryz.prog n_impl_IsResource [aS r.enc] [rB (isRes r)] := by
 refine cA m_impl_IsResource 1 46 [(.tmp 2, [false])] Tryz.func144 rfl rfl ?_; unfold m_impl_IsResource
 intro hb
 clear hb
 have hcase : r.Kind = 1 ∨ r.Kind = 2 ∨ r.Kind = 3 ∨ r.Kind = 4 ∨ (¬ r.Kind = 1 ∧ ¬ r.Kind = 2 ∧ ¬ r.Kind = 3 ∧ ¬ r.Kind = 4) := by omega
 rcases hcase with hk | hk | hk | hk | ⟨h1, h2, h3, h4⟩
 ·simp only [↓reduceIte, reduceEqDiff, reduceLT, reduceLeDiff, reduceAdd, reduceCtorEq, go_sem, hk]
  refine ⟨fun h => ?_, fun h => ?_⟩
  ·have h' : r.Body.length ≤ 6 := by omega
   refine callK_of (c_impl_allIn _ _ _) ?_
   simp only [↓reduceIte, reduceEqDiff, reduceLT, reduceAdd, reduceCtorEq, go_sem]
   exact ⟨fun h2 => by simp [isRes, noAddr, hk, h2, h'], fun h2 => by simp [isRes, noAddr, hk, h2]⟩
  ·have h' : ¬ r.Body.length ≤ 6 := by omega
   simp [isRes, noAddr, hk, h']
 ·simp only [↓reduceIte, reduceEqDiff, reduceLT, reduceLeDiff, reduceAdd, reduceCtorEq, go_sem, hk, Int.reduceEq]
  refine ⟨fun h => ?_, fun h => ?_⟩
  ·have h' : r.Body.length ≤ 6 := by omega
   refine callK_of (c_impl_allIn _ _ _) ?_
   simp only [↓reduceIte, reduceEqDiff, reduceLT, reduceAdd, reduceCtorEq, go_sem]
   exact ⟨fun h2 => by simp [isRes, noAddr, hk, h2, h'], fun h2 => by simp [isRes, noAddr, hk, h2]⟩
  ·have h' : ¬ r.Body.length ≤ 6 := by omega
   simp [isRes, noAddr, hk, h']
 ·simp only [↓reduceIte, reduceEqDiff, reduceLT, reduceLeDiff, reduceAdd, reduceCtorEq, go_sem, hk, Int.reduceEq]
  refine ⟨fun h => ?_, fun h => ?_⟩
  ·have h' : r.Body.length = 0 := by omega
   refine callK_of (c_impl_IsAddress r.To) ?_
   simp only [↓reduceIte, reduceEqDiff, reduceLT, go_sem]
   simp [isRes, hk, h']
  ·have h' : ¬ r.Body.length = 0 := by omega
   unfold isRes
   rw [if_neg (by omega), if_pos hk, decide_eq_false h']
   rfl
 ·simp only [↓reduceIte, reduceEqDiff, reduceLT, reduceLeDiff, reduceAdd, reduceCtorEq, go_sem, hk, Int.reduceEq]
  refine ⟨fun h => ?_, fun h => ?_⟩
  ·have h' : r.Body.length = 0 := by omega
   unfold isRes
   rw [if_neg (by omega), if_neg (by omega), if_pos hk, decide_eq_true h']
   simp [noAddr]
  ·have h' : ¬ r.Body.length = 0 := by omega
   unfold isRes
   rw [if_neg (by omega), if_neg (by omega), if_pos hk, decide_eq_false h']
   rfl
 ·simp only [↓reduceIte, reduceEqDiff, reduceLT, reduceLeDiff, reduceAdd, reduceCtorEq, go_sem, h1, h2, h3, h4]
  unfold isRes
  rw [if_neg (by omega), if_neg (by omega), if_neg (by omega)]
def m_spec_IsResource : MC :=
(.seq (pr [.box 1 0 (.s 0), .mv 2 cF] [1])
(.seq (.seq (.reg [Za (.fld 3 (.s 1) 0), Za (.load 4 false 1 (.s 3)), Za (.call 5 [] (.f n_spec_l1In) [.s 4, .c (.int .i64 1), .c (.int .i64 4)]), Za (.un 6 .not (.s 5)), Za (.mv 7 (.s 6)), Zb 7 false (.fld 8 (.s 1) 1), Zb 7 false (.load 9 false 1 (.s 8)), Zb 7 false (.call 10 [] (.f n_spec_l5Bytes) [.s 9]), Zb 7 false (.un 11 .not (.s 10)), Za (.pick 12 (.s 7) cT (.s 11)), Za (.mv 13 (.s 12)), Zb 13 false (.fld 14 (.s 1) 1), Zb 13 false (.load 15 false 1 (.s 14)), Zb 13 false (.len 16 false (.s 15)), Zb 13 false (.bin 17 false .gtr (.s 16) (ci 6)), Za (.pick 18 (.s 13) cT (.s 17))] [1,18])
(.cond (.s 18) (.seq (pr [.mv 2 cF] [2])
.ret) .skip))
(.seq (.seq (pr [.fld 19 (.s 1) 0, .load 20 false 1 (.s 19), .bin 21 false .eql (.s 20) (ci 3)] [1,21])
(.cond (.s 21) (.seq (.reg [Za (.fld 22 (.s 1) 2), Za (.load 23 true 3 (.s 22)), Za (.call 24 [] (.f n_spec_IsAddress) [.s 23]), Za (.mv 25 (.s 24)), Zb 25 true (.fld 26 (.s 1) 1), Zb 25 true (.load 27 false 1 (.s 26)), Zb 25 true (.len 28 false (.s 27)), Zb 25 true (.bin 29 false .eql (.s 28) (ci 0)), Za (.pick 30 (.s 25) (.s 29) cF), Za (.mv 2 (.s 30))] [2])
.ret) .skip))
(.seq (.reg [Za (.fld 31 (.s 1) 2), Za (.load 32 true 3 (.s 31)), Za (.build 33 [pz, pz, pz] []), Za (.eqA 34 false [.i .i64, .i .i64, .i .i64] (.s 32) (.s 33)), Za (.mv 35 (.s 34)), Zb 35 true (.fld 36 (.s 1) 0), Zb 35 true (.load 37 false 1 (.s 36)), Zb 35 true (.bin 38 false .neq (.s 37) (ci 4)), Zb 35 true (.mv 39 (.s 38)), Zb 39 false (.fld 40 (.s 1) 1), Zb 39 false (.load 41 false 1 (.s 40)), Zb 39 false (.len 42 false (.s 41)), Zb 39 false (.bin 43 false .eql (.s 42) (ci 0)), Zb 35 true (.pick 44 (.s 39) cT (.s 43)), Za (.pick 45 (.s 35) (.s 44) cF), Za (.mv 2 (.s 45))] [2])
.ret))))
theorem c_spec_IsResource (r : GResource) : Ctr Tryz.prog n_spec_IsResource [aS r.enc] [rB (isRes r)] := by
 refine cA m_spec_IsResource 1 46 [(.tmp 2, [false])] Tryz.func129 rfl rfl ?_; unfold m_spec_IsResource
 intro hb
 clear hb
 simp only [↓reduceIte, reduceEqDiff, reduceLT, reduceLeDiff, reduceAdd, reduceCtorEq, go_sem]
 refine callK_of (c_spec_l1In _ _ _) ?_
 simp only [↓reduceIte, reduceEqDiff, reduceLT, reduceLeDiff, reduceAdd, reduceCtorEq, go_sem]
 refine ⟨fun h => ?_, fun h => ?_⟩
 ·unfold isRes
  rw [if_neg (by omega), if_neg (by omega), if_neg (by omega)]
 ·refine callK_of (c_spec_l5Bytes r.Body) ?_
  simp only [↓reduceIte, reduceEqDiff, reduceLT, reduceLeDiff, reduceAdd, reduceCtorEq, go_sem]
  refine ⟨fun ha => ?_, fun ha => ⟨fun hl => ?_, fun hl => ⟨fun hk => ?_, fun hk => ?_⟩⟩⟩
  ·have h0 : ¬ r.Body.length = 0 := fun e => by
    rw [List.eq_nil_of_length_eq_zero e] at ha
    simp [allIn] at ha
   simp [isRes, ha, h0]
  ·have h0 : ¬ r.Body.length = 0 := by omega
   have h1 : ¬ r.Body.length ≤ 6 := by omega
   simp [isRes, h0, h1]
  ·refine callK_of (c_spec_IsAddress r.To) ?_
   simp only [↓reduceIte, reduceEqDiff, reduceLT, reduceLeDiff, reduceAdd, reduceCtorEq, go_sem]
   refine ⟨fun hi => ?_, fun hi => by simp [isRes, hk, hi]⟩
   unfold isRes
   rw [if_neg (by omega), if_pos hk, hi, Bool.and_true, Bool.eq_iff_iff]
   simp
  ·have h1 : r.Body.length ≤ 6 := by omega
   refine ⟨fun ht => ?_, fun ht => ?_⟩
   ·have hn : noAddr r.To = true := by
     unfold noAddr
     exact (Bool.eq_false_or_eq_true _).resolve_right fun e => ht e.symm
    refine ⟨fun k4 => ?_, fun k4 => ?_⟩
    ·unfold isRes
     rw [if_pos (by omega), ha, hn, decide_eq_true h1]
     rfl
    ·unfold isRes
     rw [if_neg (by omega), if_neg hk, if_pos k4, hn, Bool.and_true, Bool.eq_iff_iff]
     simp
   ·have hn : noAddr r.To = false := ht.symm
    unfold isRes
    rw [hn, if_neg hk]
    split
    ·simp
    ·split <;> simp
end Go.Proofs.YtpclnmleldeleaaGreatR
namespace Go.Proofs.YtpclnmleldeleaaGreatR
open Go Go.RowKit Go.Proofs
open Nat (reduceEqDiff reduceLT reduceLeDiff reduceAdd reduceMul)
open List (reduceReplicate)
set_option linter.unusedSimpArgs false
set_option linter.unusedVariables false
def m_impl_copyResource : MC :=
(.seq (pr [.box 1 0 (.s 0), .alloc 2 1 [pz, .emp 1, pz, pz, pz]] [1,2])
(.seq (pr [.fld 3 (.s 1) 1, .load 4 false 1 (.s 3), .call 5 [2] (.f n_slices_Clone_int_int) [.s 4], .fld 6 (.s 1) 1, .store 1 (.s 6) (.s 5)] [1,2])
(.seq (pr [.load 7 true 5 (.s 1), .store 5 (.s 2) (.s 7)] [2])
.ret)))
theorem c_impl_copyResource (r : GResource) (hs : r.Body.length ≤ 1073741824) : Ctr Tryz.prog n_impl_copyResource [aS r.enc] [rS r.enc] := by
 refine cA m_impl_copyResource 3 8 [(.cell 2 true 5, [false, true, false, false, false])] Tryz.func140 rfl rfl ?_; unfold m_impl_copyResource
 intro hb
 clear hb
 simp only [↓reduceIte, reduceEqDiff, reduceLT, reduceLeDiff, reduceAdd, reduceCtorEq, go_sem]
 refine callK_of (c_slices_Clone_int r.Body hs) ?_
 simp only [↓reduceIte, reduceEqDiff, reduceLT, reduceLeDiff, reduceAdd, reduceCtorEq, go_sem]
 try intros
 try trivial
def m_spec_l5Copy : MC :=
(.seq (pr [.box 1 0 (.s 0), .alloc 2 1 [pz, .emp 1, pz, pz, pz]] [1,2])
(.seq (.dreg [Zf [5,6,7,8,9,10] [2] (.fld 3 (.s 1) 0), Zg [5,6,7,8,9,10] [2] [0] (.load 4 false 1 (.s 3)), { o := .lit 5 2 1 8 [], hs := [3,4,6,7,9,10], ws := [2] }, Zf [3,4,5,9,10] [2] (.fld 6 (.s 1) 1), Zg [3,4,5,9,10] [2] [3] (.load 7 false 1 (.s 6)), { o := .app 8 2 1 8 (.s 5) (.s 7), hs := [3,4,9,10], ws := [2], bf := [2,3,4] }, Zf [3,4,5,6,7,8] [2] (.fld 9 (.s 1) 2), Zg [3,4,5,6,7,8] [2] [6] (.load 10 true 3 (.s 9)), Ze (.range 8) (.build 11 [pz, .emp 1, pz, pz, pz] [(0, 1, .s 4), (1, 1, .s 8), (2, 3, .s 10)]), { o := .store 5 (.s 2) (.s 11), ws := [1,2], bf := (.range 9) }] [2])
.ret))
theorem c_spec_l5Copy (r : GResource) (hs : r.Body.length ≤ 1073741824) : Ctr Tryz.prog n_spec_l5Copy [aS r.enc] [rS r.enc] := by
 refine cA m_spec_l5Copy 3 12 [(.cell 2 true 5, [false, true, false, false, false])] Tryz.func127 rfl rfl ?_; unfold m_spec_l5Copy
 intro hb
 clear hb
 simp only [↓reduceIte, reduceEqDiff, reduceLT, reduceLeDiff, reduceAdd, reduceMul, reduceCtorEq, go_sem, ↓flat_of (f := encI) (fun _ => rfl) r.Body]
 simp only [roomB]
 omega
def m_impl_copyCaptures : MC :=
(.seq (pr [.nilo 2 0 9] [0])
(.seq (pr [.nilo 3 0 9] [0,3])
(.seq (.seq (pr [.mv 6 (.s 0), .len 7 false (.s 6), .mv 8 (ci 0)] [3,6,7,8])
(.block 0 (.loop ([3,6,7,8], [1,2,3]) (.seq (pr [.bin 9 false .lss (.s 8) (.s 7)] [3,6,7,8,9])
(.seq (.cond (.s 9) .skip (.exit 0))
(.seq (.block 1 (.seq (pr [.idx 10 9 (.s 6) (.s 8), .load 11 true 9 (.s 10), .alloc 5 1 [pz, pz, pz, pz, pz, .emp 1, pz, pz, pz], .store 9 (.s 5) (.s 11)] [3,5,6,7,8])
(.dreg [Zf [13,14,15,16,17,18,19,20,21] [2,3] (.mv 12 (.s 3)), Zf [12,15,16,17,18,19] [2] (.fld 13 (.s 5) 0), Zg [12,15,16,17,18,19] [2] [1] (.load 14 true 3 (.s 13)), Zf [12,13,14,17,18,19] [2] (.fld 15 (.s 5) 3), Zg [12,13,14,17,18,19] [2] [3] (.load 16 false 1 (.s 15)), Zc [12,13,14,15,16] (.fld 17 (.s 5) 4), Zd [12,13,14,15,16] [5] (.load 18 true 5 (.s 17)), { o := .call 19 [2] (.f n_impl_copyResource) [.s 18], hs := [12,13,14,15,16], ws := [2], bf := [5,6] }, Zd [12] [1,2,3,4,5,6,7] (.build 20 [pz, pz, pz, pz, pz, .emp 1, pz, pz, pz] [(0, 3, .s 14), (3, 1, .s 16), (4, 5, .s 19)]), { o := .lit 21 3 9 88 [.s 20], hs := [12], ws := [2,3], bf := [1,2,3,4,5,6,7,8] }, { o := .app 22 0 9 88 (.s 12) (.s 21), ws := [0,3], bf := (.range 10) }, Ze (.range 11) (.mv 3 (.s 22))] [3,6,7,8])))
(pr [.bin 23 false .add (.s 8) (ci 1), .mv 8 (.s 23)] [3,6,7,8])))))))
(.seq (pr [.mv 24 (.s 3), .mv 2 (.s 24)] [2])
.ret))))
theorem c_impl_copyCaptures (xs : List GCapture) (hs : xs.length + (xs.map GCapture.size).sum ≤ 1073741824) : Ctr Tryz.prog n_impl_copyCaptures [aL 9 (xs.map GCapture.enc)] [rL 9 (xs.map GCapture.enc)] := by
 refine cA m_impl_copyCaptures 4 25 [(.tmp 2, [true])] Tryz.func227 rfl rfl ?_; unfold m_impl_copyCaptures
 intro hb
 clear hb
 simp only [↓reduceIte, reduceEqDiff, reduceLT, reduceAdd, reduceCtorEq, go_sem]
 refine loopK_rng xs (fun k => [(3, .val false [.ref 0 0 9 0 (xs.take k).length]), (8, vI k)]) (fun k => [(0, ⟨0, .row true 9 ((xs.take k).map GCapture.enc)⟩)]) (fun _ => True) (by simp only [roomB]; omega) ?_
 simp only [↓reduceIte, reduceEqDiff, reduceAdd, reduceCtorEq, go_sem]
 refine ⟨?_, trivial, ?_, ?_⟩
 ·simp only [↓reduceIte, reduceEqDiff, reduceLT, go_sem, List.take_zero]
 ·intro k x hx _ h0 h1 hw
  have hk : k < xs.length := by omega
  have hlt := List.length_take_le k xs
  have hx1 := mem_sum (f := GCapture.size) (at_mem hx)
  simp only [↓reduceIte, reduceEqDiff, reduceLT, reduceLeDiff, reduceAdd, reduceCtorEq, go_sem, bk_eq hx, h0, h1]
  refine callK_of (c_impl_copyResource x.Resource (by simp only [GCapture.size, GResource.size] at hx1; omega)) ?_
  simp only [↓reduceIte, reduceEqDiff, reduceLT, reduceLeDiff, reduceAdd, reduceMul, reduceCtorEq, go_sem, hw]
  simp only [roomB]
  exact ⟨by omega, by omega, fun _ => ⟨snoc_len hx, snoc_map hx⟩⟩
 ·intro _
  simp only [↓reduceIte, reduceEqDiff, reduceLT, reduceCtorEq, go_sem, List.take_length]
def m_spec_l15Copy : MC :=
(.seq (pr [.nilo 2 0 9] [0])
(.seq (pr [.lit 5 0 9 88 [], .mv 3 (.s 5)] [0,3])
(.seq (.seq (pr [.mv 4 (ci 0)] [0,3,4])
(.block 0 (.loop ([0,3,4], [1,2]) (.seq (.seq (pr [.mv 6 (.s 4), .mv 7 (.s 0), .len 8 false (.s 7), .bin 9 false .lss (.s 6) (.s 8)] [0,3,4,9])
(.cond (.s 9) .skip (.exit 0)))
(.seq (.block 1 (.dreg [Zf [13,14,15,16,17,18,19,20,21,22,23,24,25,26,27,28,29,30] [1,2] (.mv 12 (.s 3)), Zf [12,14,18,19,20,21,22,23,24,25,26,27,28] [1] (.mv 13 (.s 0)), Zf [12,13,18,19,20,21,22,23,24,25,26,27,28] [1] (.mv 14 (.s 4)), Zg [12,18,19,20,21,22,23,24,25,26,27,28] [1] [1,2] (.idx 15 9 (.s 13) (.s 14)), Zg [12,18,19,20,21,22,23,24,25,26,27,28] [1] [1,2,3] (.fld 16 (.s 15) 0), Zg [12,18,19,20,21,22,23,24,25,26,27,28] [1] [1,2,3,4] (.load 17 true 3 (.s 16)), Zf [12,13,14,15,16,17,19,23,24,25,26,27,28] [1] (.mv 18 (.s 0)), Zf [12,13,14,15,16,17,18,23,24,25,26,27,28] [1] (.mv 19 (.s 4)), Zg [12,13,14,15,16,17,23,24,25,26,27,28] [1] [6,7] (.idx 20 9 (.s 18) (.s 19)), Zg [12,13,14,15,16,17,23,24,25,26,27,28] [1] [6,7,8] (.fld 21 (.s 20) 3), Zg [12,13,14,15,16,17,23,24,25,26,27,28] [1] [6,7,8,9] (.load 22 false 1 (.s 21)), Zc [12,13,14,15,16,17,18,19,20,21,22,24] (.mv 23 (.s 0)), Zc [12,13,14,15,16,17,18,19,20,21,22,23] (.mv 24 (.s 4)), Zd [12,13,14,15,16,17,18,19,20,21,22] [11,12] (.idx 25 9 (.s 23) (.s 24)), Zd [12,13,14,15,16,17,18,19,20,21,22] [11,12,13] (.fld 26 (.s 25) 4), Zd [12,13,14,15,16,17,18,19,20,21,22] [11,12,13,14] (.load 27 true 5 (.s 26)), { o := .call 28 [1] (.f n_spec_l5Copy) [.s 27], hs := [12,13,14,15,16,17,18,19,20,21,22], ws := [1], bf := [11,12,13,14,15] }, Zd [12] [1,2,3,4,5,6,7,8,9,10,11,12,13,14,15,16] (.build 29 [pz, pz, pz, pz, pz, .emp 1, pz, pz, pz] [(0, 3, .s 17), (3, 1, .s 22), (4, 5, .s 28)]), { o := .lit 30 2 9 88 [.s 29], hs := [12], ws := [1,2], bf := [1,2,3,4,5,6,7,8,9,10,11,12,13,14,15,16,17] }, { o := .app 31 0 9 88 (.s 12) (.s 30), ws := [0,2], bf := (.range 19) }, Ze (.range 20) (.mv 3 (.s 31))] [0,3,4]))
(pr [.mv 10 (.s 4), .bin 11 false .add (.s 10) (ci 1), .mv 4 (.s 11)] [0,3,4]))))))
(.seq (pr [.mv 32 (.s 3), .mv 2 (.s 32)] [2])
.ret))))
theorem c_spec_l15Copy (xs : List GCapture) (hs : xs.length + (xs.map GCapture.size).sum ≤ 1073741824) : Ctr Tryz.prog n_spec_l15Copy [aL 9 (xs.map GCapture.enc)] [rL 9 (xs.map GCapture.enc)] := by
 refine cA m_spec_l15Copy 3 33 [(.tmp 2, [true])] Tryz.func176 rfl rfl ?_; unfold m_spec_l15Copy
 intro hb
 clear hb
 simp only [↓reduceIte, reduceEqDiff, reduceLT, reduceAdd, reduceMul, reduceCtorEq, go_sem]
 refine loopK_rng xs (fun k => [(3, .val false [.ref 0 0 9 0 (xs.take k).length]), (4, vI k)]) (fun k => [(0, ⟨0, .row true 9 ((xs.take k).map GCapture.enc)⟩)]) (fun _ => True) (by simp only [roomB]; omega) ?_
 simp only [↓reduceIte, reduceEqDiff, reduceAdd, reduceCtorEq, go_sem]
 refine ⟨?_, trivial, ?_, ?_⟩
 ·simp only [↓reduceIte, reduceEqDiff, reduceLT, reduceCtorEq, go_sem, List.take_zero]
 ·intro k x hx _ h0 h1 hw
  have hk : k < xs.length := by omega
  have hlt := List.length_take_le k xs
  have hx1 := mem_sum (f := GCapture.size) (at_mem hx)
  simp only [↓reduceIte, reduceEqDiff, reduceLT, reduceLeDiff, reduceAdd, reduceCtorEq, go_sem, bk_eq hx, h0, h1]
  refine callK_of (c_spec_l5Copy x.Resource (by simp only [GCapture.size, GResource.size] at hx1; omega)) ?_
  simp only [↓reduceIte, reduceEqDiff, reduceLT, reduceLeDiff, reduceAdd, reduceMul, reduceCtorEq, go_sem, hw]
  simp only [roomB]
  exact ⟨by omega, by omega, fun _ => ⟨snoc_len hx, snoc_map hx⟩⟩
 ·intro _
  simp only [↓reduceIte, reduceEqDiff, reduceLT, reduceCtorEq, go_sem, List.take_length]
end Go.Proofs.YtpclnmleldeleaaGreatR
namespace Go.Proofs.YtpclnmleldeleaaGreatR
open Go Go.RowKit Go.Proofs
open Nat (reduceEqDiff reduceLT reduceLeDiff reduceAdd reduceMul)
open List (reduceReplicate)
set_option linter.unusedSimpArgs false
set_option linter.unusedVariables false
end Go.Proofs.YtpclnmleldeleaaGreatR
namespace Go.Proofs.YtpclnmleldeleaaGreatR
open Go Go.RowKit Go.Proofs
open Nat (reduceEqDiff reduceLT reduceLeDiff reduceAdd reduceMul)
open List (reduceReplicate)
set_option linter.unusedSimpArgs false
set_option linter.unusedVariables false
end Go.Proofs.YtpclnmleldeleaaGreatR
namespace Go.Proofs.YtpclnmleldeleaaGreatR
open Go Go.RowKit Go.Proofs
open Nat (reduceEqDiff reduceLT reduceLeDiff reduceAdd reduceMul)
open List (reduceReplicate)
set_option linter.unusedSimpArgs false
set_option linter.unusedVariables false
end Go.Proofs.YtpclnmleldeleaaGreatR
namespace Go.Proofs.YtpclnmleldeleaaGreatR
open Go Go.RowKit Go.Proofs
open Nat (reduceEqDiff reduceLT reduceLeDiff reduceAdd reduceMul)
open List (reduceReplicate)
set_option linter.unusedSimpArgs false
set_option linter.unusedVariables false
end Go.Proofs.YtpclnmleldeleaaGreatR
namespace Go.Proofs.YtpclnmleldeleaaGreatR
open Go Go.RowKit Go.Proofs
open Nat (reduceEqDiff reduceLT reduceLeDiff reduceAdd reduceMul)
open List (reduceReplicate)
set_option linter.unusedSimpArgs false
set_option linter.unusedVariables false
attribute [go_sem] eqB
def scriptInts (xs : List GOp) : List Int := xs.flatMap fun o => [o.Kind, o.A, o.B, o.C]
theorem scriptInts_snoc {l : List GOp} {k : Nat} {x : GOp} (h : l[k]? = some x) : scriptInts (l.take (k + 1)) = scriptInts (l.take k) ++ [x.Kind, x.A, x.B, x.C] := by
 rw [take_snoc h, scriptInts, List.flatMap_append]; rfl
theorem scriptInts_len {l : List GOp} : (scriptInts l).length = 4 * l.length := by
 induction l with
 | nil => rfl
 | cons x l ih => simp only [scriptInts, List.flatMap_cons, List.length_append, List.length_cons, List.length_nil] at ih ⊢; omega
def m_spec_ScriptInts : MC :=
(.seq (pr [.nilo 2 0 1] [0])
(.seq (pr [.lit 5 0 1 8 [], .mv 3 (.s 5)] [0,3])
(.seq (.seq (pr [.mv 4 (ci 0)] [0,3,4])
(.block 0 (.loop ([0,3,4], [1]) (.seq (.seq (pr [.mv 6 (.s 4), .mv 7 (.s 0), .len 8 false (.s 7), .bin 9 false .lss (.s 6) (.s 8)] [0,3,4,9])
(.cond (.s 9) .skip (.exit 0)))
(.seq (.block 1 (.dreg [Zf [13,14,15,16,17,18,19,20,21,22,23,24,25,26,27,28,29,30,31,32,33] [1] (.mv 12 (.s 3)), Zc [12,14,18,19,20,21,22,23,24,25,26,27,28,29,30,31,32] (.mv 13 (.s 0)), Zc [12,13,18,19,20,21,22,23,24,25,26,27,28,29,30,31,32] (.mv 14 (.s 4)), Zd [12,18,19,20,21,22,23,24,25,26,27,28,29,30,31,32] [1,2] (.idx 15 4 (.s 13) (.s 14)), Zd [12,18,19,20,21,22,23,24,25,26,27,28,29,30,31,32] [1,2,3] (.fld 16 (.s 15) 0), Zd [12,18,19,20,21,22,23,24,25,26,27,28,29,30,31,32] [1,2,3,4] (.load 17 false 1 (.s 16)), Zc [12,13,14,15,16,17,19,23,24,25,26,27,28,29,30,31,32] (.mv 18 (.s 0)), Zc [12,13,14,15,16,17,18,23,24,25,26,27,28,29,30,31,32] (.mv 19 (.s 4)), Zd [12,13,14,15,16,17,23,24,25,26,27,28,29,30,31,32] [6,7] (.idx 20 4 (.s 18) (.s 19)), Zd [12,13,14,15,16,17,23,24,25,26,27,28,29,30,31,32] [6,7,8] (.fld 21 (.s 20) 1), Zd [12,13,14,15,16,17,23,24,25,26,27,28,29,30,31,32] [6,7,8,9] (.load 22 false 1 (.s 21)), Zc [12,13,14,15,16,17,18,19,20,21,22,24,28,29,30,31,32] (.mv 23 (.s 0)), Zc [12,13,14,15,16,17,18,19,20,21,22,23,28,29,30,31,32] (.mv 24 (.s 4)), Zd [12,13,14,15,16,17,18,19,20,21,22,28,29,30,31,32] [11,12] (.idx 25 4 (.s 23) (.s 24)), Zd [12,13,14,15,16,17,18,19,20,21,22,28,29,30,31,32] [11,12,13] (.fld 26 (.s 25) 2), Zd [12,13,14,15,16,17,18,19,20,21,22,28,29,30,31,32] [11,12,13,14] (.load 27 false 1 (.s 26)), Zc [12,13,14,15,16,17,18,19,20,21,22,23,24,25,26,27,29] (.mv 28 (.s 0)), Zc [12,13,14,15,16,17,18,19,20,21,22,23,24,25,26,27,28] (.mv 29 (.s 4)), Zd [12,13,14,15,16,17,18,19,20,21,22,23,24,25,26,27] [16,17] (.idx 30 4 (.s 28) (.s 29)), Zd [12,13,14,15,16,17,18,19,20,21,22,23,24,25,26,27] [16,17,18] (.fld 31 (.s 30) 3), Zd [12,13,14,15,16,17,18,19,20,21,22,23,24,25,26,27] [16,17,18,19] (.load 32 false 1 (.s 31)), { o := .lit 33 1 1 8 [.s 17, .s 22, .s 27, .s 32], hs := [12], ws := [1], bf := [1,2,3,4,5,6,7,8,9,10,11,12,13,14,15,16,17,18,19,20] }, { o := .app 34 0 1 8 (.s 12) (.s 33), ws := [0], bf := (.range 22) }, Ze (.range 23) (.mv 3 (.s 34))] [0,3,4]))
(pr [.mv 10 (.s 4), .bin 11 false .add (.s 10) (ci 1), .mv 4 (.s 11)] [0,3,4]))))))
(.seq (pr [.mv 35 (.s 3), .mv 2 (.s 35)] [2])
.ret))))
theorem c_spec_ScriptInts (xs : List GOp) (hN : xs.length ≤ 1099511627776) : Ctr Tryz.prog n_spec_ScriptInts [aL 4 (xs.map GOp.enc)] [rL 1 ((scriptInts xs).map encI)] := by
 refine cA m_spec_ScriptInts 2 36 [(.tmp 2, [true])] Tryz.func217 rfl rfl ?_; unfold m_spec_ScriptInts
 intro hb
 simp only [bdA, bdL, bdT, bdR_map, roomB, and_true, List.length_map] at hb
 obtain ⟨hl, -⟩ := hb
 simp only [↓reduceIte, reduceEqDiff, reduceLT, reduceAdd, reduceMul, reduceCtorEq, go_sem]
 refine loopK_rng xs (fun k => [(3, .val false [.ref 0 0 1 0 (scriptInts (xs.take k)).length]), (4, vI k)]) (fun k => [(0, ⟨0, .row true 1 ((scriptInts (xs.take k)).map encI)⟩)]) (fun _ => True) hl ?_
 simp only [↓reduceIte, reduceEqDiff, reduceAdd, reduceCtorEq, go_sem]
 refine ⟨?_, trivial, ?_, ?_⟩
 ·simp only [↓reduceIte, reduceEqDiff, reduceLT, reduceCtorEq, go_sem, List.take_zero]
  exact ⟨rfl, rfl⟩
 ·intro k x hx _ h0 h1 hw
  have hlt := List.length_take_le k xs
  simp only [↓reduceIte, reduceEqDiff, reduceLT, reduceLeDiff, reduceAdd, reduceMul, reduceCtorEq, go_sem, bk_eq hx, h0, h1, hw, scriptInts_snoc hx, List.length_append, scriptInts_len]
  refine ⟨⟨by simp, by decide⟩, by simp only [roomB]; omega, by simp [encI]⟩
 ·intro _
  simp only [↓reduceIte, reduceEqDiff, reduceLT, reduceCtorEq, go_sem, List.take_length]
end Go.Proofs.YtpclnmleldeleaaGreatR
namespace Go.Proofs.YtpclnmleldeleaaGreatR
open Go Go.RowKit Go.Proofs
open Nat (reduceEqDiff reduceLT reduceLeDiff reduceAdd reduceMul)
open List (reduceReplicate)
set_option linter.unusedSimpArgs false
set_option linter.unusedVariables false
def modP (v : Int) : Int := (IntKind.i64.wrap (v.tmod 2147483647 + 2147483647)).tmod 2147483647
def hstep (h v : Int) : Int := (IntKind.i64.wrap (IntKind.i64.wrap (IntKind.i64.wrap (h * 1000003) + modP v) + 13)).tmod 2147483647
def hashL (l : List Int) : Int := l.foldl hstep 11
theorem hashL_snoc {l : List Int} {k : Nat} {x : Int} (h : l[k]? = some x) : hashL (l.take (k + 1)) = hstep (hashL (l.take k)) x := by
 rw [take_snoc h, hashL, List.foldl_append]; rfl
theorem modulus_ne : ¬ (2147483647 : Int) = 0 := by decide
def m_spec_Mod : MC :=
(.seq (pr [.mv 4 (ci 0)] [0,1])
(.seq (.seq (pr [.mv 5 (.s 1), .call 6 [] (.f n_spec_l1In) [.s 5, .c (.int .i64 1), .c (.int .i64 1000000000000)], .un 7 .not (.s 6)] [0,1,7])
(.cond (.s 7) (.seq (pr [.mv 4 (ci 0)] [4])
.ret) .skip))
(.seq (pr [.mv 8 (.s 0), .mv 9 (.s 1), .bin 10 false .rem (.s 8) (.s 9), .mv 11 (.s 1), .bin 12 false .add (.s 10) (.s 11), .mv 13 (.s 1), .bin 14 false .rem (.s 12) (.s 13), .mv 4 (.s 14)] [4])
.ret)))
theorem c_spec_Mod (v : Int) : Ctr Tryz.prog n_spec_Mod [aI v, aI 2147483647] [rI (modP v)] := by
 refine cA m_spec_Mod 0 15 [(.tmp 4, [false])] Tryz.func242 rfl rfl ?_; unfold m_spec_Mod
 intro hb
 clear hb
 simp only [↓reduceIte, reduceEqDiff, reduceLT, reduceCtorEq, go_sem]
 apply callK_of (c_spec_l1In _ _ _)
 simp only [↓reduceIte, reduceEqDiff, reduceLT, reduceCtorEq, go_sem, modulus_ne]
 refine And.intro ?_ ?_ <;> intro h
 ·exact absurd (by decide) h
 ·rfl
def m_spec_Hash : MC :=
(.seq (pr [.mv 2 (ci 0)] [0])
(.seq (pr [.mv 3 (ci 11)] [0,3])
(.seq (.seq (pr [.mv 4 (ci 0)] [0,3,4])
(.block 0 (.loop ([0,3,4], []) (.seq (.seq (pr [.mv 5 (.s 4), .mv 6 (.s 0), .len 7 false (.s 6), .bin 8 false .lss (.s 5) (.s 7)] [0,3,4,8])
(.cond (.s 8) .skip (.exit 0)))
(.seq (.block 1 (pr [.mv 11 (.s 3), .bin 12 false .mul (.s 11) (ci 1000003), .mv 13 (.s 0), .mv 14 (.s 4), .idx 15 1 (.s 13) (.s 14), .load 16 false 1 (.s 15), .call 17 [] (.f n_spec_Mod) [.s 16, .c (.int .i64 2147483647)], .bin 18 false .add (.s 12) (.s 17), .bin 19 false .add (.s 18) (ci 13), .bin 20 false .rem (.s 19) (ci 2147483647), .mv 3 (.s 20)] [0,3,4]))
(pr [.mv 9 (.s 4), .bin 10 false .add (.s 9) (ci 1), .mv 4 (.s 10)] [0,3,4]))))))
(.seq (pr [.mv 21 (.s 3), .mv 2 (.s 21)] [2])
.ret))))
theorem c_spec_Hash (l : List Int) : Ctr Tryz.prog n_spec_Hash [aL 1 (l.map encI)] [rI (hashL l)] := by
 refine cA m_spec_Hash 0 22 [(.tmp 2, [false])] Tryz.func192 rfl rfl ?_; unfold m_spec_Hash
 intro hb
 simp only [bdA, bdL, bdT, bdR_map, roomB, and_true, List.length_map] at hb
 have hl := hb.1
 clear hb
 simp only [↓reduceIte, reduceEqDiff, reduceLT, reduceCtorEq, go_sem]
 refine loopK_rng l (fun k => [(3, vI (hashL (l.take k))), (4, vI k)]) (fun k => []) (fun _ => True) hl ?_
 simp only [↓reduceIte, reduceEqDiff, reduceCtorEq, go_sem]
 refine ⟨?_, trivial, ?_, ?_⟩
 ·simp only [↓reduceIte, reduceEqDiff, reduceLT, reduceCtorEq, go_sem, List.take_zero]
  rfl
 ·intro k x hx _ h0 h1 hw
  simp only [↓reduceIte, reduceEqDiff, reduceLT, reduceCtorEq, go_sem, bk_eq hx, h0, h1, hashL_snoc hx]
  apply callK_of (c_spec_Mod _)
  simp only [↓reduceIte, reduceEqDiff, reduceLT, reduceCtorEq, go_sem, hw, modulus_ne]
  try intro _
  rfl
 ·intro _
  simp only [↓reduceIte, reduceEqDiff, reduceLT, reduceCtorEq, go_sem, List.take_length]
def rootF : Nat → List Int → Int
 | 0, _ => 0
 | n + 1, l => match l with
  | [] => 0
  | [x] => x
  | x :: y :: l => hashL [rootF n ((x :: y :: l).take ((l.length + 3) / 2)), rootF n ((x :: y :: l).drop ((l.length + 3) / 2))]
theorem rootF_more : ∀ {n m : Nat} {l : List Int}, l.length ≤ n → l.length ≤ m → rootF n l = rootF m l
 | 0, 0, _, _, _ => rfl
 | 0, m + 1, l, h, _ => by
  obtain rfl : l = [] := List.length_eq_zero_iff.1 (by omega)
  rfl
 | n + 1, 0, l, _, h => by
  obtain rfl : l = [] := List.length_eq_zero_iff.1 (by omega)
  rfl
 | n + 1, m + 1, [], _, _ => rfl
 | n + 1, m + 1, [x], _, _ => rfl
 | n + 1, m + 1, x :: y :: l, h, k => by
  simp only [List.length_cons] at h k
  simp only [rootF]
  rw [rootF_more (n := n) (m := m) (by rw [List.length_take]; simp only [List.length_cons]; omega) (by rw [List.length_take]; simp only [List.length_cons]; omega), rootF_more (n := n) (m := m) (l := (x :: y :: l).drop _) (by rw [List.length_drop]; simp only [List.length_cons]; omega) (by rw [List.length_drop]; simp only [List.length_cons]; omega)]
def rootL (l : List Int) : Int := rootF l.length l
theorem rootF_two {n x y : _} {l : List Int} : rootF (n + 1) (x :: y :: l) = hashL [rootF n ((x :: y :: l).take ((l.length + 3) / 2)), rootF n ((x :: y :: l).drop ((l.length + 3) / 2))] := rfl
theorem rootL_two {l : List Int} (h : 2 ≤ l.length) : rootL l = hashL [rootL (l.take ((l.length + 1) / 2)), rootL (l.drop ((l.length + 1) / 2))] := by
 match l, h with
 | x :: y :: l, h =>
  have e : (x :: y :: l).length + 1 = l.length + 3 := by simp
  rw [e]
  unfold rootL
  rw [show (x :: y :: l).length = (l.length + 1) + 1 from by simp, rootF_two]
  rw [rootF_more (n := l.length + 1) (l := (x :: y :: l).take _) (by rw [List.length_take]; simp only [List.length_cons]; omega) (Nat.le_refl _), rootF_more (n := l.length + 1) (l := (x :: y :: l).drop _) (by rw [List.length_drop]; simp only [List.length_cons]; omega) (Nat.le_refl _)]
theorem two_ne : ¬ (2 : Int) = 0 := by decide
theorem cut_lo {α : Type} {f : α → List T} {l : List α} {m : Nat} (h : m ≤ l.length) : (if ((m : Int) - 0).toNat = l.length then l.map f else List.take ((m : Int) - 0).toNat (l.map f)) = (l.take m).map f := by
 rw [show ((m : Int) - 0).toNat = m by omega]
 split
 ·rename_i e; rw [List.take_of_length_le (by omega)]
 ·rw [List.map_take]
theorem cut_hi {α : Type} {f : α → List T} {l : List α} {m : Nat} (h : m ≤ l.length) : (if m = 0 ∧ ((l.length : Int) - (m : Int)).toNat = l.length then l.map f else List.take ((l.length : Int) - (m : Int)).toNat (List.drop m (l.map f))) = (l.drop m).map f := by
 rw [show ((l.length : Int) - (m : Int)).toNat = l.length - m by omega]
 split
 ·rename_i e; rw [e.1]; rfl
 ·rw [List.take_of_length_le (by simp), List.map_drop]
def m_spec_RootOf : MC :=
(.seq (pr [.mv 2 (ci 0)] [0])
(.seq (.seq (pr [.mv 4 (.s 0), .len 5 false (.s 4)] [0,5])
(.block 0 (.seq (pr [.bin 7 false .eql (.s 5) (ci 0), .mv 6 (.s 7)] [0,5,6])
(.cond (.s 6) (.seq (pr [.mv 2 (ci 0)] [2])
.ret) (.seq (pr [.bin 9 false .eql (.s 5) (ci 1), .mv 8 (.s 9)] [0,8])
(.cond (.s 8) (.seq (pr [.mv 10 (.s 0), .idx 11 1 (.s 10) (ci 0), .load 12 false 1 (.s 11), .mv 2 (.s 12)] [2])
.ret) .skip))))))
(.seq (pr [.mv 13 (.s 0), .len 14 false (.s 13), .bin 15 false .add (.s 14) (ci 1), .bin 16 false .quo (.s 15) (ci 2), .mv 3 (.s 16)] [0,3])
(.seq (.dreg [Zc [18,21,22,23] (.mv 17 (.s 0)), Zc [17,21,22,23] (.mv 18 (.s 3)), Zd [21,22,23] [0,1] (.slc 19 1 (.s 17) none (some (.s 18)) none), Zd [21,22,23] [0,1,2] (.call 20 [] (.f n_spec_RootOf) [.s 19]), Zc [17,18,19,20,22] (.mv 21 (.s 0)), Zc [17,18,19,20,21] (.mv 22 (.s 3)), Zd [17,18,19,20] [4,5] (.slc 23 1 (.s 21) (some (.s 22)) none none), Ze (.range 7) (.call 24 [] (.f n_spec_RootOf) [.s 23]), { o := .lit 25 0 1 8 [.s 20, .s 24], ws := [0], bf := (.range 8) }, Ze (.range 9) (.call 26 [] (.f n_spec_Hash) [.s 25]), Ze (.range 10) (.mv 2 (.s 26))] [2])
.ret))))
theorem c_spec_RootOf (n : Nat) : ∀ (l : List Int), l.length ≤ n → Ctr Tryz.prog n_spec_RootOf [aL 1 (l.map encI)] [rI (rootL l)] := by
 induction n with
 | zero =>
  intro l hn
  obtain rfl : l = [] := List.length_eq_zero_iff.1 (by omega)
  refine cA m_spec_RootOf 1 27 [(.tmp 2, [false])] Tryz.func216 rfl rfl ?_; unfold m_spec_RootOf
  intro hb
  clear hb
  simp only [↓reduceIte, reduceEqDiff, reduceLT, reduceCtorEq, go_sem]
  rfl
 | succ n ih =>
  intro l hn
  refine cA m_spec_RootOf 1 27 [(.tmp 2, [false])] Tryz.func216 rfl rfl ?_; unfold m_spec_RootOf
  intro hb
  simp only [bdA, bdL, bdT, bdR_map, roomB, and_true, List.length_map] at hb
  have hl := hb.1
  clear hb
  have hM1 : IntKind.i64.wrap ((l.length : Int) + 1) = ((l.length + 1 : Nat) : Int) := by rw [wI (by omega) (by omega)]; omega
  have hM2 : ((l.length + 1 : Nat) : Int).tdiv 2 = (((l.length + 1) / 2 : Nat) : Int) := rfl
  have hM3 : IntKind.i64.wrap ((((l.length + 1) / 2 : Nat) : Int)) = (((l.length + 1) / 2 : Nat) : Int) := wI (by omega) (by omega)
  simp only [↓reduceIte, reduceEqDiff, reduceLT, reduceCtorEq, go_sem, two_ne, hM1, hM2, hM3]
  refine And.intro ?_ ?_ <;> intro h
  ·obtain rfl : l = [] := List.length_eq_zero_iff.1 (by omega)
   rfl
  refine And.intro ?_ ?_ <;> intro h2
  ·match l, h2 with
   | [x], _ => simp only [go_sem]; exact ⟨by simp, rfl⟩
   | x :: y :: l, h2 => simp at h2; omega
  ·generalize hm : (l.length + 1) / 2 = m at *
   rw [cut_lo (by omega)]
   refine ⟨⟨by omega, by omega, by omega⟩, ?_⟩
   apply callK_of (ih _ (by rw [List.length_take]; omega))
   simp only [↓reduceIte, reduceEqDiff, reduceLT, reduceCtorEq, go_sem]
   rw [cut_hi (by omega)]
   intros
   refine ⟨⟨by omega, by omega⟩, ?_⟩
   apply callK_of (ih _ (by rw [List.length_drop]; omega))
   simp only [↓reduceIte, reduceEqDiff, reduceLT, reduceAdd, reduceMul, reduceCtorEq, go_sem]
   refine ⟨by decide, ?_⟩
   apply callK_of (c_spec_Hash [rootL (l.take m), rootL (l.drop m)])
   simp only [↓reduceIte, reduceEqDiff, reduceLT, reduceCtorEq, go_sem]
   intros
   rw [rootL_two (l := l) (by omega), hm]
end Go.Proofs.YtpclnmleldeleaaGreatR
namespace Go.Proofs.YtpclnmleldeleaaGreatR
open Go Go.RowKit Go.Proofs
open Nat (reduceEqDiff reduceLT reduceLeDiff reduceAdd reduceMul)
open List (reduceReplicate)
set_option linter.unusedSimpArgs false
set_option linter.unusedVariables false
def resInts (r : GResource) : List Int := [r.Kind, r.To.Host, r.To.Path, r.To.Query, r.Body.length] ++ r.Body
def capInts (c : GCapture) : List Int := [c.Address.Host, c.Address.Path, c.Address.Query, c.Tick] ++ resInts c.Resource
theorem resInts_len (r : GResource) : (resInts r).length = 5 + r.Body.length := by simp [resInts]; omega
def m_spec_ResourceInts : MC :=
(.seq (pr [.box 1 0 (.s 0), .nilo 2 1 1] [1])
(.seq (pr [.fld 3 (.s 1) 0, .load 4 false 1 (.s 3), .fld 5 (.s 1) 2, .fld 6 (.s 5) 0, .load 7 false 1 (.s 6), .fld 8 (.s 1) 2, .fld 9 (.s 8) 1, .load 10 false 1 (.s 9), .fld 11 (.s 1) 2, .fld 12 (.s 11) 2, .load 13 false 1 (.s 12), .fld 14 (.s 1) 1, .load 15 false 1 (.s 14), .len 16 false (.s 15), .lit 17 1 1 8 [.s 4, .s 7, .s 10, .s 13, .s 16], .fld 18 (.s 1) 1, .load 19 false 1 (.s 18), .app 20 1 1 8 (.s 17) (.s 19), .mv 2 (.s 20)] [2])
.ret))
theorem c_spec_ResourceInts (r : GResource) (hs : r.Body.length ≤ 1073741824) : Ctr Tryz.prog n_spec_ResourceInts [aS r.enc] [rL 1 ((resInts r).map encI)] := by
 refine cA m_spec_ResourceInts 2 21 [(.tmp 2, [true])] Tryz.func193 rfl rfl ?_; unfold m_spec_ResourceInts
 intro hb
 clear hb
 simp only [↓reduceIte, reduceEqDiff, reduceLT, reduceLeDiff, reduceAdd, reduceMul, reduceCtorEq, go_sem, ↓flat_of (f := encI) (fun _ => rfl) r.Body]
 simp only [roomB]
 refine ⟨by decide, by omega, ?_⟩
 simp [resInts, encI]
 omega
def m_spec_CaptureInts : MC :=
(.seq (pr [.box 1 0 (.s 0), .nilo 2 1 1] [1])
(.seq (.dreg [Zf [6,7,8,9,10,11,12,13,15,16,17] [2] (.fld 3 (.s 1) 0), Zg [6,7,8,9,10,11,12,13,15,16,17] [2] [0] (.fld 4 (.s 3) 0), Zg [6,7,8,9,10,11,12,13,15,16,17] [2] [0,1] (.load 5 false 1 (.s 4)), Zf [3,4,5,9,10,11,12,13,15,16,17] [2] (.fld 6 (.s 1) 0), Zg [3,4,5,9,10,11,12,13,15,16,17] [2] [3] (.fld 7 (.s 6) 1), Zg [3,4,5,9,10,11,12,13,15,16,17] [2] [3,4] (.load 8 false 1 (.s 7)), Zf [3,4,5,6,7,8,12,13,15,16,17] [2] (.fld 9 (.s 1) 0), Zg [3,4,5,6,7,8,12,13,15,16,17] [2] [6] (.fld 10 (.s 9) 2), Zg [3,4,5,6,7,8,12,13,15,16,17] [2] [6,7] (.load 11 false 1 (.s 10)), Zf [3,4,5,6,7,8,9,10,11,15,16,17] [2] (.fld 12 (.s 1) 3), Zg [3,4,5,6,7,8,9,10,11,15,16,17] [2] [9] (.load 13 false 1 (.s 12)), { o := .lit 14 1 1 8 [.s 5, .s 8, .s 11, .s 13], hs := [15,16,17], ho := [2], ws := [1], bf := (.range 11) }, Zf [3,4,5,6,7,8,9,10,11,12,13,14] [1] (.fld 15 (.s 1) 4), Zg [3,4,5,6,7,8,9,10,11,12,13,14] [1] [12] (.load 16 true 5 (.s 15)), { o := .call 17 [2] (.f n_spec_ResourceInts) [.s 16], hs := [3,4,5,6,7,8,9,10,11,12,13,14], ho := [1], ws := [2], bf := [12,13] }, { o := .app 18 1 1 8 (.s 14) (.s 17), ws := [1], bf := (.range 15) }, Ze (.range 16) (.mv 2 (.s 18))] [2])
.ret))
theorem c_spec_CaptureInts (c : GCapture) (hs : c.Resource.Body.length ≤ 1073741824) : Ctr Tryz.prog n_spec_CaptureInts [aS c.enc] [rL 1 ((capInts c).map encI)] := by
 refine cA m_spec_CaptureInts 3 19 [(.tmp 2, [true])] Tryz.func258 rfl rfl ?_; unfold m_spec_CaptureInts
 intro hb
 clear hb
 simp only [↓reduceIte, reduceEqDiff, reduceLT, reduceLeDiff, reduceAdd, reduceMul, reduceCtorEq, go_sem]
 refine ⟨by decide, ?_⟩
 apply callK_of (c_spec_ResourceInts c.Resource hs)
 simp only [↓reduceIte, reduceEqDiff, reduceLT, reduceAdd, reduceCtorEq, go_sem, ↓flat_of (f := encI) (fun _ => rfl) (resInts c.Resource), resInts_len]
 simp only [roomB]
 exact ⟨by omega, fun _ => ⟨by omega, by simp [capInts, encI]⟩⟩
def entInts (l : List GEntry) : List Int := l.flatMap fun e => [e.Kind, e.Address.Host, e.Address.Path, e.Address.Query, e.Value]
theorem entInts_snoc {l : List GEntry} {k : Nat} {x : GEntry} (h : l[k]? = some x) : entInts (l.take (k + 1)) = entInts (l.take k) ++ [x.Kind, x.Address.Host, x.Address.Path, x.Address.Query, x.Value] := by
 rw [take_snoc h, entInts, List.flatMap_append]; rfl
theorem entInts_len {l : List GEntry} : (entInts l).length = 5 * l.length := by
 induction l with
 | nil => rfl
 | cons x l ih => simp only [entInts, List.flatMap_cons, List.length_append, List.length_cons, List.length_nil] at ih ⊢; omega
def m_spec_l30Entries : MC :=
(.seq (pr [.nilo 2 0 1] [0])
(.seq (pr [.lit 6 0 1 8 [], .mv 3 (.s 6)] [0,3])
(.seq (.seq (pr [.mv 4 (ci 0)] [0,3,4])
(.block 0 (.loop ([0,3,4], [1,2]) (.seq (.seq (pr [.mv 7 (.s 4), .mv 8 (.s 0), .len 9 false (.s 8), .bin 10 false .lss (.s 7) (.s 9)] [0,3,4,10])
(.cond (.s 10) .skip (.exit 0)))
(.seq (.block 1 (.seq (pr [.mv 13 (.s 0), .mv 14 (.s 4), .idx 15 5 (.s 13) (.s 14), .load 16 true 5 (.s 15), .alloc 5 1 [pz, pz, pz, pz, pz], .store 5 (.s 5) (.s 16)] [0,3,4,5])
(pr [.mv 17 (.s 3), .fld 18 (.s 5) 0, .load 19 false 1 (.s 18), .fld 20 (.s 5) 1, .fld 21 (.s 20) 0, .load 22 false 1 (.s 21), .fld 23 (.s 5) 1, .fld 24 (.s 23) 1, .load 25 false 1 (.s 24), .fld 26 (.s 5) 1, .fld 27 (.s 26) 2, .load 28 false 1 (.s 27), .fld 29 (.s 5) 4, .load 30 false 1 (.s 29), .lit 31 2 1 8 [.s 19, .s 22, .s 25, .s 28, .s 30], .app 32 0 1 8 (.s 17) (.s 31), .mv 3 (.s 32)] [0,3,4])))
(pr [.mv 11 (.s 4), .bin 12 false .add (.s 11) (ci 1), .mv 4 (.s 12)] [0,3,4]))))))
(.seq (pr [.mv 33 (.s 3), .mv 2 (.s 33)] [2])
.ret))))
theorem c_spec_l30Entries (xs : List GEntry) (hN : xs.length ≤ 1073741824) : Ctr Tryz.prog n_spec_l30Entries [aL 5 (xs.map GEntry.enc)] [rL 1 ((entInts xs).map encI)] := by
 refine cA m_spec_l30Entries 3 34 [(.tmp 2, [true])] Tryz.func218 rfl rfl ?_; unfold m_spec_l30Entries
 intro hb
 simp only [bdA, bdL, bdT, bdR_map, roomB, and_true, List.length_map] at hb
 obtain ⟨hl, -⟩ := hb
 simp only [↓reduceIte, reduceEqDiff, reduceLT, reduceAdd, reduceMul, reduceCtorEq, go_sem]
 refine loopK_rng xs (fun k => [(3, .val false [.ref 0 0 1 0 (entInts (xs.take k)).length]), (4, vI k)]) (fun k => [(0, ⟨0, .row true 1 ((entInts (xs.take k)).map encI)⟩)]) (fun _ => True) hl ?_
 simp only [↓reduceIte, reduceEqDiff, reduceAdd, reduceCtorEq, go_sem]
 refine ⟨?_, trivial, ?_, ?_⟩
 ·simp only [↓reduceIte, reduceEqDiff, reduceLT, reduceCtorEq, go_sem, List.take_zero]
  exact ⟨rfl, rfl⟩
 ·intro k x hx _ h0 h1 hw
  have hlt := List.length_take_le k xs
  simp only [↓reduceIte, reduceEqDiff, reduceLT, reduceLeDiff, reduceAdd, reduceMul, reduceCtorEq, go_sem, bk_eq hx, h0, h1, hw, entInts_snoc hx, List.length_append, entInts_len]
  refine ⟨⟨by simp, by decide⟩, by simp only [roomB]; omega, by simp [encI]⟩
 ·intro _
  simp only [↓reduceIte, reduceEqDiff, reduceLT, reduceCtorEq, go_sem, List.take_length]
def capHashes (l : List GCapture) : List Int := l.map fun c => hashL (capInts c)
theorem capHashes_snoc {l : List GCapture} {k : Nat} {x : GCapture} (h : l[k]? = some x) : capHashes (l.take (k + 1)) = capHashes (l.take k) ++ [hashL (capInts x)] := by
 rw [take_snoc h, capHashes, List.map_append]; rfl
theorem capHashes_len {l : List GCapture} : (capHashes l).length = l.length := by simp [capHashes]
theorem body_le {xs : List GCapture} {x : GCapture} {k : Nat} {n : Nat} (hx : xs[k]? = some x) (hs : xs.length + (xs.map GCapture.size).sum ≤ n) : x.Resource.Body.length ≤ n := by
 have hx1 := mem_sum (f := GCapture.size) (at_mem hx)
 simp only [GCapture.size, GResource.size] at hx1 hs
 omega
def m_spec_l30Captures : MC :=
(.seq (pr [.nilo 2 0 1] [0])
(.seq (pr [.lit 5 0 1 8 [], .mv 3 (.s 5)] [0,3])
(.seq (.seq (pr [.mv 4 (ci 0)] [0,3,4])
(.block 0 (.loop ([0,3,4], [1,2]) (.seq (.seq (pr [.mv 6 (.s 4), .mv 7 (.s 0), .len 8 false (.s 7), .bin 9 false .lss (.s 6) (.s 8)] [0,3,4,9])
(.cond (.s 9) .skip (.exit 0)))
(.seq (.block 1 (pr [.mv 12 (.s 3), .mv 13 (.s 0), .mv 14 (.s 4), .idx 15 9 (.s 13) (.s 14), .load 16 true 9 (.s 15), .call 17 [1] (.f n_spec_CaptureInts) [.s 16], .call 18 [] (.f n_spec_Hash) [.s 17], .lit 19 2 1 8 [.s 18], .app 20 0 1 8 (.s 12) (.s 19), .mv 3 (.s 20)] [0,3,4]))
(pr [.mv 10 (.s 4), .bin 11 false .add (.s 10) (ci 1), .mv 4 (.s 11)] [0,3,4]))))))
(.seq (pr [.mv 21 (.s 3), .mv 2 (.s 21)] [2])
.ret))))
theorem c_spec_l30Captures (xs : List GCapture) (hs : xs.length + (xs.map GCapture.size).sum ≤ 1073741824) : Ctr Tryz.prog n_spec_l30Captures [aL 9 (xs.map GCapture.enc)] [rL 1 ((capHashes xs).map encI)] := by
 refine cA m_spec_l30Captures 3 22 [(.tmp 2, [true])] Tryz.func219 rfl rfl ?_; unfold m_spec_l30Captures
 intro hb
 clear hb
 simp only [↓reduceIte, reduceEqDiff, reduceLT, reduceAdd, reduceMul, reduceCtorEq, go_sem]
 refine loopK_rng xs (fun k => [(3, .val false [.ref 0 0 1 0 (capHashes (xs.take k)).length]), (4, vI k)]) (fun k => [(0, ⟨0, .row true 1 ((capHashes (xs.take k)).map encI)⟩)]) (fun _ => True) (by simp only [roomB]; omega) ?_
 simp only [↓reduceIte, reduceEqDiff, reduceAdd, reduceCtorEq, go_sem]
 refine ⟨?_, trivial, ?_, ?_⟩
 ·simp only [↓reduceIte, reduceEqDiff, reduceLT, reduceCtorEq, go_sem, List.take_zero]
  exact ⟨rfl, rfl⟩
 ·intro k x hx _ h0 h1 hw
  have hlt := List.length_take_le k xs
  simp only [↓reduceIte, reduceEqDiff, reduceLT, reduceAdd, reduceCtorEq, go_sem, bk_eq hx, h0, h1, capHashes_snoc hx, List.length_append]
  apply callK_of (c_spec_CaptureInts x (body_le hx hs))
  simp only [↓reduceIte, reduceLT, reduceAdd, reduceCtorEq, go_sem]
  try intro _
  apply callK_of (c_spec_Hash (capInts x))
  simp only [↓reduceIte, reduceEqDiff, reduceLT, reduceAdd, reduceMul, reduceCtorEq, go_sem, hw]
  simp only [roomB, capHashes_len]
  exact ⟨by omega, by omega, fun _ => by simp [encI]⟩
 ·intro _
  simp only [↓reduceIte, reduceEqDiff, reduceLT, reduceCtorEq, go_sem, List.take_length]
def sealRoot (l : List GOp) (es : List GEntry) (cs : List GCapture) : Int := rootL [hashL (scriptInts l), hashL (entInts es), rootL (capHashes cs)]
def m_spec_SealContainer : MC :=
(.seq (pr [.alloc 6 0 [.emp 4, .emp 5, .emp 9, pz]] [0,1,2,6])
(.seq (pr [.lit 8 1 4 32 [], .mv 9 (.s 0), .app 10 1 4 32 (.s 8) (.s 9), .lit 11 2 5 40 [], .mv 12 (.s 1), .app 13 2 5 40 (.s 11) (.s 12), .mv 14 (.s 2), .call 15 [3] (.f n_spec_l15Copy) [.s 14], .build 16 [.emp 4, .emp 5, .emp 9, pz] [(0, 1, .s 10), (1, 1, .s 13), (2, 1, .s 15)], .alloc 7 4 [.emp 4, .emp 5, .emp 9, pz], .store 4 (.s 7) (.s 16)] [0,1,2,6,7])
(.seq (pr [.mv 17 (.s 0), .call 18 [5] (.f n_spec_ScriptInts) [.s 17], .call 19 [] (.f n_spec_Hash) [.s 18], .mv 20 (.s 1), .call 21 [6] (.f n_spec_l30Entries) [.s 20], .call 22 [] (.f n_spec_Hash) [.s 21], .mv 23 (.s 2), .call 24 [7] (.f n_spec_l30Captures) [.s 23], .call 25 [] (.f n_spec_RootOf) [.s 24], .lit 26 8 1 8 [.s 19, .s 22, .s 25], .call 27 [] (.f n_spec_RootOf) [.s 26], .fld 28 (.s 7) 3, .store 1 (.s 28) (.s 27)] [6,7])
(.seq (pr [.load 29 true 4 (.s 7), .store 4 (.s 6) (.s 29)] [6])
.ret))))
theorem c_spec_SealContainer (l : List GOp) (es : List GEntry) (cs : List GCapture) (h1 : l.length ≤ 1073741824) (h2 : es.length ≤ 1073741824) (hs : cs.length + (cs.map GCapture.size).sum ≤ 1073741824) :
  Ctr Tryz.prog n_spec_SealContainer [aL 4 (l.map GOp.enc), aL 5 (es.map GEntry.enc), aL 9 (cs.map GCapture.enc)] [rS (GContainer.enc ⟨l, es, cs, sealRoot l es cs⟩)] := by
 refine cA m_spec_SealContainer 9 30 [(.cell 6 true 4, [true, true, true, false])] Tryz.func157 rfl rfl ?_; unfold m_spec_SealContainer
 intro hb
 clear hb
 simp only [↓reduceIte, reduceEqDiff, reduceLT, reduceAdd, reduceMul, reduceCtorEq, go_sem, ↓flat_of (f := GOp.enc) (fun _ => rfl) l, ↓flat_of (f := GEntry.enc) (fun _ => rfl) es]
 simp only [roomB]
 refine ⟨by omega, by omega, ?_⟩
 apply callK_of (c_spec_l15Copy cs hs)
 simp only [↓reduceIte, reduceEqDiff, reduceLT, reduceLeDiff, reduceAdd, reduceCtorEq, go_sem]
 intros
 apply callK_of (c_spec_ScriptInts l (by omega))
 simp only [↓reduceIte, reduceLT, reduceAdd, reduceCtorEq, go_sem]
 apply callK_of (c_spec_Hash (scriptInts l))
 simp only [↓reduceIte, reduceEqDiff, reduceLT, reduceCtorEq, go_sem]
 apply callK_of (c_spec_l30Entries es h2)
 simp only [↓reduceIte, reduceLT, reduceAdd, reduceCtorEq, go_sem]
 apply callK_of (c_spec_Hash (entInts es))
 simp only [↓reduceIte, reduceEqDiff, reduceLT, reduceCtorEq, go_sem]
 apply callK_of (c_spec_l30Captures cs hs)
 simp only [↓reduceIte, reduceLT, reduceAdd, reduceCtorEq, go_sem]
 apply callK_of (c_spec_RootOf _ (capHashes cs) (Nat.le_refl _))
 simp only [↓reduceIte, reduceEqDiff, reduceLT, reduceAdd, reduceMul, go_sem]
 refine ⟨by decide, ?_⟩
 apply callK_of (c_spec_RootOf _ [hashL (scriptInts l), hashL (entInts es), rootL (capHashes cs)] (Nat.le_refl _))
 simp only [↓reduceIte, reduceEqDiff, reduceLT, reduceAdd, reduceCtorEq, go_sem]
 intros
 rfl
def m_spec_l30Copy : MC :=
(.seq (pr [.box 1 0 (.s 0), .alloc 2 1 [.emp 4, .emp 5, .emp 9, pz]] [1,2])
(.seq (pr [.fld 4 (.s 1) 0, .load 5 false 1 (.s 4), .fld 6 (.s 1) 1, .load 7 false 1 (.s 6), .fld 8 (.s 1) 2, .load 9 false 1 (.s 8), .call 10 [2, 3, 4] (.f n_spec_SealContainer) [.s 5, .s 7, .s 9], .alloc 3 5 [.emp 4, .emp 5, .emp 9, pz], .store 4 (.s 3) (.s 10)] [1,2,3])
(.seq (pr [.fld 11 (.s 1) 3, .load 12 false 1 (.s 11), .fld 13 (.s 3) 3, .store 1 (.s 13) (.s 12)] [2,3])
(.seq (pr [.load 14 true 4 (.s 3), .store 4 (.s 2) (.s 14)] [2])
.ret))))
theorem c_spec_l30Copy (x : GContainer) (hs : x.size ≤ 1073741824) : Ctr Tryz.prog n_spec_l30Copy [aS x.enc] [rS x.enc] := by
 refine cA m_spec_l30Copy 6 15 [(.cell 2 true 4, [true, true, true, false])] Tryz.func161 rfl rfl ?_; unfold m_spec_l30Copy
 intro hb
 clear hb
 simp only [GContainer.size] at hs
 simp only [↓reduceIte, reduceEqDiff, reduceLT, reduceLeDiff, reduceAdd, reduceCtorEq, go_sem]
 apply callK_of (c_spec_SealContainer x.Script x.Entries x.Captures (by omega) (by omega) (by omega))
 simp only [↓reduceIte, reduceEqDiff, reduceLT, reduceAdd, reduceCtorEq, go_sem]
 try intros
 try trivial
def m_impl_copyContainers : MC :=
(.seq (pr [.nilo 2 0 4] [0])
(.seq (pr [.nilo 3 0 4] [0,3])
(.seq (.seq (pr [.mv 6 (.s 0), .len 7 false (.s 6), .mv 8 (ci 0)] [3,6,7,8])
(.block 0 (.loop ([3,6,7,8], [1,2,3,4,5]) (.seq (pr [.bin 9 false .lss (.s 8) (.s 7)] [3,6,7,8,9])
(.seq (.cond (.s 9) .skip (.exit 0))
(.seq (.block 1 (.seq (pr [.idx 10 4 (.s 6) (.s 8), .load 11 true 4 (.s 10), .alloc 5 1 [.emp 4, .emp 5, .emp 9, pz], .store 4 (.s 5) (.s 11)] [3,5,6,7,8])
(.dreg [Zf [13,14,15,16,17,18,19,20,21,22,23,24,25] [2,3,4,5] (.mv 12 (.s 3)), Zc [12,16,17,19,20,22,23] (.fld 13 (.s 5) 0), Zd [12,16,17,19,20,22,23] [1] (.load 14 false 1 (.s 13)), { o := .call 15 [2] (.f n_slices_Clone_impl_Op_impl_Op) [.s 14], hs := [12,16,17,19,20,22,23], ws := [2], bf := [1,2] }, Zf [12,13,14,15,19,20,22,23] [2] (.fld 16 (.s 5) 1), Zg [12,13,14,15,19,20,22,23] [2] [4] (.load 17 false 1 (.s 16)), { o := .call 18 [3] (.f n_slices_Clone_impl_Entry_impl_Entry) [.s 17], hs := [12,19,20,22,23], ws := [3], bf := [1,2,3,4,5] }, Zf [12,13,14,15,16,17,18,22,23] [2,3] (.fld 19 (.s 5) 2), Zg [12,13,14,15,16,17,18,22,23] [2,3] [7] (.load 20 false 1 (.s 19)), { o := .call 21 [4] (.f n_impl_copyCaptures) [.s 20], hs := [12,22,23], ws := [4], bf := [1,2,3,4,5,6,7,8] }, Zf [12,13,14,15,16,17,18,19,20,21] [2,3,4] (.fld 22 (.s 5) 3), Zg [12,13,14,15,16,17,18,19,20,21] [2,3,4] [10] (.load 23 false 1 (.s 22)), Zd [12] [1,2,3,4,5,6,7,8,9,10,11] (.build 24 [.emp 4, .emp 5, .emp 9, pz] [(0, 1, .s 15), (1, 1, .s 18), (2, 1, .s 21), (3, 1, .s 23)]), { o := .lit 25 5 4 80 [.s 24], hs := [12], ws := [2,3,4,5], bf := [1,2,3,4,5,6,7,8,9,10,11,12] }, { o := .app 26 0 4 80 (.s 12) (.s 25), ws := [0,5], bf := (.range 14) }, Ze (.range 15) (.mv 3 (.s 26))] [3,6,7,8])))
(pr [.bin 27 false .add (.s 8) (ci 1), .mv 8 (.s 27)] [3,6,7,8])))))))
(.seq (pr [.mv 28 (.s 3), .mv 2 (.s 28)] [2])
.ret))))
theorem c_impl_copyContainers (xs : List GContainer) (hs : xs.length + (xs.map GContainer.size).sum ≤ 1073741824) : Ctr Tryz.prog n_impl_copyContainers [aL 4 (xs.map GContainer.enc)] [rL 4 (xs.map GContainer.enc)] := by
 refine cA m_impl_copyContainers 6 29 [(.tmp 2, [true])] Tryz.func170 rfl rfl ?_; unfold m_impl_copyContainers
 intro hb
 clear hb
 simp only [↓reduceIte, reduceEqDiff, reduceLT, reduceAdd, reduceCtorEq, go_sem]
 refine loopK_rng xs (fun k => [(3, .val false [.ref 0 0 4 0 (xs.take k).length]), (8, vI k)]) (fun k => [(0, ⟨0, .row true 4 ((xs.take k).map GContainer.enc)⟩)]) (fun _ => True) (by simp only [roomB]; omega) ?_
 simp only [↓reduceIte, reduceEqDiff, reduceAdd, reduceCtorEq, go_sem]
 refine ⟨?_, trivial, ?_, ?_⟩
 ·simp only [↓reduceIte, reduceEqDiff, reduceLT, go_sem, List.take_zero]
 ·intro k x hx _ h0 h1 hw
  have hk : k < xs.length := by omega
  have hlt := List.length_take_le k xs
  have hx1 := mem_sum (f := GContainer.size) (at_mem hx)
  simp only [GContainer.size] at hx1
  simp only [↓reduceIte, reduceEqDiff, reduceLT, reduceLeDiff, reduceAdd, reduceCtorEq, go_sem, bk_eq hx, h0, h1]
  apply callK_of (c_slices_Clone_Op x.Script (by omega))
  simp only [↓reduceIte, reduceEqDiff, reduceLT, reduceLeDiff, reduceAdd, reduceCtorEq, go_sem]
  try intro _
  apply callK_of (c_slices_Clone_Entry x.Entries (by omega))
  simp only [↓reduceIte, reduceEqDiff, reduceLT, reduceLeDiff, reduceAdd, reduceCtorEq, go_sem]
  try intro _
  apply callK_of (c_impl_copyCaptures x.Captures (by omega))
  simp only [↓reduceIte, reduceEqDiff, reduceLT, reduceLeDiff, reduceAdd, reduceMul, reduceCtorEq, go_sem, hw]
  simp only [roomB]
  exact ⟨by omega, by omega, fun _ => ⟨snoc_len hx, snoc_map hx⟩⟩
 ·intro _
  simp only [↓reduceIte, reduceEqDiff, reduceLT, reduceCtorEq, go_sem, List.take_length]
def m_impl_copySite : MC :=
(.seq (pr [.nilo 2 0 9] [0])
(.seq (pr [.nilo 3 0 9] [0,3])
(.seq (.seq (pr [.mv 6 (.s 0), .len 7 false (.s 6), .mv 8 (ci 0)] [3,6,7,8])
(.block 0 (.loop ([3,6,7,8], [1,2,3]) (.seq (pr [.bin 9 false .lss (.s 8) (.s 7)] [3,6,7,8,9])
(.seq (.cond (.s 9) .skip (.exit 0))
(.seq (.block 1 (.seq (pr [.idx 10 9 (.s 6) (.s 8), .load 11 true 9 (.s 10), .alloc 5 1 [pz, pz, pz, pz, pz, .emp 1, pz, pz, pz], .store 9 (.s 5) (.s 11)] [3,5,6,7,8])
(.dreg [Zf [13,14,15,16,17,18,19,20,21] [2,3] (.mv 12 (.s 3)), Zf [12,15,16,17,18,19] [2] (.fld 13 (.s 5) 0), Zg [12,15,16,17,18,19] [2] [1] (.load 14 true 3 (.s 13)), Zf [12,13,14,17,18,19] [2] (.fld 15 (.s 5) 3), Zg [12,13,14,17,18,19] [2] [3] (.load 16 false 1 (.s 15)), Zc [12,13,14,15,16] (.fld 17 (.s 5) 4), Zd [12,13,14,15,16] [5] (.load 18 true 5 (.s 17)), { o := .call 19 [2] (.f n_impl_copyResource) [.s 18], hs := [12,13,14,15,16], ws := [2], bf := [5,6] }, Zd [12] [1,2,3,4,5,6,7] (.build 20 [pz, pz, pz, pz, pz, .emp 1, pz, pz, pz] [(0, 3, .s 14), (3, 1, .s 16), (4, 5, .s 19)]), { o := .lit 21 3 9 88 [.s 20], hs := [12], ws := [2,3], bf := [1,2,3,4,5,6,7,8] }, { o := .app 22 0 9 88 (.s 12) (.s 21), ws := [0,3], bf := (.range 10) }, Ze (.range 11) (.mv 3 (.s 22))] [3,6,7,8])))
(pr [.bin 23 false .add (.s 8) (ci 1), .mv 8 (.s 23)] [3,6,7,8])))))))
(.seq (pr [.mv 24 (.s 3), .mv 2 (.s 24)] [2])
.ret))))
theorem c_impl_copySite (xs : List GVersion) (hs : xs.length + (xs.map GVersion.size).sum ≤ 1073741824) : Ctr Tryz.prog n_impl_copySite [aL 9 (xs.map GVersion.enc)] [rL 9 (xs.map GVersion.enc)] := by
 refine cA m_impl_copySite 4 25 [(.tmp 2, [true])] Tryz.func68 rfl rfl ?_; unfold m_impl_copySite
 intro hb
 clear hb
 simp only [↓reduceIte, reduceEqDiff, reduceLT, reduceAdd, reduceCtorEq, go_sem]
 refine loopK_rng xs (fun k => [(3, .val false [.ref 0 0 9 0 (xs.take k).length]), (8, vI k)]) (fun k => [(0, ⟨0, .row true 9 ((xs.take k).map GVersion.enc)⟩)]) (fun _ => True) (by simp only [roomB]; omega) ?_
 simp only [↓reduceIte, reduceEqDiff, reduceAdd, reduceCtorEq, go_sem]
 refine ⟨?_, trivial, ?_, ?_⟩
 ·simp only [↓reduceIte, reduceEqDiff, reduceLT, go_sem, List.take_zero]
 ·intro k x hx _ h0 h1 hw
  have hk : k < xs.length := by omega
  have hlt := List.length_take_le k xs
  have hx1 := mem_sum (f := GVersion.size) (at_mem hx)
  simp only [↓reduceIte, reduceEqDiff, reduceLT, reduceLeDiff, reduceAdd, reduceCtorEq, go_sem, bk_eq hx, h0, h1]
  apply callK_of (c_impl_copyResource x.Resource (by simp only [GVersion.size, GResource.size] at hx1; omega))
  simp only [↓reduceIte, reduceEqDiff, reduceLT, reduceLeDiff, reduceAdd, reduceMul, reduceCtorEq, go_sem, hw]
  simp only [roomB]
  exact ⟨by omega, by omega, fun _ => ⟨snoc_len hx, snoc_map hx⟩⟩
 ·intro _
  simp only [↓reduceIte, reduceEqDiff, reduceLT, reduceCtorEq, go_sem, List.take_length]
def m_spec_l32Site : MC :=
(.seq (pr [.nilo 2 0 9] [0])
(.seq (pr [.lit 5 0 9 88 [], .mv 3 (.s 5)] [0,3])
(.seq (.seq (pr [.mv 4 (ci 0)] [0,3,4])
(.block 0 (.loop ([0,3,4], [1,2]) (.seq (.seq (pr [.mv 6 (.s 4), .mv 7 (.s 0), .len 8 false (.s 7), .bin 9 false .lss (.s 6) (.s 8)] [0,3,4,9])
(.cond (.s 9) .skip (.exit 0)))
(.seq (.block 1 (.dreg [Zf [13,14,15,16,17,18,19,20,21,22,23,24,25,26,27,28,29,30] [1,2] (.mv 12 (.s 3)), Zf [12,14,18,19,20,21,22,23,24,25,26,27,28] [1] (.mv 13 (.s 0)), Zf [12,13,18,19,20,21,22,23,24,25,26,27,28] [1] (.mv 14 (.s 4)), Zg [12,18,19,20,21,22,23,24,25,26,27,28] [1] [1,2] (.idx 15 9 (.s 13) (.s 14)), Zg [12,18,19,20,21,22,23,24,25,26,27,28] [1] [1,2,3] (.fld 16 (.s 15) 0), Zg [12,18,19,20,21,22,23,24,25,26,27,28] [1] [1,2,3,4] (.load 17 true 3 (.s 16)), Zf [12,13,14,15,16,17,19,23,24,25,26,27,28] [1] (.mv 18 (.s 0)), Zf [12,13,14,15,16,17,18,23,24,25,26,27,28] [1] (.mv 19 (.s 4)), Zg [12,13,14,15,16,17,23,24,25,26,27,28] [1] [6,7] (.idx 20 9 (.s 18) (.s 19)), Zg [12,13,14,15,16,17,23,24,25,26,27,28] [1] [6,7,8] (.fld 21 (.s 20) 3), Zg [12,13,14,15,16,17,23,24,25,26,27,28] [1] [6,7,8,9] (.load 22 false 1 (.s 21)), Zc [12,13,14,15,16,17,18,19,20,21,22,24] (.mv 23 (.s 0)), Zc [12,13,14,15,16,17,18,19,20,21,22,23] (.mv 24 (.s 4)), Zd [12,13,14,15,16,17,18,19,20,21,22] [11,12] (.idx 25 9 (.s 23) (.s 24)), Zd [12,13,14,15,16,17,18,19,20,21,22] [11,12,13] (.fld 26 (.s 25) 4), Zd [12,13,14,15,16,17,18,19,20,21,22] [11,12,13,14] (.load 27 true 5 (.s 26)), { o := .call 28 [1] (.f n_spec_l5Copy) [.s 27], hs := [12,13,14,15,16,17,18,19,20,21,22], ws := [1], bf := [11,12,13,14,15] }, Zd [12] [1,2,3,4,5,6,7,8,9,10,11,12,13,14,15,16] (.build 29 [pz, pz, pz, pz, pz, .emp 1, pz, pz, pz] [(0, 3, .s 17), (3, 1, .s 22), (4, 5, .s 28)]), { o := .lit 30 2 9 88 [.s 29], hs := [12], ws := [1,2], bf := [1,2,3,4,5,6,7,8,9,10,11,12,13,14,15,16,17] }, { o := .app 31 0 9 88 (.s 12) (.s 30), ws := [0,2], bf := (.range 19) }, Ze (.range 20) (.mv 3 (.s 31))] [0,3,4]))
(pr [.mv 10 (.s 4), .bin 11 false .add (.s 10) (ci 1), .mv 4 (.s 11)] [0,3,4]))))))
(.seq (pr [.mv 32 (.s 3), .mv 2 (.s 32)] [2])
.ret))))
theorem c_spec_l32Site (xs : List GVersion) (hs : xs.length + (xs.map GVersion.size).sum ≤ 1073741824) : Ctr Tryz.prog n_spec_l32Site [aL 9 (xs.map GVersion.enc)] [rL 9 (xs.map GVersion.enc)] := by
 refine cA m_spec_l32Site 3 33 [(.tmp 2, [true])] Tryz.func61 rfl rfl ?_; unfold m_spec_l32Site
 intro hb
 clear hb
 simp only [↓reduceIte, reduceEqDiff, reduceLT, reduceAdd, reduceMul, reduceCtorEq, go_sem]
 refine loopK_rng xs (fun k => [(3, .val false [.ref 0 0 9 0 (xs.take k).length]), (4, vI k)]) (fun k => [(0, ⟨0, .row true 9 ((xs.take k).map GVersion.enc)⟩)]) (fun _ => True) (by simp only [roomB]; omega) ?_
 simp only [↓reduceIte, reduceEqDiff, reduceAdd, reduceCtorEq, go_sem]
 refine ⟨?_, trivial, ?_, ?_⟩
 ·simp only [↓reduceIte, reduceEqDiff, reduceLT, reduceCtorEq, go_sem, List.take_zero]
 ·intro k x hx _ h0 h1 hw
  have hk : k < xs.length := by omega
  have hlt := List.length_take_le k xs
  have hx1 := mem_sum (f := GVersion.size) (at_mem hx)
  simp only [↓reduceIte, reduceEqDiff, reduceLT, reduceLeDiff, reduceAdd, reduceCtorEq, go_sem, bk_eq hx, h0, h1]
  apply callK_of (c_spec_l5Copy x.Resource (by simp only [GVersion.size, GResource.size] at hx1; omega))
  simp only [↓reduceIte, reduceEqDiff, reduceLT, reduceLeDiff, reduceAdd, reduceMul, reduceCtorEq, go_sem, hw]
  simp only [roomB]
  exact ⟨by omega, by omega, fun _ => ⟨snoc_len hx, snoc_map hx⟩⟩
 ·intro _
  simp only [↓reduceIte, reduceEqDiff, reduceLT, reduceCtorEq, go_sem, List.take_length]
def m_impl_copyLibraries : MC :=
(.seq (pr [.nilo 2 0 4] [0])
(.seq (pr [.nilo 3 0 4] [0,3])
(.seq (.seq (pr [.mv 6 (.s 0), .len 7 false (.s 6), .mv 8 (ci 0)] [3,6,7,8])
(.block 0 (.loop ([3,6,7,8], [1,2,3]) (.seq (pr [.bin 9 false .lss (.s 8) (.s 7)] [3,6,7,8,9])
(.seq (.cond (.s 9) .skip (.exit 0))
(.seq (.block 1 (.seq (pr [.idx 10 4 (.s 6) (.s 8), .load 11 true 4 (.s 10), .alloc 5 1 [pz, .emp 1, .pl (.sc (.bool false)), .pl (.sc (.bool false))], .store 4 (.s 5) (.s 11)] [3,5,6,7,8])
(.seq (pr [.fld 12 (.s 5) 1, .load 13 false 1 (.s 12), .call 14 [2] (.f n_slices_Clone_int_int) [.s 13], .fld 15 (.s 5) 1, .store 1 (.s 15) (.s 14)] [3,5,6,7,8])
(pr [.mv 16 (.s 3), .load 17 true 4 (.s 5), .lit 18 3 4 40 [.s 17], .app 19 0 4 40 (.s 16) (.s 18), .mv 3 (.s 19)] [3,6,7,8]))))
(pr [.bin 20 false .add (.s 8) (ci 1), .mv 8 (.s 20)] [3,6,7,8])))))))
(.seq (pr [.mv 21 (.s 3), .mv 2 (.s 21)] [2])
.ret))))
theorem c_impl_copyLibraries (xs : List GLibrary) (hs : xs.length + (xs.map GLibrary.size).sum ≤ 1073741824) : Ctr Tryz.prog n_impl_copyLibraries [aL 4 (xs.map GLibrary.enc)] [rL 4 (xs.map GLibrary.enc)] := by
 refine cA m_impl_copyLibraries 4 22 [(.tmp 2, [true])] Tryz.func137 rfl rfl ?_; unfold m_impl_copyLibraries
 intro hb
 clear hb
 simp only [↓reduceIte, reduceEqDiff, reduceLT, reduceAdd, reduceCtorEq, go_sem]
 refine loopK_rng xs (fun k => [(3, .val false [.ref 0 0 4 0 (xs.take k).length]), (8, vI k)]) (fun k => [(0, ⟨0, .row true 4 ((xs.take k).map GLibrary.enc)⟩)]) (fun _ => True) (by simp only [roomB]; omega) ?_
 simp only [↓reduceIte, reduceEqDiff, reduceAdd, reduceCtorEq, go_sem]
 refine ⟨?_, trivial, ?_, ?_⟩
 ·simp only [↓reduceIte, reduceEqDiff, reduceLT, go_sem, List.take_zero]
 ·intro k x hx _ h0 h1 hw
  have hk : k < xs.length := by omega
  have hlt := List.length_take_le k xs
  have hx1 := mem_sum (f := GLibrary.size) (at_mem hx)
  simp only [↓reduceIte, reduceEqDiff, reduceLT, reduceLeDiff, reduceAdd, reduceCtorEq, go_sem, bk_eq hx, h0, h1]
  apply callK_of (c_slices_Clone_int x.Digests (by simp only [GLibrary.size] at hx1; omega))
  simp only [↓reduceIte, reduceEqDiff, reduceLT, reduceLeDiff, reduceAdd, reduceMul, reduceCtorEq, go_sem, hw]
  intro _
  simp only [roomB]
  exact ⟨by omega, by omega, snoc_len hx, snoc_map hx⟩
 ·intro _
  simp only [↓reduceIte, reduceEqDiff, reduceLT, reduceCtorEq, go_sem, List.take_length]
def m_spec_l29Copy : MC :=
(.seq (pr [.nilo 2 0 4] [0])
(.seq (pr [.lit 5 0 4 40 [], .mv 3 (.s 5)] [0,3])
(.seq (.seq (pr [.mv 4 (ci 0)] [0,3,4])
(.block 0 (.loop ([0,3,4], [1,2]) (.seq (.seq (pr [.mv 6 (.s 4), .mv 7 (.s 0), .len 8 false (.s 7), .bin 9 false .lss (.s 6) (.s 8)] [0,3,4,9])
(.cond (.s 9) .skip (.exit 0)))
(.seq (.block 1 (.dreg [Zf [13,14,15,16,17,18,19,20,21,22,23,24,25,26,27,28,29,30,31,32,33,34,35,36] [1,2] (.mv 12 (.s 3)), Zf [12,14,18,19,20,21,22,23,24,25,26,27,28,29,30,31,32,33,34] [1] (.mv 13 (.s 0)), Zf [12,13,18,19,20,21,22,23,24,25,26,27,28,29,30,31,32,33,34] [1] (.mv 14 (.s 4)), Zg [12,18,19,20,21,22,23,24,25,26,27,28,29,30,31,32,33,34] [1] [1,2] (.idx 15 4 (.s 13) (.s 14)), Zg [12,18,19,20,21,22,23,24,25,26,27,28,29,30,31,32,33,34] [1] [1,2,3] (.fld 16 (.s 15) 0), Zg [12,18,19,20,21,22,23,24,25,26,27,28,29,30,31,32,33,34] [1] [1,2,3,4] (.load 17 false 1 (.s 16)), { o := .lit 18 1 1 8 [], hs := [12,13,14,15,16,17,19,20,21,22,23,25,26,27,28,29,30,31,32,33,34], ws := [1] }, Zf [12,13,14,15,16,17,18,20,25,26,27,28,29,30,31,32,33,34] [1] (.mv 19 (.s 0)), Zf [12,13,14,15,16,17,18,19,25,26,27,28,29,30,31,32,33,34] [1] (.mv 20 (.s 4)), Zg [12,13,14,15,16,17,18,25,26,27,28,29,30,31,32,33,34] [1] [7,8] (.idx 21 4 (.s 19) (.s 20)), Zg [12,13,14,15,16,17,18,25,26,27,28,29,30,31,32,33,34] [1] [7,8,9] (.fld 22 (.s 21) 1), Zg [12,13,14,15,16,17,18,25,26,27,28,29,30,31,32,33,34] [1] [7,8,9,10] (.load 23 false 1 (.s 22)), { o := .app 24 1 1 8 (.s 18) (.s 23), hs := [12,13,14,15,16,17,25,26,27,28,29,30,31,32,33,34], ws := [1], bf := [6,7,8,9,10,11] }, Zf [12,13,14,15,16,17,18,19,20,21,22,23,24,26,30,31,32,33,34] [1] (.mv 25 (.s 0)), Zf [12,13,14,15,16,17,18,19,20,21,22,23,24,25,30,31,32,33,34] [1] (.mv 26 (.s 4)), Zg [12,13,14,15,16,17,18,19,20,21,22,23,24,30,31,32,33,34] [1] [13,14] (.idx 27 4 (.s 25) (.s 26)), Zg [12,13,14,15,16,17,18,19,20,21,22,23,24,30,31,32,33,34] [1] [13,14,15] (.fld 28 (.s 27) 2), Zg [12,13,14,15,16,17,18,19,20,21,22,23,24,30,31,32,33,34] [1] [13,14,15,16] (.load 29 false 1 (.s 28)), Zf [12,13,14,15,16,17,18,19,20,21,22,23,24,25,26,27,28,29,31] [1] (.mv 30 (.s 0)), Zf [12,13,14,15,16,17,18,19,20,21,22,23,24,25,26,27,28,29,30] [1] (.mv 31 (.s 4)), Zg [12,13,14,15,16,17,18,19,20,21,22,23,24,25,26,27,28,29] [1] [18,19] (.idx 32 4 (.s 30) (.s 31)), Zg [12,13,14,15,16,17,18,19,20,21,22,23,24,25,26,27,28,29] [1] [18,19,20] (.fld 33 (.s 32) 3), Zg [12,13,14,15,16,17,18,19,20,21,22,23,24,25,26,27,28,29] [1] [18,19,20,21] (.load 34 false 1 (.s 33)), Zd [12] [1,2,3,4,5,6,7,8,9,10,11,12,13,14,15,16,17,18,19,20,21,22] (.build 35 [pz, .emp 1, .pl (.sc (.bool false)), .pl (.sc (.bool false))] [(0, 1, .s 17), (1, 1, .s 24), (2, 1, .s 29), (3, 1, .s 34)]), { o := .lit 36 2 4 40 [.s 35], hs := [12], ws := [1,2], bf := [1,2,3,4,5,6,7,8,9,10,11,12,13,14,15,16,17,18,19,20,21,22,23] }, { o := .app 37 0 4 40 (.s 12) (.s 36), ws := [0,2], bf := (.range 25) }, Ze (.range 26) (.mv 3 (.s 37))] [0,3,4]))
(pr [.mv 10 (.s 4), .bin 11 false .add (.s 10) (ci 1), .mv 4 (.s 11)] [0,3,4]))))))
(.seq (pr [.mv 38 (.s 3), .mv 2 (.s 38)] [2])
.ret))))
theorem c_spec_l29Copy (xs : List GLibrary) (hs : xs.length + (xs.map GLibrary.size).sum ≤ 1073741824) : Ctr Tryz.prog n_spec_l29Copy [aL 4 (xs.map GLibrary.enc)] [rL 4 (xs.map GLibrary.enc)] := by
 refine cA m_spec_l29Copy 3 39 [(.tmp 2, [true])] Tryz.func126 rfl rfl ?_; unfold m_spec_l29Copy
 intro hb
 clear hb
 simp only [↓reduceIte, reduceEqDiff, reduceLT, reduceAdd, reduceMul, reduceCtorEq, go_sem]
 refine loopK_rng xs (fun k => [(3, .val false [.ref 0 0 4 0 (xs.take k).length]), (4, vI k)]) (fun k => [(0, ⟨0, .row true 4 ((xs.take k).map GLibrary.enc)⟩)]) (fun _ => True) (by simp only [roomB]; omega) ?_
 simp only [↓reduceIte, reduceEqDiff, reduceAdd, reduceCtorEq, go_sem]
 refine ⟨?_, trivial, ?_, ?_⟩
 ·simp only [↓reduceIte, reduceEqDiff, reduceLT, reduceCtorEq, go_sem, List.take_zero]
 ·intro k x hx _ h0 h1 hw
  have hk : k < xs.length := by omega
  have hlt := List.length_take_le k xs
  have hx1 := mem_sum (f := GLibrary.size) (at_mem hx)
  simp only [GLibrary.size] at hx1
  simp only [↓reduceIte, reduceEqDiff, reduceLT, reduceLeDiff, reduceAdd, reduceMul, reduceCtorEq, go_sem, bk_eq hx, h0, h1, hw, ↓flat_of (f := encI) (fun _ => rfl) x.Digests]
  simp only [roomB]
  exact ⟨by omega, by omega, by omega, snoc_len hx, snoc_map hx⟩
 ·intro _
  simp only [↓reduceIte, reduceEqDiff, reduceLT, reduceCtorEq, go_sem, List.take_length]
end Go.Proofs.YtpclnmleldeleaaGreatR
namespace Go.Proofs.YtpclnmleldeleaaGreatR
open Go Go.RowKit Go.Proofs
open Nat (reduceEqDiff reduceLT reduceLeDiff reduceAdd reduceMul)
open List (reduceReplicate)
set_option linter.unusedSimpArgs false
set_option linter.unusedVariables false
def m_impl_copyDisk : MC :=
(.seq (pr [.box 1 0 (.s 0), .alloc 2 1 [.emp 4, .emp 6, .emp 4]] [1,2])
(.seq (.dreg [Zc [6,7,9,10] (.fld 3 (.s 1) 0), Zd [6,7,9,10] [0] (.load 4 false 1 (.s 3)), { o := .call 5 [2] (.f n_impl_copyContainers) [.s 4], hs := [6,7,9,10], ws := [2], bf := [0,1] }, Zf [3,4,5,9,10] [2] (.fld 6 (.s 1) 1), Zg [3,4,5,9,10] [2] [3] (.load 7 false 1 (.s 6)), { o := .call 8 [3] (.f n_slices_Clone_impl_Found_impl_Found) [.s 7], hs := [9,10], ws := [3], bf := (.range 5) }, Zf [3,4,5,6,7,8] [2,3] (.fld 9 (.s 1) 2), Zg [3,4,5,6,7,8] [2,3] [6] (.load 10 false 1 (.s 9)), { o := .call 11 [4] (.f n_impl_copyContainers) [.s 10], ws := [4], bf := (.range 8) }, Ze (.range 9) (.build 12 [.emp 4, .emp 6, .emp 4] [(0, 1, .s 5), (1, 1, .s 8), (2, 1, .s 11)]), { o := .store 3 (.s 2) (.s 12), ws := [1,2,3,4], bf := (.range 10) }] [2])
.ret))
theorem c_impl_copyDisk (d : GDisk) (hs : d.size ≤ 1073741824) : Ctr Tryz.prog n_impl_copyDisk [aS d.enc] [rS d.enc] := by
 refine cA m_impl_copyDisk 5 13 [(.cell 2 true 3, [true, true, true])] Tryz.func135 rfl rfl ?_; unfold m_impl_copyDisk
 intro hb
 clear hb
 simp only [GDisk.size] at hs
 simp only [↓reduceIte, reduceEqDiff, reduceLT, reduceLeDiff, reduceAdd, reduceCtorEq, go_sem]
 apply callK_of (c_impl_copyContainers d.Containers (by omega))
 simp only [↓reduceIte, reduceEqDiff, reduceLT, reduceLeDiff, reduceAdd, reduceCtorEq, go_sem]
 apply callK_of (c_slices_Clone_Found d.Index (by omega))
 simp only [↓reduceIte, reduceEqDiff, reduceLT, reduceAdd, reduceCtorEq, go_sem]
 apply callK_of (c_impl_copyContainers d.Wanted (by omega))
 simp only [↓reduceIte, reduceEqDiff, reduceLT, reduceLeDiff, reduceAdd, reduceCtorEq, go_sem]
 try intros
 try trivial
def m_spec_l31Copy : MC :=
(.seq (pr [.box 1 0 (.s 0), .alloc 2 1 [.emp 4, .emp 6, .emp 4]] [1,2])
(.seq (pr [.lit 6 2 6 48 [], .fld 7 (.s 1) 1, .load 8 false 1 (.s 7), .app 9 2 6 48 (.s 6) (.s 8), .buildO 10 [.emp 4, .emp 6, .emp 4] [(1, 1, .s 9)] [some 3, none, some 4], .alloc 3 5 [.emp 4, .emp 6, .emp 4], .store 3 (.s 3) (.s 10)] [1,2,3])
(.seq (.seq (pr [.mv 4 (ci 0)] [1,2,3,4])
(.block 0 (.loop ([1,2,3,4], [6,7,8,9,10,11,12,13]) (.seq (.seq (pr [.mv 11 (.s 4), .fld 12 (.s 1) 0, .load 13 false 1 (.s 12), .len 14 false (.s 13), .bin 15 false .lss (.s 11) (.s 14)] [1,2,3,4,15])
(.cond (.s 15) .skip (.exit 0)))
(.seq (.block 1 (.dreg [Zf [20,21,22,23,24,25,26] [6,7,8,9] (.fld 18 (.s 3) 0), Zg [20,21,22,23,24,25,26] [6,7,8,9] [0] (.load 19 false 1 (.s 18)), Zc [18,19,22] (.fld 20 (.s 1) 0), Zd [18,19,22] [2] (.load 21 false 1 (.s 20)), Zc [18,19,20,21] (.mv 22 (.s 4)), Zd [18,19] [2,3,4] (.idx 23 4 (.s 21) (.s 22)), Zd [18,19] [2,3,4,5] (.load 24 true 4 (.s 23)), { o := .call 25 [6, 7, 8] (.f n_spec_l30Copy) [.s 24], hs := [18,19], ws := [6,7,8], bf := [2,3,4,5,6] }, { o := .lit 26 9 4 80 [.s 25], hs := [18,19], ws := [6,7,8,9], bf := [2,3,4,5,6,7] }, { o := .app 27 3 4 80 (.s 19) (.s 26), ws := [3,9], bf := (.range 9) }, Ze (.range 10) (.fld 28 (.s 3) 0), { o := .store 1 (.s 28) (.s 27), ws := [3,5], bf := (.range 11) }] [1,2,3,4]))
(pr [.mv 16 (.s 4), .bin 17 false .add (.s 16) (ci 1), .mv 4 (.s 17)] [1,2,3,4]))))))
(.seq (.seq (pr [.mv 5 (ci 0)] [1,2,3,5])
(.block 2 (.loop ([1,2,3,5], [6,7,8,9,10,11,12,13]) (.seq (.seq (pr [.mv 29 (.s 5), .fld 30 (.s 1) 2, .load 31 false 1 (.s 30), .len 32 false (.s 31), .bin 33 false .lss (.s 29) (.s 32)] [1,2,3,5,33])
(.cond (.s 33) .skip (.exit 2)))
(.seq (.block 3 (.dreg [Zf [38,39,40,41,42,43,44] [10,11,12,13] (.fld 36 (.s 3) 2), Zg [38,39,40,41,42,43,44] [10,11,12,13] [0] (.load 37 false 1 (.s 36)), Zc [36,37,40] (.fld 38 (.s 1) 2), Zd [36,37,40] [2] (.load 39 false 1 (.s 38)), Zc [36,37,38,39] (.mv 40 (.s 5)), Zd [36,37] [2,3,4] (.idx 41 4 (.s 39) (.s 40)), Zd [36,37] [2,3,4,5] (.load 42 true 4 (.s 41)), { o := .call 43 [10, 11, 12] (.f n_spec_l30Copy) [.s 42], hs := [36,37], ws := [10,11,12], bf := [2,3,4,5,6] }, { o := .lit 44 13 4 80 [.s 43], hs := [36,37], ws := [10,11,12,13], bf := [2,3,4,5,6,7] }, { o := .app 45 4 4 80 (.s 37) (.s 44), ws := [4,13], bf := (.range 9) }, Ze (.range 10) (.fld 46 (.s 3) 2), { o := .store 1 (.s 46) (.s 45), ws := [4,5], bf := (.range 11) }] [1,2,3,5]))
(pr [.mv 34 (.s 5), .bin 35 false .add (.s 34) (ci 1), .mv 5 (.s 35)] [1,2,3,5]))))))
(.seq (pr [.load 47 true 3 (.s 3), .store 3 (.s 2) (.s 47)] [2])
.ret)))))
theorem c_spec_l31Copy (d : GDisk) (hs : d.size ≤ 1073741824) : Ctr Tryz.prog n_spec_l31Copy [aS d.enc] [rS d.enc] := by
 refine cA m_spec_l31Copy 14 48 [(.cell 2 true 3, [true, true, true])] Tryz.func125 rfl rfl ?_; unfold m_spec_l31Copy
 intro hb
 clear hb
 simp only [GDisk.size] at hs
 simp only [↓reduceIte, reduceEqDiff, reduceLT, reduceLeDiff, reduceAdd, reduceMul, reduceCtorEq, go_sem, ↓flat_of (f := GFound.enc) (fun _ => rfl) d.Index]
 simp only [roomB]
 refine ⟨by omega, ?_⟩
 refine loopK_rng d.Containers (fun k => [(4, vI k)]) (fun k => [(3, ⟨0, .row true 4 ((d.Containers.take k).map GContainer.enc)⟩), (5, ⟨0, .box [.ref 3 0 4 0 (d.Containers.take k).length, .ref 2 0 6 0 d.Index.length, .ref 4 0 4 0 0]⟩)]) (fun _ => True) (by simp only [roomB]; omega) ?_
 simp only [↓reduceIte, reduceEqDiff, reduceAdd, reduceCtorEq, go_sem]
 refine ⟨?_, trivial, ?_, ?_⟩
 ·simp only [↓reduceIte, reduceEqDiff, reduceLT, go_sem, List.take_zero]
 ·intro k x hx _ h0 h1 hw
  have hlt := List.length_take_le k d.Containers
  have hk : k < d.Containers.length := by omega
  have hx1 := mem_sum (f := GContainer.size) (at_mem hx)
  simp only [↓reduceIte, reduceEqDiff, reduceLT, reduceLeDiff, reduceAdd, reduceCtorEq, go_sem, bk_eq hx, h0, h1]
  apply callK_of (c_spec_l30Copy x (by omega))
  simp only [↓reduceIte, reduceEqDiff, reduceLT, reduceLeDiff, reduceAdd, reduceMul, reduceCtorEq, go_sem, hw]
  simp only [roomB]
  exact ⟨by omega, by omega, fun _ => ⟨snoc_map hx, snoc_len hx⟩⟩
 ·intro _
  simp only [↓reduceIte, reduceEqDiff, reduceLT, reduceLeDiff, reduceAdd, reduceCtorEq, go_sem, List.take_length]
  refine loopK_rng d.Wanted (fun k => [(5, vI k)]) (fun k => [(4, ⟨0, .row true 4 ((d.Wanted.take k).map GContainer.enc)⟩), (5, ⟨0, .box [.ref 3 0 4 0 d.Containers.length, .ref 2 0 6 0 d.Index.length, .ref 4 0 4 0 (d.Wanted.take k).length]⟩)]) (fun _ => True) (by simp only [roomB]; omega) ?_
  simp only [↓reduceIte, reduceEqDiff, reduceAdd, reduceCtorEq, go_sem]
  refine ⟨?_, trivial, ?_, ?_⟩
  ·simp only [↓reduceIte, reduceEqDiff, reduceLT, go_sem, List.take_zero]
  ·intro k x hx _ h0 h1 hw
   have hlt := List.length_take_le k d.Wanted
   have hk : k < d.Wanted.length := by omega
   have hx1 := mem_sum (f := GContainer.size) (at_mem hx)
   simp only [↓reduceIte, reduceEqDiff, reduceLT, reduceAdd, reduceCtorEq, go_sem, bk_eq hx, h0, h1]
   apply callK_of (c_spec_l30Copy x (by omega))
   simp only [↓reduceIte, reduceEqDiff, reduceLT, reduceAdd, reduceMul, reduceCtorEq, go_sem, hw]
   simp only [roomB]
   exact ⟨by omega, by omega, fun _ => ⟨snoc_map hx, snoc_len hx⟩⟩
  ·intro _
   simp only [↓reduceIte, reduceEqDiff, reduceLT, reduceAdd, reduceCtorEq, go_sem, List.take_length]
def m_impl_copyArchive : MC :=
(.seq (pr [.box 1 0 (.s 0), .alloc 2 1 [.emp 9, .emp 4, .emp 4, .emp 6, .emp 4, .emp 5, .emp 4, .emp 1, .emp 4, pz]] [1,2])
(.seq (.dreg [Zc [6,7,9,10,12,13,15,16,18,19,21,22,24,25] (.fld 3 (.s 1) 0), Zd [6,7,9,10,12,13,15,16,18,19,21,22,24,25] [0] (.load 4 false 1 (.s 3)), { o := .call 5 [2] (.f n_impl_copySite) [.s 4], hs := [6,7,9,10,12,13,15,16,18,19,21,22,24,25], ws := [2], bf := [0,1] }, Zf [3,4,5,9,10,12,13,15,16,18,19,21,22,24,25] [2] (.fld 6 (.s 1) 1), Zg [3,4,5,9,10,12,13,15,16,18,19,21,22,24,25] [2] [3] (.load 7 false 1 (.s 6)), { o := .call 8 [3] (.f n_slices_Clone_impl_Op_impl_Op) [.s 7], hs := [9,10,12,13,15,16,18,19,21,22,24,25], ws := [3], bf := (.range 5) }, Zf [3,4,5,6,7,8,12,13,15,16,18,19,21,22,24,25] [2,3] (.fld 9 (.s 1) 2), Zg [3,4,5,6,7,8,12,13,15,16,18,19,21,22,24,25] [2,3] [6] (.load 10 true 3 (.s 9)), { o := .call 11 [4, 5, 6] (.f n_impl_copyDisk) [.s 10], hs := [12,13,15,16,18,19,21,22,24,25], ws := [4,5,6], bf := (.range 8) }, Zf [3,4,5,6,7,8,9,10,11,15,16,18,19,21,22,24,25] [2,3,4,5,6] (.fld 12 (.s 1) 5), Zg [3,4,5,6,7,8,9,10,11,15,16,18,19,21,22,24,25] [2,3,4,5,6] [9] (.load 13 false 1 (.s 12)), { o := .call 14 [7] (.f n_slices_Clone_impl_Exclusion_impl_Exclusion) [.s 13], hs := [15,16,18,19,21,22,24,25], ws := [7], bf := (.range 11) }, Zf [3,4,5,6,7,8,9,10,11,12,13,14,18,19,21,22,24,25] [2,3,4,5,6,7] (.fld 15 (.s 1) 6), Zg [3,4,5,6,7,8,9,10,11,12,13,14,18,19,21,22,24,25] [2,3,4,5,6,7] [12] (.load 16 false 1 (.s 15)), { o := .call 17 [8] (.f n_impl_copyLibraries) [.s 16], hs := [18,19,21,22,24,25], ws := [8], bf := (.range 14) }, Zf [3,4,5,6,7,8,9,10,11,12,13,14,15,16,17,21,22,24,25] [2,3,4,5,6,7,8] (.fld 18 (.s 1) 7), Zg [3,4,5,6,7,8,9,10,11,12,13,14,15,16,17,21,22,24,25] [2,3,4,5,6,7,8] [15] (.load 19 false 1 (.s 18)), { o := .call 20 [9] (.f n_slices_Clone_int_int) [.s 19], hs := [21,22,24,25], ws := [9], bf := (.range 17) }, Zf [3,4,5,6,7,8,9,10,11,12,13,14,15,16,17,18,19,20,24,25] [2,3,4,5,6,7,8,9] (.fld 21 (.s 1) 8), Zg [3,4,5,6,7,8,9,10,11,12,13,14,15,16,17,18,19,20,24,25] [2,3,4,5,6,7,8,9] [18] (.load 22 false 1 (.s 21)), { o := .call 23 [10] (.f n_slices_Clone_impl_Statement_impl_Statement) [.s 22], hs := [24,25], ws := [10], bf := (.range 20) }, Zf [3,4,5,6,7,8,9,10,11,12,13,14,15,16,17,18,19,20,21,22,23] [2,3,4,5,6,7,8,9,10] (.fld 24 (.s 1) 9), Zg [3,4,5,6,7,8,9,10,11,12,13,14,15,16,17,18,19,20,21,22,23] [2,3,4,5,6,7,8,9,10] [21] (.load 25 false 1 (.s 24)), Ze (.range 23) (.build 26 [.emp 9, .emp 4, .emp 4, .emp 6, .emp 4, .emp 5, .emp 4, .emp 1, .emp 4, pz] [(0, 1, .s 5), (1, 1, .s 8), (2, 3, .s 11), (5, 1, .s 14), (6, 1, .s 17), (7, 1, .s 20), (8, 1, .s 23), (9, 1, .s 25)]), { o := .store 10 (.s 2) (.s 26), ws := [1,2,3,4,5,6,7,8,9,10], bf := (.range 24) }] [2])
.ret))
theorem c_impl_copyArchive (a : GArchive) (hs : a.size ≤ 1073741824) : Ctr Tryz.prog n_impl_copyArchive [aS a.enc] [rS a.enc] := by
 refine cA m_impl_copyArchive 11 27 [(.cell 2 true 10, [true, true, true, true, true, true, true, true, true, false])] Tryz.func67 rfl rfl ?_; unfold m_impl_copyArchive
 intro hb
 clear hb
 simp only [GArchive.size] at hs
 simp only [↓reduceIte, reduceEqDiff, reduceLT, reduceLeDiff, reduceAdd, reduceCtorEq, go_sem]
 apply callK_of (c_impl_copySite a.Site (by omega))
 simp only [↓reduceIte, reduceEqDiff, reduceLT, reduceLeDiff, reduceAdd, reduceCtorEq, go_sem]
 apply callK_of (c_slices_Clone_Op a.Script (by omega))
 simp only [↓reduceIte, reduceEqDiff, reduceLT, reduceLeDiff, reduceAdd, reduceCtorEq, go_sem]
 apply callK_of (c_impl_copyDisk a.Disk (by omega))
 simp only [↓reduceIte, reduceEqDiff, reduceLT, reduceLeDiff, reduceAdd, reduceCtorEq, go_sem]
 apply callK_of (c_slices_Clone_Exclusion a.Exclusions (by omega))
 simp only [↓reduceIte, reduceEqDiff, reduceLT, reduceLeDiff, reduceAdd, reduceCtorEq, go_sem]
 apply callK_of (c_impl_copyLibraries a.Libraries (by omega))
 simp only [↓reduceIte, reduceEqDiff, reduceLT, reduceLeDiff, reduceAdd, reduceCtorEq, go_sem]
 apply callK_of (c_slices_Clone_int a.Keys (by omega))
 simp only [↓reduceIte, reduceEqDiff, reduceLT, reduceLeDiff, reduceAdd, reduceCtorEq, go_sem]
 apply callK_of (c_slices_Clone_Statement a.Statements (by omega))
 simp only [↓reduceIte, reduceEqDiff, reduceLT, reduceLeDiff, reduceAdd, reduceCtorEq, go_sem]
 try intros
 try trivial
def m_spec_l32Copy : MC :=
(.seq (pr [.box 1 0 (.s 0), .alloc 2 1 [.emp 9, .emp 4, .emp 4, .emp 6, .emp 4, .emp 5, .emp 4, .emp 1, .emp 4, pz]] [1,2])
(.seq (.dreg [Zf [6,7,8,10,11,13,14,15,17,18,20,21,22,24,25,26,28,29] [3,7,9,10] (.fld 3 (.s 1) 0), Zg [6,7,8,10,11,13,14,15,17,18,20,21,22,24,25,26,28,29] [3,7,9,10] [0] (.load 4 false 1 (.s 3)), { o := .call 5 [2] (.f n_spec_l32Site) [.s 4], hs := [6,7,8,10,11,13,14,15,17,18,20,21,22,24,25,26,28,29], ho := [3,7,9,10], ws := [2], bf := [0,1] }, { o := .lit 6 3 4 32 [], hs := [3,4,5,7,8,10,11,13,14,15,17,18,20,21,22,24,25,26,28,29], ho := [2,7,9,10], ws := [3] }, Zf [3,4,5,6,10,11,13,14,15,17,18,20,21,22,24,25,26,28,29] [2,3,7,9,10] (.fld 7 (.s 1) 1), Zg [3,4,5,6,10,11,13,14,15,17,18,20,21,22,24,25,26,28,29] [2,3,7,9,10] [4] (.load 8 false 1 (.s 7)), { o := .app 9 3 4 32 (.s 6) (.s 8), hs := [10,11,13,14,15,17,18,20,21,22,24,25,26,28,29], ho := [7,9,10], ws := [3], bf := (.range 6) }, Zf [3,4,5,6,7,8,9,13,14,15,17,18,20,21,22,24,25,26,28,29] [2,3,7,9,10] (.fld 10 (.s 1) 2), Zg [3,4,5,6,7,8,9,13,14,15,17,18,20,21,22,24,25,26,28,29] [2,3,7,9,10] [7] (.load 11 true 3 (.s 10)), { o := .call 12 [4, 5, 6] (.f n_spec_l31Copy) [.s 11], hs := [13,14,15,17,18,20,21,22,24,25,26,28,29], ho := [7,9,10], ws := [4,5,6], bf := (.range 9) }, { o := .lit 13 7 5 40 [], hs := [3,4,5,6,7,8,9,10,11,12,14,15,17,18,20,21,22,24,25,26,28,29], ho := [2,3,4,5,6,9,10], ws := [7] }, Zf [3,4,5,6,7,8,9,10,11,12,13,17,18,20,21,22,24,25,26,28,29] [2,3,4,5,6,7,9,10] (.fld 14 (.s 1) 5), Zg [3,4,5,6,7,8,9,10,11,12,13,17,18,20,21,22,24,25,26,28,29] [2,3,4,5,6,7,9,10] [11] (.load 15 false 1 (.s 14)), { o := .app 16 7 5 40 (.s 13) (.s 15), hs := [17,18,20,21,22,24,25,26,28,29], ho := [9,10], ws := [7], bf := (.range 13) }, Zf [3,4,5,6,7,8,9,10,11,12,13,14,15,16,20,21,22,24,25,26,28,29] [2,3,4,5,6,7,9,10] (.fld 17 (.s 1) 6), Zg [3,4,5,6,7,8,9,10,11,12,13,14,15,16,20,21,22,24,25,26,28,29] [2,3,4,5,6,7,9,10] [14] (.load 18 false 1 (.s 17)), { o := .call 19 [8] (.f n_spec_l29Copy) [.s 18], hs := [20,21,22,24,25,26,28,29], ho := [9,10], ws := [8], bf := (.range 16) }, { o := .lit 20 9 1 8 [], hs := [3,4,5,6,7,8,9,10,11,12,13,14,15,16,17,18,19,21,22,24,25,26,28,29], ho := [2,3,4,5,6,7,8,10], ws := [9] }, Zf [3,4,5,6,7,8,9,10,11,12,13,14,15,16,17,18,19,20,24,25,26,28,29] [2,3,4,5,6,7,8,9,10] (.fld 21 (.s 1) 7), Zg [3,4,5,6,7,8,9,10,11,12,13,14,15,16,17,18,19,20,24,25,26,28,29] [2,3,4,5,6,7,8,9,10] [18] (.load 22 false 1 (.s 21)), { o := .app 23 9 1 8 (.s 20) (.s 22), hs := [24,25,26,28,29], ho := [10], ws := [9], bf := (.range 20) }, { o := .lit 24 10 4 32 [], hs := [3,4,5,6,7,8,9,10,11,12,13,14,15,16,17,18,19,20,21,22,23,25,26,28,29], ho := [2,3,4,5,6,7,8,9], ws := [10] }, Zf [3,4,5,6,7,8,9,10,11,12,13,14,15,16,17,18,19,20,21,22,23,24,28,29] [2,3,4,5,6,7,8,9,10] (.fld 25 (.s 1) 8), Zg [3,4,5,6,7,8,9,10,11,12,13,14,15,16,17,18,19,20,21,22,23,24,28,29] [2,3,4,5,6,7,8,9,10] [22] (.load 26 false 1 (.s 25)), { o := .app 27 10 4 32 (.s 24) (.s 26), hs := [28,29], ws := [10], bf := (.range 24) }, Zf [3,4,5,6,7,8,9,10,11,12,13,14,15,16,17,18,19,20,21,22,23,24,25,26,27] [2,3,4,5,6,7,8,9,10] (.fld 28 (.s 1) 9), Zg [3,4,5,6,7,8,9,10,11,12,13,14,15,16,17,18,19,20,21,22,23,24,25,26,27] [2,3,4,5,6,7,8,9,10] [25] (.load 29 false 1 (.s 28)), Ze (.range 27) (.build 30 [.emp 9, .emp 4, .emp 4, .emp 6, .emp 4, .emp 5, .emp 4, .emp 1, .emp 4, pz] [(0, 1, .s 5), (1, 1, .s 9), (2, 3, .s 12), (5, 1, .s 16), (6, 1, .s 19), (7, 1, .s 23), (8, 1, .s 27), (9, 1, .s 29)]), { o := .store 10 (.s 2) (.s 30), ws := [1,2,3,4,5,6,7,8,9,10], bf := (.range 28) }] [2])
.ret))
theorem c_spec_l32Copy (a : GArchive) (hs : a.size ≤ 1073741824) : Ctr Tryz.prog n_spec_l32Copy [aS a.enc] [rS a.enc] := by
 refine cA m_spec_l32Copy 11 31 [(.cell 2 true 10, [true, true, true, true, true, true, true, true, true, false])] Tryz.func60 rfl rfl ?_; unfold m_spec_l32Copy
 intro hb
 clear hb
 simp only [GArchive.size] at hs
 simp only [↓reduceIte, reduceEqDiff, reduceLT, reduceLeDiff, reduceAdd, reduceCtorEq, go_sem]
 apply callK_of (c_spec_l32Site a.Site (by omega))
 simp only [↓reduceIte, reduceEqDiff, reduceLT, reduceLeDiff, reduceAdd, reduceMul, reduceCtorEq, go_sem, ↓flat_of (f := GOp.enc) (fun _ => rfl) a.Script]
 refine ⟨by simp only [roomB]; omega, ?_⟩
 apply callK_of (c_spec_l31Copy a.Disk (by omega))
 simp only [↓reduceIte, reduceEqDiff, reduceLT, reduceLeDiff, reduceAdd, reduceMul, reduceCtorEq, go_sem, ↓flat_of (f := GExclusion.enc) (fun _ => rfl) a.Exclusions]
 refine ⟨by simp only [roomB]; omega, ?_⟩
 apply callK_of (c_spec_l29Copy a.Libraries (by omega))
 simp only [↓reduceIte, reduceEqDiff, reduceLT, reduceLeDiff, reduceAdd, reduceMul, reduceCtorEq, go_sem, ↓flat_of (f := encI) (fun _ => rfl) a.Keys, ↓flat_of (f := GStatement.enc) (fun _ => rfl) a.Statements]
 simp only [roomB]
 exact ⟨by omega, by omega⟩
end Go.Proofs.YtpclnmleldeleaaGreatR
namespace Go.Proofs.YtpclnmleldeleaaGreatR
open Go Go.RowKit Go.Proofs
open Nat (reduceEqDiff reduceLT reduceLeDiff reduceAdd reduceMul)
open List (reduceReplicate)
set_option linter.unusedSimpArgs false
set_option linter.unusedVariables false
theorem any_nots {α : Type} {p : α → Bool} {l : List α} : (l.any fun x => !p x) = !l.all p := by
 induction l with
 | nil => rfl
 | cons x l ih => rw [List.any_cons, List.all_cons, ih]; cases p x <;> rfl
def fewAll {α : Type} (n : Nat) (p : α → Bool) (l : List α) : Bool := decide (l.length ≤ n) && l.all p
theorem fewAll_no {α : Type} {n : Nat} {p : α → Bool} {l : List α} (h : ¬ l.length ≤ n) : false = fewAll n p l := by
 unfold fewAll; rw [decide_eq_false h]; rfl
theorem fewAll_yes {α : Type} {n : Nat} {p : α → Bool} {l : List α} (h : l.length ≤ n) : (!l.any fun x => !p x) = fewAll n p l := by
 unfold fewAll; rw [decide_eq_true h, any_nots, Bool.not_not]; rfl
theorem fewAll_at {α : Type} {n : Nat} {p : α → Bool} {l : List α} {k : Nat} {x : α} (hx : l[k]? = some x) (h : p x = false) : false = fewAll n p l := by
 unfold fewAll; rw [← all_not hx h, Bool.and_false]
theorem fewAll_end {α : Type} {n : Nat} {p : α → Bool} {l : List α} (h : l.all p = true) : decide (l.length ≤ n) = fewAll n p l := by
 unfold fewAll; rw [h, Bool.and_true]
theorem le_cast {n m : Nat} : decide ((n : Int) ≤ (m : Int)) = decide (n ≤ m) := by
 rw [Bool.eq_iff_iff]; simp only [decide_eq_true_eq]; omega
end Go.Proofs.YtpclnmleldeleaaGreatR
namespace Go.Proofs.YtpclnmleldeleaaGreatR
open Go Go.RowKit Go.Proofs
open Nat (reduceEqDiff reduceLT reduceLeDiff reduceAdd reduceMul)
open List (reduceReplicate)
set_option linter.unusedSimpArgs false
set_option linter.unusedVariables false
def verOk (v : GVersion) : Bool := isAddr v.Address && (decide (0 ≤ v.From ∧ v.From ≤ 1000) && isRes v.Resource)
def siteOk (l : List GVersion) : Bool := fewAll 12 verOk l
def m_impl_IsSite_1 : MC :=
(.seq (pr [.box 1 0 (.s 0), .mv 2 cF] [1])
(.seq (.reg [Za (.fld 3 (.s 1) 0), Za (.load 4 true 3 (.s 3)), Za (.call 5 [] (.f n_impl_IsAddress) [.s 4]), Za (.un 6 .not (.s 5)), Za (.mv 7 (.s 6)), Zb 7 false (.fld 8 (.s 1) 3), Zb 7 false (.load 9 false 1 (.s 8)), Zb 7 false (.call 10 [] (.f n_impl_InRange) [.s 9, .c (.int .i64 0), .c (.int .i64 1000)]), Zb 7 false (.un 11 .not (.s 10)), Za (.pick 12 (.s 7) cT (.s 11)), Za (.mv 13 (.s 12)), Zb 13 false (.fld 14 (.s 1) 4), Zb 13 false (.load 15 true 5 (.s 14)), Zb 13 false (.call 16 [] (.f n_impl_IsResource) [.s 15]), Zb 13 false (.un 17 .not (.s 16)), Za (.pick 18 (.s 13) cT (.s 17)), Za (.mv 2 (.s 18))] [2])
.ret))
theorem c_impl_IsSite_1 (c : GVersion) : Ctr Tryz.prog n_impl_IsSite_1 [aS c.enc] [rB (!verOk c)] := by
 refine cA m_impl_IsSite_1 1 19 [(.tmp 2, [false])] Tryz.func142 rfl rfl ?_; unfold m_impl_IsSite_1
 intro hb
 clear hb
 simp only [↓reduceIte, reduceEqDiff, reduceLT, reduceLeDiff, reduceAdd, go_sem]
 repeat' first
  | (refine And.intro ?_ ?_ <;> intro h)
  | (apply callK_of (c_impl_IsAddress _); simp only [↓reduceIte, reduceEqDiff, reduceLT, reduceLeDiff, reduceAdd, reduceCtorEq, go_sem])
  | (apply callK_of (c_impl_IsResource _); simp only [↓reduceIte, reduceEqDiff, reduceLT, reduceCtorEq, go_sem])
  | (apply callK_of (c_impl_InRange _ _ _); simp only [↓reduceIte, reduceEqDiff, reduceLT, reduceAdd, reduceCtorEq, go_sem])
 all_goals (simp_all [verOk]; try omega)
def m_impl_IsSite : MC :=
(.seq (pr [.mv 2 cF] [0])
(.seq (.reg [Za (.mv 3 (.s 0)), Za (.len 4 false (.s 3)), Za (.bin 5 false .leq (.s 4) (ci 12)), Za (.mv 6 (.s 5)), Zb 6 true (.mv 7 (.s 0)), Zb 6 true (.call 8 [] (.f n_slices_ContainsFunc_impl_Version_impl_Version) [.s 7, .f n_impl_IsSite_1]), Zb 6 true (.un 9 .not (.s 8)), Za (.pick 10 (.s 6) (.s 9) cF), Za (.mv 2 (.s 10))] [2])
.ret))
theorem c_impl_IsSite (l : List GVersion) : Ctr Tryz.prog n_impl_IsSite [aL 9 (l.map GVersion.enc)] [rB (siteOk l)] := by
 refine cA m_impl_IsSite 0 11 [(.tmp 2, [false])] Tryz.func69 rfl rfl ?_; unfold m_impl_IsSite
 intro hb
 clear hb
 simp only [↓reduceIte, reduceEqDiff, reduceLT, reduceCtorEq, go_sem]
 refine ⟨fun h => ?_, fun h => fewAll_no (by omega)⟩
 refine callK_of (c_slices_ContainsFunc_Version l _ [] (fun o => !verOk o) fun o _ => c_impl_IsSite_1 o) ?_
 simp only [↓reduceIte, reduceEqDiff, reduceLT, go_sem]
 exact fewAll_yes (by omega)
def m_spec_IsSite : MC :=
(.seq (pr [.mv 2 cF] [0])
(.seq (.seq (pr [.mv 3 (ci 0)] [0,3])
(.block 0 (.loop ([0,3], []) (.seq (.seq (pr [.mv 4 (.s 3), .mv 5 (.s 0), .len 6 false (.s 5), .bin 7 false .lss (.s 4) (.s 6)] [0,3,7])
(.cond (.s 7) .skip (.exit 0)))
(.seq (.block 1 (.seq (.reg [Za (.mv 10 (.s 0)), Za (.mv 11 (.s 3)), Za (.idx 12 9 (.s 10) (.s 11)), Za (.fld 13 (.s 12) 0), Za (.load 14 true 3 (.s 13)), Za (.call 15 [] (.f n_spec_IsAddress) [.s 14]), Za (.un 16 .not (.s 15)), Za (.mv 17 (.s 16)), Zb 17 false (.mv 18 (.s 0)), Zb 17 false (.mv 19 (.s 3)), Zb 17 false (.idx 20 9 (.s 18) (.s 19)), Zb 17 false (.fld 21 (.s 20) 3), Zb 17 false (.load 22 false 1 (.s 21)), Zb 17 false (.call 23 [] (.f n_spec_l1In) [.s 22, .c (.int .i64 0), .c (.int .i64 1000)]), Zb 17 false (.un 24 .not (.s 23)), Za (.pick 25 (.s 17) cT (.s 24)), Za (.mv 26 (.s 25)), Zb 26 false (.mv 27 (.s 0)), Zb 26 false (.mv 28 (.s 3)), Zb 26 false (.idx 29 9 (.s 27) (.s 28)), Zb 26 false (.fld 30 (.s 29) 4), Zb 26 false (.load 31 true 5 (.s 30)), Zb 26 false (.call 32 [] (.f n_spec_IsResource) [.s 31]), Zb 26 false (.un 33 .not (.s 32)), Za (.pick 34 (.s 26) cT (.s 33))] [0,3,34])
(.cond (.s 34) (.seq (pr [.mv 2 cF] [2])
.ret) .skip)))
(pr [.mv 8 (.s 3), .bin 9 false .add (.s 8) (ci 1), .mv 3 (.s 9)] [0,3]))))))
(.seq (pr [.mv 35 (.s 0), .len 36 false (.s 35), .bin 37 false .leq (.s 36) (ci 12), .mv 2 (.s 37)] [2])
.ret)))
theorem c_spec_IsSite (l : List GVersion) : Ctr Tryz.prog n_spec_IsSite [aL 9 (l.map GVersion.enc)] [rB (siteOk l)] := by
 refine cA m_spec_IsSite 0 38 [(.tmp 2, [false])] Tryz.func62 rfl rfl ?_; unfold m_spec_IsSite
 intro hb
 simp only [bdA, bdL, bdT, bdR_map, roomB, and_true, List.length_map] at hb
 have hl := hb.1
 clear hb
 simp only [↓reduceIte, reduceLT, reduceCtorEq, go_sem]
 refine loopK_rng l (fun k => [(3, vI k)]) (fun k => []) (fun k => (l.take k).all verOk = true) hl ?_
 simp only [↓reduceIte, reduceCtorEq, go_sem]
 refine ⟨?_, by simp, ?_, ?_⟩
 ·simp only [↓reduceIte, reduceLT, reduceCtorEq, go_sem]
 ·intro k x hx hT h0 h1 hw
  have hy : verOk x = true → (l.take (k + 1)).all verOk = true := fun hn => all_step hx hT hn
  have hn : verOk x = false → false = siteOk l := fun hn => fewAll_at hx hn
  clear hT
  simp only [↓reduceIte, reduceEqDiff, reduceLT, reduceLeDiff, reduceAdd, reduceCtorEq, go_sem, bk_eq hx, h0, h1]
  repeat' first
   | (refine And.intro ?_ ?_ <;> intro h)
   | (apply callK_of (c_spec_IsAddress _); simp only [↓reduceIte, reduceEqDiff, reduceLT, reduceLeDiff, reduceAdd, reduceCtorEq, go_sem, bk_eq hx, h0, h1])
   | (apply callK_of (c_spec_IsResource _); simp only [↓reduceIte, reduceEqDiff, reduceLT, reduceCtorEq, go_sem, hw])
   | (apply callK_of (c_spec_l1In _ _ _); simp only [↓reduceIte, reduceEqDiff, reduceLT, reduceAdd, reduceCtorEq, go_sem, bk_eq hx, h0, h1])
  all_goals first | (apply hy; clear hy hn hx hw; simp_all [verOk]; done) | (apply hn; clear hy hn hx hw; simp_all [verOk]; done) | (apply hn; clear hy hn hx hw; unfold verOk; rw [decide_eq_false (by assumption)]; simp; done)
 ·intro h
  simp only [↓reduceIte, reduceEqDiff, reduceLT, reduceCtorEq, go_sem]
  rw [List.take_length] at h
  exact le_cast.trans (fewAll_end h)
def changeOk (a : GArchive) (x : GVersion) : Bool := siteOk (a.Site ++ [x]) && decide (a.Now ≤ x.From)
def changeTo (a : GArchive) (x : GVersion) : GArchive := if changeOk a x then { a with Site := a.Site ++ [x] } else a
theorem change_size (a : GArchive) (x : GVersion) : (changeTo a x).size ≤ a.size + (x.size + 1) := by
 unfold changeTo
 split
 ·simp only [GArchive.size, List.length_append, List.length_cons, List.length_nil, List.map_append, List.map_cons, List.map_nil, List.sum_append, List.sum_cons, List.sum_nil]; omega
 ·omega
def m_impl_StepChange : MC :=
(.seq (pr [.box 2 0 (.s 0), .box 3 1 (.s 1), .alloc 4 2 [.emp 9, .emp 4, .emp 4, .emp 6, .emp 4, .emp 5, .emp 4, .emp 1, .emp 4, pz], .mv 5 cF] [2,3,4])
(.seq (pr [.load 7 true 10 (.s 2), .call 8 [3, 4, 5, 6, 7, 8, 9, 10, 11] (.f n_impl_copyArchive) [.s 7], .alloc 6 12 [.emp 9, .emp 4, .emp 4, .emp 6, .emp 4, .emp 5, .emp 4, .emp 1, .emp 4, pz], .store 10 (.s 6) (.s 8)] [2,3,4,6])
(.seq (.dreg [Zf [11,12,13] [13,14] (.fld 9 (.s 6) 0), Zg [11,12,13] [13,14] [0] (.load 10 false 1 (.s 9)), Zc [9,10] (.load 11 true 9 (.s 3)), { o := .lit 12 13 9 88 [.s 11], hs := [9,10], ws := [13], bf := [2] }, { o := .call 13 [14] (.f n_impl_copySite) [.s 12], hs := [9,10], ws := [14], bf := [2,3] }, { o := .app 14 3 9 88 (.s 10) (.s 13), ws := [3,14], bf := (.range 5) }, Ze (.range 6) (.fld 15 (.s 6) 0), { o := .store 1 (.s 15) (.s 14), ws := [3,12], bf := (.range 7) }] [2,3,4,6])
(.seq (.seq (.reg [Za (.fld 16 (.s 6) 0), Za (.load 17 false 1 (.s 16)), Za (.call 18 [] (.f n_impl_IsSite) [.s 17]), Za (.un 19 .not (.s 18)), Za (.mv 20 (.s 19)), Zb 20 false (.fld 21 (.s 3) 3), Zb 20 false (.load 22 false 1 (.s 21)), Zb 20 false (.fld 23 (.s 2) 9), Zb 20 false (.load 24 false 1 (.s 23)), Zb 20 false (.bin 25 false .lss (.s 22) (.s 24)), Za (.pick 26 (.s 20) cT (.s 25))] [2,4,6,26])
(.cond (.s 26) (.seq (pr [.load 27 true 10 (.s 2), .call 28 [15, 16, 17, 18, 19, 20, 21, 22, 23] (.f n_impl_copyArchive) [.s 27], .store 10 (.s 4) (.s 28), .mv 5 cF] [4,5])
.ret) .skip))
(.seq (pr [.load 29 true 10 (.s 6), .store 10 (.s 4) (.s 29), .mv 5 cT] [4,5])
.ret)))))
theorem c_impl_StepChange (a : GArchive) (x : GVersion) (hs : a.size ≤ 1073741824) (hx : x.size ≤ 1073741823) : Ctr Tryz.prog n_impl_StepChange [aS a.enc, aS x.enc] [rS (changeTo a x).enc, rB (changeOk a x)] := by
  refine cA m_impl_StepChange 24 30 [(.cell 4 true 10, [true, true, true, true, true, true, true, true, true, false]), (.tmp 5, [false])] Tryz.func16 rfl rfl ?_; unfold m_impl_StepChange
  intro hb
  clear hb
  simp only [↓reduceIte, reduceEqDiff, reduceLT, reduceAdd, reduceCtorEq, go_sem]
  apply callK_of (c_impl_copyArchive a hs)
  simp only [↓reduceIte, reduceEqDiff, reduceLT, reduceLeDiff, reduceAdd, reduceMul, reduceCtorEq, go_sem]
  intros
  have e1 : List.map GVersion.enc a.Site ++ [[T.sc (Value.int IntKind.i64 x.Address.Host), T.sc (Value.int IntKind.i64 x.Address.Path), T.sc (Value.int IntKind.i64 x.Address.Query), T.sc (Value.int IntKind.i64 x.From), T.sc (Value.int IntKind.i64 x.Resource.Kind), T.sl 1 (List.map encI x.Resource.Body), T.sc (Value.int IntKind.i64 x.Resource.To.Host), T.sc (Value.int IntKind.i64 x.Resource.To.Path), T.sc (Value.int IntKind.i64 x.Resource.To.Query)]] = (a.Site ++ [x]).map GVersion.enc := by rw [List.map_append]; rfl
  have e2 : a.Site.length + 1 = (a.Site ++ [x]).length := by simp
  have hsl : a.Site.length ≤ 1073741824 := by simp only [GArchive.size] at hs; omega
  refine ⟨by decide, ?_⟩
  apply callK_of (c_impl_copySite [x] (by simp only [List.length_cons, List.length_nil, List.map_cons, List.map_nil, List.sum_cons, List.sum_nil]; simp only [GVersion.size] at hx ⊢; omega))
  simp only [↓reduceIte, reduceEqDiff, reduceLT, reduceLeDiff, reduceAdd, reduceCtorEq, go_sem, ↓e1, e2]
  intros
  refine ⟨by simp only [roomB]; simp; omega, ?_⟩
  intros
  apply callK_of (c_impl_IsSite (a.Site ++ [x]))
  simp only [↓reduceIte, reduceEqDiff, reduceLT, reduceLeDiff, reduceAdd, reduceCtorEq, go_sem]
  repeat' first
    | (refine And.intro ?_ ?_ <;> intro h)
    | (apply callK_of (c_impl_copyArchive a hs); simp only [↓reduceIte, reduceEqDiff, reduceLT, reduceAdd, reduceCtorEq, go_sem]; intros)
  all_goals
    first
      | (have hF : changeOk a x = false := by
          clear e1 e2 hsl hs hx
          unfold changeOk
          simp_all
          try omega
         simp [changeTo, hF]
         done)
      | (have hT : changeOk a x = true := by
          clear e1 e2 hsl hs hx
          unfold changeOk
          simp_all
          try omega
         simp [changeTo, hT]
         done)
def m_spec_StepChange : MC :=
(.seq (pr [.box 2 0 (.s 0), .box 3 1 (.s 1), .alloc 4 2 [.emp 9, .emp 4, .emp 4, .emp 6, .emp 4, .emp 5, .emp 4, .emp 1, .emp 4, pz], .mv 5 cF] [2,3,4])
(.seq (pr [.load 8 true 10 (.s 2), .call 9 [3, 4, 5, 6, 7, 8, 9, 10, 11] (.f n_spec_l32Copy) [.s 8], .alloc 6 12 [.emp 9, .emp 4, .emp 4, .emp 6, .emp 4, .emp 5, .emp 4, .emp 1, .emp 4, pz], .store 10 (.s 6) (.s 9)] [2,3,4,6])
(.seq (.dreg [Zf [13,14] [14] (.fld 10 (.s 2) 0), Zg [13,14] [14] [0] (.load 11 false 1 (.s 10)), { o := .call 12 [13] (.f n_spec_l32Site) [.s 11], hs := [13,14], ho := [14], ws := [13], bf := [0,1] }, Zf [10,11,12] [13] (.load 13 true 9 (.s 3)), { o := .lit 14 14 9 88 [.s 13], hs := [10,11,12], ho := [13], ws := [14], bf := [3] }, { o := .call 15 [15] (.f n_spec_l32Site) [.s 14], ws := [15], bf := (.range 5) }, { o := .app 16 13 9 88 (.s 12) (.s 15), ws := [13,15], bf := (.range 6) }, Ze (.range 7) (.mv 7 (.s 16))] [2,3,4,6,7])
(.seq (.seq (.reg [Za (.mv 17 (.s 7)), Za (.call 18 [] (.f n_spec_IsSite) [.s 17]), Za (.un 19 .not (.s 18)), Za (.mv 20 (.s 19)), Zb 20 false (.fld 21 (.s 3) 3), Zb 20 false (.load 22 false 1 (.s 21)), Zb 20 false (.fld 23 (.s 2) 9), Zb 20 false (.load 24 false 1 (.s 23)), Zb 20 false (.bin 25 false .lss (.s 22) (.s 24)), Za (.pick 26 (.s 20) cT (.s 25))] [4,6,7,26])
(.cond (.s 26) (.seq (pr [.load 27 true 10 (.s 6), .store 10 (.s 4) (.s 27), .mv 5 cF] [4,5])
.ret) .skip))
(.seq (pr [.mv 28 (.s 7), .fld 29 (.s 6) 0, .store 1 (.s 29) (.s 28)] [4,6])
(.seq (pr [.load 30 true 10 (.s 6), .store 10 (.s 4) (.s 30), .mv 5 cT] [4,5])
.ret))))))
theorem c_spec_StepChange (a : GArchive) (x : GVersion) (hs : a.size ≤ 1073741824) (hx : x.size ≤ 1073741823) : Ctr Tryz.prog n_spec_StepChange [aS a.enc, aS x.enc] [rS (changeTo a x).enc, rB (changeOk a x)] := by
  refine cA m_spec_StepChange 16 31 [(.cell 4 true 10, [true, true, true, true, true, true, true, true, true, false]), (.tmp 5, [false])] Tryz.func13 rfl rfl ?_; unfold m_spec_StepChange
  intro hb
  clear hb
  simp only [↓reduceIte, reduceEqDiff, reduceLT, reduceAdd, reduceCtorEq, go_sem]
  apply callK_of (c_spec_l32Copy a hs)
  simp only [↓reduceIte, reduceEqDiff, reduceLT, reduceLeDiff, reduceAdd, reduceCtorEq, go_sem]
  intros
  have e1 : List.map GVersion.enc a.Site ++ [[T.sc (Value.int IntKind.i64 x.Address.Host), T.sc (Value.int IntKind.i64 x.Address.Path), T.sc (Value.int IntKind.i64 x.Address.Query), T.sc (Value.int IntKind.i64 x.From), T.sc (Value.int IntKind.i64 x.Resource.Kind), T.sl 1 (List.map encI x.Resource.Body), T.sc (Value.int IntKind.i64 x.Resource.To.Host), T.sc (Value.int IntKind.i64 x.Resource.To.Path), T.sc (Value.int IntKind.i64 x.Resource.To.Query)]] = (a.Site ++ [x]).map GVersion.enc := by rw [List.map_append]; rfl
  have e2 : a.Site.length + 1 = (a.Site ++ [x]).length := by simp
  have hsl : a.Site.length + (a.Site.map GVersion.size).sum ≤ 1073741824 := by simp only [GArchive.size] at hs; omega
  apply callK_of (c_spec_l32Site a.Site hsl)
  simp only [↓reduceIte, reduceEqDiff, reduceLT, reduceAdd, reduceMul, reduceCtorEq, go_sem]
  intros
  refine ⟨by decide, ?_⟩
  apply callK_of (c_spec_l32Site [x] (by simp only [List.length_cons, List.length_nil, List.map_cons, List.map_nil, List.sum_cons, List.sum_nil]; simp only [GVersion.size] at hx ⊢; omega))
  simp only [↓reduceIte, reduceEqDiff, reduceLT, reduceAdd, reduceCtorEq, go_sem, ↓e1, e2]
  intros
  refine ⟨by simp only [roomB]; simp; omega, ?_⟩
  intros
  apply callK_of (c_spec_IsSite (a.Site ++ [x]))
  simp only [↓reduceIte, reduceEqDiff, reduceLT, reduceLeDiff, reduceAdd, reduceCtorEq, go_sem]
  repeat' first
    | (refine And.intro ?_ ?_ <;> intro h)
  all_goals
    first
      | (have hF : changeOk a x = false := by
          clear e1 e2 hsl hs hx
          unfold changeOk
          simp_all
          try omega
         simp [changeTo, hF]
         done)
      | (have hT : changeOk a x = true := by
          clear e1 e2 hsl hs hx
          unfold changeOk
          simp_all
          try omega
         simp [changeTo, hT]
         done)
end Go.Proofs.YtpclnmleldeleaaGreatR
namespace Go.Proofs.YtpclnmleldeleaaGreatR
open Go Go.RowKit Go.Proofs
open Nat (reduceEqDiff reduceLT reduceLeDiff reduceAdd reduceMul)
open List (reduceReplicate)
set_option linter.unusedSimpArgs false
set_option linter.unusedVariables false
def m_laws_FnExactStepChange : MC :=
(.seq (pr [.box 2 0 (.s 0), .box 3 1 (.s 1), .mv 4 cF] [2,3])
(.seq (pr [.mv 5 (ci 1048576)] [2,3,5])
(.seq (pr [.load 17 true 10 (.s 2), .mv 18 (.s 5), .call 19 [] (.f n_laws_szArchive) [.s 17, .s 18], .mv 5 (.s 19)] [2,3,5])
(.seq (.seq (pr [.mv 20 (.s 5), .bin 21 false .lss (.s 20) (ci 0)] [2,3,5,21])
(.cond (.s 21) (.seq (pr [.mv 4 cT] [4])
.ret) .skip))
(.seq (pr [.load 22 true 9 (.s 3), .mv 23 (.s 5), .call 24 [] (.f n_laws_szVersion) [.s 22, .s 23], .mv 5 (.s 24)] [2,3,5])
(.seq (.seq (pr [.mv 25 (.s 5), .bin 26 false .lss (.s 25) (ci 0)] [2,3,26])
(.cond (.s 26) (.seq (pr [.mv 4 cT] [4])
.ret) .skip))
(.seq (.dreg [Zf [6,30] [21] (.load 28 true 10 (.s 2)), { o := .call 29 [2, 3, 4, 5, 6, 7, 8, 9, 10] (.f n_laws_toArchive) [.s 28], hs := [6,30], ho := [21], ws := [2,3,4,5,6,7,8,9,10], bf := [0] }, Zf [6,28,29] [2,3,4,5,6,7,8,9,10,21] (.load 30 true 9 (.s 3)), { o := .call 31 [11] (.f n_laws_toVersion) [.s 30], hs := [6], ho := [21], ws := [11], bf := [0,1,2] }, { o := .call 32 [12, 13, 14, 15, 16, 17, 18, 19, 20] (.f n_spec_StepChange) [.s 29, .s 31], hs := [6], ho := [21], ws := [12,13,14,15,16,17,18,19,20], bf := (.range 4) }, Zg [6] [21] (.range 5) (.mv 27 (.s 32)), Zg [6,34] [21] (.range 6) (.ext 33 (.s 27) 0), Zg [6,33] [12,13,14,15,16,17,18,19,20,21] (.range 6) (.ext 34 (.s 27) 1), { o := .alloc 6 21 [.emp 9, .emp 4, .emp 4, .emp 6, .emp 4, .emp 5, .emp 4, .emp 1, .emp 4, pz], hs := [27,28,29,30,31,32,33,34], ho := [2,3,4,5,6,7,8,9,10,11,12,13,14,15,16,17,18,19,20], ws := [21] }, { o := .store 10 (.s 6) (.s 33), hs := [34], ws := [12,13,14,15,16,17,18,19,20,21], bf := [0,1,2,3,4,5,6,8] }, Ze (.range 10) (.mv 7 (.s 34))] [2,3,6,7])
(.seq (pr [.load 35 true 10 (.s 2), .call 36 [22, 23, 24, 25, 26, 27, 28, 29, 30] (.f n_laws_toArchive) [.s 35], .alloc 8 31 [.emp 9, .emp 4, .emp 4, .emp 6, .emp 4, .emp 5, .emp 4, .emp 1, .emp 4, pz], .store 10 (.s 8) (.s 36)] [2,3,6,7,8])
(.seq (pr [.load 37 true 9 (.s 3), .call 38 [32] (.f n_laws_toVersion) [.s 37], .alloc 9 33 [pz, pz, pz, pz, pz, .emp 1, pz, pz, pz], .store 9 (.s 9) (.s 38)] [2,3,6,7,8,9])
(.seq (pr [.load 40 true 10 (.s 8), .load 41 true 9 (.s 9), .call 42 [34, 35, 36, 37, 38, 39, 40, 41, 42] (.f n_impl_StepChange) [.s 40, .s 41], .mv 39 (.s 42), .ext 43 (.s 39) 0, .ext 44 (.s 39) 1, .alloc 10 43 [.emp 9, .emp 4, .emp 4, .emp 6, .emp 4, .emp 5, .emp 4, .emp 1, .emp 4, pz], .store 10 (.s 10) (.s 43), .mv 11 (.s 44)] [2,3,6,7,8,9,10,11])
(.seq (.seq (.reg [Za (.load 45 true 10 (.s 10)), Za (.load 46 true 10 (.s 6)), Za (.call 47 [] (.f n_laws_eqArchive) [.s 45, .s 46]), Za (.un 48 .not (.s 47)), Za (.mv 49 (.s 48)), Zb 49 false (.mv 50 (.s 11)), Zb 49 false (.mv 51 (.s 7)), Zb 49 false (.bin 52 true .neq (.s 50) (.s 51)), Za (.pick 53 (.s 49) cT (.s 52))] [2,3,6,7,8,9,10,11,53])
(.cond (.s 53) (.seq (pr [.mv 4 cF] [4])
.ret) .skip))
(.seq (.seq (.dreg [Zf [55,56] [44,45,46,47,48,49,50,51,52] (.load 54 true 10 (.s 8)), Zc [54] (.load 55 true 10 (.s 2)), { o := .call 56 [44, 45, 46, 47, 48, 49, 50, 51, 52] (.f n_laws_toArchive) [.s 55], hs := [54], ws := [44,45,46,47,48,49,50,51,52], bf := [1] }, Ze [0,1,2] (.call 57 [] (.f n_laws_eqArchive) [.s 54, .s 56]), Ze (.range 4) (.un 58 .not (.s 57))] [2,3,6,7,8,9,10,11,58])
(.cond (.s 58) (.seq (pr [.mv 4 cF] [4])
.ret) .skip))
(.seq (.seq (.dreg [Zf [60,61] [53] (.load 59 true 9 (.s 9)), Zc [59] (.load 60 true 9 (.s 3)), { o := .call 61 [53] (.f n_laws_toVersion) [.s 60], hs := [59], ws := [53], bf := [1] }, Ze [0,1,2] (.call 62 [] (.f n_laws_eqVersion) [.s 59, .s 61]), Ze (.range 4) (.un 63 .not (.s 62))] [2,3,6,7,8,9,10,11,63])
(.cond (.s 63) (.seq (pr [.mv 4 cF] [4])
.ret) .skip))
(.seq (pr [.mv 12 (ci 1)] [2,3,6,7,8,9,10,11,12])
(.seq (pr [.load 64 true 10 (.s 8), .mv 65 (.s 12), .callI 66 [] (.f n_laws_markArchive) [.s 64, .s 65] [22,23,24,25,26,27,28,29,30] [], .mv 12 (.s 66)] [2,3,6,7,9,10,11,12])
(.seq (pr [.load 67 true 9 (.s 9), .mv 68 (.s 12), .callI 69 [] (.f n_laws_markVersion) [.s 67, .s 68] [32] [], .mv 12 (.s 69)] [2,3,6,7,10,11,12])
(.seq (.seq (.reg [Za (.mv 70 (.s 12)), Za (.bin 71 false .lss (.s 70) (ci 0)), Za (.mv 72 (.s 71)), Zb 72 false (.load 73 true 10 (.s 10)), Zb 72 false (.load 74 true 10 (.s 6)), Zb 72 false (.call 75 [] (.f n_laws_eqArchive) [.s 73, .s 74]), Zb 72 false (.un 76 .not (.s 75)), Za (.pick 77 (.s 72) cT (.s 76)), Za (.mv 78 (.s 77)), Zb 78 false (.mv 79 (.s 11)), Zb 78 false (.mv 80 (.s 7)), Zb 78 false (.bin 81 true .neq (.s 79) (.s 80)), Za (.pick 82 (.s 78) cT (.s 81))] [2,3,6,7,10,82])
(.cond (.s 82) (.seq (pr [.mv 4 cF] [4])
.ret) .skip))
(.seq (pr [.mv 13 (ci 1)] [2,3,6,7,10,13])
(.seq (pr [.load 83 true 10 (.s 10), .mv 84 (.s 13), .callI 85 [] (.f n_laws_markArchive) [.s 83, .s 84] [34,35,36,37,38,39,40,41,42] [], .mv 13 (.s 85)] [2,3,6,7,10,13])
(.seq (pr [.mv 14 (ci 1)] [2,3,6,7,10,13,14])
(.seq (pr [.load 86 true 10 (.s 10), .mv 87 (.s 14), .call 88 [] (.f n_laws_heldArchive) [.s 86, .s 87], .mv 14 (.s 88)] [2,3,6,7,10,13,14])
(.seq (.seq (pr [.mv 89 (.s 14), .bin 90 false .lss (.s 89) (ci 0)] [2,3,6,7,10,13,14,90])
(.cond (.s 90) (.seq (pr [.mv 4 cF] [4])
.ret) .skip))
(.seq (.seq (pr [.mv 91 (.s 14), .mv 92 (.s 13), .bin 93 false .neq (.s 91) (.s 92)] [2,3,6,7,10,13,93])
(.cond (.s 93) (.seq (pr [.mv 4 cF] [4])
.ret) .skip))
(.seq (.dreg [Zf [15,97] [73] (.load 95 true 10 (.s 2)), { o := .call 96 [54, 55, 56, 57, 58, 59, 60, 61, 62] (.f n_laws_toArchive) [.s 95], hs := [15,97], ho := [73], ws := [54,55,56,57,58,59,60,61,62], bf := [0] }, Zf [15,95,96] [54,55,56,57,58,59,60,61,62,73] (.load 97 true 9 (.s 3)), { o := .call 98 [63] (.f n_laws_toVersion) [.s 97], hs := [15], ho := [73], ws := [63], bf := [0,1,2] }, { o := .call 99 [64, 65, 66, 67, 68, 69, 70, 71, 72] (.f n_impl_StepChange) [.s 96, .s 98], hs := [15], ho := [73], ws := [64,65,66,67,68,69,70,71,72], bf := (.range 4) }, Zg [15] [73] (.range 5) (.mv 94 (.s 99)), Zg [15,101] [73] (.range 6) (.ext 100 (.s 94) 0), Zg [15,100] [64,65,66,67,68,69,70,71,72,73] (.range 6) (.ext 101 (.s 94) 1), { o := .alloc 15 73 [.emp 9, .emp 4, .emp 4, .emp 6, .emp 4, .emp 5, .emp 4, .emp 1, .emp 4, pz], hs := [94,95,96,97,98,99,100,101], ho := [54,55,56,57,58,59,60,61,62,63,64,65,66,67,68,69,70,71,72], ws := [73] }, { o := .store 10 (.s 15) (.s 100), hs := [101], ws := [64,65,66,67,68,69,70,71,72,73], bf := [0,1,2,3,4,5,6,8] }, Ze (.range 10) (.mv 16 (.s 101))] [6,7,10,13,15,16])
(.seq (.seq (.reg [Za (.load 102 true 10 (.s 15)), Za (.load 103 true 10 (.s 6)), Za (.call 104 [] (.f n_laws_eqArchive) [.s 102, .s 103]), Za (.un 105 .not (.s 104)), Za (.mv 106 (.s 105)), Zb 106 false (.mv 107 (.s 16)), Zb 106 false (.mv 108 (.s 7)), Zb 106 false (.bin 109 true .neq (.s 107) (.s 108)), Za (.pick 110 (.s 106) cT (.s 109))] [10,13,110])
(.cond (.s 110) (.seq (pr [.mv 4 cF] [4])
.ret) .skip))
(.seq (pr [.mv 14 (ci 1)] [10,13,14])
(.seq (pr [.load 111 true 10 (.s 10), .mv 112 (.s 14), .call 113 [] (.f n_laws_heldArchive) [.s 111, .s 112], .mv 14 (.s 113)] [13,14])
(.seq (.seq (pr [.mv 114 (.s 14), .bin 115 false .lss (.s 114) (ci 0)] [13,14,115])
(.cond (.s 115) (.seq (pr [.mv 4 cF] [4])
.ret) .skip))
(.seq (.seq (pr [.mv 116 (.s 14), .mv 117 (.s 13), .bin 118 false .neq (.s 116) (.s 117)] [118])
(.cond (.s 118) (.seq (pr [.mv 4 cF] [4])
.ret) .skip))
(.seq (pr [.mv 4 cT] [4])
.ret))))))))))))))))))))))))))))))
theorem c_laws_FnExactStepChange (a : GArchive) (x : GVersion) : Ctr Tryz.prog n_laws_FnExactStepChange [aS a.enc, aS x.enc] [rB true] := by
 refine cA m_laws_FnExactStepChange 74 119 [(.tmp 4, [false])] Tryz.func3 rfl rfl ?_; unfold m_laws_FnExactStepChange
 intro hb
 clear hb
 simp only [↓reduceIte, reduceEqDiff, reduceLT, reduceAdd, reduceCtorEq, go_sem]
 apply callK_of (c_laws_szArchive a _ (by omega))
 simp only [↓reduceIte, reduceEqDiff, reduceLT, reduceAdd, reduceCtorEq, go_sem]
 intro _ hz
 obtain ⟨hz1, hz2, hz3⟩ := szr_add (m := x.size) (by omega) hz
 apply callK_of (c_laws_szVersion x _ hz1)
 rw [← hz3]
 simp only [↓reduceIte, reduceEqDiff, reduceLT, reduceAdd, reduceCtorEq, go_sem]
 intro _ hz
 have hs := szr_ok hz
 have hc_a := GArchive.cts_le a
 have hc_x := GVersion.cts_le x
 have hr0 := GArchive.cts_le (changeTo a x)
 have hl_change_size := change_size a x
 apply callK_of (c_laws_toArchive a (by omega))
 simp only [↓reduceIte, reduceEqDiff, reduceLT, reduceAdd, reduceCtorEq, go_sem]
 try intros
 apply callK_of (c_laws_toVersion x (by omega))
 simp only [↓reduceIte, reduceEqDiff, reduceLT, reduceAdd, reduceCtorEq, go_sem]
 try intros
 apply callK_of (c_spec_StepChange a x (by omega) (by omega))
 simp only [↓reduceIte, reduceEqDiff, reduceLT, reduceAdd, reduceCtorEq, go_sem]
 try intros
 apply callK_of (c_laws_toArchive a (by omega))
 simp only [↓reduceIte, reduceEqDiff, reduceLT, reduceAdd, reduceCtorEq, go_sem]
 try intros
 apply callK_of (c_laws_toVersion x (by omega))
 simp only [↓reduceIte, reduceEqDiff, reduceLT, reduceAdd, reduceCtorEq, go_sem]
 try intros
 apply callK_of (c_impl_StepChange a x (by omega) (by omega))
 simp only [↓reduceIte, reduceEqDiff, reduceLT, reduceAdd, reduceCtorEq, go_sem]
 try intros
 apply callK_of (c_laws_eqArchive (changeTo a x) (changeTo a x))
 simp only [↓reduceIte, reduceEqDiff, reduceLT, reduceAdd, reduceCtorEq, go_sem]
 try intros
 apply callK_of (c_laws_toArchive a (by omega))
 simp only [↓reduceIte, reduceEqDiff, reduceLT, reduceAdd, reduceCtorEq, go_sem]
 try intros
 apply callK_of (c_laws_eqArchive a a)
 simp only [↓reduceIte, reduceEqDiff, reduceLT, reduceAdd, reduceCtorEq, go_sem]
 try intros
 apply callK_of (c_laws_toVersion x (by omega))
 simp only [↓reduceIte, reduceEqDiff, reduceLT, reduceAdd, reduceCtorEq, go_sem]
 try intros
 apply callK_of (c_laws_eqVersion x x)
 simp only [↓reduceIte, reduceEqDiff, reduceLT, reduceAdd, reduceCtorEq, go_sem]
 try intros
 apply callIK_of (c_laws_markArchive a (1) (by omega) (by omega))
 simp only [↓reduceIte, reduceEqDiff, reduceLT, reduceAdd, reduceCtorEq, go_sem]
 try intros
 apply callIK_of (c_laws_markVersion x (1 + ((a).cts : Nat)) (by omega) (by omega))
 simp only [↓reduceIte, reduceEqDiff, reduceLT, reduceAdd, reduceCtorEq, go_sem]
 try intros
 have hk : ¬ ((1 + ((a).cts : Nat) + ((x).cts : Nat) : Int)) < 0 := by omega
 simp only [go_sem, hk]
 try intros
 apply callK_of (c_laws_eqArchive (changeTo a x) (changeTo a x))
 simp only [↓reduceIte, reduceEqDiff, reduceLT, reduceAdd, reduceCtorEq, go_sem]
 try intros
 apply callIK_of (c_laws_markArchive (changeTo a x) (1) (by omega) (by omega))
 simp only [↓reduceIte, reduceEqDiff, reduceLT, reduceAdd, reduceCtorEq, go_sem]
 try intros
 apply callK_of (c_laws_heldArchive (changeTo a x) (1) (by omega) (by omega))
 simp only [↓reduceIte, reduceEqDiff, reduceLT, reduceAdd, reduceCtorEq, go_sem]
 have hq0 : ¬ ((1 + ((changeTo a x).cts : Nat) : Int)) < 0 := by omega
 try simp only [go_sem, hq0]
 try intros
 apply callK_of (c_laws_toArchive a (by omega))
 simp only [↓reduceIte, reduceEqDiff, reduceLT, reduceAdd, reduceCtorEq, go_sem]
 try intros
 apply callK_of (c_laws_toVersion x (by omega))
 simp only [↓reduceIte, reduceEqDiff, reduceLT, reduceAdd, reduceCtorEq, go_sem]
 try intros
 apply callK_of (c_impl_StepChange a x (by omega) (by omega))
 simp only [↓reduceIte, reduceEqDiff, reduceLT, reduceAdd, reduceCtorEq, go_sem]
 try intros
 apply callK_of (c_laws_eqArchive (changeTo a x) (changeTo a x))
 simp only [↓reduceIte, reduceEqDiff, reduceLT, reduceAdd, reduceCtorEq, go_sem]
 try intros
 apply callK_of (c_laws_heldArchive (changeTo a x) (1) (by omega) (by omega))
 simp only [↓reduceIte, reduceEqDiff, reduceLT, reduceCtorEq, go_sem]
 have hq0 : ¬ ((1 + ((changeTo a x).cts : Nat) : Int)) < 0 := by omega
 try simp only [go_sem, hq0]
 try intros
end Go.Proofs.YtpclnmleldeleaaGreatR
