/- What the functions compute that the laws of StepWrite reach: contracts. Conditions stand in each theorem. -/
import Derived.Test.YtgkeplbnnjogiaaGreatProg
import Derived.KernelRfl
import Derived.Test.YtgkeplbnnjogiaaGreatTStepWritea
set_option linter.unusedVariables false
set_option linter.unusedSimpArgs false
namespace Go.Proofs.YtgkeplbnnjogiaaGreatR
open Go Go.RowKit Go.Proofs
open Nat (reduceEqDiff reduceLT reduceLeDiff reduceAdd reduceMul)
open List (reduceReplicate)
theorem tt {p : Prop} [Decidable p] (h : p) : true = decide p := (decide_eq_true h).symm
theorem anyF_step {α : Type} {p : α → Bool} {l : List α} {k : Nat} {x : α} (hx : l[k]? = some x) (h : (l.take k).any p = false) (hn : p x = false) : (l.take (k + 1)).any p = false := by
 rw [take_snoc hx, List.any_append, h]
 simp [hn]
theorem any_here {α : Type} {p : α → Bool} {l : List α} {k : Nat} {x : α} (hx : l[k]? = some x) (hn : p x = true) : l.any p = true := List.any_eq_true.2 ⟨x, at_mem hx, hn⟩
def idxF {α : Type} (p : α → Bool) (l : List α) : Int := if l.any p then (l.takeWhile fun x => !p x).length else -1
theorem idxF_here {α : Type} {p : α → Bool} {l : List α} {k : Nat} {x : α} (hx : l[k]? = some x) (h : (l.take k).any p = false) (hn : p x = true) : idxF p l = k := by
 unfold idxF
 rw [any_here hx hn, if_pos rfl]
 congr 1
 have e : l = l.take k ++ x :: l.drop (k + 1) := take_drop_at hx
 rw [e, List.takeWhile_append_of_pos]
 ·simp [hn]
  have := len_at hx
  omega
 ·intro a ha
  have := List.any_eq_false.1 h a ha
  simpa using this
theorem idxF_none {α : Type} {p : α → Bool} {l : List α} (h : l.any p = false) : idxF p l = -1 := by
 unfold idxF; rw [h]; rfl
theorem idxF_ge {α : Type} {p : α → Bool} {l : List α} : decide (idxF p l ≥ 0) = l.any p := by
 unfold idxF
 cases l.any p <;> simp
def idxO {α : Type} [DecidableEq α] (n : α) (l : List α) : Int := idxF (fun x => decide (n = x)) l
theorem idxO_ge {α : Type} [DecidableEq α] {n : α} {l : List α} : decide (idxO n l ≥ 0) = decide (n ∈ l) := by
 unfold idxO
 rw [idxF_ge]
 rw [Bool.eq_iff_iff]
 simp
def m_slices_Index_int_int : MC :=
(.seq (pr [.mv 4 (ci 0)] [0,1])
(.seq (.seq (pr [.mv 6 (.s 0), .len 7 false (.s 6), .mv 8 (ci 0)] [0,1,7,8])
(.block 0 (.loop ([0,1,7,8], []) (.seq (pr [.bin 9 false .lss (.s 8) (.s 7)] [0,1,7,8,9])
(.seq (.cond (.s 9) .skip (.exit 0))
(.seq (.block 1 (.seq (pr [.mv 10 (.s 8), .mv 5 (.s 10)] [0,1,5,7,8])
(.seq (pr [.mv 11 (.s 1), .mv 12 (.s 0), .mv 13 (.s 5), .idx 14 1 (.s 12) (.s 13), .load 15 false 1 (.s 14), .bin 16 false .eql (.s 11) (.s 15)] [0,1,5,7,8,16])
(.cond (.s 16) (.seq (pr [.mv 17 (.s 5), .mv 4 (.s 17)] [4])
.ret) .skip))))
(pr [.bin 18 false .add (.s 8) (ci 1), .mv 8 (.s 18)] [0,1,7,8])))))))
(.seq (pr [.mv 4 (.c (.int .i64 (-1)))] [4])
.ret)))
theorem c_slices_Index_Int (xs : List Int) (n : Int) : Ctr Tryz.prog n_slices_Index_int_int [aL 1 (xs.map encI), aI n] [rI (idxO n xs)] := by
 refine cA m_slices_Index_int_int 0 19 [(.tmp 4, [false])] Tryz.func191 rfl rfl ?_; unfold m_slices_Index_int_int
 intro hb
 simp only [bdA, bdL, bdT, bdR_map, wfB_i64, roomB, and_true, List.length_map] at hb
 obtain ⟨⟨hl, -⟩, -⟩ := hb
 simp only [↓reduceIte, go_sem]
 refine loopK_rng xs (fun k => [(8, vI k)]) (fun k => []) (fun k => (xs.take k).any (fun x => decide (n = x)) = false) hl ?_
 simp only [↓reduceIte, go_sem]
 refine ⟨?_, by simp, ?_, ?_⟩
 ·simp only [↓reduceIte, go_sem]
 ·intro k x hx h h0 h1 hw
  simp only [↓reduceIte, go_sem, bk_eq hx, h0, h1, hw]
  exact ⟨fun hn => (idxF_here hx h (decide_eq_true (by simpa using hn))).symm, fun hn => anyF_step hx h (decide_eq_false (by simpa using hn))⟩
 ·intro h
  simp only [↓reduceIte, go_sem]
  rw [List.take_length] at h
  exact (idxF_none h).symm
def m_slices_Contains_int_int : MC :=
(.seq (pr [.mv 4 cF] [0,1])
(.seq (pr [.mv 5 (.s 0), .mv 6 (.s 1), .call 7 [] (.f n_slices_Index_int_int) [.s 5, .s 6], .bin 8 false .geq (.s 7) (ci 0), .mv 4 (.s 8)] [4])
.ret))
theorem c_slices_Contains_Int (xs : List Int) (n : Int) : Ctr Tryz.prog n_slices_Contains_int_int [aL 1 (xs.map encI), aI n] [rB (decide (n ∈ xs))] := by
 refine cA m_slices_Contains_int_int 0 9 [(.tmp 4, [false])] Tryz.func101 rfl rfl ?_; unfold m_slices_Contains_int_int
 intro hb
 clear hb
 simp only [↓reduceIte, go_sem]
 refine callK_of (c_slices_Index_Int xs n) ?_
 simp only [↓reduceIte, go_sem]
 intros
 exact idxO_ge
def encS (s : ByteArray) : List T := [tS s]
attribute [go_sem] encS
abbrev aStr (s : ByteArray) : Bool × List T := (false, [tS s])
attribute [go_sem] aStr
def m_slices_IndexFunc_impl_Op_impl_Op : MC :=
(.seq (pr [.mv 4 (ci 0)] [0,1])
(.seq (.seq (pr [.mv 6 (.s 0), .len 7 false (.s 6), .mv 8 (ci 0)] [0,1,7,8])
(.block 0 (.loop ([0,1,7,8], []) (.seq (pr [.bin 9 false .lss (.s 8) (.s 7)] [0,1,7,8,9])
(.seq (.cond (.s 9) .skip (.exit 0))
(.seq (.block 1 (.seq (pr [.mv 10 (.s 8), .mv 5 (.s 10)] [0,1,5,7,8])
(.seq (pr [.mv 11 (.s 1), .mv 12 (.s 0), .mv 13 (.s 5), .idx 14 4 (.s 12) (.s 13), .load 15 true 4 (.s 14), .call 16 [] (.s 11) [.s 15]] [0,1,5,7,8,16])
(.cond (.s 16) (.seq (pr [.mv 17 (.s 5), .mv 4 (.s 17)] [4])
.ret) .skip))))
(pr [.bin 18 false .add (.s 8) (ci 1), .mv 8 (.s 18)] [0,1,7,8])))))))
(.seq (pr [.mv 4 (.c (.int .i64 (-1)))] [4])
.ret)))
theorem c_slices_IndexFunc_Op (xs : List GOp) (f : FuncId) (cs : List T) (p : GOp → Bool) (hp : ∀ x, x ∈ xs → Ctr Tryz.prog f (aS (GOp.enc x) :: cs.map (fun t => (false, [t]))) [rB (p x)]) : Ctr Tryz.prog n_slices_IndexFunc_impl_Op_impl_Op [aL 4 (xs.map GOp.enc), (false, [.fn f cs])] [rI (idxF p xs)] := by
 refine cA m_slices_IndexFunc_impl_Op_impl_Op 0 19 [(.tmp 4, [false])] Tryz.func396 rfl rfl ?_; unfold m_slices_IndexFunc_impl_Op_impl_Op
 intro hb
 simp only [bdA, bdL, bdT, bdR_map, roomB, and_true, List.length_map] at hb
 obtain ⟨⟨hl, -⟩, -⟩ := hb
 simp only [↓reduceIte, go_sem]
 refine loopK_rng xs (fun k => [(8, vI k)]) (fun k => []) (fun k => (xs.take k).any p = false) hl ?_
 simp only [↓reduceIte, go_sem]
 refine ⟨?_, by simp, ?_, ?_⟩
 ·simp only [↓reduceIte, go_sem]
 ·intro k x hx h h0 h1 hw
  simp only [↓reduceIte, go_sem, bk_eq hx, h0, h1]
  refine callK_of (hp x (at_mem hx)) ?_
  simp only [↓reduceIte, go_sem, hw]
  exact ⟨fun hn => (idxF_here hx h hn).symm, fun hn => anyF_step hx h hn⟩
 ·intro h
  simp only [↓reduceIte, go_sem]
  rw [List.take_length] at h
  rw [idxF_none h]
def m_slices_ContainsFunc_impl_Op_impl_Op : MC :=
(.seq (pr [.mv 4 cF] [0,1])
(.seq (pr [.mv 5 (.s 0), .mv 6 (.s 1), .call 7 [] (.f n_slices_IndexFunc_impl_Op_impl_Op) [.s 5, .s 6], .bin 8 false .geq (.s 7) (ci 0), .mv 4 (.s 8)] [4])
.ret))
theorem c_slices_ContainsFunc_Op (xs : List GOp) (f : FuncId) (cs : List T) (p : GOp → Bool) (hp : ∀ x, x ∈ xs → Ctr Tryz.prog f (aS (GOp.enc x) :: cs.map (fun t => (false, [t]))) [rB (p x)]) : Ctr Tryz.prog n_slices_ContainsFunc_impl_Op_impl_Op [aL 4 (xs.map GOp.enc), (false, [.fn f cs])] [rB (xs.any p)] := by
 refine cA m_slices_ContainsFunc_impl_Op_impl_Op 0 9 [(.tmp 4, [false])] Tryz.func327 rfl rfl ?_; unfold m_slices_ContainsFunc_impl_Op_impl_Op
 intro hb
 clear hb
 simp only [↓reduceIte, go_sem]
 refine callK_of (c_slices_IndexFunc_Op xs f cs p hp) ?_
 simp only [↓reduceIte, go_sem]
 intros
 exact idxF_ge
def m_slices_IndexFunc_impl_Entry_impl_Entry : MC :=
(.seq (pr [.mv 4 (ci 0)] [0,1])
(.seq (.seq (pr [.mv 6 (.s 0), .len 7 false (.s 6), .mv 8 (ci 0)] [0,1,7,8])
(.block 0 (.loop ([0,1,7,8], []) (.seq (pr [.bin 9 false .lss (.s 8) (.s 7)] [0,1,7,8,9])
(.seq (.cond (.s 9) .skip (.exit 0))
(.seq (.block 1 (.seq (pr [.mv 10 (.s 8), .mv 5 (.s 10)] [0,1,5,7,8])
(.seq (pr [.mv 11 (.s 1), .mv 12 (.s 0), .mv 13 (.s 5), .idx 14 5 (.s 12) (.s 13), .load 15 true 5 (.s 14), .call 16 [] (.s 11) [.s 15]] [0,1,5,7,8,16])
(.cond (.s 16) (.seq (pr [.mv 17 (.s 5), .mv 4 (.s 17)] [4])
.ret) .skip))))
(pr [.bin 18 false .add (.s 8) (ci 1), .mv 8 (.s 18)] [0,1,7,8])))))))
(.seq (pr [.mv 4 (.c (.int .i64 (-1)))] [4])
.ret)))
theorem c_slices_IndexFunc_Entry (xs : List GEntry) (f : FuncId) (cs : List T) (p : GEntry → Bool) (hp : ∀ x, x ∈ xs → Ctr Tryz.prog f (aS (GEntry.enc x) :: cs.map (fun t => (false, [t]))) [rB (p x)]) : Ctr Tryz.prog n_slices_IndexFunc_impl_Entry_impl_Entry [aL 5 (xs.map GEntry.enc), (false, [.fn f cs])] [rI (idxF p xs)] := by
 refine cA m_slices_IndexFunc_impl_Entry_impl_Entry 0 19 [(.tmp 4, [false])] Tryz.func429 rfl rfl ?_; unfold m_slices_IndexFunc_impl_Entry_impl_Entry
 intro hb
 simp only [bdA, bdL, bdT, bdR_map, roomB, and_true, List.length_map] at hb
 obtain ⟨⟨hl, -⟩, -⟩ := hb
 simp only [↓reduceIte, go_sem]
 refine loopK_rng xs (fun k => [(8, vI k)]) (fun k => []) (fun k => (xs.take k).any p = false) hl ?_
 simp only [↓reduceIte, go_sem]
 refine ⟨?_, by simp, ?_, ?_⟩
 ·simp only [↓reduceIte, go_sem]
 ·intro k x hx h h0 h1 hw
  simp only [↓reduceIte, go_sem, bk_eq hx, h0, h1]
  refine callK_of (hp x (at_mem hx)) ?_
  simp only [↓reduceIte, go_sem, hw]
  exact ⟨fun hn => (idxF_here hx h hn).symm, fun hn => anyF_step hx h hn⟩
 ·intro h
  simp only [↓reduceIte, go_sem]
  rw [List.take_length] at h
  rw [idxF_none h]
def m_slices_ContainsFunc_impl_Entry_impl_Entry : MC :=
(.seq (pr [.mv 4 cF] [0,1])
(.seq (pr [.mv 5 (.s 0), .mv 6 (.s 1), .call 7 [] (.f n_slices_IndexFunc_impl_Entry_impl_Entry) [.s 5, .s 6], .bin 8 false .geq (.s 7) (ci 0), .mv 4 (.s 8)] [4])
.ret))
theorem c_slices_ContainsFunc_Entry (xs : List GEntry) (f : FuncId) (cs : List T) (p : GEntry → Bool) (hp : ∀ x, x ∈ xs → Ctr Tryz.prog f (aS (GEntry.enc x) :: cs.map (fun t => (false, [t]))) [rB (p x)]) : Ctr Tryz.prog n_slices_ContainsFunc_impl_Entry_impl_Entry [aL 5 (xs.map GEntry.enc), (false, [.fn f cs])] [rB (xs.any p)] := by
 refine cA m_slices_ContainsFunc_impl_Entry_impl_Entry 0 9 [(.tmp 4, [false])] Tryz.func407 rfl rfl ?_; unfold m_slices_ContainsFunc_impl_Entry_impl_Entry
 intro hb
 clear hb
 simp only [↓reduceIte, go_sem]
 refine callK_of (c_slices_IndexFunc_Entry xs f cs p hp) ?_
 simp only [↓reduceIte, go_sem]
 intros
 exact idxF_ge
def m_slices_IndexFunc_impl_Capture_impl_Capture : MC :=
(.seq (pr [.mv 4 (ci 0)] [0,1])
(.seq (.seq (pr [.mv 6 (.s 0), .len 7 false (.s 6), .mv 8 (ci 0)] [0,1,7,8])
(.block 0 (.loop ([0,1,7,8], []) (.seq (pr [.bin 9 false .lss (.s 8) (.s 7)] [0,1,7,8,9])
(.seq (.cond (.s 9) .skip (.exit 0))
(.seq (.block 1 (.seq (pr [.mv 10 (.s 8), .mv 5 (.s 10)] [0,1,5,7,8])
(.seq (pr [.mv 11 (.s 1), .mv 12 (.s 0), .mv 13 (.s 5), .idx 14 9 (.s 12) (.s 13), .load 15 true 9 (.s 14), .call 16 [] (.s 11) [.s 15]] [0,1,5,7,8,16])
(.cond (.s 16) (.seq (pr [.mv 17 (.s 5), .mv 4 (.s 17)] [4])
.ret) .skip))))
(pr [.bin 18 false .add (.s 8) (ci 1), .mv 8 (.s 18)] [0,1,7,8])))))))
(.seq (pr [.mv 4 (.c (.int .i64 (-1)))] [4])
.ret)))
theorem c_slices_IndexFunc_Capture (xs : List GCapture) (f : FuncId) (cs : List T) (p : GCapture → Bool) (hp : ∀ x, x ∈ xs → Ctr Tryz.prog f (aS (GCapture.enc x) :: cs.map (fun t => (false, [t]))) [rB (p x)]) : Ctr Tryz.prog n_slices_IndexFunc_impl_Capture_impl_Capture [aL 9 (xs.map GCapture.enc), (false, [.fn f cs])] [rI (idxF p xs)] := by
 refine cA m_slices_IndexFunc_impl_Capture_impl_Capture 0 19 [(.tmp 4, [false])] Tryz.func397 rfl rfl ?_; unfold m_slices_IndexFunc_impl_Capture_impl_Capture
 intro hb
 simp only [bdA, bdL, bdT, bdR_map, roomB, and_true, List.length_map] at hb
 obtain ⟨⟨hl, -⟩, -⟩ := hb
 simp only [↓reduceIte, go_sem]
 refine loopK_rng xs (fun k => [(8, vI k)]) (fun k => []) (fun k => (xs.take k).any p = false) hl ?_
 simp only [↓reduceIte, go_sem]
 refine ⟨?_, by simp, ?_, ?_⟩
 ·simp only [↓reduceIte, go_sem]
 ·intro k x hx h h0 h1 hw
  simp only [↓reduceIte, go_sem, bk_eq hx, h0, h1]
  refine callK_of (hp x (at_mem hx)) ?_
  simp only [↓reduceIte, go_sem, hw]
  exact ⟨fun hn => (idxF_here hx h hn).symm, fun hn => anyF_step hx h hn⟩
 ·intro h
  simp only [↓reduceIte, go_sem]
  rw [List.take_length] at h
  rw [idxF_none h]
def m_slices_ContainsFunc_impl_Capture_impl_Capture : MC :=
(.seq (pr [.mv 4 cF] [0,1])
(.seq (pr [.mv 5 (.s 0), .mv 6 (.s 1), .call 7 [] (.f n_slices_IndexFunc_impl_Capture_impl_Capture) [.s 5, .s 6], .bin 8 false .geq (.s 7) (ci 0), .mv 4 (.s 8)] [4])
.ret))
theorem c_slices_ContainsFunc_Capture (xs : List GCapture) (f : FuncId) (cs : List T) (p : GCapture → Bool) (hp : ∀ x, x ∈ xs → Ctr Tryz.prog f (aS (GCapture.enc x) :: cs.map (fun t => (false, [t]))) [rB (p x)]) : Ctr Tryz.prog n_slices_ContainsFunc_impl_Capture_impl_Capture [aL 9 (xs.map GCapture.enc), (false, [.fn f cs])] [rB (xs.any p)] := by
 refine cA m_slices_ContainsFunc_impl_Capture_impl_Capture 0 9 [(.tmp 4, [false])] Tryz.func330 rfl rfl ?_; unfold m_slices_ContainsFunc_impl_Capture_impl_Capture
 intro hb
 clear hb
 simp only [↓reduceIte, go_sem]
 refine callK_of (c_slices_IndexFunc_Capture xs f cs p hp) ?_
 simp only [↓reduceIte, go_sem]
 intros
 exact idxF_ge
def m_slices_IndexFunc_impl_Container_impl_Container : MC :=
(.seq (pr [.mv 4 (ci 0)] [0,1])
(.seq (.seq (pr [.mv 6 (.s 0), .len 7 false (.s 6), .mv 8 (ci 0)] [0,1,7,8])
(.block 0 (.loop ([0,1,7,8], []) (.seq (pr [.bin 9 false .lss (.s 8) (.s 7)] [0,1,7,8,9])
(.seq (.cond (.s 9) .skip (.exit 0))
(.seq (.block 1 (.seq (pr [.mv 10 (.s 8), .mv 5 (.s 10)] [0,1,5,7,8])
(.seq (pr [.mv 11 (.s 1), .mv 12 (.s 0), .mv 13 (.s 5), .idx 14 4 (.s 12) (.s 13), .load 15 true 4 (.s 14), .call 16 [] (.s 11) [.s 15]] [0,1,5,7,8,16])
(.cond (.s 16) (.seq (pr [.mv 17 (.s 5), .mv 4 (.s 17)] [4])
.ret) .skip))))
(pr [.bin 18 false .add (.s 8) (ci 1), .mv 8 (.s 18)] [0,1,7,8])))))))
(.seq (pr [.mv 4 (.c (.int .i64 (-1)))] [4])
.ret)))
theorem c_slices_IndexFunc_Container (xs : List GContainer) (f : FuncId) (cs : List T) (p : GContainer → Bool) (hp : ∀ x, x ∈ xs → Ctr Tryz.prog f (aS (GContainer.enc x) :: cs.map (fun t => (false, [t]))) [rB (p x)]) : Ctr Tryz.prog n_slices_IndexFunc_impl_Container_impl_Container [aL 4 (xs.map GContainer.enc), (false, [.fn f cs])] [rI (idxF p xs)] := by
 refine cA m_slices_IndexFunc_impl_Container_impl_Container 0 19 [(.tmp 4, [false])] Tryz.func148 rfl rfl ?_; unfold m_slices_IndexFunc_impl_Container_impl_Container
 intro hb
 simp only [bdA, bdL, bdT, bdR_map, roomB, and_true, List.length_map] at hb
 obtain ⟨⟨hl, -⟩, -⟩ := hb
 simp only [↓reduceIte, go_sem]
 refine loopK_rng xs (fun k => [(8, vI k)]) (fun k => []) (fun k => (xs.take k).any p = false) hl ?_
 simp only [↓reduceIte, go_sem]
 refine ⟨?_, by simp, ?_, ?_⟩
 ·simp only [↓reduceIte, go_sem]
 ·intro k x hx h h0 h1 hw
  simp only [↓reduceIte, go_sem, bk_eq hx, h0, h1]
  refine callK_of (hp x (at_mem hx)) ?_
  simp only [↓reduceIte, go_sem, hw]
  exact ⟨fun hn => (idxF_here hx h hn).symm, fun hn => anyF_step hx h hn⟩
 ·intro h
  simp only [↓reduceIte, go_sem]
  rw [List.take_length] at h
  rw [idxF_none h]
def m_slices_ContainsFunc_impl_Container_impl_Container : MC :=
(.seq (pr [.mv 4 cF] [0,1])
(.seq (pr [.mv 5 (.s 0), .mv 6 (.s 1), .call 7 [] (.f n_slices_IndexFunc_impl_Container_impl_Container) [.s 5, .s 6], .bin 8 false .geq (.s 7) (ci 0), .mv 4 (.s 8)] [4])
.ret))
theorem c_slices_ContainsFunc_Container (xs : List GContainer) (f : FuncId) (cs : List T) (p : GContainer → Bool) (hp : ∀ x, x ∈ xs → Ctr Tryz.prog f (aS (GContainer.enc x) :: cs.map (fun t => (false, [t]))) [rB (p x)]) : Ctr Tryz.prog n_slices_ContainsFunc_impl_Container_impl_Container [aL 4 (xs.map GContainer.enc), (false, [.fn f cs])] [rB (xs.any p)] := by
 refine cA m_slices_ContainsFunc_impl_Container_impl_Container 0 9 [(.tmp 4, [false])] Tryz.func65 rfl rfl ?_; unfold m_slices_ContainsFunc_impl_Container_impl_Container
 intro hb
 clear hb
 simp only [↓reduceIte, go_sem]
 refine callK_of (c_slices_IndexFunc_Container xs f cs p hp) ?_
 simp only [↓reduceIte, go_sem]
 intros
 exact idxF_ge
def m_slices_Equal_impl_Found_impl_Found : MC :=
(.seq (pr [.mv 4 cF] [0,1])
(.seq (.seq (pr [.mv 6 (.s 0), .len 7 false (.s 6), .mv 8 (.s 1), .len 9 false (.s 8), .bin 10 false .neq (.s 7) (.s 9)] [0,1,10])
(.cond (.s 10) (.seq (pr [.mv 4 cF] [4])
.ret) .skip))
(.seq (.seq (pr [.mv 11 (.s 0), .len 12 false (.s 11), .mv 13 (ci 0)] [0,1,12,13])
(.block 0 (.loop ([0,1,12,13], []) (.seq (pr [.bin 14 false .lss (.s 13) (.s 12)] [0,1,12,13,14])
(.seq (.cond (.s 14) .skip (.exit 0))
(.seq (.block 1 (.seq (pr [.mv 15 (.s 13), .mv 5 (.s 15)] [0,1,5,12,13])
(.seq (.dreg [Zc [17,20,21,22,23] (.mv 16 (.s 0)), Zc [16,20,21,22,23] (.mv 17 (.s 5)), Zd [20,21,22,23] [0,1] (.idx 18 6 (.s 16) (.s 17)), Zd [20,21,22,23] [0,1,2] (.load 19 true 6 (.s 18)), Zc [16,17,18,19,21] (.mv 20 (.s 1)), Zc [16,17,18,19,20] (.mv 21 (.s 5)), Zd [16,17,18,19] [4,5] (.idx 22 6 (.s 20) (.s 21)), Zd [16,17,18,19] [4,5,6] (.load 23 true 6 (.s 22)), Ze (.range 8) (.eqA 24 true [.i .i64, .i .i64, .i .i64, .i .i64, .i .i64, .i .i64] (.s 19) (.s 23))] [0,1,12,13,24])
(.cond (.s 24) (.seq (pr [.mv 4 cF] [4])
.ret) .skip))))
(pr [.bin 25 false .add (.s 13) (ci 1), .mv 13 (.s 25)] [0,1,12,13])))))))
(.seq (pr [.mv 4 cT] [4])
.ret))))
theorem c_slices_Equal_Found (xs ys : List GFound) : Ctr Tryz.prog n_slices_Equal_impl_Found_impl_Found [aL 6 (xs.map GFound.enc), aL 6 (ys.map GFound.enc)] [rB (decide (xs = ys))] := by
 refine cA m_slices_Equal_impl_Found_impl_Found 0 26 [(.tmp 4, [false])] Tryz.func297 rfl rfl ?_; unfold m_slices_Equal_impl_Found_impl_Found
 intro hb
 simp only [bdA, bdL, bdT, bdR_map, roomB, and_true, List.length_map] at hb
 obtain ⟨⟨hl, -⟩, ⟨hl2, -⟩⟩ := hb
 simp only [↓reduceIte, go_sem]
 refine ⟨fun h => ne_len h, fun h => ?_⟩
 have hle : xs.length = ys.length := by omega
 refine loopK_rng xs (fun k => [(13, vI k)]) (fun k => []) (fun k => xs.take k = ys.take k) hl ?_
 simp only [↓reduceIte, go_sem]
 refine ⟨?_, rfl, ?_, ?_⟩
 ·simp only [↓reduceIte, go_sem]
 ·intro k x hx he h0 h1 hw
  obtain ⟨y, hy⟩ := at_some (show k < ys.length by omega)
  have h2 : (k : Int) < ys.length := by omega
  simp only [↓reduceIte, go_sem, bk_eq hx, bk_eq hy, h0, h1, h2, hw, eqB]
  exact ⟨fun hn => ne_at hx hy (by rintro rfl; simp at hn), fun hn => (take_eq_step hx hy he).2 (by exact GFound.eqv.2 (by simpa using hn))⟩
 ·intro he
  simp only [↓reduceIte, go_sem]
  exact eq_all he hle
end Go.Proofs.YtgkeplbnnjogiaaGreatR
namespace Go.Proofs.YtgkeplbnnjogiaaGreatR
open Go Go.RowKit Go.Proofs
open Nat (reduceEqDiff reduceLT reduceLeDiff reduceAdd reduceMul)
open List (reduceReplicate)
attribute [go_sem] eqB
def m_spec_l1In : MC :=
(.seq (pr [.mv 6 cF] [0,1,2])
(.seq (.reg [Za (.mv 7 (.s 0)), Za (.mv 8 (.s 1)), Za (.bin 9 false .geq (.s 7) (.s 8)), Za (.mv 10 (.s 9)), Zb 10 true (.mv 11 (.s 0)), Zb 10 true (.mv 12 (.s 2)), Zb 10 true (.bin 13 false .leq (.s 11) (.s 12)), Za (.pick 14 (.s 10) (.s 13) cF), Za (.mv 6 (.s 14))] [6])
.ret))
theorem c_spec_l1In (x a b : Int) : Ctr Tryz.prog n_spec_l1In [aI x, aI a, aI b] [rB (decide (a ≤ x ∧ x ≤ b))] := by
 refine cA m_spec_l1In 0 15 [(.tmp 6, [false])] Tryz.func57 rfl rfl ?_; unfold m_spec_l1In
 intro hb
 clear hb
 simp only [↓reduceIte, go_sem]
 exact ⟨fun h => by simp [h], fun h => by simp; omega⟩
def m_impl_at : MC :=
(.seq (pr [.mv 4 cF] [0,1])
(.seq (.reg [Za (.mv 5 (.s 0)), Za (.bin 6 false .geq (.s 5) (ci 0)), Za (.mv 7 (.s 6)), Zb 7 true (.mv 8 (.s 0)), Zb 7 true (.mv 9 (.s 1)), Zb 7 true (.bin 10 false .lss (.s 8) (.s 9)), Za (.pick 11 (.s 7) (.s 10) cF), Za (.mv 4 (.s 11))] [4])
.ret))
theorem c_impl_at (x n : Int) : Ctr Tryz.prog n_impl_at [aI x, aI n] [rB (decide (0 ≤ x ∧ x < n))] := by
 refine cA m_impl_at 0 12 [(.tmp 4, [false])] Tryz.func153 rfl rfl ?_; unfold m_impl_at
 intro hb
 clear hb
 simp only [↓reduceIte, go_sem]
 exact ⟨fun h => by simp [h], fun h => by simp; omega⟩
def m_impl_InRange : MC :=
(.seq (pr [.mv 6 cF] [0,1,2])
(.seq (.reg [Za (.mv 7 (.s 1)), Za (.mv 8 (.s 0)), Za (.bin 9 false .leq (.s 7) (.s 8)), Za (.mv 10 (.s 9)), Zb 10 true (.mv 11 (.s 0)), Zb 10 true (.mv 12 (.s 2)), Zb 10 true (.bin 13 false .leq (.s 11) (.s 12)), Za (.pick 14 (.s 10) (.s 13) cF), Za (.mv 6 (.s 14))] [6])
.ret))
theorem c_impl_InRange (x a b : Int) : Ctr Tryz.prog n_impl_InRange [aI x, aI a, aI b] [rB (decide (a ≤ x ∧ x ≤ b))] := by
 refine cA m_impl_InRange 0 15 [(.tmp 6, [false])] Tryz.func67 rfl rfl ?_; unfold m_impl_InRange
 intro hb
 clear hb
 simp only [↓reduceIte, go_sem]
 exact ⟨fun h => by simp [h], fun h => by simp; omega⟩
def allIn (l : List Int) (a b : Int) : Bool := l.all fun x => decide (a ≤ x ∧ x ≤ b)
theorem all_step {α : Type} {p : α → Bool} {l : List α} {k : Nat} {x : α} (hx : l[k]? = some x) (h : (l.take k).all p = true) (hn : p x = true) : (l.take (k + 1)).all p = true := by
 rw [take_snoc hx, List.all_append, h]; simp [hn]
theorem all_not {α : Type} {p : α → Bool} {l : List α} {k : Nat} {x : α} (hx : l[k]? = some x) (hn : p x = false) : false = l.all p := by
 symm; rw [List.all_eq_false]; exact ⟨x, at_mem hx, by simp [hn]⟩
def m_impl_allIn : MC :=
(.seq (pr [.mv 6 cF] [0,1,2])
(.seq (.seq (pr [.mv 9 (.s 0), .len 10 false (.s 9), .mv 11 (ci 0)] [1,2,9,10,11])
(.block 0 (.loop ([1,2,9,10,11], []) (.seq (pr [.bin 12 false .lss (.s 11) (.s 10)] [1,2,9,10,11,12])
(.seq (.cond (.s 12) .skip (.exit 0))
(.seq (.block 1 (.seq (pr [.idx 13 1 (.s 9) (.s 11), .load 14 false 1 (.s 13), .mv 8 (.s 14)] [1,2,8,9,10,11])
(.seq (pr [.mv 15 (.s 8), .mv 16 (.s 1), .mv 17 (.s 2), .call 18 [] (.f n_impl_InRange) [.s 15, .s 16, .s 17], .un 19 .not (.s 18)] [1,2,9,10,11,19])
(.cond (.s 19) (.seq (pr [.mv 6 cF] [6])
.ret) .skip))))
(pr [.bin 20 false .add (.s 11) (ci 1), .mv 11 (.s 20)] [1,2,9,10,11])))))))
(.seq (pr [.mv 6 cT] [6])
.ret)))
theorem c_impl_allIn (l : List Int) (a b : Int) : Ctr Tryz.prog n_impl_allIn [aL 1 (l.map encI), aI a, aI b] [rB (allIn l a b)] := by
 refine cA m_impl_allIn 0 21 [(.tmp 6, [false])] Tryz.func255 rfl rfl ?_; unfold m_impl_allIn
 intro hb
 simp only [bdA, bdL, bdT, bdR_map, wfB_i64, roomB, and_true, List.length_map] at hb
 obtain ⟨⟨hl, -⟩, -⟩ := hb
 simp only [↓reduceIte, go_sem]
 refine loopK_rng l (fun k => [(11, vI k)]) (fun k => []) (fun k => ((l.take k).all fun x => decide (a ≤ x ∧ x ≤ b)) = true) hl ?_
 simp only [↓reduceIte, go_sem]
 refine ⟨?_, by simp, ?_, ?_⟩
 ·simp only [↓reduceIte, go_sem]
 ·intro k x hx h h0 h1 hw
  simp only [↓reduceIte, go_sem, bk_eq hx, h0, h1]
  refine callK_of (c_impl_InRange _ _ _) ?_
  simp only [↓reduceIte, go_sem, hw]
  exact ⟨fun hn => all_not hx (by simpa using hn), fun hn => all_step hx h (by simpa using hn)⟩
 ·intro h
  simp only [↓reduceIte, go_sem]
  rw [List.take_length] at h
  exact h.symm
def m_spec_l5Bytes : MC :=
(.seq (pr [.mv 2 cF] [0])
(.seq (.seq (pr [.mv 3 (ci 0)] [0,3])
(.block 0 (.loop ([0,3], []) (.seq (.seq (pr [.mv 4 (.s 3), .mv 5 (.s 0), .len 6 false (.s 5), .bin 7 false .lss (.s 4) (.s 6)] [0,3,7])
(.cond (.s 7) .skip (.exit 0)))
(.seq (.block 1 (.seq (pr [.mv 10 (.s 0), .mv 11 (.s 3), .idx 12 1 (.s 10) (.s 11), .load 13 false 1 (.s 12), .call 14 [] (.f n_spec_l1In) [.s 13, .c (.int .i64 0), .c (.int .i64 255)], .un 15 .not (.s 14)] [0,3,15])
(.cond (.s 15) (.seq (pr [.mv 2 cF] [2])
.ret) .skip)))
(pr [.mv 8 (.s 3), .bin 9 false .add (.s 8) (ci 1), .mv 3 (.s 9)] [0,3]))))))
(.seq (pr [.mv 2 cT] [2])
.ret)))
theorem c_spec_l5Bytes (l : List Int) : Ctr Tryz.prog n_spec_l5Bytes [aL 1 (l.map encI)] [rB (allIn l 0 255)] := by
 refine cA m_spec_l5Bytes 0 16 [(.tmp 2, [false])] Tryz.func389 rfl rfl ?_; unfold m_spec_l5Bytes
 intro hb
 simp only [bdA, bdL, bdT, bdR_map, roomB, and_true, List.length_map] at hb
 obtain ⟨hl, -⟩ := hb
 simp only [↓reduceIte, go_sem]
 refine loopK_rng l (fun k => [(3, vI k)]) (fun k => []) (fun k => ((l.take k).all fun x => decide (0 ≤ x ∧ x ≤ 255)) = true) hl ?_
 simp only [↓reduceIte, go_sem]
 refine ⟨?_, by simp, ?_, ?_⟩
 ·simp only [↓reduceIte, go_sem]
 ·intro k x hx h h0 h1 hw
  simp only [↓reduceIte, go_sem, bk_eq hx, h0, h1]
  refine callK_of (c_spec_l1In _ _ _) ?_
  simp only [↓reduceIte, go_sem, hw]
  exact ⟨fun hn => all_not hx (by simpa using hn), fun hn => all_step hx h (by simpa using hn)⟩
 ·intro h
  simp only [↓reduceIte, go_sem]
  rw [List.take_length] at h
  exact h.symm
def isAddr (a : GAddress) : Bool := decide (1 ≤ a.Host ∧ a.Host ≤ 9) && (decide (0 ≤ a.Path ∧ a.Path ≤ 99) && decide (0 ≤ a.Query ∧ a.Query ≤ 99))
def m_impl_IsAddress : MC :=
(.seq (pr [.box 1 0 (.s 0), .mv 2 cF] [1])
(.seq (.reg [Za (.fld 3 (.s 1) 0), Za (.load 4 false 1 (.s 3)), Za (.call 5 [] (.f n_impl_InRange) [.s 4, .c (.int .i64 1), .c (.int .i64 9)]), Za (.mv 6 (.s 5)), Zb 6 true (.fld 7 (.s 1) 1), Zb 6 true (.load 8 false 1 (.s 7)), Zb 6 true (.call 9 [] (.f n_impl_InRange) [.s 8, .c (.int .i64 0), .c (.int .i64 99)]), Za (.pick 10 (.s 6) (.s 9) cF), Za (.mv 11 (.s 10)), Zb 11 true (.fld 12 (.s 1) 2), Zb 11 true (.load 13 false 1 (.s 12)), Zb 11 true (.call 14 [] (.f n_impl_InRange) [.s 13, .c (.int .i64 0), .c (.int .i64 99)]), Za (.pick 15 (.s 11) (.s 14) cF), Za (.mv 2 (.s 15))] [2])
.ret))
theorem c_impl_IsAddress (a : GAddress) : Ctr Tryz.prog n_impl_IsAddress [aS a.enc] [rB (isAddr a)] := by
 refine cA m_impl_IsAddress 1 16 [(.tmp 2, [false])] Tryz.func332 rfl rfl ?_; unfold m_impl_IsAddress
 intro hb
 clear hb
 simp only [↓reduceIte, go_sem]
 refine callK_of (c_impl_InRange _ _ _) ?_
 simp only [↓reduceIte, go_sem]
 refine ⟨fun h => ?_, fun h => by unfold isAddr; rw [decide_eq_false h]; rfl⟩
 refine callK_of (c_impl_InRange _ _ _) ?_
 simp only [↓reduceIte, go_sem]
 refine ⟨fun h2 => ?_, fun h2 => by unfold isAddr; rw [decide_eq_false h2]; simp⟩
 refine callK_of (c_impl_InRange _ _ _) ?_
 simp only [↓reduceIte, go_sem]
 unfold isAddr; rw [decide_eq_true h, decide_eq_true h2]; rfl
def m_spec_IsAddress : MC :=
(.seq (pr [.box 1 0 (.s 0), .mv 2 cF] [1])
(.seq (.reg [Za (.fld 3 (.s 1) 0), Za (.load 4 false 1 (.s 3)), Za (.call 5 [] (.f n_spec_l1In) [.s 4, .c (.int .i64 1), .c (.int .i64 9)]), Za (.mv 6 (.s 5)), Zb 6 true (.fld 7 (.s 1) 1), Zb 6 true (.load 8 false 1 (.s 7)), Zb 6 true (.call 9 [] (.f n_spec_l1In) [.s 8, .c (.int .i64 0), .c (.int .i64 99)]), Za (.pick 10 (.s 6) (.s 9) cF), Za (.mv 11 (.s 10)), Zb 11 true (.fld 12 (.s 1) 2), Zb 11 true (.load 13 false 1 (.s 12)), Zb 11 true (.call 14 [] (.f n_spec_l1In) [.s 13, .c (.int .i64 0), .c (.int .i64 99)]), Za (.pick 15 (.s 11) (.s 14) cF), Za (.mv 2 (.s 15))] [2])
.ret))
theorem c_spec_IsAddress (a : GAddress) : Ctr Tryz.prog n_spec_IsAddress [aS a.enc] [rB (isAddr a)] := by
 refine cA m_spec_IsAddress 1 16 [(.tmp 2, [false])] Tryz.func321 rfl rfl ?_; unfold m_spec_IsAddress
 intro hb
 clear hb
 simp only [↓reduceIte, go_sem]
 refine callK_of (c_spec_l1In _ _ _) ?_
 simp only [↓reduceIte, go_sem]
 refine ⟨fun h => ?_, fun h => by unfold isAddr; rw [decide_eq_false h]; rfl⟩
 refine callK_of (c_spec_l1In _ _ _) ?_
 simp only [↓reduceIte, go_sem]
 refine ⟨fun h2 => ?_, fun h2 => by unfold isAddr; rw [decide_eq_false h2]; simp⟩
 refine callK_of (c_spec_l1In _ _ _) ?_
 simp only [↓reduceIte, go_sem]
 unfold isAddr; rw [decide_eq_true h, decide_eq_true h2]; rfl
def noAddr (a : GAddress) : Bool := a.Host == 0 && (a.Path == 0 && a.Query == 0)
def isRes (r : GResource) : Bool :=
 if r.Kind = 1 ∨ r.Kind = 2 then decide (r.Body.length ≤ 6) && (allIn r.Body 0 255 && noAddr r.To)
 else if r.Kind = 3 then decide (r.Body.length = 0) && isAddr r.To
 else if r.Kind = 4 then decide (r.Body.length = 0) && noAddr r.To else false
def m_impl_IsResource : MC :=
(.seq (pr [.box 1 0 (.s 0), .mv 2 cF] [1])
(.seq (.seq (pr [.fld 3 (.s 1) 0, .load 4 false 1 (.s 3)] [1,4])
(.block 0 (.seq (.seq (pr [.bin 6 false .eql (.s 4) (ci 1), .mv 5 (.s 6)] [1,4,5])
(.cond (.s 5) .skip (pr [.bin 7 false .eql (.s 4) (ci 2), .mv 5 (.s 7)] [1,4,5])))
(.cond (.s 5) (.seq (.reg [Za (.fld 8 (.s 1) 1), Za (.load 9 false 1 (.s 8)), Za (.len 10 false (.s 9)), Za (.bin 11 false .leq (.s 10) (ci 6)), Za (.mv 12 (.s 11)), Zb 12 true (.fld 13 (.s 1) 1), Zb 12 true (.load 14 false 1 (.s 13)), Zb 12 true (.call 15 [] (.f n_impl_allIn) [.s 14, .c (.int .i64 0), .c (.int .i64 255)]), Za (.pick 16 (.s 12) (.s 15) cF), Za (.mv 17 (.s 16)), Zb 17 true (.fld 18 (.s 1) 2), Zb 17 true (.load 19 true 3 (.s 18)), Zb 17 true (.build 20 [pz, pz, pz] []), Zb 17 true (.eqA 21 false [.i .i64, .i .i64, .i .i64] (.s 19) (.s 20)), Za (.pick 22 (.s 17) (.s 21) cF), Za (.mv 2 (.s 22))] [2])
.ret) (.seq (pr [.bin 24 false .eql (.s 4) (ci 3), .mv 23 (.s 24)] [1,4,23])
(.cond (.s 23) (.seq (.reg [Za (.fld 25 (.s 1) 1), Za (.load 26 false 1 (.s 25)), Za (.len 27 false (.s 26)), Za (.bin 28 false .eql (.s 27) (ci 0)), Za (.mv 29 (.s 28)), Zb 29 true (.fld 30 (.s 1) 2), Zb 29 true (.load 31 true 3 (.s 30)), Zb 29 true (.call 32 [] (.f n_impl_IsAddress) [.s 31]), Za (.pick 33 (.s 29) (.s 32) cF), Za (.mv 2 (.s 33))] [2])
.ret) (.seq (pr [.bin 35 false .eql (.s 4) (ci 4), .mv 34 (.s 35)] [1,34])
(.cond (.s 34) (.seq (.reg [Za (.fld 36 (.s 1) 1), Za (.load 37 false 1 (.s 36)), Za (.len 38 false (.s 37)), Za (.bin 39 false .eql (.s 38) (ci 0)), Za (.mv 40 (.s 39)), Zb 40 true (.fld 41 (.s 1) 2), Zb 40 true (.load 42 true 3 (.s 41)), Zb 40 true (.build 43 [pz, pz, pz] []), Zb 40 true (.eqA 44 false [.i .i64, .i .i64, .i .i64] (.s 42) (.s 43)), Za (.pick 45 (.s 40) (.s 44) cF), Za (.mv 2 (.s 45))] [2])
.ret) .skip))))))))
(.seq (pr [.mv 2 cF] [2])
.ret)))
theorem c_impl_IsResource (r : GResource) : Ctr Tryz.prog n_impl_IsResource [aS r.enc] [rB (isRes r)] := by
 refine cA m_impl_IsResource 1 46 [(.tmp 2, [false])] Tryz.func313 rfl rfl ?_; unfold m_impl_IsResource
 intro hb
 clear hb
 have hcase : r.Kind = 1 ∨ r.Kind = 2 ∨ r.Kind = 3 ∨ r.Kind = 4 ∨ (¬ r.Kind = 1 ∧ ¬ r.Kind = 2 ∧ ¬ r.Kind = 3 ∧ ¬ r.Kind = 4) := by omega
 rcases hcase with hk | hk | hk | hk | ⟨h1, h2, h3, h4⟩
 ·simp only [↓reduceIte, go_sem, hk]
  refine ⟨fun h => ?_, fun h => ?_⟩
  ·have h' : r.Body.length ≤ 6 := by omega
   refine callK_of (c_impl_allIn _ _ _) ?_
   simp only [↓reduceIte, go_sem]
   exact ⟨fun h2 => by simp [isRes, noAddr, hk, h2, h'], fun h2 => by simp [isRes, noAddr, hk, h2]⟩
  ·have h' : ¬ r.Body.length ≤ 6 := by omega
   simp [isRes, noAddr, hk, h']
 ·simp only [↓reduceIte, go_sem, hk, Int.reduceEq]
  refine ⟨fun h => ?_, fun h => ?_⟩
  ·have h' : r.Body.length ≤ 6 := by omega
   refine callK_of (c_impl_allIn _ _ _) ?_
   simp only [↓reduceIte, go_sem]
   exact ⟨fun h2 => by simp [isRes, noAddr, hk, h2, h'], fun h2 => by simp [isRes, noAddr, hk, h2]⟩
  ·have h' : ¬ r.Body.length ≤ 6 := by omega
   simp [isRes, noAddr, hk, h']
 ·simp only [↓reduceIte, go_sem, hk, Int.reduceEq]
  refine ⟨fun h => ?_, fun h => ?_⟩
  ·have h' : r.Body.length = 0 := by omega
   refine callK_of (c_impl_IsAddress r.To) ?_
   simp only [↓reduceIte, go_sem]
   simp [isRes, hk, h']
  ·have h' : ¬ r.Body.length = 0 := by omega
   unfold isRes
   rw [if_neg (by omega), if_pos hk, decide_eq_false h']
   rfl
 ·simp only [↓reduceIte, go_sem, hk, Int.reduceEq]
  refine ⟨fun h => ?_, fun h => ?_⟩
  ·have h' : r.Body.length = 0 := by omega
   unfold isRes
   rw [if_neg (by omega), if_neg (by omega), if_pos hk, decide_eq_true h']
   simp [noAddr]
  ·have h' : ¬ r.Body.length = 0 := by omega
   unfold isRes
   rw [if_neg (by omega), if_neg (by omega), if_pos hk, decide_eq_false h']
   rfl
 ·simp only [↓reduceIte, go_sem, h1, h2, h3, h4]
  unfold isRes
  rw [if_neg (by omega), if_neg (by omega), if_neg (by omega)]
def m_spec_IsResource : MC :=
(.seq (pr [.box 1 0 (.s 0), .mv 2 cF] [1])
(.seq (.seq (.reg [Za (.fld 3 (.s 1) 0), Za (.load 4 false 1 (.s 3)), Za (.call 5 [] (.f n_spec_l1In) [.s 4, .c (.int .i64 1), .c (.int .i64 4)]), Za (.un 6 .not (.s 5)), Za (.mv 7 (.s 6)), Zb 7 false (.fld 8 (.s 1) 1), Zb 7 false (.load 9 false 1 (.s 8)), Zb 7 false (.call 10 [] (.f n_spec_l5Bytes) [.s 9]), Zb 7 false (.un 11 .not (.s 10)), Za (.pick 12 (.s 7) cT (.s 11)), Za (.mv 13 (.s 12)), Zb 13 false (.fld 14 (.s 1) 1), Zb 13 false (.load 15 false 1 (.s 14)), Zb 13 false (.len 16 false (.s 15)), Zb 13 false (.bin 17 false .gtr (.s 16) (ci 6)), Za (.pick 18 (.s 13) cT (.s 17))] [1,18])
(.cond (.s 18) (.seq (pr [.mv 2 cF] [2])
.ret) .skip))
(.seq (.seq (pr [.fld 19 (.s 1) 0, .load 20 false 1 (.s 19), .bin 21 false .eql (.s 20) (ci 3)] [1,21])
(.cond (.s 21) (.seq (.reg [Za (.fld 22 (.s 1) 2), Za (.load 23 true 3 (.s 22)), Za (.call 24 [] (.f n_spec_IsAddress) [.s 23]), Za (.mv 25 (.s 24)), Zb 25 true (.fld 26 (.s 1) 1), Zb 25 true (.load 27 false 1 (.s 26)), Zb 25 true (.len 28 false (.s 27)), Zb 25 true (.bin 29 false .eql (.s 28) (ci 0)), Za (.pick 30 (.s 25) (.s 29) cF), Za (.mv 2 (.s 30))] [2])
.ret) .skip))
(.seq (.reg [Za (.fld 31 (.s 1) 2), Za (.load 32 true 3 (.s 31)), Za (.build 33 [pz, pz, pz] []), Za (.eqA 34 false [.i .i64, .i .i64, .i .i64] (.s 32) (.s 33)), Za (.mv 35 (.s 34)), Zb 35 true (.fld 36 (.s 1) 0), Zb 35 true (.load 37 false 1 (.s 36)), Zb 35 true (.bin 38 false .neq (.s 37) (ci 4)), Zb 35 true (.mv 39 (.s 38)), Zb 39 false (.fld 40 (.s 1) 1), Zb 39 false (.load 41 false 1 (.s 40)), Zb 39 false (.len 42 false (.s 41)), Zb 39 false (.bin 43 false .eql (.s 42) (ci 0)), Zb 35 true (.pick 44 (.s 39) cT (.s 43)), Za (.pick 45 (.s 35) (.s 44) cF), Za (.mv 2 (.s 45))] [2])
.ret))))
theorem c_spec_IsResource (r : GResource) : Ctr Tryz.prog n_spec_IsResource [aS r.enc] [rB (isRes r)] := by
 refine cA m_spec_IsResource 1 46 [(.tmp 2, [false])] Tryz.func310 rfl rfl ?_; unfold m_spec_IsResource
 intro hb
 clear hb
 simp only [↓reduceIte, go_sem]
 refine callK_of (c_spec_l1In _ _ _) ?_
 simp only [↓reduceIte, go_sem]
 refine ⟨fun h => ?_, fun h => ?_⟩
 ·unfold isRes
  rw [if_neg (by omega), if_neg (by omega), if_neg (by omega)]
 ·refine callK_of (c_spec_l5Bytes r.Body) ?_
  simp only [↓reduceIte, go_sem]
  refine ⟨fun ha => ?_, fun ha => ⟨fun hl => ?_, fun hl => ⟨fun hk => ?_, fun hk => ?_⟩⟩⟩
  ·have h0 : ¬ r.Body.length = 0 := fun e => by
    rw [List.eq_nil_of_length_eq_zero e] at ha
    simp [allIn] at ha
   simp [isRes, ha, h0]
  ·have h0 : ¬ r.Body.length = 0 := by omega
   have h1 : ¬ r.Body.length ≤ 6 := by omega
   simp [isRes, h0, h1]
  ·refine callK_of (c_spec_IsAddress r.To) ?_
   simp only [↓reduceIte, go_sem]
   refine ⟨fun hi => ?_, fun hi => by simp [isRes, hk, hi]⟩
   unfold isRes
   rw [if_neg (by omega), if_pos hk, hi, Bool.and_true, Bool.eq_iff_iff]
   simp
  ·have h1 : r.Body.length ≤ 6 := by omega
   refine ⟨fun ht => ?_, fun ht => ?_⟩
   ·have hn : noAddr r.To = true := by
     unfold noAddr
     exact (Bool.eq_false_or_eq_true _).resolve_right fun e => ht e.symm
    refine ⟨fun k4 => ?_, fun k4 => ?_⟩
    ·unfold isRes
     rw [if_pos (by omega), ha, hn, decide_eq_true h1]
     rfl
    ·unfold isRes
     rw [if_neg (by omega), if_neg hk, if_pos k4, hn, Bool.and_true, Bool.eq_iff_iff]
     simp
   ·have hn : noAddr r.To = false := ht.symm
    unfold isRes
    rw [hn, if_neg hk]
    split
    ·simp
    ·split <;> simp
end Go.Proofs.YtgkeplbnnjogiaaGreatR
namespace Go.Proofs.YtgkeplbnnjogiaaGreatR
open Go Go.RowKit Go.Proofs
open Nat (reduceEqDiff reduceLT reduceLeDiff reduceAdd reduceMul)
open List (reduceReplicate)
def m_impl_copyResource : MC :=
(.seq (pr [.box 1 0 (.s 0), .alloc 2 1 [pz, .emp 1, pz, pz, pz]] [1,2])
(.seq (pr [.fld 3 (.s 1) 1, .load 4 false 1 (.s 3), .call 5 [2] (.f n_slices_Clone_int_int) [.s 4], .fld 6 (.s 1) 1, .store 1 (.s 6) (.s 5)] [1,2])
(.seq (pr [.load 7 true 5 (.s 1), .store 5 (.s 2) (.s 7)] [2])
.ret)))
theorem c_impl_copyResource (r : GResource) (hs : r.Body.length ≤ 1073741824) : Ctr Tryz.prog n_impl_copyResource [aS r.enc] [rS r.enc] := by
 refine cA m_impl_copyResource 3 8 [(.cell 2 true 5, [false, true, false, false, false])] Tryz.func218 rfl rfl ?_; unfold m_impl_copyResource
 intro hb
 clear hb
 simp only [↓reduceIte, go_sem]
 refine callK_of (c_slices_Clone_int r.Body hs) ?_
 simp only [↓reduceIte, go_sem]
 try intros
 try trivial
def m_spec_l5Copy : MC :=
(.seq (pr [.box 1 0 (.s 0), .alloc 2 1 [pz, .emp 1, pz, pz, pz]] [1,2])
(.seq (.dreg [Zf [5,6,7,8,9,10] [2] (.fld 3 (.s 1) 0), Zg [5,6,7,8,9,10] [2] [0] (.load 4 false 1 (.s 3)), { o := .lit 5 2 1 8 [], hs := [3,4,6,7,9,10], ws := [2] }, Zf [3,4,5,9,10] [2] (.fld 6 (.s 1) 1), Zg [3,4,5,9,10] [2] [3] (.load 7 false 1 (.s 6)), { o := .app 8 2 1 8 (.s 5) (.s 7), hs := [3,4,9,10], ws := [2], bf := [2,3,4] }, Zf [3,4,5,6,7,8] [2] (.fld 9 (.s 1) 2), Zg [3,4,5,6,7,8] [2] [6] (.load 10 true 3 (.s 9)), Ze (.range 8) (.build 11 [pz, .emp 1, pz, pz, pz] [(0, 1, .s 4), (1, 1, .s 8), (2, 3, .s 10)]), { o := .store 5 (.s 2) (.s 11), ws := [1,2], bf := (.range 9) }] [2])
.ret))
theorem c_spec_l5Copy (r : GResource) (hs : r.Body.length ≤ 1073741824) : Ctr Tryz.prog n_spec_l5Copy [aS r.enc] [rS r.enc] := by
 refine cA m_spec_l5Copy 3 12 [(.cell 2 true 5, [false, true, false, false, false])] Tryz.func211 rfl rfl ?_; unfold m_spec_l5Copy
 intro hb
 clear hb
 simp only [↓reduceIte, go_sem, ↓flat_of (f := encI) (fun _ => rfl) r.Body]
 simp only [roomB]
 omega
def m_impl_copyCaptures : MC :=
(.seq (pr [.nilo 2 0 9] [0])
(.seq (pr [.nilo 3 0 9] [0,3])
(.seq (.seq (pr [.mv 6 (.s 0), .len 7 false (.s 6), .mv 8 (ci 0)] [3,6,7,8])
(.block 0 (.loop ([3,6,7,8], [1,2,3]) (.seq (pr [.bin 9 false .lss (.s 8) (.s 7)] [3,6,7,8,9])
(.seq (.cond (.s 9) .skip (.exit 0))
(.seq (.block 1 (.seq (pr [.idx 10 9 (.s 6) (.s 8), .load 11 true 9 (.s 10), .alloc 5 1 [pz, pz, pz, pz, pz, .emp 1, pz, pz, pz], .store 9 (.s 5) (.s 11)] [3,5,6,7,8])
(.dreg [Zf [13,14,15,16,17,18,19,20,21] [2,3] (.mv 12 (.s 3)), Zf [12,15,16,17,18,19] [2] (.fld 13 (.s 5) 0), Zg [12,15,16,17,18,19] [2] [1] (.load 14 true 3 (.s 13)), Zf [12,13,14,17,18,19] [2] (.fld 15 (.s 5) 3), Zg [12,13,14,17,18,19] [2] [3] (.load 16 false 1 (.s 15)), Zc [12,13,14,15,16] (.fld 17 (.s 5) 4), Zd [12,13,14,15,16] [5] (.load 18 true 5 (.s 17)), { o := .call 19 [2] (.f n_impl_copyResource) [.s 18], hs := [12,13,14,15,16], ws := [2], bf := [5,6] }, Zd [12] [1,2,3,4,5,6,7] (.build 20 [pz, pz, pz, pz, pz, .emp 1, pz, pz, pz] [(0, 3, .s 14), (3, 1, .s 16), (4, 5, .s 19)]), { o := .lit 21 3 9 88 [.s 20], hs := [12], ws := [2,3], bf := [1,2,3,4,5,6,7,8] }, { o := .app 22 0 9 88 (.s 12) (.s 21), ws := [0,3], bf := (.range 10) }, Ze (.range 11) (.mv 3 (.s 22))] [3,6,7,8])))
(pr [.bin 23 false .add (.s 8) (ci 1), .mv 8 (.s 23)] [3,6,7,8])))))))
(.seq (pr [.mv 24 (.s 3), .mv 2 (.s 24)] [2])
.ret))))
theorem c_impl_copyCaptures (xs : List GCapture) (hs : xs.length + (xs.map GCapture.size).sum ≤ 1073741824) : Ctr Tryz.prog n_impl_copyCaptures [aL 9 (xs.map GCapture.enc)] [rL 9 (xs.map GCapture.enc)] := by
 refine cA m_impl_copyCaptures 4 25 [(.tmp 2, [true])] Tryz.func212 rfl rfl ?_; unfold m_impl_copyCaptures
 intro hb
 clear hb
 simp only [↓reduceIte, go_sem]
 refine loopK_rng xs (fun k => [(3, .val false [.ref 0 0 9 0 (xs.take k).length]), (8, vI k)]) (fun k => [(0, ⟨0, .row true 9 ((xs.take k).map GCapture.enc)⟩)]) (fun _ => True) (by simp only [roomB]; omega) ?_
 simp only [↓reduceIte, go_sem]
 refine ⟨?_, trivial, ?_, ?_⟩
 ·simp only [↓reduceIte, go_sem, List.take_zero]
 ·intro k x hx _ h0 h1 hw
  have hk : k < xs.length := by omega
  have hlt := List.length_take_le k xs
  have hx1 := mem_sum (f := GCapture.size) (at_mem hx)
  simp only [↓reduceIte, go_sem, bk_eq hx, h0, h1]
  refine callK_of (c_impl_copyResource x.Resource (by simp only [GCapture.size, GResource.size] at hx1; omega)) ?_
  simp only [↓reduceIte, go_sem, hw]
  simp only [roomB]
  exact ⟨by omega, by omega, fun _ => ⟨snoc_len hx, snoc_map hx⟩⟩
 ·intro _
  simp only [↓reduceIte, go_sem, List.take_length]
def m_spec_l15Copy : MC :=
(.seq (pr [.nilo 2 0 9] [0])
(.seq (pr [.lit 5 0 9 88 [], .mv 3 (.s 5)] [0,3])
(.seq (.seq (pr [.mv 4 (ci 0)] [0,3,4])
(.block 0 (.loop ([0,3,4], [1,2]) (.seq (.seq (pr [.mv 6 (.s 4), .mv 7 (.s 0), .len 8 false (.s 7), .bin 9 false .lss (.s 6) (.s 8)] [0,3,4,9])
(.cond (.s 9) .skip (.exit 0)))
(.seq (.block 1 (.dreg [Zf [13,14,15,16,17,18,19,20,21,22,23,24,25,26,27,28,29,30] [1,2] (.mv 12 (.s 3)), Zf [12,14,18,19,20,21,22,23,24,25,26,27,28] [1] (.mv 13 (.s 0)), Zf [12,13,18,19,20,21,22,23,24,25,26,27,28] [1] (.mv 14 (.s 4)), Zg [12,18,19,20,21,22,23,24,25,26,27,28] [1] [1,2] (.idx 15 9 (.s 13) (.s 14)), Zg [12,18,19,20,21,22,23,24,25,26,27,28] [1] [1,2,3] (.fld 16 (.s 15) 0), Zg [12,18,19,20,21,22,23,24,25,26,27,28] [1] [1,2,3,4] (.load 17 true 3 (.s 16)), Zf [12,13,14,15,16,17,19,23,24,25,26,27,28] [1] (.mv 18 (.s 0)), Zf [12,13,14,15,16,17,18,23,24,25,26,27,28] [1] (.mv 19 (.s 4)), Zg [12,13,14,15,16,17,23,24,25,26,27,28] [1] [6,7] (.idx 20 9 (.s 18) (.s 19)), Zg [12,13,14,15,16,17,23,24,25,26,27,28] [1] [6,7,8] (.fld 21 (.s 20) 3), Zg [12,13,14,15,16,17,23,24,25,26,27,28] [1] [6,7,8,9] (.load 22 false 1 (.s 21)), Zc [12,13,14,15,16,17,18,19,20,21,22,24] (.mv 23 (.s 0)), Zc [12,13,14,15,16,17,18,19,20,21,22,23] (.mv 24 (.s 4)), Zd [12,13,14,15,16,17,18,19,20,21,22] [11,12] (.idx 25 9 (.s 23) (.s 24)), Zd [12,13,14,15,16,17,18,19,20,21,22] [11,12,13] (.fld 26 (.s 25) 4), Zd [12,13,14,15,16,17,18,19,20,21,22] [11,12,13,14] (.load 27 true 5 (.s 26)), { o := .call 28 [1] (.f n_spec_l5Copy) [.s 27], hs := [12,13,14,15,16,17,18,19,20,21,22], ws := [1], bf := [11,12,13,14,15] }, Zd [12] [1,2,3,4,5,6,7,8,9,10,11,12,13,14,15,16] (.build 29 [pz, pz, pz, pz, pz, .emp 1, pz, pz, pz] [(0, 3, .s 17), (3, 1, .s 22), (4, 5, .s 28)]), { o := .lit 30 2 9 88 [.s 29], hs := [12], ws := [1,2], bf := [1,2,3,4,5,6,7,8,9,10,11,12,13,14,15,16,17] }, { o := .app 31 0 9 88 (.s 12) (.s 30), ws := [0,2], bf := (.range 19) }, Ze (.range 20) (.mv 3 (.s 31))] [0,3,4]))
(pr [.mv 10 (.s 4), .bin 11 false .add (.s 10) (ci 1), .mv 4 (.s 11)] [0,3,4]))))))
(.seq (pr [.mv 32 (.s 3), .mv 2 (.s 32)] [2])
.ret))))
theorem c_spec_l15Copy (xs : List GCapture) (hs : xs.length + (xs.map GCapture.size).sum ≤ 1073741824) : Ctr Tryz.prog n_spec_l15Copy [aL 9 (xs.map GCapture.enc)] [rL 9 (xs.map GCapture.enc)] := by
 refine cA m_spec_l15Copy 3 33 [(.tmp 2, [true])] Tryz.func166 rfl rfl ?_; unfold m_spec_l15Copy
 intro hb
 clear hb
 simp only [↓reduceIte, go_sem]
 refine loopK_rng xs (fun k => [(3, .val false [.ref 0 0 9 0 (xs.take k).length]), (4, vI k)]) (fun k => [(0, ⟨0, .row true 9 ((xs.take k).map GCapture.enc)⟩)]) (fun _ => True) (by simp only [roomB]; omega) ?_
 simp only [↓reduceIte, go_sem]
 refine ⟨?_, trivial, ?_, ?_⟩
 ·simp only [↓reduceIte, go_sem, List.take_zero]
 ·intro k x hx _ h0 h1 hw
  have hk : k < xs.length := by omega
  have hlt := List.length_take_le k xs
  have hx1 := mem_sum (f := GCapture.size) (at_mem hx)
  simp only [↓reduceIte, go_sem, bk_eq hx, h0, h1]
  refine callK_of (c_spec_l5Copy x.Resource (by simp only [GCapture.size, GResource.size] at hx1; omega)) ?_
  simp only [↓reduceIte, go_sem, hw]
  simp only [roomB]
  exact ⟨by omega, by omega, fun _ => ⟨snoc_len hx, snoc_map hx⟩⟩
 ·intro _
  simp only [↓reduceIte, go_sem, List.take_length]
end Go.Proofs.YtgkeplbnnjogiaaGreatR
namespace Go.Proofs.YtgkeplbnnjogiaaGreatR
open Go Go.RowKit Go.Proofs
open Nat (reduceEqDiff reduceLT reduceLeDiff reduceAdd reduceMul)
open List (reduceReplicate)
def isExcl (x : GExclusion) : Bool := decide ((1 ≤ x.Host ∧ x.Host ≤ 9) ∧ (-1 ≤ x.Path ∧ x.Path ≤ 99) ∧ (0 ≤ x.From ∧ x.From ≤ x.Until) ∧ x.Until ≤ 2000 ∧ (0 ≤ x.Asked ∧ x.Asked ≤ 2000))
def hidesB (x : GExclusion) (c : GCapture) : Bool := isExcl x && decide (c.Address.Host = x.Host ∧ (x.Path = -1 ∨ c.Address.Path = x.Path) ∧ x.From ≤ c.Tick ∧ c.Tick ≤ x.Until)
def hiddenBy (x : GExclusion) (c : GCapture) (now : Int) : Bool := decide (x.Asked ≤ now) && hidesB x c
def hiddenIn (c : GCapture) (l : List GExclusion) (now : Int) : Bool := l.any fun x => hiddenBy x c now
def visible (cs : List GCapture) (l : List GExclusion) (now : Int) : List GCapture := cs.filter fun c => !hiddenIn c l now
end Go.Proofs.YtgkeplbnnjogiaaGreatR
namespace Go.Proofs.YtgkeplbnnjogiaaGreatR
open Go Go.RowKit Go.Proofs
open Nat (reduceEqDiff reduceLT reduceLeDiff reduceAdd reduceMul)
open List (reduceReplicate)
end Go.Proofs.YtgkeplbnnjogiaaGreatR
namespace Go.Proofs.YtgkeplbnnjogiaaGreatR
open Go Go.RowKit Go.Proofs
open Nat (reduceEqDiff reduceLT reduceLeDiff reduceAdd reduceMul)
open List (reduceReplicate)
end Go.Proofs.YtgkeplbnnjogiaaGreatR
namespace Go.Proofs.YtgkeplbnnjogiaaGreatR
open Go Go.RowKit Go.Proofs
open Nat (reduceEqDiff reduceLT reduceLeDiff reduceAdd reduceMul)
open List (reduceReplicate)
theorem has_step {α : Type} [BEq α] [LawfulBEq α] {l : List α} {k : Nat} {x n : α} (hx : l[k]? = some x) (h : (l.take k).contains n = false) (hn : ¬ x = n) : (l.take (k + 1)).contains n = false := by
 rw [take_snoc hx]
 simp only [List.contains_eq_mem, List.mem_append, List.mem_singleton, decide_eq_false_iff_not, not_or] at h ⊢
 exact ⟨h, fun e => hn e.symm⟩
theorem has_here {α : Type} [BEq α] [LawfulBEq α] {l : List α} {k : Nat} {x n : α} (hx : l[k]? = some x) (hn : x = n) : l.contains n = true := by
 subst hn
 simp only [List.contains_eq_mem, decide_eq_true_eq]
 exact at_mem hx
theorem c_slices_Contains (xs : List Int) (n : Int) : Ctr Tryz.prog n_slices_Contains_int_int [aL 1 (xs.map encI), aI n] [rB (xs.contains n)] := by
 rw [List.contains_eq_mem]
 exact c_slices_Contains_Int xs n
def m_spec_l28Has : MC :=
(.seq (pr [.mv 4 cF] [0,1])
(.seq (.seq (pr [.mv 5 (ci 0)] [0,1,5])
(.block 0 (.loop ([0,1,5], []) (.seq (.seq (pr [.mv 6 (.s 5), .mv 7 (.s 0), .len 8 false (.s 7), .bin 9 false .lss (.s 6) (.s 8)] [0,1,5,9])
(.cond (.s 9) .skip (.exit 0)))
(.seq (.block 1 (.seq (pr [.mv 12 (.s 0), .mv 13 (.s 5), .idx 14 1 (.s 12) (.s 13), .load 15 false 1 (.s 14), .mv 16 (.s 1), .bin 17 false .eql (.s 15) (.s 16)] [0,1,5,17])
(.cond (.s 17) (.seq (pr [.mv 4 cT] [4])
.ret) .skip)))
(pr [.mv 10 (.s 5), .bin 11 false .add (.s 10) (ci 1), .mv 5 (.s 11)] [0,1,5]))))))
(.seq (pr [.mv 4 cF] [4])
.ret)))
theorem c_spec_l28Has (xs : List Int) (n : Int) : Ctr Tryz.prog n_spec_l28Has [aL 1 (xs.map encI), aI n] [rB (xs.contains n)] := by
 refine cA m_spec_l28Has 0 18 [(.tmp 4, [false])] Tryz.func96 rfl rfl ?_; unfold m_spec_l28Has
 intro hb
 simp only [bdA, bdL, bdT, bdR_map, wfB_i64, roomB, and_true, List.length_map] at hb
 obtain ⟨⟨hl, -⟩, -⟩ := hb
 simp only [↓reduceIte, go_sem]
 refine loopK_rng xs (fun k => [(5, vI k)]) (fun k => []) (fun k => (xs.take k).contains n = false) hl ?_
 simp only [↓reduceIte, go_sem]
 refine ⟨?_, by simp, ?_, ?_⟩
 ·simp only [↓reduceIte, go_sem]
 ·intro k x hx h h0 h1 hw
  simp only [↓reduceIte, go_sem, bk_eq hx, h0, h1, hw]
  exact ⟨fun hn => (has_here hx hn).symm, fun hn => has_step hx h hn⟩
 ·intro h
  simp only [↓reduceIte, go_sem]
  rw [List.take_length] at h
  rw [h]
end Go.Proofs.YtgkeplbnnjogiaaGreatR
namespace Go.Proofs.YtgkeplbnnjogiaaGreatR
open Go Go.RowKit Go.Proofs
open Nat (reduceEqDiff reduceLT reduceLeDiff reduceAdd reduceMul)
open List (reduceReplicate)
theorem filter_snoc {α β : Type} {p : α → Bool} {f : α → β} {l : List α} {k : Nat} {x : α} (h : l[k]? = some x) : ((l.take (k + 1)).filter p).map f = if p x = true then ((l.take k).filter p).map f ++ [f x] else ((l.take k).filter p).map f := by
 rw [take_snoc h, List.filter_append, List.map_append]
 by_cases hp : p x = true <;> simp [hp]
def m_spec_l34Up : MC :=
(.seq (pr [.nilo 2 0 1] [0])
(.seq (pr [.lit 5 0 1 8 [], .mv 3 (.s 5)] [0,3])
(.seq (.seq (pr [.mv 4 (ci 0)] [0,3,4])
(.block 0 (.loop ([0,3,4], [1]) (.seq (.seq (pr [.mv 6 (.s 4), .mv 7 (.s 0), .len 8 false (.s 7), .bin 9 false .lss (.s 6) (.s 8)] [0,3,4,9])
(.cond (.s 9) .skip (.exit 0)))
(.seq (.block 1 (.seq (pr [.mv 12 (.s 0), .mv 13 (.s 4), .idx 14 4 (.s 12) (.s 13), .fld 15 (.s 14) 2, .load 16 false 1 (.s 15)] [0,3,4,16])
(.cond (.s 16) (pr [.mv 17 (.s 3), .mv 18 (.s 0), .mv 19 (.s 4), .idx 20 4 (.s 18) (.s 19), .fld 21 (.s 20) 0, .load 22 false 1 (.s 21), .lit 23 1 1 8 [.s 22], .app 24 0 1 8 (.s 17) (.s 23), .mv 3 (.s 24)] [0,3,4]) .skip)))
(pr [.mv 10 (.s 4), .bin 11 false .add (.s 10) (ci 1), .mv 4 (.s 11)] [0,3,4]))))))
(.seq (pr [.mv 25 (.s 3), .mv 2 (.s 25)] [2])
.ret))))
theorem c_spec_l34Up (xs : List GLibrary) (hN : xs.length ≤ 1099511627776) : Ctr Tryz.prog n_spec_l34Up [aL 4 (xs.map GLibrary.enc)] [rL 1 (((xs.filter fun x => x.Up).map fun x => x.Id).map encI)] := by
 refine cA m_spec_l34Up 2 26 [(.tmp 2, [true])] Tryz.func95 rfl rfl ?_; unfold m_spec_l34Up
 intro hb
 simp only [bdA, bdL, bdT, bdR_map, roomB, and_true, List.length_map] at hb
 obtain ⟨hl, -⟩ := hb
 simp only [↓reduceIte, go_sem]
 refine loopK_rng xs (fun k => [(3, .val false [.ref 0 0 1 0 ((xs.take k).filter fun x => x.Up).length]), (4, vI k)]) (fun k => [(0, ⟨0, .row true 1 ((((xs.take k).filter fun x => x.Up).map fun x => x.Id).map encI)⟩)]) (fun _ => True) hl ?_
 simp only [↓reduceIte, go_sem]
 refine ⟨?_, trivial, ?_, ?_⟩
 ·simp only [↓reduceIte, go_sem, List.take_zero, List.filter_nil]
 ·intro k x hx _ h0 h1 hw
  simp only [↓reduceIte, go_sem, bk_eq hx, h0, h1, hw, filter_snoc hx]
  have hlf := List.length_filter_le (fun x => x.Up) (xs.take k)
  have hlt := List.length_take_le k xs
  simp only [roomB]
  refine ⟨fun u => ⟨by omega, by omega, ?_, ?_⟩, fun u => ⟨?_, ?_⟩⟩
  ·rw [take_snoc hx, List.filter_append]; simp [u]
  ·simp [u, encI]
  ·rw [take_snoc hx, List.filter_append]; simp [u]
  ·simp [u]
 ·intro _
  simp only [↓reduceIte, go_sem, List.take_length]
end Go.Proofs.YtgkeplbnnjogiaaGreatR
namespace Go.Proofs.YtgkeplbnnjogiaaGreatR
open Go Go.RowKit Go.Proofs
open Nat (reduceEqDiff reduceLT reduceLeDiff reduceAdd reduceMul)
open List (reduceReplicate)
attribute [go_sem] eqB
def scriptInts (xs : List GOp) : List Int := xs.flatMap fun o => [o.Kind, o.A, o.B, o.C]
theorem scriptInts_snoc {l : List GOp} {k : Nat} {x : GOp} (h : l[k]? = some x) : scriptInts (l.take (k + 1)) = scriptInts (l.take k) ++ [x.Kind, x.A, x.B, x.C] := by
 rw [take_snoc h, scriptInts, List.flatMap_append]; rfl
theorem scriptInts_len {l : List GOp} : (scriptInts l).length = 4 * l.length := by
 induction l with
 | nil => rfl
 | cons x l ih => simp only [scriptInts, List.flatMap_cons, List.length_append, List.length_cons, List.length_nil] at ih ⊢; omega
def m_spec_ScriptInts : MC :=
(.seq (pr [.nilo 2 0 1] [0])
(.seq (pr [.lit 5 0 1 8 [], .mv 3 (.s 5)] [0,3])
(.seq (.seq (pr [.mv 4 (ci 0)] [0,3,4])
(.block 0 (.loop ([0,3,4], [1]) (.seq (.seq (pr [.mv 6 (.s 4), .mv 7 (.s 0), .len 8 false (.s 7), .bin 9 false .lss (.s 6) (.s 8)] [0,3,4,9])
(.cond (.s 9) .skip (.exit 0)))
(.seq (.block 1 (.dreg [Zf [13,14,15,16,17,18,19,20,21,22,23,24,25,26,27,28,29,30,31,32,33] [1] (.mv 12 (.s 3)), Zc [12,14,18,19,20,21,22,23,24,25,26,27,28,29,30,31,32] (.mv 13 (.s 0)), Zc [12,13,18,19,20,21,22,23,24,25,26,27,28,29,30,31,32] (.mv 14 (.s 4)), Zd [12,18,19,20,21,22,23,24,25,26,27,28,29,30,31,32] [1,2] (.idx 15 4 (.s 13) (.s 14)), Zd [12,18,19,20,21,22,23,24,25,26,27,28,29,30,31,32] [1,2,3] (.fld 16 (.s 15) 0), Zd [12,18,19,20,21,22,23,24,25,26,27,28,29,30,31,32] [1,2,3,4] (.load 17 false 1 (.s 16)), Zc [12,13,14,15,16,17,19,23,24,25,26,27,28,29,30,31,32] (.mv 18 (.s 0)), Zc [12,13,14,15,16,17,18,23,24,25,26,27,28,29,30,31,32] (.mv 19 (.s 4)), Zd [12,13,14,15,16,17,23,24,25,26,27,28,29,30,31,32] [6,7] (.idx 20 4 (.s 18) (.s 19)), Zd [12,13,14,15,16,17,23,24,25,26,27,28,29,30,31,32] [6,7,8] (.fld 21 (.s 20) 1), Zd [12,13,14,15,16,17,23,24,25,26,27,28,29,30,31,32] [6,7,8,9] (.load 22 false 1 (.s 21)), Zc [12,13,14,15,16,17,18,19,20,21,22,24,28,29,30,31,32] (.mv 23 (.s 0)), Zc [12,13,14,15,16,17,18,19,20,21,22,23,28,29,30,31,32] (.mv 24 (.s 4)), Zd [12,13,14,15,16,17,18,19,20,21,22,28,29,30,31,32] [11,12] (.idx 25 4 (.s 23) (.s 24)), Zd [12,13,14,15,16,17,18,19,20,21,22,28,29,30,31,32] [11,12,13] (.fld 26 (.s 25) 2), Zd [12,13,14,15,16,17,18,19,20,21,22,28,29,30,31,32] [11,12,13,14] (.load 27 false 1 (.s 26)), Zc [12,13,14,15,16,17,18,19,20,21,22,23,24,25,26,27,29] (.mv 28 (.s 0)), Zc [12,13,14,15,16,17,18,19,20,21,22,23,24,25,26,27,28] (.mv 29 (.s 4)), Zd [12,13,14,15,16,17,18,19,20,21,22,23,24,25,26,27] [16,17] (.idx 30 4 (.s 28) (.s 29)), Zd [12,13,14,15,16,17,18,19,20,21,22,23,24,25,26,27] [16,17,18] (.fld 31 (.s 30) 3), Zd [12,13,14,15,16,17,18,19,20,21,22,23,24,25,26,27] [16,17,18,19] (.load 32 false 1 (.s 31)), { o := .lit 33 1 1 8 [.s 17, .s 22, .s 27, .s 32], hs := [12], ws := [1], bf := [1,2,3,4,5,6,7,8,9,10,11,12,13,14,15,16,17,18,19,20] }, { o := .app 34 0 1 8 (.s 12) (.s 33), ws := [0], bf := (.range 22) }, Ze (.range 23) (.mv 3 (.s 34))] [0,3,4]))
(pr [.mv 10 (.s 4), .bin 11 false .add (.s 10) (ci 1), .mv 4 (.s 11)] [0,3,4]))))))
(.seq (pr [.mv 35 (.s 3), .mv 2 (.s 35)] [2])
.ret))))
theorem c_spec_ScriptInts (xs : List GOp) (hN : xs.length ≤ 1099511627776) : Ctr Tryz.prog n_spec_ScriptInts [aL 4 (xs.map GOp.enc)] [rL 1 ((scriptInts xs).map encI)] := by
 refine cA m_spec_ScriptInts 2 36 [(.tmp 2, [true])] Tryz.func343 rfl rfl ?_; unfold m_spec_ScriptInts
 intro hb
 simp only [bdA, bdL, bdT, bdR_map, roomB, and_true, List.length_map] at hb
 obtain ⟨hl, -⟩ := hb
 simp only [↓reduceIte, go_sem]
 refine loopK_rng xs (fun k => [(3, .val false [.ref 0 0 1 0 (scriptInts (xs.take k)).length]), (4, vI k)]) (fun k => [(0, ⟨0, .row true 1 ((scriptInts (xs.take k)).map encI)⟩)]) (fun _ => True) hl ?_
 simp only [↓reduceIte, go_sem]
 refine ⟨?_, trivial, ?_, ?_⟩
 ·simp only [↓reduceIte, go_sem, List.take_zero]
  exact ⟨rfl, rfl⟩
 ·intro k x hx _ h0 h1 hw
  have hlt := List.length_take_le k xs
  simp only [↓reduceIte, go_sem, bk_eq hx, h0, h1, hw, scriptInts_snoc hx, List.length_append, scriptInts_len]
  refine ⟨⟨by simp, by decide⟩, by simp only [roomB]; omega, by simp [encI]⟩
 ·intro _
  simp only [↓reduceIte, go_sem, List.take_length]
def m_spec_l31Same : MC :=
(.seq (pr [.mv 4 cF] [0,1])
(.seq (.seq (pr [.mv 6 (.s 0), .len 7 false (.s 6), .mv 8 (.s 1), .len 9 false (.s 8), .bin 10 false .neq (.s 7) (.s 9)] [0,1,10])
(.cond (.s 10) (.seq (pr [.mv 4 cF] [4])
.ret) .skip))
(.seq (.seq (pr [.mv 5 (ci 0)] [0,1,5])
(.block 0 (.loop ([0,1,5], []) (.seq (.seq (pr [.mv 11 (.s 5), .mv 12 (.s 0), .len 13 false (.s 12), .bin 14 false .lss (.s 11) (.s 13)] [0,1,5,14])
(.cond (.s 14) .skip (.exit 0)))
(.seq (.block 1 (.seq (.dreg [Zc [18,21,22,23,24] (.mv 17 (.s 0)), Zc [17,21,22,23,24] (.mv 18 (.s 5)), Zd [21,22,23,24] [0,1] (.idx 19 6 (.s 17) (.s 18)), Zd [21,22,23,24] [0,1,2] (.load 20 true 6 (.s 19)), Zc [17,18,19,20,22] (.mv 21 (.s 1)), Zc [17,18,19,20,21] (.mv 22 (.s 5)), Zd [17,18,19,20] [4,5] (.idx 23 6 (.s 21) (.s 22)), Zd [17,18,19,20] [4,5,6] (.load 24 true 6 (.s 23)), Ze (.range 8) (.eqA 25 true [.i .i64, .i .i64, .i .i64, .i .i64, .i .i64, .i .i64] (.s 20) (.s 24))] [0,1,5,25])
(.cond (.s 25) (.seq (pr [.mv 4 cF] [4])
.ret) .skip)))
(pr [.mv 15 (.s 5), .bin 16 false .add (.s 15) (ci 1), .mv 5 (.s 16)] [0,1,5]))))))
(.seq (pr [.mv 4 cT] [4])
.ret))))
theorem c_spec_l31Same (xs ys : List GFound) : Ctr Tryz.prog n_spec_l31Same [aL 6 (xs.map GFound.enc), aL 6 (ys.map GFound.enc)] [rB (decide (xs = ys))] := by
 refine cA m_spec_l31Same 0 26 [(.tmp 4, [false])] Tryz.func292 rfl rfl ?_; unfold m_spec_l31Same
 intro hb
 simp only [bdA, bdL, bdT, bdR_map, roomB, and_true, List.length_map] at hb
 obtain ⟨⟨hl, -⟩, ⟨hl2, -⟩⟩ := hb
 simp only [↓reduceIte, go_sem]
 refine ⟨fun h => ne_len h, fun h => ?_⟩
 have hle : xs.length = ys.length := by omega
 refine loopK_rng xs (fun k => [(5, vI k)]) (fun k => []) (fun k => xs.take k = ys.take k) hl ?_
 simp only [↓reduceIte, go_sem]
 refine ⟨?_, rfl, ?_, ?_⟩
 ·simp only [↓reduceIte, go_sem]
 ·intro k x hx he h0 h1 hw
  obtain ⟨y, hy⟩ := at_some (show k < ys.length by omega)
  have h2 : (k : Int) < ys.length := by omega
  simp only [↓reduceIte, go_sem, bk_eq hx, bk_eq hy, h0, h1, h2, hw]
  exact ⟨fun hn => ne_at hx hy (by rintro rfl; simp at hn), fun hn => (take_eq_step hx hy he).2 (by exact GFound.eqv.2 (by simpa using hn))⟩
 ·intro he
  simp only [↓reduceIte, go_sem]
  exact eq_all he hle
end Go.Proofs.YtgkeplbnnjogiaaGreatR
namespace Go.Proofs.YtgkeplbnnjogiaaGreatR
open Go Go.RowKit Go.Proofs
open Nat (reduceEqDiff reduceLT reduceLeDiff reduceAdd reduceMul)
open List (reduceReplicate)
def modP (v : Int) : Int := (IntKind.i64.wrap (v.tmod 2147483647 + 2147483647)).tmod 2147483647
def hstep (h v : Int) : Int := (IntKind.i64.wrap (IntKind.i64.wrap (IntKind.i64.wrap (h * 1000003) + modP v) + 13)).tmod 2147483647
def hashL (l : List Int) : Int := l.foldl hstep 11
theorem hashL_snoc {l : List Int} {k : Nat} {x : Int} (h : l[k]? = some x) : hashL (l.take (k + 1)) = hstep (hashL (l.take k)) x := by
 rw [take_snoc h, hashL, List.foldl_append]; rfl
theorem modulus_ne : ¬ (2147483647 : Int) = 0 := by decide
def m_spec_Mod : MC :=
(.seq (pr [.mv 4 (ci 0)] [0,1])
(.seq (.seq (pr [.mv 5 (.s 1), .call 6 [] (.f n_spec_l1In) [.s 5, .c (.int .i64 1), .c (.int .i64 1000000000000)], .un 7 .not (.s 6)] [0,1,7])
(.cond (.s 7) (.seq (pr [.mv 4 (ci 0)] [4])
.ret) .skip))
(.seq (pr [.mv 8 (.s 0), .mv 9 (.s 1), .bin 10 false .rem (.s 8) (.s 9), .mv 11 (.s 1), .bin 12 false .add (.s 10) (.s 11), .mv 13 (.s 1), .bin 14 false .rem (.s 12) (.s 13), .mv 4 (.s 14)] [4])
.ret)))
theorem c_spec_Mod (v : Int) : Ctr Tryz.prog n_spec_Mod [aI v, aI 2147483647] [rI (modP v)] := by
 refine cA m_spec_Mod 0 15 [(.tmp 4, [false])] Tryz.func390 rfl rfl ?_; unfold m_spec_Mod
 intro hb
 clear hb
 simp only [↓reduceIte, go_sem]
 apply callK_of (c_spec_l1In _ _ _)
 simp only [↓reduceIte, go_sem, modulus_ne]
 refine And.intro ?_ ?_ <;> intro h
 ·exact absurd (by decide) h
 ·rfl
def m_impl_Mod : MC :=
(.seq (pr [.mv 4 (ci 0)] [0,1])
(.seq (.seq (pr [.mv 5 (.s 1), .call 6 [] (.f n_impl_InRange) [.s 5, .c (.int .i64 1), .c (.int .i64 1000000000000)], .un 7 .not (.s 6)] [0,1,7])
(.cond (.s 7) (.seq (pr [.mv 4 (ci 0)] [4])
.ret) .skip))
(.seq (pr [.mv 8 (.s 0), .mv 9 (.s 1), .bin 10 false .rem (.s 8) (.s 9), .mv 11 (.s 1), .bin 12 false .add (.s 10) (.s 11), .mv 13 (.s 1), .bin 14 false .rem (.s 12) (.s 13), .mv 4 (.s 14)] [4])
.ret)))
theorem c_impl_Mod (v : Int) : Ctr Tryz.prog n_impl_Mod [aI v, aI 2147483647] [rI (modP v)] := by
 refine cA m_impl_Mod 0 15 [(.tmp 4, [false])] Tryz.func387 rfl rfl ?_; unfold m_impl_Mod
 intro hb
 clear hb
 simp only [↓reduceIte, go_sem]
 apply callK_of (c_impl_InRange _ _ _)
 simp only [↓reduceIte, go_sem, modulus_ne]
 refine And.intro ?_ ?_ <;> intro h
 ·exact absurd (by decide) h
 ·rfl
def m_spec_Hash : MC :=
(.seq (pr [.mv 2 (ci 0)] [0])
(.seq (pr [.mv 3 (ci 11)] [0,3])
(.seq (.seq (pr [.mv 4 (ci 0)] [0,3,4])
(.block 0 (.loop ([0,3,4], []) (.seq (.seq (pr [.mv 5 (.s 4), .mv 6 (.s 0), .len 7 false (.s 6), .bin 8 false .lss (.s 5) (.s 7)] [0,3,4,8])
(.cond (.s 8) .skip (.exit 0)))
(.seq (.block 1 (pr [.mv 11 (.s 3), .bin 12 false .mul (.s 11) (ci 1000003), .mv 13 (.s 0), .mv 14 (.s 4), .idx 15 1 (.s 13) (.s 14), .load 16 false 1 (.s 15), .call 17 [] (.f n_spec_Mod) [.s 16, .c (.int .i64 2147483647)], .bin 18 false .add (.s 12) (.s 17), .bin 19 false .add (.s 18) (ci 13), .bin 20 false .rem (.s 19) (ci 2147483647), .mv 3 (.s 20)] [0,3,4]))
(pr [.mv 9 (.s 4), .bin 10 false .add (.s 9) (ci 1), .mv 4 (.s 10)] [0,3,4]))))))
(.seq (pr [.mv 21 (.s 3), .mv 2 (.s 21)] [2])
.ret))))
theorem c_spec_Hash (l : List Int) : Ctr Tryz.prog n_spec_Hash [aL 1 (l.map encI)] [rI (hashL l)] := by
 refine cA m_spec_Hash 0 22 [(.tmp 2, [false])] Tryz.func311 rfl rfl ?_; unfold m_spec_Hash
 intro hb
 simp only [bdA, bdL, bdT, bdR_map, roomB, and_true, List.length_map] at hb
 have hl := hb.1
 clear hb
 simp only [↓reduceIte, go_sem]
 refine loopK_rng l (fun k => [(3, vI (hashL (l.take k))), (4, vI k)]) (fun k => []) (fun _ => True) hl ?_
 simp only [↓reduceIte, go_sem]
 refine ⟨?_, trivial, ?_, ?_⟩
 ·simp only [↓reduceIte, go_sem, List.take_zero]
  rfl
 ·intro k x hx _ h0 h1 hw
  simp only [↓reduceIte, go_sem, bk_eq hx, h0, h1, hashL_snoc hx]
  apply callK_of (c_spec_Mod _)
  simp only [↓reduceIte, go_sem, hw, modulus_ne]
  try intro _
  rfl
 ·intro _
  simp only [↓reduceIte, go_sem, List.take_length]
def m_impl_Hash : MC :=
(.seq (pr [.mv 2 (ci 0)] [0])
(.seq (pr [.mv 3 (ci 11)] [0,3])
(.seq (.seq (pr [.mv 6 (.s 0), .len 7 false (.s 6), .mv 8 (ci 0)] [3,6,7,8])
(.block 0 (.loop ([3,6,7,8], []) (.seq (pr [.bin 9 false .lss (.s 8) (.s 7)] [3,6,7,8,9])
(.seq (.cond (.s 9) .skip (.exit 0))
(.seq (.block 1 (.seq (pr [.idx 10 1 (.s 6) (.s 8), .load 11 false 1 (.s 10), .mv 5 (.s 11)] [3,5,6,7,8])
(pr [.mv 12 (.s 3), .bin 13 false .mul (.s 12) (ci 1000003), .mv 14 (.s 5), .call 15 [] (.f n_impl_Mod) [.s 14, .c (.int .i64 2147483647)], .bin 16 false .add (.s 13) (.s 15), .bin 17 false .add (.s 16) (ci 13), .bin 18 false .rem (.s 17) (ci 2147483647), .mv 3 (.s 18)] [3,6,7,8])))
(pr [.bin 19 false .add (.s 8) (ci 1), .mv 8 (.s 19)] [3,6,7,8])))))))
(.seq (pr [.mv 20 (.s 3), .mv 2 (.s 20)] [2])
.ret))))
theorem c_impl_Hash (l : List Int) : Ctr Tryz.prog n_impl_Hash [aL 1 (l.map encI)] [rI (hashL l)] := by
 refine cA m_impl_Hash 0 21 [(.tmp 2, [false])] Tryz.func314 rfl rfl ?_; unfold m_impl_Hash
 intro hb
 simp only [bdA, bdL, bdT, bdR_map, roomB, and_true, List.length_map] at hb
 have hl := hb.1
 clear hb
 simp only [↓reduceIte, go_sem]
 refine loopK_rng l (fun k => [(3, vI (hashL (l.take k))), (8, vI k)]) (fun k => []) (fun _ => True) hl ?_
 simp only [↓reduceIte, go_sem]
 refine ⟨?_, trivial, ?_, ?_⟩
 ·simp only [↓reduceIte, go_sem, List.take_zero]
  rfl
 ·intro k x hx _ h0 h1 hw
  simp only [↓reduceIte, go_sem, bk_eq hx, h0, h1, hashL_snoc hx]
  apply callK_of (c_impl_Mod _)
  simp only [↓reduceIte, go_sem, hw, modulus_ne]
  try intro _
  rfl
 ·intro _
  simp only [↓reduceIte, go_sem, List.take_length]
def rootF : Nat → List Int → Int
 | 0, _ => 0
 | n + 1, l => match l with
  | [] => 0
  | [x] => x
  | x :: y :: l => hashL [rootF n ((x :: y :: l).take ((l.length + 3) / 2)), rootF n ((x :: y :: l).drop ((l.length + 3) / 2))]
theorem rootF_more : ∀ {n m : Nat} {l : List Int}, l.length ≤ n → l.length ≤ m → rootF n l = rootF m l
 | 0, 0, _, _, _ => rfl
 | 0, m + 1, l, h, _ => by
  obtain rfl : l = [] := List.length_eq_zero_iff.1 (by omega)
  rfl
 | n + 1, 0, l, _, h => by
  obtain rfl : l = [] := List.length_eq_zero_iff.1 (by omega)
  rfl
 | n + 1, m + 1, [], _, _ => rfl
 | n + 1, m + 1, [x], _, _ => rfl
 | n + 1, m + 1, x :: y :: l, h, k => by
  simp only [List.length_cons] at h k
  simp only [rootF]
  rw [rootF_more (n := n) (m := m) (by rw [List.length_take]; simp only [List.length_cons]; omega) (by rw [List.length_take]; simp only [List.length_cons]; omega), rootF_more (n := n) (m := m) (l := (x :: y :: l).drop _) (by rw [List.length_drop]; simp only [List.length_cons]; omega) (by rw [List.length_drop]; simp only [List.length_cons]; omega)]
def rootL (l : List Int) : Int := rootF l.length l
theorem rootF_two {n x y : _} {l : List Int} : rootF (n + 1) (x :: y :: l) = hashL [rootF n ((x :: y :: l).take ((l.length + 3) / 2)), rootF n ((x :: y :: l).drop ((l.length + 3) / 2))] := rfl
theorem rootL_two {l : List Int} (h : 2 ≤ l.length) : rootL l = hashL [rootL (l.take ((l.length + 1) / 2)), rootL (l.drop ((l.length + 1) / 2))] := by
 match l, h with
 | x :: y :: l, h =>
  have e : (x :: y :: l).length + 1 = l.length + 3 := by simp
  rw [e]
  unfold rootL
  rw [show (x :: y :: l).length = (l.length + 1) + 1 from by simp, rootF_two]
  rw [rootF_more (n := l.length + 1) (l := (x :: y :: l).take _) (by rw [List.length_take]; simp only [List.length_cons]; omega) (Nat.le_refl _), rootF_more (n := l.length + 1) (l := (x :: y :: l).drop _) (by rw [List.length_drop]; simp only [List.length_cons]; omega) (Nat.le_refl _)]
theorem two_ne : ¬ (2 : Int) = 0 := by decide
theorem cut_lo {α : Type} {f : α → List T} {l : List α} {m : Nat} (h : m ≤ l.length) : (if ((m : Int) - 0).toNat = l.length then l.map f else List.take ((m : Int) - 0).toNat (l.map f)) = (l.take m).map f := by
 rw [show ((m : Int) - 0).toNat = m by omega]
 split
 ·rename_i e; rw [List.take_of_length_le (by omega)]
 ·rw [List.map_take]
theorem cut_hi {α : Type} {f : α → List T} {l : List α} {m : Nat} (h : m ≤ l.length) : (if m = 0 ∧ ((l.length : Int) - (m : Int)).toNat = l.length then l.map f else List.take ((l.length : Int) - (m : Int)).toNat (List.drop m (l.map f))) = (l.drop m).map f := by
 rw [show ((l.length : Int) - (m : Int)).toNat = l.length - m by omega]
 split
 ·rename_i e; rw [e.1]; rfl
 ·rw [List.take_of_length_le (by simp), List.map_drop]
def m_spec_RootOf : MC :=
(.seq (pr [.mv 2 (ci 0)] [0])
(.seq (.seq (pr [.mv 4 (.s 0), .len 5 false (.s 4)] [0,5])
(.block 0 (.seq (pr [.bin 7 false .eql (.s 5) (ci 0), .mv 6 (.s 7)] [0,5,6])
(.cond (.s 6) (.seq (pr [.mv 2 (ci 0)] [2])
.ret) (.seq (pr [.bin 9 false .eql (.s 5) (ci 1), .mv 8 (.s 9)] [0,8])
(.cond (.s 8) (.seq (pr [.mv 10 (.s 0), .idx 11 1 (.s 10) (ci 0), .load 12 false 1 (.s 11), .mv 2 (.s 12)] [2])
.ret) .skip))))))
(.seq (pr [.mv 13 (.s 0), .len 14 false (.s 13), .bin 15 false .add (.s 14) (ci 1), .bin 16 false .quo (.s 15) (ci 2), .mv 3 (.s 16)] [0,3])
(.seq (.dreg [Zc [18,21,22,23] (.mv 17 (.s 0)), Zc [17,21,22,23] (.mv 18 (.s 3)), Zd [21,22,23] [0,1] (.slc 19 1 (.s 17) none (some (.s 18)) none), Zd [21,22,23] [0,1,2] (.call 20 [] (.f n_spec_RootOf) [.s 19]), Zc [17,18,19,20,22] (.mv 21 (.s 0)), Zc [17,18,19,20,21] (.mv 22 (.s 3)), Zd [17,18,19,20] [4,5] (.slc 23 1 (.s 21) (some (.s 22)) none none), Ze (.range 7) (.call 24 [] (.f n_spec_RootOf) [.s 23]), { o := .lit 25 0 1 8 [.s 20, .s 24], ws := [0], bf := (.range 8) }, Ze (.range 9) (.call 26 [] (.f n_spec_Hash) [.s 25]), Ze (.range 10) (.mv 2 (.s 26))] [2])
.ret))))
theorem c_spec_RootOf (n : Nat) : ∀ (l : List Int), l.length ≤ n → Ctr Tryz.prog n_spec_RootOf [aL 1 (l.map encI)] [rI (rootL l)] := by
 induction n with
 | zero =>
  intro l hn
  obtain rfl : l = [] := List.length_eq_zero_iff.1 (by omega)
  refine cA m_spec_RootOf 1 27 [(.tmp 2, [false])] Tryz.func342 rfl rfl ?_; unfold m_spec_RootOf
  intro hb
  clear hb
  simp only [↓reduceIte, go_sem]
  rfl
 | succ n ih =>
  intro l hn
  refine cA m_spec_RootOf 1 27 [(.tmp 2, [false])] Tryz.func342 rfl rfl ?_; unfold m_spec_RootOf
  intro hb
  simp only [bdA, bdL, bdT, bdR_map, roomB, and_true, List.length_map] at hb
  have hl := hb.1
  clear hb
  have hM1 : IntKind.i64.wrap ((l.length : Int) + 1) = ((l.length + 1 : Nat) : Int) := by rw [wI (by omega) (by omega)]; omega
  have hM2 : ((l.length + 1 : Nat) : Int).tdiv 2 = (((l.length + 1) / 2 : Nat) : Int) := rfl
  have hM3 : IntKind.i64.wrap ((((l.length + 1) / 2 : Nat) : Int)) = (((l.length + 1) / 2 : Nat) : Int) := wI (by omega) (by omega)
  simp only [↓reduceIte, go_sem, two_ne, hM1, hM2, hM3]
  refine And.intro ?_ ?_ <;> intro h
  ·obtain rfl : l = [] := List.length_eq_zero_iff.1 (by omega)
   rfl
  refine And.intro ?_ ?_ <;> intro h2
  ·match l, h2 with
   | [x], _ => simp only [go_sem]; exact ⟨by simp, rfl⟩
   | x :: y :: l, h2 => simp at h2; omega
  ·generalize hm : (l.length + 1) / 2 = m at *
   rw [cut_lo (by omega)]
   refine ⟨⟨by omega, by omega, by omega⟩, ?_⟩
   apply callK_of (ih _ (by rw [List.length_take]; omega))
   simp only [↓reduceIte, go_sem]
   rw [cut_hi (by omega)]
   intros
   refine ⟨⟨by omega, by omega⟩, ?_⟩
   apply callK_of (ih _ (by rw [List.length_drop]; omega))
   simp only [↓reduceIte, go_sem]
   refine ⟨by decide, ?_⟩
   apply callK_of (c_spec_Hash [rootL (l.take m), rootL (l.drop m)])
   simp only [↓reduceIte, go_sem]
   intros
   rw [rootL_two (l := l) (by omega), hm]
def m_impl_RootOf : MC :=
(.seq (pr [.mv 2 (ci 0)] [0])
(.seq (.seq (pr [.mv 4 (.s 0), .len 5 false (.s 4)] [0,5])
(.block 0 (.seq (pr [.bin 7 false .eql (.s 5) (ci 0), .mv 6 (.s 7)] [0,5,6])
(.cond (.s 6) (.seq (pr [.mv 2 (ci 0)] [2])
.ret) (.seq (pr [.bin 9 false .eql (.s 5) (ci 1), .mv 8 (.s 9)] [0,8])
(.cond (.s 8) (.seq (pr [.mv 10 (.s 0), .idx 11 1 (.s 10) (ci 0), .load 12 false 1 (.s 11), .mv 2 (.s 12)] [2])
.ret) .skip))))))
(.seq (pr [.mv 13 (.s 0), .len 14 false (.s 13), .bin 15 false .add (.s 14) (ci 1), .bin 16 false .quo (.s 15) (ci 2), .mv 3 (.s 16)] [0,3])
(.seq (.dreg [Zc [18,21,22,23] (.mv 17 (.s 0)), Zc [17,21,22,23] (.mv 18 (.s 3)), Zd [21,22,23] [0,1] (.slc 19 1 (.s 17) none (some (.s 18)) none), Zd [21,22,23] [0,1,2] (.call 20 [] (.f n_impl_RootOf) [.s 19]), Zc [17,18,19,20,22] (.mv 21 (.s 0)), Zc [17,18,19,20,21] (.mv 22 (.s 3)), Zd [17,18,19,20] [4,5] (.slc 23 1 (.s 21) (some (.s 22)) none none), Ze (.range 7) (.call 24 [] (.f n_impl_RootOf) [.s 23]), { o := .lit 25 0 1 8 [.s 20, .s 24], ws := [0], bf := (.range 8) }, Ze (.range 9) (.call 26 [] (.f n_impl_Hash) [.s 25]), Ze (.range 10) (.mv 2 (.s 26))] [2])
.ret))))
theorem c_impl_RootOf (n : Nat) : ∀ (l : List Int), l.length ≤ n → Ctr Tryz.prog n_impl_RootOf [aL 1 (l.map encI)] [rI (rootL l)] := by
 induction n with
 | zero =>
  intro l hn
  obtain rfl : l = [] := List.length_eq_zero_iff.1 (by omega)
  refine cA m_impl_RootOf 1 27 [(.tmp 2, [false])] Tryz.func354 rfl rfl ?_; unfold m_impl_RootOf
  intro hb
  clear hb
  simp only [↓reduceIte, go_sem]
  rfl
 | succ n ih =>
  intro l hn
  refine cA m_impl_RootOf 1 27 [(.tmp 2, [false])] Tryz.func354 rfl rfl ?_; unfold m_impl_RootOf
  intro hb
  simp only [bdA, bdL, bdT, bdR_map, roomB, and_true, List.length_map] at hb
  have hl := hb.1
  clear hb
  have hM1 : IntKind.i64.wrap ((l.length : Int) + 1) = ((l.length + 1 : Nat) : Int) := by rw [wI (by omega) (by omega)]; omega
  have hM2 : ((l.length + 1 : Nat) : Int).tdiv 2 = (((l.length + 1) / 2 : Nat) : Int) := rfl
  have hM3 : IntKind.i64.wrap ((((l.length + 1) / 2 : Nat) : Int)) = (((l.length + 1) / 2 : Nat) : Int) := wI (by omega) (by omega)
  simp only [↓reduceIte, go_sem, two_ne, hM1, hM2, hM3]
  refine And.intro ?_ ?_ <;> intro h
  ·obtain rfl : l = [] := List.length_eq_zero_iff.1 (by omega)
   rfl
  refine And.intro ?_ ?_ <;> intro h2
  ·match l, h2 with
   | [x], _ => simp only [go_sem]; exact ⟨by simp, rfl⟩
   | x :: y :: l, h2 => simp at h2; omega
  ·generalize hm : (l.length + 1) / 2 = m at *
   rw [cut_lo (by omega)]
   refine ⟨⟨by omega, by omega, by omega⟩, ?_⟩
   apply callK_of (ih _ (by rw [List.length_take]; omega))
   simp only [↓reduceIte, go_sem]
   rw [cut_hi (by omega)]
   intros
   refine ⟨⟨by omega, by omega⟩, ?_⟩
   apply callK_of (ih _ (by rw [List.length_drop]; omega))
   simp only [↓reduceIte, go_sem]
   refine ⟨by decide, ?_⟩
   apply callK_of (c_impl_Hash [rootL (l.take m), rootL (l.drop m)])
   simp only [↓reduceIte, go_sem]
   intros
   rw [rootL_two (l := l) (by omega), hm]
end Go.Proofs.YtgkeplbnnjogiaaGreatR
namespace Go.Proofs.YtgkeplbnnjogiaaGreatR
open Go Go.RowKit Go.Proofs
open Nat (reduceEqDiff reduceLT reduceLeDiff reduceAdd reduceMul)
open List (reduceReplicate)
def resInts (r : GResource) : List Int := [r.Kind, r.To.Host, r.To.Path, r.To.Query, r.Body.length] ++ r.Body
def capInts (c : GCapture) : List Int := [c.Address.Host, c.Address.Path, c.Address.Query, c.Tick] ++ resInts c.Resource
theorem resInts_len (r : GResource) : (resInts r).length = 5 + r.Body.length := by simp [resInts]; omega
def m_spec_ResourceInts : MC :=
(.seq (pr [.box 1 0 (.s 0), .nilo 2 1 1] [1])
(.seq (pr [.fld 3 (.s 1) 0, .load 4 false 1 (.s 3), .fld 5 (.s 1) 2, .fld 6 (.s 5) 0, .load 7 false 1 (.s 6), .fld 8 (.s 1) 2, .fld 9 (.s 8) 1, .load 10 false 1 (.s 9), .fld 11 (.s 1) 2, .fld 12 (.s 11) 2, .load 13 false 1 (.s 12), .fld 14 (.s 1) 1, .load 15 false 1 (.s 14), .len 16 false (.s 15), .lit 17 1 1 8 [.s 4, .s 7, .s 10, .s 13, .s 16], .fld 18 (.s 1) 1, .load 19 false 1 (.s 18), .app 20 1 1 8 (.s 17) (.s 19), .mv 2 (.s 20)] [2])
.ret))
theorem c_spec_ResourceInts (r : GResource) (hs : r.Body.length ≤ 1073741824) : Ctr Tryz.prog n_spec_ResourceInts [aS r.enc] [rL 1 ((resInts r).map encI)] := by
 refine cA m_spec_ResourceInts 2 21 [(.tmp 2, [true])] Tryz.func312 rfl rfl ?_; unfold m_spec_ResourceInts
 intro hb
 clear hb
 simp only [↓reduceIte, go_sem, ↓flat_of (f := encI) (fun _ => rfl) r.Body]
 simp only [roomB]
 refine ⟨by decide, by omega, ?_⟩
 simp [resInts, encI]
 omega
def m_impl_ResourceInts : MC :=
(.seq (pr [.box 1 0 (.s 0), .nilo 2 1 1] [1])
(.seq (pr [.fld 3 (.s 1) 0, .load 4 false 1 (.s 3), .fld 5 (.s 1) 2, .fld 6 (.s 5) 0, .load 7 false 1 (.s 6), .fld 8 (.s 1) 2, .fld 9 (.s 8) 1, .load 10 false 1 (.s 9), .fld 11 (.s 1) 2, .fld 12 (.s 11) 2, .load 13 false 1 (.s 12), .fld 14 (.s 1) 1, .load 15 false 1 (.s 14), .len 16 false (.s 15), .lit 17 1 1 8 [.s 4, .s 7, .s 10, .s 13, .s 16], .fld 18 (.s 1) 1, .load 19 false 1 (.s 18), .app 20 1 1 8 (.s 17) (.s 19), .mv 2 (.s 20)] [2])
.ret))
theorem c_impl_ResourceInts (r : GResource) (hs : r.Body.length ≤ 1073741824) : Ctr Tryz.prog n_impl_ResourceInts [aS r.enc] [rL 1 ((resInts r).map encI)] := by
 refine cA m_impl_ResourceInts 2 21 [(.tmp 2, [true])] Tryz.func315 rfl rfl ?_; unfold m_impl_ResourceInts
 intro hb
 clear hb
 simp only [↓reduceIte, go_sem, ↓flat_of (f := encI) (fun _ => rfl) r.Body]
 simp only [roomB]
 refine ⟨by decide, by omega, ?_⟩
 simp [resInts, encI]
 omega
def m_spec_CaptureInts : MC :=
(.seq (pr [.box 1 0 (.s 0), .nilo 2 1 1] [1])
(.seq (.dreg [Zf [6,7,8,9,10,11,12,13,15,16,17] [2] (.fld 3 (.s 1) 0), Zg [6,7,8,9,10,11,12,13,15,16,17] [2] [0] (.fld 4 (.s 3) 0), Zg [6,7,8,9,10,11,12,13,15,16,17] [2] [0,1] (.load 5 false 1 (.s 4)), Zf [3,4,5,9,10,11,12,13,15,16,17] [2] (.fld 6 (.s 1) 0), Zg [3,4,5,9,10,11,12,13,15,16,17] [2] [3] (.fld 7 (.s 6) 1), Zg [3,4,5,9,10,11,12,13,15,16,17] [2] [3,4] (.load 8 false 1 (.s 7)), Zf [3,4,5,6,7,8,12,13,15,16,17] [2] (.fld 9 (.s 1) 0), Zg [3,4,5,6,7,8,12,13,15,16,17] [2] [6] (.fld 10 (.s 9) 2), Zg [3,4,5,6,7,8,12,13,15,16,17] [2] [6,7] (.load 11 false 1 (.s 10)), Zf [3,4,5,6,7,8,9,10,11,15,16,17] [2] (.fld 12 (.s 1) 3), Zg [3,4,5,6,7,8,9,10,11,15,16,17] [2] [9] (.load 13 false 1 (.s 12)), { o := .lit 14 1 1 8 [.s 5, .s 8, .s 11, .s 13], hs := [15,16,17], ho := [2], ws := [1], bf := (.range 11) }, Zf [3,4,5,6,7,8,9,10,11,12,13,14] [1] (.fld 15 (.s 1) 4), Zg [3,4,5,6,7,8,9,10,11,12,13,14] [1] [12] (.load 16 true 5 (.s 15)), { o := .call 17 [2] (.f n_spec_ResourceInts) [.s 16], hs := [3,4,5,6,7,8,9,10,11,12,13,14], ho := [1], ws := [2], bf := [12,13] }, { o := .app 18 1 1 8 (.s 14) (.s 17), ws := [1], bf := (.range 15) }, Ze (.range 16) (.mv 2 (.s 18))] [2])
.ret))
theorem c_spec_CaptureInts (c : GCapture) (hs : c.Resource.Body.length ≤ 1073741824) : Ctr Tryz.prog n_spec_CaptureInts [aS c.enc] [rL 1 ((capInts c).map encI)] := by
 refine cA m_spec_CaptureInts 3 19 [(.tmp 2, [true])] Tryz.func402 rfl rfl ?_; unfold m_spec_CaptureInts
 intro hb
 clear hb
 simp only [↓reduceIte, go_sem]
 refine ⟨by decide, ?_⟩
 apply callK_of (c_spec_ResourceInts c.Resource hs)
 simp only [↓reduceIte, go_sem, ↓flat_of (f := encI) (fun _ => rfl) (resInts c.Resource), resInts_len]
 simp only [roomB]
 exact ⟨by omega, fun _ => ⟨by omega, by simp [capInts, encI]⟩⟩
def m_impl_CaptureInts : MC :=
(.seq (pr [.box 1 0 (.s 0), .nilo 2 1 1] [1])
(.seq (.dreg [Zf [6,7,8,9,10,11,12,13,15,16,17] [2] (.fld 3 (.s 1) 0), Zg [6,7,8,9,10,11,12,13,15,16,17] [2] [0] (.fld 4 (.s 3) 0), Zg [6,7,8,9,10,11,12,13,15,16,17] [2] [0,1] (.load 5 false 1 (.s 4)), Zf [3,4,5,9,10,11,12,13,15,16,17] [2] (.fld 6 (.s 1) 0), Zg [3,4,5,9,10,11,12,13,15,16,17] [2] [3] (.fld 7 (.s 6) 1), Zg [3,4,5,9,10,11,12,13,15,16,17] [2] [3,4] (.load 8 false 1 (.s 7)), Zf [3,4,5,6,7,8,12,13,15,16,17] [2] (.fld 9 (.s 1) 0), Zg [3,4,5,6,7,8,12,13,15,16,17] [2] [6] (.fld 10 (.s 9) 2), Zg [3,4,5,6,7,8,12,13,15,16,17] [2] [6,7] (.load 11 false 1 (.s 10)), Zf [3,4,5,6,7,8,9,10,11,15,16,17] [2] (.fld 12 (.s 1) 3), Zg [3,4,5,6,7,8,9,10,11,15,16,17] [2] [9] (.load 13 false 1 (.s 12)), { o := .lit 14 1 1 8 [.s 5, .s 8, .s 11, .s 13], hs := [15,16,17], ho := [2], ws := [1], bf := (.range 11) }, Zf [3,4,5,6,7,8,9,10,11,12,13,14] [1] (.fld 15 (.s 1) 4), Zg [3,4,5,6,7,8,9,10,11,12,13,14] [1] [12] (.load 16 true 5 (.s 15)), { o := .call 17 [2] (.f n_impl_ResourceInts) [.s 16], hs := [3,4,5,6,7,8,9,10,11,12,13,14], ho := [1], ws := [2], bf := [12,13] }, { o := .app 18 1 1 8 (.s 14) (.s 17), ws := [1], bf := (.range 15) }, Ze (.range 16) (.mv 2 (.s 18))] [2])
.ret))
theorem c_impl_CaptureInts (c : GCapture) (hs : c.Resource.Body.length ≤ 1073741824) : Ctr Tryz.prog n_impl_CaptureInts [aS c.enc] [rL 1 ((capInts c).map encI)] := by
 refine cA m_impl_CaptureInts 3 19 [(.tmp 2, [true])] Tryz.func352 rfl rfl ?_; unfold m_impl_CaptureInts
 intro hb
 clear hb
 simp only [↓reduceIte, go_sem]
 refine ⟨by decide, ?_⟩
 apply callK_of (c_impl_ResourceInts c.Resource hs)
 simp only [↓reduceIte, go_sem, ↓flat_of (f := encI) (fun _ => rfl) (resInts c.Resource), resInts_len]
 simp only [roomB]
 exact ⟨by omega, fun _ => ⟨by omega, by simp [capInts, encI]⟩⟩
def entInts (l : List GEntry) : List Int := l.flatMap fun e => [e.Kind, e.Address.Host, e.Address.Path, e.Address.Query, e.Value]
theorem entInts_snoc {l : List GEntry} {k : Nat} {x : GEntry} (h : l[k]? = some x) : entInts (l.take (k + 1)) = entInts (l.take k) ++ [x.Kind, x.Address.Host, x.Address.Path, x.Address.Query, x.Value] := by
 rw [take_snoc h, entInts, List.flatMap_append]; rfl
theorem entInts_len {l : List GEntry} : (entInts l).length = 5 * l.length := by
 induction l with
 | nil => rfl
 | cons x l ih => simp only [entInts, List.flatMap_cons, List.length_append, List.length_cons, List.length_nil] at ih ⊢; omega
def m_spec_l30Entries : MC :=
(.seq (pr [.nilo 2 0 1] [0])
(.seq (pr [.lit 6 0 1 8 [], .mv 3 (.s 6)] [0,3])
(.seq (.seq (pr [.mv 4 (ci 0)] [0,3,4])
(.block 0 (.loop ([0,3,4], [1,2]) (.seq (.seq (pr [.mv 7 (.s 4), .mv 8 (.s 0), .len 9 false (.s 8), .bin 10 false .lss (.s 7) (.s 9)] [0,3,4,10])
(.cond (.s 10) .skip (.exit 0)))
(.seq (.block 1 (.seq (pr [.mv 13 (.s 0), .mv 14 (.s 4), .idx 15 5 (.s 13) (.s 14), .load 16 true 5 (.s 15), .alloc 5 1 [pz, pz, pz, pz, pz], .store 5 (.s 5) (.s 16)] [0,3,4,5])
(pr [.mv 17 (.s 3), .fld 18 (.s 5) 0, .load 19 false 1 (.s 18), .fld 20 (.s 5) 1, .fld 21 (.s 20) 0, .load 22 false 1 (.s 21), .fld 23 (.s 5) 1, .fld 24 (.s 23) 1, .load 25 false 1 (.s 24), .fld 26 (.s 5) 1, .fld 27 (.s 26) 2, .load 28 false 1 (.s 27), .fld 29 (.s 5) 4, .load 30 false 1 (.s 29), .lit 31 2 1 8 [.s 19, .s 22, .s 25, .s 28, .s 30], .app 32 0 1 8 (.s 17) (.s 31), .mv 3 (.s 32)] [0,3,4])))
(pr [.mv 11 (.s 4), .bin 12 false .add (.s 11) (ci 1), .mv 4 (.s 12)] [0,3,4]))))))
(.seq (pr [.mv 33 (.s 3), .mv 2 (.s 33)] [2])
.ret))))
theorem c_spec_l30Entries (xs : List GEntry) (hN : xs.length ≤ 1073741824) : Ctr Tryz.prog n_spec_l30Entries [aL 5 (xs.map GEntry.enc)] [rL 1 ((entInts xs).map encI)] := by
 refine cA m_spec_l30Entries 3 34 [(.tmp 2, [true])] Tryz.func344 rfl rfl ?_; unfold m_spec_l30Entries
 intro hb
 simp only [bdA, bdL, bdT, bdR_map, roomB, and_true, List.length_map] at hb
 obtain ⟨hl, -⟩ := hb
 simp only [↓reduceIte, go_sem]
 refine loopK_rng xs (fun k => [(3, .val false [.ref 0 0 1 0 (entInts (xs.take k)).length]), (4, vI k)]) (fun k => [(0, ⟨0, .row true 1 ((entInts (xs.take k)).map encI)⟩)]) (fun _ => True) hl ?_
 simp only [↓reduceIte, go_sem]
 refine ⟨?_, trivial, ?_, ?_⟩
 ·simp only [↓reduceIte, go_sem, List.take_zero]
  exact ⟨rfl, rfl⟩
 ·intro k x hx _ h0 h1 hw
  have hlt := List.length_take_le k xs
  simp only [↓reduceIte, go_sem, bk_eq hx, h0, h1, hw, entInts_snoc hx, List.length_append, entInts_len]
  refine ⟨⟨by simp, by decide⟩, by simp only [roomB]; omega, by simp [encI]⟩
 ·intro _
  simp only [↓reduceIte, go_sem, List.take_length]
def capHashes (l : List GCapture) : List Int := l.map fun c => hashL (capInts c)
theorem capHashes_snoc {l : List GCapture} {k : Nat} {x : GCapture} (h : l[k]? = some x) : capHashes (l.take (k + 1)) = capHashes (l.take k) ++ [hashL (capInts x)] := by
 rw [take_snoc h, capHashes, List.map_append]; rfl
theorem capHashes_len {l : List GCapture} : (capHashes l).length = l.length := by simp [capHashes]
theorem body_le {xs : List GCapture} {x : GCapture} {k : Nat} {n : Nat} (hx : xs[k]? = some x) (hs : xs.length + (xs.map GCapture.size).sum ≤ n) : x.Resource.Body.length ≤ n := by
 have hx1 := mem_sum (f := GCapture.size) (at_mem hx)
 simp only [GCapture.size, GResource.size] at hx1 hs
 omega
def m_spec_l30Captures : MC :=
(.seq (pr [.nilo 2 0 1] [0])
(.seq (pr [.lit 5 0 1 8 [], .mv 3 (.s 5)] [0,3])
(.seq (.seq (pr [.mv 4 (ci 0)] [0,3,4])
(.block 0 (.loop ([0,3,4], [1,2]) (.seq (.seq (pr [.mv 6 (.s 4), .mv 7 (.s 0), .len 8 false (.s 7), .bin 9 false .lss (.s 6) (.s 8)] [0,3,4,9])
(.cond (.s 9) .skip (.exit 0)))
(.seq (.block 1 (pr [.mv 12 (.s 3), .mv 13 (.s 0), .mv 14 (.s 4), .idx 15 9 (.s 13) (.s 14), .load 16 true 9 (.s 15), .call 17 [1] (.f n_spec_CaptureInts) [.s 16], .call 18 [] (.f n_spec_Hash) [.s 17], .lit 19 2 1 8 [.s 18], .app 20 0 1 8 (.s 12) (.s 19), .mv 3 (.s 20)] [0,3,4]))
(pr [.mv 10 (.s 4), .bin 11 false .add (.s 10) (ci 1), .mv 4 (.s 11)] [0,3,4]))))))
(.seq (pr [.mv 21 (.s 3), .mv 2 (.s 21)] [2])
.ret))))
theorem c_spec_l30Captures (xs : List GCapture) (hs : xs.length + (xs.map GCapture.size).sum ≤ 1073741824) : Ctr Tryz.prog n_spec_l30Captures [aL 9 (xs.map GCapture.enc)] [rL 1 ((capHashes xs).map encI)] := by
 refine cA m_spec_l30Captures 3 22 [(.tmp 2, [true])] Tryz.func345 rfl rfl ?_; unfold m_spec_l30Captures
 intro hb
 clear hb
 simp only [↓reduceIte, go_sem]
 refine loopK_rng xs (fun k => [(3, .val false [.ref 0 0 1 0 (capHashes (xs.take k)).length]), (4, vI k)]) (fun k => [(0, ⟨0, .row true 1 ((capHashes (xs.take k)).map encI)⟩)]) (fun _ => True) (by simp only [roomB]; omega) ?_
 simp only [↓reduceIte, go_sem]
 refine ⟨?_, trivial, ?_, ?_⟩
 ·simp only [↓reduceIte, go_sem, List.take_zero]
  exact ⟨rfl, rfl⟩
 ·intro k x hx _ h0 h1 hw
  have hlt := List.length_take_le k xs
  simp only [↓reduceIte, go_sem, bk_eq hx, h0, h1, capHashes_snoc hx, List.length_append]
  apply callK_of (c_spec_CaptureInts x (body_le hx hs))
  simp only [↓reduceIte, go_sem]
  try intro _
  apply callK_of (c_spec_Hash (capInts x))
  simp only [↓reduceIte, go_sem, hw]
  simp only [roomB, capHashes_len]
  exact ⟨by omega, by omega, fun _ => by simp [encI]⟩
 ·intro _
  simp only [↓reduceIte, go_sem, List.take_length]
def sealRoot (l : List GOp) (es : List GEntry) (cs : List GCapture) : Int := rootL [hashL (scriptInts l), hashL (entInts es), rootL (capHashes cs)]
def m_spec_SealContainer : MC :=
(.seq (pr [.alloc 6 0 [.emp 4, .emp 5, .emp 9, pz]] [0,1,2,6])
(.seq (pr [.lit 8 1 4 32 [], .mv 9 (.s 0), .app 10 1 4 32 (.s 8) (.s 9), .lit 11 2 5 40 [], .mv 12 (.s 1), .app 13 2 5 40 (.s 11) (.s 12), .mv 14 (.s 2), .call 15 [3] (.f n_spec_l15Copy) [.s 14], .build 16 [.emp 4, .emp 5, .emp 9, pz] [(0, 1, .s 10), (1, 1, .s 13), (2, 1, .s 15)], .alloc 7 4 [.emp 4, .emp 5, .emp 9, pz], .store 4 (.s 7) (.s 16)] [0,1,2,6,7])
(.seq (pr [.mv 17 (.s 0), .call 18 [5] (.f n_spec_ScriptInts) [.s 17], .call 19 [] (.f n_spec_Hash) [.s 18], .mv 20 (.s 1), .call 21 [6] (.f n_spec_l30Entries) [.s 20], .call 22 [] (.f n_spec_Hash) [.s 21], .mv 23 (.s 2), .call 24 [7] (.f n_spec_l30Captures) [.s 23], .call 25 [] (.f n_spec_RootOf) [.s 24], .lit 26 8 1 8 [.s 19, .s 22, .s 25], .call 27 [] (.f n_spec_RootOf) [.s 26], .fld 28 (.s 7) 3, .store 1 (.s 28) (.s 27)] [6,7])
(.seq (pr [.load 29 true 4 (.s 7), .store 4 (.s 6) (.s 29)] [6])
.ret))))
theorem c_spec_SealContainer (l : List GOp) (es : List GEntry) (cs : List GCapture) (h1 : l.length ≤ 1073741824) (h2 : es.length ≤ 1073741824) (hs : cs.length + (cs.map GCapture.size).sum ≤ 1073741824) :
  Ctr Tryz.prog n_spec_SealContainer [aL 4 (l.map GOp.enc), aL 5 (es.map GEntry.enc), aL 9 (cs.map GCapture.enc)] [rS (GContainer.enc ⟨l, es, cs, sealRoot l es cs⟩)] := by
 refine cA m_spec_SealContainer 9 30 [(.cell 6 true 4, [true, true, true, false])] Tryz.func248 rfl rfl ?_; unfold m_spec_SealContainer
 intro hb
 clear hb
 simp only [↓reduceIte, go_sem, ↓flat_of (f := GOp.enc) (fun _ => rfl) l, ↓flat_of (f := GEntry.enc) (fun _ => rfl) es]
 simp only [roomB]
 refine ⟨by omega, by omega, ?_⟩
 apply callK_of (c_spec_l15Copy cs hs)
 simp only [↓reduceIte, go_sem]
 intros
 apply callK_of (c_spec_ScriptInts l (by omega))
 simp only [↓reduceIte, go_sem]
 apply callK_of (c_spec_Hash (scriptInts l))
 simp only [↓reduceIte, go_sem]
 apply callK_of (c_spec_l30Entries es h2)
 simp only [↓reduceIte, go_sem]
 apply callK_of (c_spec_Hash (entInts es))
 simp only [↓reduceIte, go_sem]
 apply callK_of (c_spec_l30Captures cs hs)
 simp only [↓reduceIte, go_sem]
 apply callK_of (c_spec_RootOf _ (capHashes cs) (Nat.le_refl _))
 simp only [↓reduceIte, go_sem]
 refine ⟨by decide, ?_⟩
 apply callK_of (c_spec_RootOf _ [hashL (scriptInts l), hashL (entInts es), rootL (capHashes cs)] (Nat.le_refl _))
 simp only [↓reduceIte, go_sem]
 intros
 rfl
def m_spec_l30Copy : MC :=
(.seq (pr [.box 1 0 (.s 0), .alloc 2 1 [.emp 4, .emp 5, .emp 9, pz]] [1,2])
(.seq (pr [.fld 4 (.s 1) 0, .load 5 false 1 (.s 4), .fld 6 (.s 1) 1, .load 7 false 1 (.s 6), .fld 8 (.s 1) 2, .load 9 false 1 (.s 8), .call 10 [2, 3, 4] (.f n_spec_SealContainer) [.s 5, .s 7, .s 9], .alloc 3 5 [.emp 4, .emp 5, .emp 9, pz], .store 4 (.s 3) (.s 10)] [1,2,3])
(.seq (pr [.fld 11 (.s 1) 3, .load 12 false 1 (.s 11), .fld 13 (.s 3) 3, .store 1 (.s 13) (.s 12)] [2,3])
(.seq (pr [.load 14 true 4 (.s 3), .store 4 (.s 2) (.s 14)] [2])
.ret))))
theorem c_spec_l30Copy (x : GContainer) (hs : x.size ≤ 1073741824) : Ctr Tryz.prog n_spec_l30Copy [aS x.enc] [rS x.enc] := by
 refine cA m_spec_l30Copy 6 15 [(.cell 2 true 4, [true, true, true, false])] Tryz.func251 rfl rfl ?_; unfold m_spec_l30Copy
 intro hb
 clear hb
 simp only [GContainer.size] at hs
 simp only [↓reduceIte, go_sem]
 apply callK_of (c_spec_SealContainer x.Script x.Entries x.Captures (by omega) (by omega) (by omega))
 simp only [↓reduceIte, go_sem]
 try intros
 try trivial
def m_impl_copyContainers : MC :=
(.seq (pr [.nilo 2 0 4] [0])
(.seq (pr [.nilo 3 0 4] [0,3])
(.seq (.seq (pr [.mv 6 (.s 0), .len 7 false (.s 6), .mv 8 (ci 0)] [3,6,7,8])
(.block 0 (.loop ([3,6,7,8], [1,2,3,4,5]) (.seq (pr [.bin 9 false .lss (.s 8) (.s 7)] [3,6,7,8,9])
(.seq (.cond (.s 9) .skip (.exit 0))
(.seq (.block 1 (.seq (pr [.idx 10 4 (.s 6) (.s 8), .load 11 true 4 (.s 10), .alloc 5 1 [.emp 4, .emp 5, .emp 9, pz], .store 4 (.s 5) (.s 11)] [3,5,6,7,8])
(.dreg [Zf [13,14,15,16,17,18,19,20,21,22,23,24,25] [2,3,4,5] (.mv 12 (.s 3)), Zc [12,16,17,19,20,22,23] (.fld 13 (.s 5) 0), Zd [12,16,17,19,20,22,23] [1] (.load 14 false 1 (.s 13)), { o := .call 15 [2] (.f n_slices_Clone_impl_Op_impl_Op) [.s 14], hs := [12,16,17,19,20,22,23], ws := [2], bf := [1,2] }, Zf [12,13,14,15,19,20,22,23] [2] (.fld 16 (.s 5) 1), Zg [12,13,14,15,19,20,22,23] [2] [4] (.load 17 false 1 (.s 16)), { o := .call 18 [3] (.f n_slices_Clone_impl_Entry_impl_Entry) [.s 17], hs := [12,19,20,22,23], ws := [3], bf := [1,2,3,4,5] }, Zf [12,13,14,15,16,17,18,22,23] [2,3] (.fld 19 (.s 5) 2), Zg [12,13,14,15,16,17,18,22,23] [2,3] [7] (.load 20 false 1 (.s 19)), { o := .call 21 [4] (.f n_impl_copyCaptures) [.s 20], hs := [12,22,23], ws := [4], bf := [1,2,3,4,5,6,7,8] }, Zf [12,13,14,15,16,17,18,19,20,21] [2,3,4] (.fld 22 (.s 5) 3), Zg [12,13,14,15,16,17,18,19,20,21] [2,3,4] [10] (.load 23 false 1 (.s 22)), Zd [12] [1,2,3,4,5,6,7,8,9,10,11] (.build 24 [.emp 4, .emp 5, .emp 9, pz] [(0, 1, .s 15), (1, 1, .s 18), (2, 1, .s 21), (3, 1, .s 23)]), { o := .lit 25 5 4 80 [.s 24], hs := [12], ws := [2,3,4,5], bf := [1,2,3,4,5,6,7,8,9,10,11,12] }, { o := .app 26 0 4 80 (.s 12) (.s 25), ws := [0,5], bf := (.range 14) }, Ze (.range 15) (.mv 3 (.s 26))] [3,6,7,8])))
(pr [.bin 27 false .add (.s 8) (ci 1), .mv 8 (.s 27)] [3,6,7,8])))))))
(.seq (pr [.mv 28 (.s 3), .mv 2 (.s 28)] [2])
.ret))))
theorem c_impl_copyContainers (xs : List GContainer) (hs : xs.length + (xs.map GContainer.size).sum ≤ 1073741824) : Ctr Tryz.prog n_impl_copyContainers [aL 4 (xs.map GContainer.enc)] [rL 4 (xs.map GContainer.enc)] := by
 refine cA m_impl_copyContainers 6 29 [(.tmp 2, [true])] Tryz.func260 rfl rfl ?_; unfold m_impl_copyContainers
 intro hb
 clear hb
 simp only [↓reduceIte, go_sem]
 refine loopK_rng xs (fun k => [(3, .val false [.ref 0 0 4 0 (xs.take k).length]), (8, vI k)]) (fun k => [(0, ⟨0, .row true 4 ((xs.take k).map GContainer.enc)⟩)]) (fun _ => True) (by simp only [roomB]; omega) ?_
 simp only [↓reduceIte, go_sem]
 refine ⟨?_, trivial, ?_, ?_⟩
 ·simp only [↓reduceIte, go_sem, List.take_zero]
 ·intro k x hx _ h0 h1 hw
  have hk : k < xs.length := by omega
  have hlt := List.length_take_le k xs
  have hx1 := mem_sum (f := GContainer.size) (at_mem hx)
  simp only [GContainer.size] at hx1
  simp only [↓reduceIte, go_sem, bk_eq hx, h0, h1]
  apply callK_of (c_slices_Clone_Op x.Script (by omega))
  simp only [↓reduceIte, go_sem]
  try intro _
  apply callK_of (c_slices_Clone_Entry x.Entries (by omega))
  simp only [↓reduceIte, go_sem]
  try intro _
  apply callK_of (c_impl_copyCaptures x.Captures (by omega))
  simp only [↓reduceIte, go_sem, hw]
  simp only [roomB]
  exact ⟨by omega, by omega, fun _ => ⟨snoc_len hx, snoc_map hx⟩⟩
 ·intro _
  simp only [↓reduceIte, go_sem, List.take_length]
def m_impl_copySite : MC :=
(.seq (pr [.nilo 2 0 9] [0])
(.seq (pr [.nilo 3 0 9] [0,3])
(.seq (.seq (pr [.mv 6 (.s 0), .len 7 false (.s 6), .mv 8 (ci 0)] [3,6,7,8])
(.block 0 (.loop ([3,6,7,8], [1,2,3]) (.seq (pr [.bin 9 false .lss (.s 8) (.s 7)] [3,6,7,8,9])
(.seq (.cond (.s 9) .skip (.exit 0))
(.seq (.block 1 (.seq (pr [.idx 10 9 (.s 6) (.s 8), .load 11 true 9 (.s 10), .alloc 5 1 [pz, pz, pz, pz, pz, .emp 1, pz, pz, pz], .store 9 (.s 5) (.s 11)] [3,5,6,7,8])
(.dreg [Zf [13,14,15,16,17,18,19,20,21] [2,3] (.mv 12 (.s 3)), Zf [12,15,16,17,18,19] [2] (.fld 13 (.s 5) 0), Zg [12,15,16,17,18,19] [2] [1] (.load 14 true 3 (.s 13)), Zf [12,13,14,17,18,19] [2] (.fld 15 (.s 5) 3), Zg [12,13,14,17,18,19] [2] [3] (.load 16 false 1 (.s 15)), Zc [12,13,14,15,16] (.fld 17 (.s 5) 4), Zd [12,13,14,15,16] [5] (.load 18 true 5 (.s 17)), { o := .call 19 [2] (.f n_impl_copyResource) [.s 18], hs := [12,13,14,15,16], ws := [2], bf := [5,6] }, Zd [12] [1,2,3,4,5,6,7] (.build 20 [pz, pz, pz, pz, pz, .emp 1, pz, pz, pz] [(0, 3, .s 14), (3, 1, .s 16), (4, 5, .s 19)]), { o := .lit 21 3 9 88 [.s 20], hs := [12], ws := [2,3], bf := [1,2,3,4,5,6,7,8] }, { o := .app 22 0 9 88 (.s 12) (.s 21), ws := [0,3], bf := (.range 10) }, Ze (.range 11) (.mv 3 (.s 22))] [3,6,7,8])))
(pr [.bin 23 false .add (.s 8) (ci 1), .mv 8 (.s 23)] [3,6,7,8])))))))
(.seq (pr [.mv 24 (.s 3), .mv 2 (.s 24)] [2])
.ret))))
theorem c_impl_copySite (xs : List GVersion) (hs : xs.length + (xs.map GVersion.size).sum ≤ 1073741824) : Ctr Tryz.prog n_impl_copySite [aL 9 (xs.map GVersion.enc)] [rL 9 (xs.map GVersion.enc)] := by
 refine cA m_impl_copySite 4 25 [(.tmp 2, [true])] Tryz.func180 rfl rfl ?_; unfold m_impl_copySite
 intro hb
 clear hb
 simp only [↓reduceIte, go_sem]
 refine loopK_rng xs (fun k => [(3, .val false [.ref 0 0 9 0 (xs.take k).length]), (8, vI k)]) (fun k => [(0, ⟨0, .row true 9 ((xs.take k).map GVersion.enc)⟩)]) (fun _ => True) (by simp only [roomB]; omega) ?_
 simp only [↓reduceIte, go_sem]
 refine ⟨?_, trivial, ?_, ?_⟩
 ·simp only [↓reduceIte, go_sem, List.take_zero]
 ·intro k x hx _ h0 h1 hw
  have hk : k < xs.length := by omega
  have hlt := List.length_take_le k xs
  have hx1 := mem_sum (f := GVersion.size) (at_mem hx)
  simp only [↓reduceIte, go_sem, bk_eq hx, h0, h1]
  apply callK_of (c_impl_copyResource x.Resource (by simp only [GVersion.size, GResource.size] at hx1; omega))
  simp only [↓reduceIte, go_sem, hw]
  simp only [roomB]
  exact ⟨by omega, by omega, fun _ => ⟨snoc_len hx, snoc_map hx⟩⟩
 ·intro _
  simp only [↓reduceIte, go_sem, List.take_length]
def m_spec_l32Site : MC :=
(.seq (pr [.nilo 2 0 9] [0])
(.seq (pr [.lit 5 0 9 88 [], .mv 3 (.s 5)] [0,3])
(.seq (.seq (pr [.mv 4 (ci 0)] [0,3,4])
(.block 0 (.loop ([0,3,4], [1,2]) (.seq (.seq (pr [.mv 6 (.s 4), .mv 7 (.s 0), .len 8 false (.s 7), .bin 9 false .lss (.s 6) (.s 8)] [0,3,4,9])
(.cond (.s 9) .skip (.exit 0)))
(.seq (.block 1 (.dreg [Zf [13,14,15,16,17,18,19,20,21,22,23,24,25,26,27,28,29,30] [1,2] (.mv 12 (.s 3)), Zf [12,14,18,19,20,21,22,23,24,25,26,27,28] [1] (.mv 13 (.s 0)), Zf [12,13,18,19,20,21,22,23,24,25,26,27,28] [1] (.mv 14 (.s 4)), Zg [12,18,19,20,21,22,23,24,25,26,27,28] [1] [1,2] (.idx 15 9 (.s 13) (.s 14)), Zg [12,18,19,20,21,22,23,24,25,26,27,28] [1] [1,2,3] (.fld 16 (.s 15) 0), Zg [12,18,19,20,21,22,23,24,25,26,27,28] [1] [1,2,3,4] (.load 17 true 3 (.s 16)), Zf [12,13,14,15,16,17,19,23,24,25,26,27,28] [1] (.mv 18 (.s 0)), Zf [12,13,14,15,16,17,18,23,24,25,26,27,28] [1] (.mv 19 (.s 4)), Zg [12,13,14,15,16,17,23,24,25,26,27,28] [1] [6,7] (.idx 20 9 (.s 18) (.s 19)), Zg [12,13,14,15,16,17,23,24,25,26,27,28] [1] [6,7,8] (.fld 21 (.s 20) 3), Zg [12,13,14,15,16,17,23,24,25,26,27,28] [1] [6,7,8,9] (.load 22 false 1 (.s 21)), Zc [12,13,14,15,16,17,18,19,20,21,22,24] (.mv 23 (.s 0)), Zc [12,13,14,15,16,17,18,19,20,21,22,23] (.mv 24 (.s 4)), Zd [12,13,14,15,16,17,18,19,20,21,22] [11,12] (.idx 25 9 (.s 23) (.s 24)), Zd [12,13,14,15,16,17,18,19,20,21,22] [11,12,13] (.fld 26 (.s 25) 4), Zd [12,13,14,15,16,17,18,19,20,21,22] [11,12,13,14] (.load 27 true 5 (.s 26)), { o := .call 28 [1] (.f n_spec_l5Copy) [.s 27], hs := [12,13,14,15,16,17,18,19,20,21,22], ws := [1], bf := [11,12,13,14,15] }, Zd [12] [1,2,3,4,5,6,7,8,9,10,11,12,13,14,15,16] (.build 29 [pz, pz, pz, pz, pz, .emp 1, pz, pz, pz] [(0, 3, .s 17), (3, 1, .s 22), (4, 5, .s 28)]), { o := .lit 30 2 9 88 [.s 29], hs := [12], ws := [1,2], bf := [1,2,3,4,5,6,7,8,9,10,11,12,13,14,15,16,17] }, { o := .app 31 0 9 88 (.s 12) (.s 30), ws := [0,2], bf := (.range 19) }, Ze (.range 20) (.mv 3 (.s 31))] [0,3,4]))
(pr [.mv 10 (.s 4), .bin 11 false .add (.s 10) (ci 1), .mv 4 (.s 11)] [0,3,4]))))))
(.seq (pr [.mv 32 (.s 3), .mv 2 (.s 32)] [2])
.ret))))
theorem c_spec_l32Site (xs : List GVersion) (hs : xs.length + (xs.map GVersion.size).sum ≤ 1073741824) : Ctr Tryz.prog n_spec_l32Site [aL 9 (xs.map GVersion.enc)] [rL 9 (xs.map GVersion.enc)] := by
 refine cA m_spec_l32Site 3 33 [(.tmp 2, [true])] Tryz.func173 rfl rfl ?_; unfold m_spec_l32Site
 intro hb
 clear hb
 simp only [↓reduceIte, go_sem]
 refine loopK_rng xs (fun k => [(3, .val false [.ref 0 0 9 0 (xs.take k).length]), (4, vI k)]) (fun k => [(0, ⟨0, .row true 9 ((xs.take k).map GVersion.enc)⟩)]) (fun _ => True) (by simp only [roomB]; omega) ?_
 simp only [↓reduceIte, go_sem]
 refine ⟨?_, trivial, ?_, ?_⟩
 ·simp only [↓reduceIte, go_sem, List.take_zero]
 ·intro k x hx _ h0 h1 hw
  have hk : k < xs.length := by omega
  have hlt := List.length_take_le k xs
  have hx1 := mem_sum (f := GVersion.size) (at_mem hx)
  simp only [↓reduceIte, go_sem, bk_eq hx, h0, h1]
  apply callK_of (c_spec_l5Copy x.Resource (by simp only [GVersion.size, GResource.size] at hx1; omega))
  simp only [↓reduceIte, go_sem, hw]
  simp only [roomB]
  exact ⟨by omega, by omega, fun _ => ⟨snoc_len hx, snoc_map hx⟩⟩
 ·intro _
  simp only [↓reduceIte, go_sem, List.take_length]
def m_impl_copyLibraries : MC :=
(.seq (pr [.nilo 2 0 4] [0])
(.seq (pr [.nilo 3 0 4] [0,3])
(.seq (.seq (pr [.mv 6 (.s 0), .len 7 false (.s 6), .mv 8 (ci 0)] [3,6,7,8])
(.block 0 (.loop ([3,6,7,8], [1,2,3]) (.seq (pr [.bin 9 false .lss (.s 8) (.s 7)] [3,6,7,8,9])
(.seq (.cond (.s 9) .skip (.exit 0))
(.seq (.block 1 (.seq (pr [.idx 10 4 (.s 6) (.s 8), .load 11 true 4 (.s 10), .alloc 5 1 [pz, .emp 1, .pl (.sc (.bool false)), .pl (.sc (.bool false))], .store 4 (.s 5) (.s 11)] [3,5,6,7,8])
(.seq (pr [.fld 12 (.s 5) 1, .load 13 false 1 (.s 12), .call 14 [2] (.f n_slices_Clone_int_int) [.s 13], .fld 15 (.s 5) 1, .store 1 (.s 15) (.s 14)] [3,5,6,7,8])
(pr [.mv 16 (.s 3), .load 17 true 4 (.s 5), .lit 18 3 4 40 [.s 17], .app 19 0 4 40 (.s 16) (.s 18), .mv 3 (.s 19)] [3,6,7,8]))))
(pr [.bin 20 false .add (.s 8) (ci 1), .mv 8 (.s 20)] [3,6,7,8])))))))
(.seq (pr [.mv 21 (.s 3), .mv 2 (.s 21)] [2])
.ret))))
theorem c_impl_copyLibraries (xs : List GLibrary) (hs : xs.length + (xs.map GLibrary.size).sum ≤ 1073741824) : Ctr Tryz.prog n_impl_copyLibraries [aL 4 (xs.map GLibrary.enc)] [rL 4 (xs.map GLibrary.enc)] := by
 refine cA m_impl_copyLibraries 4 22 [(.tmp 2, [true])] Tryz.func184 rfl rfl ?_; unfold m_impl_copyLibraries
 intro hb
 clear hb
 simp only [↓reduceIte, go_sem]
 refine loopK_rng xs (fun k => [(3, .val false [.ref 0 0 4 0 (xs.take k).length]), (8, vI k)]) (fun k => [(0, ⟨0, .row true 4 ((xs.take k).map GLibrary.enc)⟩)]) (fun _ => True) (by simp only [roomB]; omega) ?_
 simp only [↓reduceIte, go_sem]
 refine ⟨?_, trivial, ?_, ?_⟩
 ·simp only [↓reduceIte, go_sem, List.take_zero]
 ·intro k x hx _ h0 h1 hw
  have hk : k < xs.length := by omega
  have hlt := List.length_take_le k xs
  have hx1 := mem_sum (f := GLibrary.size) (at_mem hx)
  simp only [↓reduceIte, go_sem, bk_eq hx, h0, h1]
  apply callK_of (c_slices_Clone_int x.Digests (by simp only [GLibrary.size] at hx1; omega))
  simp only [↓reduceIte, go_sem, hw]
  intro _
  simp only [roomB]
  exact ⟨by omega, by omega, snoc_len hx, snoc_map hx⟩
 ·intro _
  simp only [↓reduceIte, go_sem, List.take_length]
def m_spec_l29Copy : MC :=
(.seq (pr [.nilo 2 0 4] [0])
(.seq (pr [.lit 5 0 4 40 [], .mv 3 (.s 5)] [0,3])
(.seq (.seq (pr [.mv 4 (ci 0)] [0,3,4])
(.block 0 (.loop ([0,3,4], [1,2]) (.seq (.seq (pr [.mv 6 (.s 4), .mv 7 (.s 0), .len 8 false (.s 7), .bin 9 false .lss (.s 6) (.s 8)] [0,3,4,9])
(.cond (.s 9) .skip (.exit 0)))
(.seq (.block 1 (.dreg [Zf [13,14,15,16,17,18,19,20,21,22,23,24,25,26,27,28,29,30,31,32,33,34,35,36] [1,2] (.mv 12 (.s 3)), Zf [12,14,18,19,20,21,22,23,24,25,26,27,28,29,30,31,32,33,34] [1] (.mv 13 (.s 0)), Zf [12,13,18,19,20,21,22,23,24,25,26,27,28,29,30,31,32,33,34] [1] (.mv 14 (.s 4)), Zg [12,18,19,20,21,22,23,24,25,26,27,28,29,30,31,32,33,34] [1] [1,2] (.idx 15 4 (.s 13) (.s 14)), Zg [12,18,19,20,21,22,23,24,25,26,27,28,29,30,31,32,33,34] [1] [1,2,3] (.fld 16 (.s 15) 0), Zg [12,18,19,20,21,22,23,24,25,26,27,28,29,30,31,32,33,34] [1] [1,2,3,4] (.load 17 false 1 (.s 16)), { o := .lit 18 1 1 8 [], hs := [12,13,14,15,16,17,19,20,21,22,23,25,26,27,28,29,30,31,32,33,34], ws := [1] }, Zf [12,13,14,15,16,17,18,20,25,26,27,28,29,30,31,32,33,34] [1] (.mv 19 (.s 0)), Zf [12,13,14,15,16,17,18,19,25,26,27,28,29,30,31,32,33,34] [1] (.mv 20 (.s 4)), Zg [12,13,14,15,16,17,18,25,26,27,28,29,30,31,32,33,34] [1] [7,8] (.idx 21 4 (.s 19) (.s 20)), Zg [12,13,14,15,16,17,18,25,26,27,28,29,30,31,32,33,34] [1] [7,8,9] (.fld 22 (.s 21) 1), Zg [12,13,14,15,16,17,18,25,26,27,28,29,30,31,32,33,34] [1] [7,8,9,10] (.load 23 false 1 (.s 22)), { o := .app 24 1 1 8 (.s 18) (.s 23), hs := [12,13,14,15,16,17,25,26,27,28,29,30,31,32,33,34], ws := [1], bf := [6,7,8,9,10,11] }, Zf [12,13,14,15,16,17,18,19,20,21,22,23,24,26,30,31,32,33,34] [1] (.mv 25 (.s 0)), Zf [12,13,14,15,16,17,18,19,20,21,22,23,24,25,30,31,32,33,34] [1] (.mv 26 (.s 4)), Zg [12,13,14,15,16,17,18,19,20,21,22,23,24,30,31,32,33,34] [1] [13,14] (.idx 27 4 (.s 25) (.s 26)), Zg [12,13,14,15,16,17,18,19,20,21,22,23,24,30,31,32,33,34] [1] [13,14,15] (.fld 28 (.s 27) 2), Zg [12,13,14,15,16,17,18,19,20,21,22,23,24,30,31,32,33,34] [1] [13,14,15,16] (.load 29 false 1 (.s 28)), Zf [12,13,14,15,16,17,18,19,20,21,22,23,24,25,26,27,28,29,31] [1] (.mv 30 (.s 0)), Zf [12,13,14,15,16,17,18,19,20,21,22,23,24,25,26,27,28,29,30] [1] (.mv 31 (.s 4)), Zg [12,13,14,15,16,17,18,19,20,21,22,23,24,25,26,27,28,29] [1] [18,19] (.idx 32 4 (.s 30) (.s 31)), Zg [12,13,14,15,16,17,18,19,20,21,22,23,24,25,26,27,28,29] [1] [18,19,20] (.fld 33 (.s 32) 3), Zg [12,13,14,15,16,17,18,19,20,21,22,23,24,25,26,27,28,29] [1] [18,19,20,21] (.load 34 false 1 (.s 33)), Zd [12] [1,2,3,4,5,6,7,8,9,10,11,12,13,14,15,16,17,18,19,20,21,22] (.build 35 [pz, .emp 1, .pl (.sc (.bool false)), .pl (.sc (.bool false))] [(0, 1, .s 17), (1, 1, .s 24), (2, 1, .s 29), (3, 1, .s 34)]), { o := .lit 36 2 4 40 [.s 35], hs := [12], ws := [1,2], bf := [1,2,3,4,5,6,7,8,9,10,11,12,13,14,15,16,17,18,19,20,21,22,23] }, { o := .app 37 0 4 40 (.s 12) (.s 36), ws := [0,2], bf := (.range 25) }, Ze (.range 26) (.mv 3 (.s 37))] [0,3,4]))
(pr [.mv 10 (.s 4), .bin 11 false .add (.s 10) (ci 1), .mv 4 (.s 11)] [0,3,4]))))))
(.seq (pr [.mv 38 (.s 3), .mv 2 (.s 38)] [2])
.ret))))
theorem c_spec_l29Copy (xs : List GLibrary) (hs : xs.length + (xs.map GLibrary.size).sum ≤ 1073741824) : Ctr Tryz.prog n_spec_l29Copy [aL 4 (xs.map GLibrary.enc)] [rL 4 (xs.map GLibrary.enc)] := by
 refine cA m_spec_l29Copy 3 39 [(.tmp 2, [true])] Tryz.func175 rfl rfl ?_; unfold m_spec_l29Copy
 intro hb
 clear hb
 simp only [↓reduceIte, go_sem]
 refine loopK_rng xs (fun k => [(3, .val false [.ref 0 0 4 0 (xs.take k).length]), (4, vI k)]) (fun k => [(0, ⟨0, .row true 4 ((xs.take k).map GLibrary.enc)⟩)]) (fun _ => True) (by simp only [roomB]; omega) ?_
 simp only [↓reduceIte, go_sem]
 refine ⟨?_, trivial, ?_, ?_⟩
 ·simp only [↓reduceIte, go_sem, List.take_zero]
 ·intro k x hx _ h0 h1 hw
  have hk : k < xs.length := by omega
  have hlt := List.length_take_le k xs
  have hx1 := mem_sum (f := GLibrary.size) (at_mem hx)
  simp only [GLibrary.size] at hx1
  simp only [↓reduceIte, go_sem, bk_eq hx, h0, h1, hw, ↓flat_of (f := encI) (fun _ => rfl) x.Digests]
  simp only [roomB]
  exact ⟨by omega, by omega, by omega, snoc_len hx, snoc_map hx⟩
 ·intro _
  simp only [↓reduceIte, go_sem, List.take_length]
end Go.Proofs.YtgkeplbnnjogiaaGreatR
namespace Go.Proofs.YtgkeplbnnjogiaaGreatR
open Go Go.RowKit Go.Proofs
open Nat (reduceEqDiff reduceLT reduceLeDiff reduceAdd reduceMul)
open List (reduceReplicate)
def m_impl_copyDisk : MC :=
(.seq (pr [.box 1 0 (.s 0), .alloc 2 1 [.emp 4, .emp 6, .emp 4]] [1,2])
(.seq (.dreg [Zc [6,7,9,10] (.fld 3 (.s 1) 0), Zd [6,7,9,10] [0] (.load 4 false 1 (.s 3)), { o := .call 5 [2] (.f n_impl_copyContainers) [.s 4], hs := [6,7,9,10], ws := [2], bf := [0,1] }, Zf [3,4,5,9,10] [2] (.fld 6 (.s 1) 1), Zg [3,4,5,9,10] [2] [3] (.load 7 false 1 (.s 6)), { o := .call 8 [3] (.f n_slices_Clone_impl_Found_impl_Found) [.s 7], hs := [9,10], ws := [3], bf := (.range 5) }, Zf [3,4,5,6,7,8] [2,3] (.fld 9 (.s 1) 2), Zg [3,4,5,6,7,8] [2,3] [6] (.load 10 false 1 (.s 9)), { o := .call 11 [4] (.f n_impl_copyContainers) [.s 10], ws := [4], bf := (.range 8) }, Ze (.range 9) (.build 12 [.emp 4, .emp 6, .emp 4] [(0, 1, .s 5), (1, 1, .s 8), (2, 1, .s 11)]), { o := .store 3 (.s 2) (.s 12), ws := [1,2,3,4], bf := (.range 10) }] [2])
.ret))
theorem c_impl_copyDisk (d : GDisk) (hs : d.size ≤ 1073741824) : Ctr Tryz.prog n_impl_copyDisk [aS d.enc] [rS d.enc] := by
 refine cA m_impl_copyDisk 5 13 [(.cell 2 true 3, [true, true, true])] Tryz.func182 rfl rfl ?_; unfold m_impl_copyDisk
 intro hb
 clear hb
 simp only [GDisk.size] at hs
 simp only [↓reduceIte, go_sem]
 apply callK_of (c_impl_copyContainers d.Containers (by omega))
 simp only [↓reduceIte, go_sem]
 apply callK_of (c_slices_Clone_Found d.Index (by omega))
 simp only [↓reduceIte, go_sem]
 apply callK_of (c_impl_copyContainers d.Wanted (by omega))
 simp only [↓reduceIte, go_sem]
 try intros
 try trivial
def m_spec_l31Copy : MC :=
(.seq (pr [.box 1 0 (.s 0), .alloc 2 1 [.emp 4, .emp 6, .emp 4]] [1,2])
(.seq (pr [.lit 6 2 6 48 [], .fld 7 (.s 1) 1, .load 8 false 1 (.s 7), .app 9 2 6 48 (.s 6) (.s 8), .buildO 10 [.emp 4, .emp 6, .emp 4] [(1, 1, .s 9)] [some 3, none, some 4], .alloc 3 5 [.emp 4, .emp 6, .emp 4], .store 3 (.s 3) (.s 10)] [1,2,3])
(.seq (.seq (pr [.mv 4 (ci 0)] [1,2,3,4])
(.block 0 (.loop ([1,2,3,4], [6,7,8,9,10,11,12,13]) (.seq (.seq (pr [.mv 11 (.s 4), .fld 12 (.s 1) 0, .load 13 false 1 (.s 12), .len 14 false (.s 13), .bin 15 false .lss (.s 11) (.s 14)] [1,2,3,4,15])
(.cond (.s 15) .skip (.exit 0)))
(.seq (.block 1 (.dreg [Zf [20,21,22,23,24,25,26] [6,7,8,9] (.fld 18 (.s 3) 0), Zg [20,21,22,23,24,25,26] [6,7,8,9] [0] (.load 19 false 1 (.s 18)), Zc [18,19,22] (.fld 20 (.s 1) 0), Zd [18,19,22] [2] (.load 21 false 1 (.s 20)), Zc [18,19,20,21] (.mv 22 (.s 4)), Zd [18,19] [2,3,4] (.idx 23 4 (.s 21) (.s 22)), Zd [18,19] [2,3,4,5] (.load 24 true 4 (.s 23)), { o := .call 25 [6, 7, 8] (.f n_spec_l30Copy) [.s 24], hs := [18,19], ws := [6,7,8], bf := [2,3,4,5,6] }, { o := .lit 26 9 4 80 [.s 25], hs := [18,19], ws := [6,7,8,9], bf := [2,3,4,5,6,7] }, { o := .app 27 3 4 80 (.s 19) (.s 26), ws := [3,9], bf := (.range 9) }, Ze (.range 10) (.fld 28 (.s 3) 0), { o := .store 1 (.s 28) (.s 27), ws := [3,5], bf := (.range 11) }] [1,2,3,4]))
(pr [.mv 16 (.s 4), .bin 17 false .add (.s 16) (ci 1), .mv 4 (.s 17)] [1,2,3,4]))))))
(.seq (.seq (pr [.mv 5 (ci 0)] [1,2,3,5])
(.block 2 (.loop ([1,2,3,5], [6,7,8,9,10,11,12,13]) (.seq (.seq (pr [.mv 29 (.s 5), .fld 30 (.s 1) 2, .load 31 false 1 (.s 30), .len 32 false (.s 31), .bin 33 false .lss (.s 29) (.s 32)] [1,2,3,5,33])
(.cond (.s 33) .skip (.exit 2)))
(.seq (.block 3 (.dreg [Zf [38,39,40,41,42,43,44] [10,11,12,13] (.fld 36 (.s 3) 2), Zg [38,39,40,41,42,43,44] [10,11,12,13] [0] (.load 37 false 1 (.s 36)), Zc [36,37,40] (.fld 38 (.s 1) 2), Zd [36,37,40] [2] (.load 39 false 1 (.s 38)), Zc [36,37,38,39] (.mv 40 (.s 5)), Zd [36,37] [2,3,4] (.idx 41 4 (.s 39) (.s 40)), Zd [36,37] [2,3,4,5] (.load 42 true 4 (.s 41)), { o := .call 43 [10, 11, 12] (.f n_spec_l30Copy) [.s 42], hs := [36,37], ws := [10,11,12], bf := [2,3,4,5,6] }, { o := .lit 44 13 4 80 [.s 43], hs := [36,37], ws := [10,11,12,13], bf := [2,3,4,5,6,7] }, { o := .app 45 4 4 80 (.s 37) (.s 44), ws := [4,13], bf := (.range 9) }, Ze (.range 10) (.fld 46 (.s 3) 2), { o := .store 1 (.s 46) (.s 45), ws := [4,5], bf := (.range 11) }] [1,2,3,5]))
(pr [.mv 34 (.s 5), .bin 35 false .add (.s 34) (ci 1), .mv 5 (.s 35)] [1,2,3,5]))))))
(.seq (pr [.load 47 true 3 (.s 3), .store 3 (.s 2) (.s 47)] [2])
.ret)))))
theorem c_spec_l31Copy (d : GDisk) (hs : d.size ≤ 1073741824) : Ctr Tryz.prog n_spec_l31Copy [aS d.enc] [rS d.enc] := by
 refine cA m_spec_l31Copy 14 48 [(.cell 2 true 3, [true, true, true])] Tryz.func174 rfl rfl ?_; unfold m_spec_l31Copy
 intro hb
 clear hb
 simp only [GDisk.size] at hs
 simp only [↓reduceIte, go_sem, ↓flat_of (f := GFound.enc) (fun _ => rfl) d.Index]
 simp only [roomB]
 refine ⟨by omega, ?_⟩
 refine loopK_rng d.Containers (fun k => [(4, vI k)]) (fun k => [(3, ⟨0, .row true 4 ((d.Containers.take k).map GContainer.enc)⟩), (5, ⟨0, .box [.ref 3 0 4 0 (d.Containers.take k).length, .ref 2 0 6 0 d.Index.length, .ref 4 0 4 0 0]⟩)]) (fun _ => True) (by simp only [roomB]; omega) ?_
 simp only [↓reduceIte, go_sem]
 refine ⟨?_, trivial, ?_, ?_⟩
 ·simp only [↓reduceIte, go_sem, List.take_zero]
 ·intro k x hx _ h0 h1 hw
  have hlt := List.length_take_le k d.Containers
  have hk : k < d.Containers.length := by omega
  have hx1 := mem_sum (f := GContainer.size) (at_mem hx)
  simp only [↓reduceIte, go_sem, bk_eq hx, h0, h1]
  apply callK_of (c_spec_l30Copy x (by omega))
  simp only [↓reduceIte, go_sem, hw]
  simp only [roomB]
  exact ⟨by omega, by omega, fun _ => ⟨snoc_map hx, snoc_len hx⟩⟩
 ·intro _
  simp only [↓reduceIte, go_sem, List.take_length]
  refine loopK_rng d.Wanted (fun k => [(5, vI k)]) (fun k => [(4, ⟨0, .row true 4 ((d.Wanted.take k).map GContainer.enc)⟩), (5, ⟨0, .box [.ref 3 0 4 0 d.Containers.length, .ref 2 0 6 0 d.Index.length, .ref 4 0 4 0 (d.Wanted.take k).length]⟩)]) (fun _ => True) (by simp only [roomB]; omega) ?_
  simp only [↓reduceIte, go_sem]
  refine ⟨?_, trivial, ?_, ?_⟩
  ·simp only [↓reduceIte, go_sem, List.take_zero]
  ·intro k x hx _ h0 h1 hw
   have hlt := List.length_take_le k d.Wanted
   have hk : k < d.Wanted.length := by omega
   have hx1 := mem_sum (f := GContainer.size) (at_mem hx)
   simp only [↓reduceIte, go_sem, bk_eq hx, h0, h1]
   apply callK_of (c_spec_l30Copy x (by omega))
   simp only [↓reduceIte, go_sem, hw]
   simp only [roomB]
   exact ⟨by omega, by omega, fun _ => ⟨snoc_map hx, snoc_len hx⟩⟩
  ·intro _
   simp only [↓reduceIte, go_sem, List.take_length]
def m_impl_copyArchive : MC :=
(.seq (pr [.box 1 0 (.s 0), .alloc 2 1 [.emp 9, .emp 4, .emp 4, .emp 6, .emp 4, .emp 5, .emp 4, .emp 1, .emp 4, pz]] [1,2])
(.seq (.dreg [Zc [6,7,9,10,12,13,15,16,18,19,21,22,24,25] (.fld 3 (.s 1) 0), Zd [6,7,9,10,12,13,15,16,18,19,21,22,24,25] [0] (.load 4 false 1 (.s 3)), { o := .call 5 [2] (.f n_impl_copySite) [.s 4], hs := [6,7,9,10,12,13,15,16,18,19,21,22,24,25], ws := [2], bf := [0,1] }, Zf [3,4,5,9,10,12,13,15,16,18,19,21,22,24,25] [2] (.fld 6 (.s 1) 1), Zg [3,4,5,9,10,12,13,15,16,18,19,21,22,24,25] [2] [3] (.load 7 false 1 (.s 6)), { o := .call 8 [3] (.f n_slices_Clone_impl_Op_impl_Op) [.s 7], hs := [9,10,12,13,15,16,18,19,21,22,24,25], ws := [3], bf := (.range 5) }, Zf [3,4,5,6,7,8,12,13,15,16,18,19,21,22,24,25] [2,3] (.fld 9 (.s 1) 2), Zg [3,4,5,6,7,8,12,13,15,16,18,19,21,22,24,25] [2,3] [6] (.load 10 true 3 (.s 9)), { o := .call 11 [4, 5, 6] (.f n_impl_copyDisk) [.s 10], hs := [12,13,15,16,18,19,21,22,24,25], ws := [4,5,6], bf := (.range 8) }, Zf [3,4,5,6,7,8,9,10,11,15,16,18,19,21,22,24,25] [2,3,4,5,6] (.fld 12 (.s 1) 5), Zg [3,4,5,6,7,8,9,10,11,15,16,18,19,21,22,24,25] [2,3,4,5,6] [9] (.load 13 false 1 (.s 12)), { o := .call 14 [7] (.f n_slices_Clone_impl_Exclusion_impl_Exclusion) [.s 13], hs := [15,16,18,19,21,22,24,25], ws := [7], bf := (.range 11) }, Zf [3,4,5,6,7,8,9,10,11,12,13,14,18,19,21,22,24,25] [2,3,4,5,6,7] (.fld 15 (.s 1) 6), Zg [3,4,5,6,7,8,9,10,11,12,13,14,18,19,21,22,24,25] [2,3,4,5,6,7] [12] (.load 16 false 1 (.s 15)), { o := .call 17 [8] (.f n_impl_copyLibraries) [.s 16], hs := [18,19,21,22,24,25], ws := [8], bf := (.range 14) }, Zf [3,4,5,6,7,8,9,10,11,12,13,14,15,16,17,21,22,24,25] [2,3,4,5,6,7,8] (.fld 18 (.s 1) 7), Zg [3,4,5,6,7,8,9,10,11,12,13,14,15,16,17,21,22,24,25] [2,3,4,5,6,7,8] [15] (.load 19 false 1 (.s 18)), { o := .call 20 [9] (.f n_slices_Clone_int_int) [.s 19], hs := [21,22,24,25], ws := [9], bf := (.range 17) }, Zf [3,4,5,6,7,8,9,10,11,12,13,14,15,16,17,18,19,20,24,25] [2,3,4,5,6,7,8,9] (.fld 21 (.s 1) 8), Zg [3,4,5,6,7,8,9,10,11,12,13,14,15,16,17,18,19,20,24,25] [2,3,4,5,6,7,8,9] [18] (.load 22 false 1 (.s 21)), { o := .call 23 [10] (.f n_slices_Clone_impl_Statement_impl_Statement) [.s 22], hs := [24,25], ws := [10], bf := (.range 20) }, Zf [3,4,5,6,7,8,9,10,11,12,13,14,15,16,17,18,19,20,21,22,23] [2,3,4,5,6,7,8,9,10] (.fld 24 (.s 1) 9), Zg [3,4,5,6,7,8,9,10,11,12,13,14,15,16,17,18,19,20,21,22,23] [2,3,4,5,6,7,8,9,10] [21] (.load 25 false 1 (.s 24)), Ze (.range 23) (.build 26 [.emp 9, .emp 4, .emp 4, .emp 6, .emp 4, .emp 5, .emp 4, .emp 1, .emp 4, pz] [(0, 1, .s 5), (1, 1, .s 8), (2, 3, .s 11), (5, 1, .s 14), (6, 1, .s 17), (7, 1, .s 20), (8, 1, .s 23), (9, 1, .s 25)]), { o := .store 10 (.s 2) (.s 26), ws := [1,2,3,4,5,6,7,8,9,10], bf := (.range 24) }] [2])
.ret))
theorem c_impl_copyArchive (a : GArchive) (hs : a.size ≤ 1073741824) : Ctr Tryz.prog n_impl_copyArchive [aS a.enc] [rS a.enc] := by
 refine cA m_impl_copyArchive 11 27 [(.cell 2 true 10, [true, true, true, true, true, true, true, true, true, false])] Tryz.func98 rfl rfl ?_; unfold m_impl_copyArchive
 intro hb
 clear hb
 simp only [GArchive.size] at hs
 simp only [↓reduceIte, go_sem]
 apply callK_of (c_impl_copySite a.Site (by omega))
 simp only [↓reduceIte, go_sem]
 apply callK_of (c_slices_Clone_Op a.Script (by omega))
 simp only [↓reduceIte, go_sem]
 apply callK_of (c_impl_copyDisk a.Disk (by omega))
 simp only [↓reduceIte, go_sem]
 apply callK_of (c_slices_Clone_Exclusion a.Exclusions (by omega))
 simp only [↓reduceIte, go_sem]
 apply callK_of (c_impl_copyLibraries a.Libraries (by omega))
 simp only [↓reduceIte, go_sem]
 apply callK_of (c_slices_Clone_int a.Keys (by omega))
 simp only [↓reduceIte, go_sem]
 apply callK_of (c_slices_Clone_Statement a.Statements (by omega))
 simp only [↓reduceIte, go_sem]
 try intros
 try trivial
def m_spec_l32Copy : MC :=
(.seq (pr [.box 1 0 (.s 0), .alloc 2 1 [.emp 9, .emp 4, .emp 4, .emp 6, .emp 4, .emp 5, .emp 4, .emp 1, .emp 4, pz]] [1,2])
(.seq (.dreg [Zf [6,7,8,10,11,13,14,15,17,18,20,21,22,24,25,26,28,29] [3,7,9,10] (.fld 3 (.s 1) 0), Zg [6,7,8,10,11,13,14,15,17,18,20,21,22,24,25,26,28,29] [3,7,9,10] [0] (.load 4 false 1 (.s 3)), { o := .call 5 [2] (.f n_spec_l32Site) [.s 4], hs := [6,7,8,10,11,13,14,15,17,18,20,21,22,24,25,26,28,29], ho := [3,7,9,10], ws := [2], bf := [0,1] }, { o := .lit 6 3 4 32 [], hs := [3,4,5,7,8,10,11,13,14,15,17,18,20,21,22,24,25,26,28,29], ho := [2,7,9,10], ws := [3] }, Zf [3,4,5,6,10,11,13,14,15,17,18,20,21,22,24,25,26,28,29] [2,3,7,9,10] (.fld 7 (.s 1) 1), Zg [3,4,5,6,10,11,13,14,15,17,18,20,21,22,24,25,26,28,29] [2,3,7,9,10] [4] (.load 8 false 1 (.s 7)), { o := .app 9 3 4 32 (.s 6) (.s 8), hs := [10,11,13,14,15,17,18,20,21,22,24,25,26,28,29], ho := [7,9,10], ws := [3], bf := (.range 6) }, Zf [3,4,5,6,7,8,9,13,14,15,17,18,20,21,22,24,25,26,28,29] [2,3,7,9,10] (.fld 10 (.s 1) 2), Zg [3,4,5,6,7,8,9,13,14,15,17,18,20,21,22,24,25,26,28,29] [2,3,7,9,10] [7] (.load 11 true 3 (.s 10)), { o := .call 12 [4, 5, 6] (.f n_spec_l31Copy) [.s 11], hs := [13,14,15,17,18,20,21,22,24,25,26,28,29], ho := [7,9,10], ws := [4,5,6], bf := (.range 9) }, { o := .lit 13 7 5 40 [], hs := [3,4,5,6,7,8,9,10,11,12,14,15,17,18,20,21,22,24,25,26,28,29], ho := [2,3,4,5,6,9,10], ws := [7] }, Zf [3,4,5,6,7,8,9,10,11,12,13,17,18,20,21,22,24,25,26,28,29] [2,3,4,5,6,7,9,10] (.fld 14 (.s 1) 5), Zg [3,4,5,6,7,8,9,10,11,12,13,17,18,20,21,22,24,25,26,28,29] [2,3,4,5,6,7,9,10] [11] (.load 15 false 1 (.s 14)), { o := .app 16 7 5 40 (.s 13) (.s 15), hs := [17,18,20,21,22,24,25,26,28,29], ho := [9,10], ws := [7], bf := (.range 13) }, Zf [3,4,5,6,7,8,9,10,11,12,13,14,15,16,20,21,22,24,25,26,28,29] [2,3,4,5,6,7,9,10] (.fld 17 (.s 1) 6), Zg [3,4,5,6,7,8,9,10,11,12,13,14,15,16,20,21,22,24,25,26,28,29] [2,3,4,5,6,7,9,10] [14] (.load 18 false 1 (.s 17)), { o := .call 19 [8] (.f n_spec_l29Copy) [.s 18], hs := [20,21,22,24,25,26,28,29], ho := [9,10], ws := [8], bf := (.range 16) }, { o := .lit 20 9 1 8 [], hs := [3,4,5,6,7,8,9,10,11,12,13,14,15,16,17,18,19,21,22,24,25,26,28,29], ho := [2,3,4,5,6,7,8,10], ws := [9] }, Zf [3,4,5,6,7,8,9,10,11,12,13,14,15,16,17,18,19,20,24,25,26,28,29] [2,3,4,5,6,7,8,9,10] (.fld 21 (.s 1) 7), Zg [3,4,5,6,7,8,9,10,11,12,13,14,15,16,17,18,19,20,24,25,26,28,29] [2,3,4,5,6,7,8,9,10] [18] (.load 22 false 1 (.s 21)), { o := .app 23 9 1 8 (.s 20) (.s 22), hs := [24,25,26,28,29], ho := [10], ws := [9], bf := (.range 20) }, { o := .lit 24 10 4 32 [], hs := [3,4,5,6,7,8,9,10,11,12,13,14,15,16,17,18,19,20,21,22,23,25,26,28,29], ho := [2,3,4,5,6,7,8,9], ws := [10] }, Zf [3,4,5,6,7,8,9,10,11,12,13,14,15,16,17,18,19,20,21,22,23,24,28,29] [2,3,4,5,6,7,8,9,10] (.fld 25 (.s 1) 8), Zg [3,4,5,6,7,8,9,10,11,12,13,14,15,16,17,18,19,20,21,22,23,24,28,29] [2,3,4,5,6,7,8,9,10] [22] (.load 26 false 1 (.s 25)), { o := .app 27 10 4 32 (.s 24) (.s 26), hs := [28,29], ws := [10], bf := (.range 24) }, Zf [3,4,5,6,7,8,9,10,11,12,13,14,15,16,17,18,19,20,21,22,23,24,25,26,27] [2,3,4,5,6,7,8,9,10] (.fld 28 (.s 1) 9), Zg [3,4,5,6,7,8,9,10,11,12,13,14,15,16,17,18,19,20,21,22,23,24,25,26,27] [2,3,4,5,6,7,8,9,10] [25] (.load 29 false 1 (.s 28)), Ze (.range 27) (.build 30 [.emp 9, .emp 4, .emp 4, .emp 6, .emp 4, .emp 5, .emp 4, .emp 1, .emp 4, pz] [(0, 1, .s 5), (1, 1, .s 9), (2, 3, .s 12), (5, 1, .s 16), (6, 1, .s 19), (7, 1, .s 23), (8, 1, .s 27), (9, 1, .s 29)]), { o := .store 10 (.s 2) (.s 30), ws := [1,2,3,4,5,6,7,8,9,10], bf := (.range 28) }] [2])
.ret))
theorem c_spec_l32Copy (a : GArchive) (hs : a.size ≤ 1073741824) : Ctr Tryz.prog n_spec_l32Copy [aS a.enc] [rS a.enc] := by
 refine cA m_spec_l32Copy 11 31 [(.cell 2 true 10, [true, true, true, true, true, true, true, true, true, false])] Tryz.func92 rfl rfl ?_; unfold m_spec_l32Copy
 intro hb
 clear hb
 simp only [GArchive.size] at hs
 simp only [↓reduceIte, go_sem]
 apply callK_of (c_spec_l32Site a.Site (by omega))
 simp only [↓reduceIte, go_sem, ↓flat_of (f := GOp.enc) (fun _ => rfl) a.Script]
 refine ⟨by simp only [roomB]; omega, ?_⟩
 apply callK_of (c_spec_l31Copy a.Disk (by omega))
 simp only [↓reduceIte, go_sem, ↓flat_of (f := GExclusion.enc) (fun _ => rfl) a.Exclusions]
 refine ⟨by simp only [roomB]; omega, ?_⟩
 apply callK_of (c_spec_l29Copy a.Libraries (by omega))
 simp only [↓reduceIte, go_sem, ↓flat_of (f := encI) (fun _ => rfl) a.Keys, ↓flat_of (f := GStatement.enc) (fun _ => rfl) a.Statements]
 simp only [roomB]
 exact ⟨by omega, by omega⟩
end Go.Proofs.YtgkeplbnnjogiaaGreatR
namespace Go.Proofs.YtgkeplbnnjogiaaGreatR
namespace Srt
structure Swo {α : Type} (lt : α → α → Bool) : Prop where
 asy : ∀ x y, lt x y = true → lt y x = false
 neg : ∀ x y z, lt x z = true → lt x y = true ∨ lt y z = true
variable {α : Type} {lt : α → α → Bool}
theorem Swo.tr (h : Swo lt) {x y z : α} (h1 : lt x y = true) (h2 : lt y z = true) : lt x z = true := by
 rcases h.neg x z y h1 with k | k
 ·exact k
 ·rw [h.asy y z h2] at k; cases k
theorem Swo.ntr (h : Swo lt) {x y z : α} (h1 : lt x y = false) (h2 : lt y z = false) : lt x z = false := by
 cases k : lt x z
 ·rfl
 ·rcases h.neg x y z k with k | k <;> simp_all
theorem Swo.irr (h : Swo lt) (x : α) : lt x x = false := by
 cases k : lt x x
 ·rfl
 ·have := h.asy x x k; simp_all
theorem Swo.lf (h : Swo lt) {x y z : α} (h1 : lt x y = true) (h2 : lt z y = false) : lt x z = true := by
 rcases h.neg x z y h1 with k | k <;> simp_all
theorem Swo.fl (h : Swo lt) {x y z : α} (h1 : lt y x = false) (h2 : lt y z = true) : lt x z = true := by
 rcases h.neg y x z h2 with k | k <;> simp_all
variable (lt)
def ins (x : α) : List α → List α
 | [] => [x]
 | z :: zs => if lt x z then x :: z :: zs else z :: ins x zs
def mrg (A B : List α) : List α := B.foldl (fun acc x => ins lt x acc) A
def isort (l : List α) : List α := mrg lt [] l
def srt (l : List α) : Prop := l.Pairwise fun x y => lt y x = false
variable {lt}
theorem mem_ins {x y : α} : ∀ {l : List α}, y ∈ ins lt x l ↔ y = x ∨ y ∈ l
 | [] => by simp [ins]
 | z :: zs => by
  simp only [ins]
  split
  ·simp
  ·rw [List.mem_cons, mem_ins, List.mem_cons]
   constructor <;> rintro (h | h | h) <;> simp [h]
theorem len_ins {x : α} : ∀ {l : List α}, (ins lt x l).length = l.length + 1
 | [] => rfl
 | z :: zs => by
  simp only [ins]
  split
  ·rfl
  ·simp [len_ins]
theorem mrg_nil {A : List α} : mrg lt A [] = A := rfl
theorem mrg_cons {A B : List α} {x : α} : mrg lt A (x :: B) = mrg lt (ins lt x A) B := rfl
theorem mrg_append {A B C : List α} : mrg lt A (B ++ C) = mrg lt (mrg lt A B) C := List.foldl_append
theorem mem_mrg {y : α} : ∀ {B A : List α}, y ∈ mrg lt A B ↔ y ∈ A ∨ y ∈ B
 | [], A => by simp [mrg_nil]
 | x :: B, A => by
  rw [mrg_cons, mem_mrg, mem_ins, List.mem_cons]
  exact ⟨fun h => h.elim (fun h => h.elim (fun h => .inr (.inl h)) .inl) (fun h => .inr (.inr h)), fun h => h.elim (fun h => .inl (.inr h)) (fun h => h.elim (fun h => .inl (.inl h)) .inr)⟩
theorem len_mrg : ∀ {B A : List α}, (mrg lt A B).length = A.length + B.length
 | [], A => rfl
 | x :: B, A => by
  rw [mrg_cons, len_mrg, len_ins, List.length_cons]; omega
theorem len_isort {l : List α} : (isort lt l).length = l.length := by
 unfold isort; rw [len_mrg]; simp
theorem ins_comm (h : Swo lt) {x y : α} (hxy : lt x y = true) : ∀ (A : List α), ins lt y (ins lt x A) = ins lt x (ins lt y A)
 | [] => by simp [ins, hxy, h.asy x y hxy]
 | z :: zs => by
  cases k1 : lt x z <;> cases k2 : lt y z
  ·simp [ins, k1, k2, ins_comm h hxy zs]
  ·rw [h.tr hxy k2] at k1; cases k1
  ·simp [ins, k1, k2, h.asy x y hxy]
  ·simp [ins, k1, k2, hxy, h.asy x y hxy]
theorem mrg_past (h : Swo lt) {x : α} : ∀ {s A : List α}, (∀ y ∈ s, lt x y = true) → mrg lt (ins lt x A) s = ins lt x (mrg lt A s)
 | [], A, _ => rfl
 | y :: s, A, hs => by
  rw [mrg_cons, ins_comm h (hs y (by simp)), mrg_past h (fun z hz => hs z (by simp [hz])), mrg_cons]
theorem srt_cons {x : α} {l : List α} : srt lt (x :: l) ↔ (∀ y ∈ l, lt y x = false) ∧ srt lt l := List.pairwise_cons
theorem srt_append {A B : List α} : srt lt (A ++ B) ↔ srt lt A ∧ srt lt B ∧ ∀ a ∈ A, ∀ b ∈ B, lt b a = false := List.pairwise_append
theorem srt_ins (h : Swo lt) {x : α} : ∀ {l : List α}, srt lt l → srt lt (ins lt x l)
 | [], _ => by simp [ins, srt]
 | z :: zs, hs => by
  obtain ⟨h1, h2⟩ := srt_cons.1 hs
  simp only [ins]
  split
  ·rename_i k
   refine srt_cons.2 ⟨fun y hy => ?_, hs⟩
   rcases List.mem_cons.1 hy with rfl | hy
   ·exact h.asy _ _ k
   ·exact h.ntr (h1 y hy) (h.asy _ _ k)
  ·rename_i k
   refine srt_cons.2 ⟨fun y hy => ?_, srt_ins h h2⟩
   rcases mem_ins.1 hy with rfl | hy
   ·simpa using k
   ·exact h1 y hy
theorem srt_mrg (h : Swo lt) : ∀ {B A : List α}, srt lt A → srt lt (mrg lt A B)
 | [], A, hA => hA
 | x :: B, A, hA => srt_mrg h (B := B) (srt_ins h hA)
theorem srt_isort (h : Swo lt) (l : List α) : srt lt (isort lt l) := srt_mrg h List.Pairwise.nil
theorem ins_split (h : Swo lt) {x : α} : ∀ {l : List α}, srt lt l → ∃ s t, l = s ++ t ∧ ins lt x l = s ++ x :: t ∧ ∀ y ∈ t, lt x y = true
 | [], _ => ⟨[], [], rfl, rfl, by simp⟩
 | z :: zs, hs => by
  obtain ⟨h1, h2⟩ := srt_cons.1 hs
  cases k : lt x z
  ·obtain ⟨s, t, e, e2, h3⟩ := ins_split h (x := x) h2
   exact ⟨z :: s, t, by simp [e], by simp [ins, k, e2], h3⟩
  ·refine ⟨[], z :: zs, rfl, by simp [ins, k], fun y hy => ?_⟩
   rcases List.mem_cons.1 hy with rfl | hy
   ·exact k
   ·exact h.lf k (h1 y hy)
theorem mrg_ins (h : Swo lt) {x : α} {A s : List α} (hs : srt lt s) : mrg lt A (ins lt x s) = ins lt x (mrg lt A s) := by
 obtain ⟨s1, s2, rfl, e, h2⟩ := ins_split h (x := x) hs
 rw [e, mrg_append, mrg_cons, mrg_past h h2, mrg_append]
theorem isort_snoc {l : List α} {x : α} : isort lt (l ++ [x]) = ins lt x (isort lt l) := by
 unfold isort; rw [mrg_append]; rfl
theorem mrg_isort (h : Swo lt) {A : List α} (r : List α) : mrg lt A (isort lt r) = mrg lt A r := by
 suffices H : ∀ (n : Nat) (r : List α), r.length = n → mrg lt A (isort lt r) = mrg lt A r from H _ r rfl
 intro n
 induction n with
 | zero => intro r hr; obtain rfl := List.length_eq_zero_iff.1 hr; rfl
 | succ n ih =>
  intro r hr
  rcases List.eq_nil_or_concat r with rfl | ⟨s, x, rfl⟩
  ·rfl
  ·rw [List.concat_eq_append] at *
   rw [isort_snoc, mrg_ins h (srt_isort h s), ih s (by simpa using hr), mrg_append]; rfl
theorem isort_append (h : Swo lt) (l r : List α) : isort lt (l ++ r) = mrg lt (isort lt l) (isort lt r) := by
 rw [mrg_isort h]; unfold isort; rw [mrg_append]
theorem ins_left {b : α} {A2 : List α} (h : ∀ a ∈ A2.head?, lt b a = true) : ∀ (A1 : List α), ins lt b (A1 ++ A2) = ins lt b A1 ++ A2
 | [] => by
  cases A2 with
  | nil => rfl
  | cons z zs => simp [ins, h z (by simp)]
 | z :: zs => by
  simp only [List.cons_append, ins]
  split
  ·rfl
  ·rw [ins_left h zs, List.cons_append]
theorem ins_right {b : α} {A2 : List α} : ∀ {A1 : List α}, (∀ a ∈ A1, lt b a = false) → ins lt b (A1 ++ A2) = A1 ++ ins lt b A2
 | [], _ => rfl
 | z :: zs, h => by
  simp only [List.cons_append, ins, h z (by simp), ins_right (A1 := zs) (fun a ha => h a (by simp [ha]))]
  rfl
theorem ins_mid {x : α} {s t : List α} (h1 : ∀ a ∈ s, lt x a = false) (h2 : ∀ a ∈ t.head?, lt x a = true) : ins lt x (s ++ t) = s ++ x :: t := by
 rw [ins_right h1]
 cases t with
 | nil => rfl
 | cons z zs => simp [ins, h2 z (by simp)]
theorem mrg_left {A2 : List α} : ∀ {B A1 : List α}, (∀ b ∈ B, ∀ a ∈ A2.head?, lt b a = true) → mrg lt (A1 ++ A2) B = mrg lt A1 B ++ A2
 | [], _, _ => rfl
 | b :: B, A1, h => by
  rw [mrg_cons, ins_left (h b (by simp)), mrg_left (fun b hb => h b (by simp [hb])), mrg_cons]
theorem mrg_right {A1 : List α} : ∀ {B A2 : List α}, (∀ b ∈ B, ∀ a ∈ A1, lt b a = false) → mrg lt (A1 ++ A2) B = A1 ++ mrg lt A2 B
 | [], _, _ => rfl
 | b :: B, A2, h => by
  rw [mrg_cons, ins_right (h b (by simp)), mrg_right (fun b hb => h b (by simp [hb])), mrg_cons]
theorem mrg_nil_srt (h : Swo lt) {l : List α} (hs : srt lt l) : mrg lt [] l = l := by
 suffices H : ∀ (l A : List α), srt lt (A ++ l) → mrg lt A l = A ++ l from H l [] (by simpa using hs)
 intro l
 induction l with
 | nil => intro A _; simp [mrg_nil]
 | cons x l ih =>
  intro A hA
  have := srt_append.1 hA
  rw [mrg_cons, show ins lt x A = A ++ [x] from by
   have := ins_mid (lt := lt) (x := x) (s := A) (t := []) (fun a ha => (srt_append.1 hA).2.2 a ha x (by simp)) (by simp)
   simpa using this, ih (A ++ [x]) (by simpa using hA)]
  simp
theorem mrg_split {A1 A2 B1 B2 : List α} (h1 : ∀ b ∈ B1, ∀ a ∈ A2.head?, lt b a = true) (h2 : ∀ b ∈ B2, ∀ a ∈ A1, lt b a = false) (h3 : ∀ b ∈ B2, ∀ a ∈ B1, lt b a = false) : mrg lt (A1 ++ A2) (B1 ++ B2) = mrg lt A1 B1 ++ mrg lt A2 B2 := by
 rw [mrg_append, mrg_left h1, mrg_right]
 intro b hb a ha
 rcases mem_mrg.1 ha with k | k
 ·exact h2 b hb a k
 ·exact h3 b hb a k
def blk (lt : α → α → Bool) (s : Nat) (l : List α) : List α :=
 if h : s = 0 ∨ l.length ≤ s then isort lt l else isort lt (l.take s) ++ blk lt s (l.drop s)
termination_by l.length
decreasing_by
 simp only [List.length_drop]
 omega
end Srt
end Go.Proofs.YtgkeplbnnjogiaaGreatR
namespace Go.Proofs.YtgkeplbnnjogiaaGreatR
open Go Go.RowKit Go.Proofs
open Nat (reduceEqDiff reduceLT reduceLeDiff reduceAdd reduceMul)
open List (reduceReplicate)
abbrev fI (f : FuncId) : RV := ⟨false, [(false, .fn f [])]⟩
attribute [go_sem] fI
def two (A : List (List T)) (e : List T) (B : List (List T)) (e' : List T) (C : List (List T)) : List (List T) := A ++ e :: (B ++ e' :: C)
theorem two_at {A B C : List (List T)} {p q : Nat} (hp : A.length = p) (hq : p + 1 + B.length = q) :
  (∀ e e', (two A e B e' C)[p]? = some e) ∧ (∀ e e', (two A e B e' C)[q]? = some e') ∧
  (∀ e e' u, (two A e B e' C).set p u = two A u B e' C) ∧ (∀ e e' u, (two A e B e' C).set q u = two A e B u C) ∧
  (∀ e e', (two A e B e' C).length = A.length + B.length + C.length + 2) ∧
  (∀ e e', (two A e B e' C).getD p [] = e) ∧ (∀ e e', (two A e B e' C).getD q [] = e') := by
 subst hp hq
 have h1 : ∀ e e', (two A e B e' C)[A.length]? = some e := fun e e' => by simp [two]
 have h2 : ∀ e e', (two A e B e' C)[A.length + 1 + B.length]? = some e' := fun e e' => by
  unfold two
  rw [List.getElem?_append_right (by omega), show A.length + 1 + B.length - A.length = B.length + 1 by omega, List.getElem?_cons_succ, List.getElem?_append_right (by omega), Nat.sub_self]
  rfl
 refine ⟨h1, h2, fun e e' u => by simp [two], fun e e' u => ?_, fun e e' => by simp [two]; omega, fun e e' => by rw [List.getD_eq_getElem?_getD, h1]; rfl, fun e e' => by rw [List.getD_eq_getElem?_getD, h2]; rfl⟩
 unfold two
 rw [List.set_append_right _ _ (by omega), show A.length + 1 + B.length - A.length = B.length + 1 by omega, List.set_cons_succ, List.set_append_right _ _ (by omega), Nat.sub_self]
 rfl
def swp {α : Type} (P X M Y Q : List α) (i : Nat) : List α := (P ++ Y.take i) ++ (X.drop i ++ M ++ X.take i) ++ (Y.drop i ++ Q)
theorem swp_len {α : Type} {P X M Y Q : List α} {i : Nat} (h : X.length = Y.length) : (swp P X M Y Q i).length = (P ++ X ++ M ++ Y ++ Q).length := by
 simp [swp, List.length_take, List.length_drop]; omega
theorem swp_two {α : Type} {P X M Y Q : List α} {i : Nat} {x y : α} {f : α → List T} (hx : X[i]? = some x) (hy : Y[i]? = some y) :
  (swp P X M Y Q i).map f = two ((P ++ Y.take i).map f) (f x) ((X.drop (i + 1) ++ M ++ X.take i).map f) (f y) ((Y.drop (i + 1) ++ Q).map f) ∧
  (swp P X M Y Q (i + 1)).map f = two ((P ++ Y.take i).map f) (f y) ((X.drop (i + 1) ++ M ++ X.take i).map f) (f x) ((Y.drop (i + 1) ++ Q).map f) := by
 constructor
 ·simp [swp, two, drop_cons hx, drop_cons hy]
 ·simp [swp, two, take_snoc hx, take_snoc hy]
theorem wN {a b : Nat} (h : a + b ≤ 9223372036854775807) : IntKind.i64.wrap ((a : Int) + (b : Int)) = ((a + b : Nat) : Int) := by
 rw [wI (by omega) (by omega)]; omega
theorem wN1 {a : Nat} (h : a + 1 ≤ 9223372036854775807) : IntKind.i64.wrap ((a : Int) + 1) = ((a + 1 : Nat) : Int) := by
 rw [wI (by omega) (by omega)]; omega
theorem wS {a b : Nat} (h : b ≤ a) (h2 : a ≤ 9223372036854775807) : IntKind.i64.wrap ((a : Int) - (b : Int)) = ((a - b : Nat) : Int) := by
 rw [wI (by omega) (by omega)]; omega
theorem wS1 {a : Nat} (h : 1 ≤ a) (h2 : a ≤ 9223372036854775807) : IntKind.i64.wrap ((a : Int) - 1) = ((a - 1 : Nat) : Int) := by
 rw [wI (by omega) (by omega)]; omega
def m_slices_swapRangeCmpFunc_impl_Found : MC :=
(.seq (pr [.mv 10 (ci 0)] [0,1,2,3,10])
(.block 0 (.loop ([0,1,2,3,10], []) (.seq (.seq (pr [.mv 11 (.s 10), .mv 12 (.s 3), .bin 13 false .lss (.s 11) (.s 12)] [0,1,2,3,10,13])
(.cond (.s 13) .skip (.exit 0)))
(.seq (.block 1 (.dreg [Zc [17,18,19,20,21,22,23,24,25,26,27,28,29,30,31,32,33,34,35] (.mv 16 (.s 0)), Zc [16,18,20,21,22,23,24,25,26,27,28,29,30,31,32,33,34,35] (.mv 17 (.s 1)), Zc [16,17,20,21,22,23,24,25,26,27,28,29,30,31,32,33,34,35] (.mv 18 (.s 10)), Zd [16,20,21,22,23,24,25,26,27,28,29,30,31,32,33,34,35] [1,2] (.bin 19 false .add (.s 17) (.s 18)), Zf [16,17,18,19,21,22,23,24,25,26,27,28,29,30,31,32,33,34,35,36] [0] (.mv 20 (.s 0)), Zf [16,17,18,19,20,22,24,25,26,27,28,29,30,31,32,33,34,35,36] [0] (.mv 21 (.s 2)), Zf [16,17,18,19,20,21,24,25,26,27,28,29,30,31,32,33,34,35,36] [0] (.mv 22 (.s 10)), Zg [16,17,18,19,20,24,25,26,27,28,29,30,31,32,33,34,35,36] [0] [5,6] (.bin 23 false .add (.s 21) (.s 22)), Zc [16,17,18,19,20,21,22,23,25,26,27,30,31,32,33,34,35] (.mv 24 (.s 0)), Zc [16,17,18,19,20,21,22,23,24,26,30,31,32,33,34,35] (.mv 25 (.s 2)), Zc [16,17,18,19,20,21,22,23,24,25,30,31,32,33,34,35] (.mv 26 (.s 10)), Zd [16,17,18,19,20,21,22,23,24,30,31,32,33,34,35] [9,10] (.bin 27 false .add (.s 25) (.s 26)), Zd [16,17,18,19,20,21,22,23,30,31,32,33,34,35] [8,9,10,11] (.idx 28 6 (.s 24) (.s 27)), Zd [16,17,18,19,20,21,22,23,30,31,32,33,34,35] [8,9,10,11,12] (.load 29 true 6 (.s 28)), Zc [16,17,18,19,20,21,22,23,24,25,26,27,28,29,31,32,33] (.mv 30 (.s 0)), Zc [16,17,18,19,20,21,22,23,24,25,26,27,28,29,30,32] (.mv 31 (.s 1)), Zc [16,17,18,19,20,21,22,23,24,25,26,27,28,29,30,31] (.mv 32 (.s 10)), Zd [16,17,18,19,20,21,22,23,24,25,26,27,28,29,30] [15,16] (.bin 33 false .add (.s 31) (.s 32)), Zd [16,17,18,19,20,21,22,23,24,25,26,27,28,29] [14,15,16,17] (.idx 34 6 (.s 30) (.s 33)), Zd [16,17,18,19,20,21,22,23,24,25,26,27,28,29] [14,15,16,17,18] (.load 35 true 6 (.s 34)), Zd [20,21,22,23] [0,1,2,3,8,9,10,11,12,13,14,15,16,17,18,19] (.idx 36 6 (.s 16) (.s 19)), { o := .store 6 (.s 36) (.s 29), hs := [20,21,22,23], ws := [0], bf := [0,1,2,3,8,9,10,11,12,13,14,15,16,17,18,19,20] }, Ze (.range 22) (.idx 37 6 (.s 20) (.s 23)), { o := .store 6 (.s 37) (.s 35), ws := [0], bf := (.range 23) }] [0,1,2,3,10]))
(pr [.mv 14 (.s 10), .bin 15 false .add (.s 14) (ci 1), .mv 10 (.s 15)] [0,1,2,3,10]))))))
theorem c_slices_swapRangeCmpFunc (P X M Y Q : List GFound) (f : FuncId) {a b n : Nat} (ha : P.length = a) (hb : (P ++ X ++ M).length = b) (hX : X.length = n) (hY : Y.length = n) : CtrI Tryz.prog n_slices_swapRangeCmpFunc_impl_Found [oL 6 ((P ++ X ++ M ++ Y ++ Q).map GFound.enc), iI a, iI b, iI n, fI f] [some (6, (P ++ Y ++ M ++ X ++ Q).map GFound.enc)] [] := by
 have hL0 : (P ++ X ++ M ++ Y ++ Q).length = b + n + Q.length := by rw [List.length_append, List.length_append, hb, hY]
 have hL1 : (P ++ Y ++ M ++ X ++ Q).length = (P ++ X ++ M ++ Y ++ Q).length := by simp; omega
 have hb' : b = a + n + M.length := by rw [← hb]; simp; omega
 have hsw0 : swp P X M Y Q 0 = P ++ X ++ M ++ Y ++ Q := by simp [swp]
 have hswn : swp P X M Y Q n = P ++ Y ++ M ++ X ++ Q := by simp [swp, ← hX, List.take_of_length_le (show Y.length ≤ X.length by omega), List.drop_of_length_le (show Y.length ≤ X.length by omega)]
 refine ctrI_at (M := m_slices_swapRangeCmpFunc_impl_Found) (m := 0) (n := 38) (res := []) hmix Tryz.func434 rfl (by kernel_rfl) rfl (by kernel_rfl) (by kernel_rfl) (Nat.le_of_ble_eq_true rfl) rfl rfl ?_; unfold m_slices_swapRangeCmpFunc_impl_Found
 intro hbd
 have hl := len_of_bd hbd
 clear hbd
 simp only [roomB] at hl
 rw [← hsw0, ← hswn]
 rw [← hsw0, ← hswn] at hL1
 rw [← hsw0] at hl hL0
 subst hX
 generalize hN : (swp P X M Y Q 0).length = N at *
 simp only [↓reduceIte, go_sem, hN]
 refine loopK_rng X (fun i => [(10, vI i)]) (fun i => [(0, ⟨1, .row true 6 ((swp P X M Y Q i).map GFound.enc)⟩)]) (fun _ => True) (by simp only [roomB]; omega) ?_
 simp only [↓reduceIte, go_sem]
 refine ⟨?_, trivial, ?_, ?_⟩
 ·simp only [↓reduceIte, go_sem]
 ·intro i x hx _ h0 h1 hw
  have hi := len_at hx
  obtain ⟨y, hy⟩ := at_some (show i < Y.length by omega)
  obtain ⟨e1, e2⟩ := swp_two (P := P) (M := M) (Q := Q) (f := GFound.enc) hx hy
  have hlen := swp_len (P := P) (X := X) (M := M) (Y := Y) (Q := Q) (i := i) hY.symm
  rw [e1, e2]
  generalize hAe : (P ++ Y.take i).map GFound.enc = A at e1 e2
  generalize hBe : (X.drop (i + 1) ++ M ++ X.take i).map GFound.enc = B at e1 e2
  generalize hCe : (Y.drop (i + 1) ++ Q).map GFound.enc = C at e1 e2
  have hA : A.length = a + i := by subst hAe; simp; omega
  have hB : (a + i) + 1 + B.length = b + i := by subst hBe; simp; omega
  have hC : C.length = Y.length - (i + 1) + Q.length := by subst hCe; simp
  obtain ⟨g1, g2, s1, s2, hL, d1, d2⟩ := two_at (C := C) hA hB
  have hL' : ∀ e e', (two A e B e' C).length = N := fun e e' => by rw [hL]; omega
  have k1 : (0 : Int) ≤ ((a + i : Nat) : Int) := by omega
  have k2 : ((a + i : Nat) : Int) < (N : Int) := by omega
  have k3 : (0 : Int) ≤ ((b + i : Nat) : Int) := by omega
  have k4 : ((b + i : Nat) : Int) < (N : Int) := by omega
  have k5 : ¬ b + i = a + i := by omega
  simp only [↓reduceIte, go_sem, g1, g2, s1, s2, hL', hw, h1, wN (a := a) (b := i) (by omega), wN (a := b) (b := i) (by omega), k1, k2, k3, k4]
 ·intro _
  simp only [↓reduceIte, go_sem]
def RotI (P X Y Q : List GFound) (m : Nat) (d : List GFound) (i j : Nat) : Prop :=
 ∃ C X' Y' D, d = P ++ C ++ X' ++ Y' ++ D ++ Q ∧ X'.length = i ∧ Y'.length = j ∧ P.length + C.length + i = m ∧ C ++ Y' ++ X' ++ D = Y ++ X ∧ 0 < i ∧ 0 < j
theorem RotI.gt {P X Y Q : List GFound} {m : Nat} {d : List GFound} {i j : Nat} (h : RotI P X Y Q m d i j) (hij : j < i) :
  ∃ P' X1 M Y' Q', d = P' ++ X1 ++ M ++ Y' ++ Q' ∧ P'.length = m - i ∧ (P' ++ X1 ++ M).length = m ∧ X1.length = j ∧ Y'.length = j ∧ RotI P X Y Q m (P' ++ Y' ++ M ++ X1 ++ Q') (i - j) j := by
 obtain ⟨C, X', Y', D, rfl, rfl, rfl, h3, h4, h5, h6⟩ := h
 obtain ⟨X1, X2, rfl, hX1⟩ : ∃ X1 X2, X' = X1 ++ X2 ∧ X1.length = Y'.length := ⟨X'.take Y'.length, X'.drop Y'.length, (List.take_append_drop _ _).symm, by simp; omega⟩
 simp only [List.length_append] at *
 exact ⟨P ++ C, X1, X2, Y', D ++ Q, by simp, by simp; omega, by simp; omega, hX1, rfl, C ++ Y', X2, X1, D, by simp, by omega, by omega, by simp; omega, by rw [← h4]; simp, by omega, by omega⟩
theorem RotI.le {P X Y Q : List GFound} {m : Nat} {d : List GFound} {i j : Nat} (h : RotI P X Y Q m d i j) (hij : i < j) :
  ∃ P' X' M Y2 Q', d = P' ++ X' ++ M ++ Y2 ++ Q' ∧ P'.length = m - i ∧ (P' ++ X' ++ M).length = m + j - i ∧ X'.length = i ∧ Y2.length = i ∧ RotI P X Y Q m (P' ++ Y2 ++ M ++ X' ++ Q') i (j - i) := by
 obtain ⟨C, X', Y', D, rfl, rfl, rfl, h3, h4, h5, h6⟩ := h
 obtain ⟨Y1, Y2, rfl, hY2⟩ : ∃ Y1 Y2, Y' = Y1 ++ Y2 ∧ Y2.length = X'.length := ⟨Y'.take (Y'.length - X'.length), Y'.drop (Y'.length - X'.length), (List.take_append_drop _ _).symm, by simp; omega⟩
 simp only [List.length_append] at *
 exact ⟨P ++ C, X', Y1, Y2, D ++ Q, by simp, by simp; omega, by simp; omega, rfl, hY2, C, Y2, Y1, X' ++ D, by simp, by omega, by omega, by omega, by rw [← h4]; simp, by omega, by omega⟩
theorem RotI.eq {P X Y Q : List GFound} {m : Nat} {d : List GFound} {i : Nat} (h : RotI P X Y Q m d i i) :
  ∃ P' X' Y' Q', d = P' ++ X' ++ [] ++ Y' ++ Q' ∧ P'.length = m - i ∧ (P' ++ X' ++ []).length = m ∧ X'.length = i ∧ Y'.length = i ∧ P' ++ Y' ++ [] ++ X' ++ Q' = P ++ Y ++ X ++ Q := by
 obtain ⟨C, X', Y', D, rfl, rfl, h2, h3, h4, h5, h6⟩ := h
 refine ⟨P ++ C, X', Y', D ++ Q, by simp, by simp; omega, by simp; omega, rfl, h2, ?_⟩
 have := congrArg (fun l => P ++ (l ++ Q)) h4
 simpa using this
theorem RotI.len {P X Y Q : List GFound} {m : Nat} {d : List GFound} {i j : Nat} (h : RotI P X Y Q m d i j) : d.length = (P ++ X ++ Y ++ Q).length ∧ i ≤ m ∧ m + j ≤ d.length ∧ 0 < i ∧ 0 < j := by
 obtain ⟨C, X', Y', D, rfl, rfl, rfl, h3, h4, h5, h6⟩ := h
 have := congrArg List.length h4
 simp at this ⊢
 omega
theorem RotI.start {P X Y Q : List GFound} {m i j : Nat} (hm : P.length + X.length = m) (hi : X.length = i) (hj : Y.length = j) (hX : 0 < X.length) (hY : 0 < Y.length) : RotI P X Y Q m (P ++ X ++ Y ++ Q) i j :=
 ⟨[], X, Y, [], by simp, hi, hj, by simp; omega, by simp, by omega, by omega⟩
def m_slices_rotateCmpFunc_impl_Found : MC :=
(.seq (pr [.mv 12 (.s 2), .mv 13 (.s 1), .bin 14 false .sub (.s 12) (.s 13), .mv 10 (.s 14)] [0,2,3,4,10])
(.seq (pr [.mv 15 (.s 3), .mv 16 (.s 2), .bin 17 false .sub (.s 15) (.s 16), .mv 11 (.s 17)] [0,2,4,10,11])
(.seq (.block 0 (.loop ([0,2,4,10,11], []) (.seq (.seq (pr [.mv 18 (.s 10), .mv 19 (.s 11), .bin 20 false .neq (.s 18) (.s 19)] [0,2,4,10,11,20])
(.cond (.s 20) .skip (.exit 0)))
(.block 1 (.seq (pr [.mv 21 (.s 10), .mv 22 (.s 11), .bin 23 false .gtr (.s 21) (.s 22)] [0,2,4,10,11,23])
(.cond (.s 23) (.seq (pr [.mv 24 (.s 0), .mv 25 (.s 2), .mv 26 (.s 10), .bin 27 false .sub (.s 25) (.s 26), .mv 28 (.s 2), .mv 29 (.s 11), .mv 30 (.s 4), .callI 31 [] (.f n_slices_swapRangeCmpFunc_impl_Found) [.s 24, .s 27, .s 28, .s 29, .s 30] [0] []] [0,2,4,10,11])
(pr [.mv 32 (.s 10), .mv 33 (.s 11), .bin 34 false .sub (.s 32) (.s 33), .mv 10 (.s 34)] [0,2,4,10,11])) (.seq (pr [.mv 35 (.s 0), .mv 36 (.s 2), .mv 37 (.s 10), .bin 38 false .sub (.s 36) (.s 37), .mv 39 (.s 2), .mv 40 (.s 11), .bin 41 false .add (.s 39) (.s 40), .mv 42 (.s 10), .bin 43 false .sub (.s 41) (.s 42), .mv 44 (.s 10), .mv 45 (.s 4), .callI 46 [] (.f n_slices_swapRangeCmpFunc_impl_Found) [.s 35, .s 38, .s 43, .s 44, .s 45] [0] []] [0,2,4,10,11])
(pr [.mv 47 (.s 11), .mv 48 (.s 10), .bin 49 false .sub (.s 47) (.s 48), .mv 11 (.s 49)] [0,2,4,10,11]))))))))
(pr [.mv 50 (.s 0), .mv 51 (.s 2), .mv 52 (.s 10), .bin 53 false .sub (.s 51) (.s 52), .mv 54 (.s 2), .mv 55 (.s 10), .mv 56 (.s 4), .callI 57 [] (.f n_slices_swapRangeCmpFunc_impl_Found) [.s 50, .s 53, .s 54, .s 55, .s 56] [0] []] []))))
theorem c_slices_rotateCmpFunc (P X Y Q : List GFound) (f : FuncId) {a m b : Nat} (ha : P.length = a) (hm : (P ++ X).length = m) (hb : (P ++ X ++ Y).length = b) (hX : 0 < X.length) (hY : 0 < Y.length) : CtrI Tryz.prog n_slices_rotateCmpFunc_impl_Found [oL 6 ((P ++ X ++ Y ++ Q).map GFound.enc), iI a, iI m, iI b, fI f] [some (6, (P ++ Y ++ X ++ Q).map GFound.enc)] [] := by
 refine ctrI_at (M := m_slices_rotateCmpFunc_impl_Found) (m := 0) (n := 58) (res := []) hmix Tryz.func432 rfl (by kernel_rfl) rfl (by kernel_rfl) (by kernel_rfl) (Nat.le_of_ble_eq_true rfl) rfl rfl ?_; unfold m_slices_rotateCmpFunc_impl_Found
 intro hbd
 have hl := len_of_bd hbd
 clear hbd
 have hN2 : (P ++ Y ++ X ++ Q).length = (P ++ X ++ Y ++ Q).length := by simp; omega
 have hm' : m = a + X.length := by rw [← hm, ← ha]; simp
 have hb' : b = m + Y.length := by rw [← hb, ← hm]; simp; omega
 have hbN : b ≤ (P ++ X ++ Y ++ Q).length := by rw [List.length_append, hb]; omega
 generalize hN : (P ++ X ++ Y ++ Q).length = N at *
 simp only [roomB] at hl
 simp only [↓reduceIte, go_sem, hN, wS (a := m) (b := a) (by omega) (by omega), wS (a := b) (b := m) (by omega) (by omega)]
 refine loopK_up (ι := List GFound × Nat × Nat) (fun s => [(10, vI s.2.1), (11, vI s.2.2)]) (fun s => [(0, ⟨1, .row true 6 (s.1.map GFound.enc)⟩)]) (fun s => RotI P X Y Q m s.1 s.2.1 s.2.2) (fun s => s.2.1 + s.2.2) (P ++ X ++ Y ++ Q, m - a, b - m) ?_
 simp only [↓reduceIte, go_sem]
 refine ⟨?_, RotI.start (by omega) (show X.length = m - a by omega) (show Y.length = b - m by omega) hX hY, ?_⟩
 ·simp only [↓reduceIte, go_sem]
 ·rintro ⟨d, i, j⟩ hI
  simp only at hI
  obtain ⟨hd, h1, h2, h3, h4⟩ := hI.len
  rw [hN] at hd
  simp only [↓reduceIte, go_sem, hd]
  refine ⟨fun hne => ⟨fun hgt => ?_, fun hle => ?_⟩, fun heq => ?_⟩
  ·obtain ⟨P', X1, M, Y', Q', rfl, k1, k2, k3, k4, hR⟩ := hI.gt (by omega)
   have hd2 := hR.len.1
   rw [hN] at hd2
   rw [wS h1 (by omega)]
   apply callIK_of (c_slices_swapRangeCmpFunc P' X1 M Y' Q' f k1 k2 k3 k4)
   simp only [↓reduceIte, go_sem, wS (a := i) (b := j) (by omega) (by omega)]
   exact ⟨(_, i - j, j), ⟨⟨rfl, rfl⟩, rfl⟩, hR, by show i - j + j < i + j; omega⟩
  ·obtain ⟨P', X1, M, Y', Q', rfl, k1, k2, k3, k4, hR⟩ := hI.le (by omega)
   have hd2 := hR.len.1
   rw [hN] at hd2
   rw [wS h1 (by omega), wN (by omega), wS (a := m + j) (b := i) (by omega) (by omega)]
   apply callIK_of (c_slices_swapRangeCmpFunc P' X1 M Y' Q' f k1 k2 k3 k4)
   simp only [↓reduceIte, go_sem, wS (a := j) (b := i) (by omega) (by omega)]
   exact ⟨(_, i, j - i), ⟨⟨rfl, rfl⟩, rfl⟩, hR, by show i + (j - i) < i + j; omega⟩
  ·obtain rfl : i = j := by omega
   obtain ⟨P', X1, Y', Q', rfl, k1, k2, k3, k4, hR⟩ := hI.eq
   rw [wS h1 (by omega)]
   apply callIK_of (c_slices_swapRangeCmpFunc P' X1 [] Y' Q' f k1 k2 k3 k4)
   rw [hR]
   simp only [↓reduceIte, go_sem]
def ltc (c : GFound → GFound → Int) (x y : GFound) : Bool := decide (c x y < 0)
def InsI (lt : GFound → GFound → Bool) (P S R : List GFound) (x : GFound) (d : List GFound) (j : Nat) : Prop :=
 ∃ s1 s2, d = P ++ s1 ++ x :: s2 ++ R ∧ P.length + s1.length = j ∧ s1 ++ s2 = S ∧ ∀ y ∈ s2, lt x y = true
theorem InsI.len {lt : GFound → GFound → Bool} {P S R : List GFound} {x : GFound} {d : List GFound} {j : Nat} (h : InsI lt P S R x d j) : d.length = P.length + S.length + 1 + R.length ∧ P.length ≤ j ∧ j ≤ P.length + S.length := by
 obtain ⟨s1, s2, rfl, rfl, rfl, h⟩ := h
 simp; omega
theorem InsI.done {lt : GFound → GFound → Bool} (hw : Srt.Swo lt) {P S R : List GFound} {x : GFound} {d : List GFound} {j : Nat} (h : InsI lt P S R x d j) (hs : Srt.srt lt S) (hj : j = P.length ∨ ∀ z ∈ d[j - 1]?, lt x z = false) : d = P ++ Srt.ins lt x S ++ R := by
 obtain ⟨s1, s2, rfl, rfl, rfl, h⟩ := h
 rw [Srt.ins_mid]
 ·simp
 ·intro y hy
  rcases List.eq_nil_or_concat s1 with rfl | ⟨s, z, rfl⟩
  ·simp at hy
  ·rcases hj with hj | hj
   ·simp at hj
   ·rw [List.concat_eq_append] at *
    have hz : lt x z = false := hj z (by simp [])
    rcases List.mem_append.1 hy with k | k
    ·have := (Srt.srt_append.1 (Srt.srt_append.1 hs).1).2.2 y k z (by simp)
     exact hw.ntr hz this
    ·obtain rfl := List.mem_singleton.1 k
     exact hz
 ·intro y hy
  exact h y (List.mem_of_mem_head? hy)
theorem InsI.step {lt : GFound → GFound → Bool} {P S R : List GFound} {x : GFound} {d : List GFound} {j : Nat} (h : InsI lt P S R x d j) (hj : P.length < j) :
  ∃ A z C, d = A ++ z :: ([] ++ x :: C) ∧ A.length = j - 1 ∧ d[j - 1]? = some z ∧ (lt x z = true → InsI lt P S R x (A ++ x :: ([] ++ z :: C)) (j - 1)) := by
 obtain ⟨s1, s2, rfl, rfl, rfl, h⟩ := h
 rcases List.eq_nil_or_concat s1 with rfl | ⟨s, z, rfl⟩
 ·simp at hj
 ·rw [List.concat_eq_append] at *
  refine ⟨P ++ s, z, s2 ++ R, by simp, by simp, by simp [], fun hl => ⟨s, z :: s2, by simp, by simp, by simp, ?_⟩⟩
  intro y hy
  rcases List.mem_cons.1 hy with rfl | k
  ·exact hl
  ·exact h y k
def m_slices_insertionSortCmpFunc_impl_Found : MC :=
(.seq (pr [.mv 10 (.s 1), .bin 11 false .add (.s 10) (ci 1), .mv 8 (.s 11)] [0,1,2,3,8])
(.block 0 (.loop ([0,1,2,3,8], []) (.seq (.seq (pr [.mv 12 (.s 8), .mv 13 (.s 2), .bin 14 false .lss (.s 12) (.s 13)] [0,1,2,3,8,14])
(.cond (.s 14) .skip (.exit 0)))
(.seq (.block 1 (.seq (pr [.mv 17 (.s 8), .mv 9 (.s 17)] [0,1,2,3,8,9])
(.block 2 (.loop ([0,1,2,3,8,9], []) (.seq (.seq (.dreg [Zc [19] (.mv 18 (.s 9)), Zc [18] (.mv 19 (.s 1)), Ze [0,1] (.bin 20 false .gtr (.s 18) (.s 19)), Ze [0,1,2] (.mv 21 (.s 20)), { o := .mv 22 (.s 3), g := some (21, true), hs := [23,24,25,26,27,28,29,30,31], bf := (.range 4) }, { o := .mv 23 (.s 0), g := some (21, true), hs := [22,24,27,28,29,30,31], bf := (.range 4) }, { o := .mv 24 (.s 9), g := some (21, true), hs := [22,23,27,28,29,30,31], bf := (.range 4) }, { o := .idx 25 6 (.s 23) (.s 24), g := some (21, true), hs := [22,27,28,29,30,31], bf := [0,1,2,3,5,6] }, { o := .load 26 true 6 (.s 25), g := some (21, true), hs := [22,27,28,29,30,31], bf := [0,1,2,3,5,6,7] }, { o := .mv 27 (.s 0), g := some (21, true), hs := [22,23,24,25,26,28,29], bf := (.range 4) }, { o := .mv 28 (.s 9), g := some (21, true), hs := [22,23,24,25,26,27], bf := (.range 4) }, { o := .bin 29 false .sub (.s 28) (ci 1), g := some (21, true), hs := [22,23,24,25,26,27], bf := [0,1,2,3,10] }, { o := .idx 30 6 (.s 27) (.s 29), g := some (21, true), hs := [22,23,24,25,26], bf := [0,1,2,3,9,10,11] }, { o := .load 31 true 6 (.s 30), g := some (21, true), hs := [22,23,24,25,26], bf := [0,1,2,3,9,10,11,12] }, { o := .call 32 [] (.s 22) [.s 26, .s 31], g := some (21, true), bf := (.range 14) }, { o := .bin 33 false .lss (.s 32) (ci 0), g := some (21, true), bf := (.range 15) }, Ze (.range 16) (.pick 34 (.s 21) (.s 33) cF)] [0,1,2,3,8,9,34])
(.cond (.s 34) .skip (.exit 2)))
(.seq (.block 3 (.dreg [Zc [38,39,40,41,42,43,44,45,46,47,48,49,50] (.mv 37 (.s 0)), Zc [37,39,40,41,42,43,44,45,46,47,48,49,50] (.mv 38 (.s 9)), Zf [37,38,40,41,42,43,44,45,46,47,48,49,50,51] [0] (.mv 39 (.s 0)), Zf [37,38,39,42,43,44,45,46,47,48,49,50,51] [0] (.mv 40 (.s 9)), Zg [37,38,39,42,43,44,45,46,47,48,49,50,51] [0] [3] (.bin 41 false .sub (.s 40) (ci 1)), Zc [37,38,39,40,41,43,44,47,48,49,50] (.mv 42 (.s 0)), Zc [37,38,39,40,41,42,47,48,49,50] (.mv 43 (.s 9)), Zd [37,38,39,40,41,42,47,48,49,50] [6] (.bin 44 false .sub (.s 43) (ci 1)), Zd [37,38,39,40,41,47,48,49,50] [5,6,7] (.idx 45 6 (.s 42) (.s 44)), Zd [37,38,39,40,41,47,48,49,50] [5,6,7,8] (.load 46 true 6 (.s 45)), Zc [37,38,39,40,41,42,43,44,45,46,48] (.mv 47 (.s 0)), Zc [37,38,39,40,41,42,43,44,45,46,47] (.mv 48 (.s 9)), Zd [37,38,39,40,41,42,43,44,45,46] [10,11] (.idx 49 6 (.s 47) (.s 48)), Zd [37,38,39,40,41,42,43,44,45,46] [10,11,12] (.load 50 true 6 (.s 49)), Zd [39,40,41] [0,1,5,6,7,8,9,10,11,12,13] (.idx 51 6 (.s 37) (.s 38)), { o := .store 6 (.s 51) (.s 46), hs := [39,40,41], ws := [0], bf := [0,1,5,6,7,8,9,10,11,12,13,14] }, Ze (.range 16) (.idx 52 6 (.s 39) (.s 41)), { o := .store 6 (.s 52) (.s 50), ws := [0], bf := (.range 17) }] [0,1,2,3,8,9]))
(pr [.mv 35 (.s 9), .bin 36 false .sub (.s 35) (ci 1), .mv 9 (.s 36)] [0,1,2,3,8,9])))))))
(pr [.mv 15 (.s 8), .bin 16 false .add (.s 15) (ci 1), .mv 8 (.s 16)] [0,1,2,3,8]))))))
theorem c_slices_insertionSortCmpFunc (P X Q : List GFound) (f : FuncId) (c : GFound → GFound → Int) (hc : ∀ x y, Ctr Tryz.prog f [aS x.enc, aS y.enc] [rI (c x y)]) (hw : Srt.Swo (ltc c)) {a b : Nat} (ha : P.length = a) (hb : (P ++ X).length = b) : CtrI Tryz.prog n_slices_insertionSortCmpFunc_impl_Found [oL 6 ((P ++ X ++ Q).map GFound.enc), iI a, iI b, fI f] [some (6, (P ++ Srt.isort (ltc c) X ++ Q).map GFound.enc)] [] := by
 have hlk : ∀ k, (P ++ Srt.isort (ltc c) (X.take k) ++ (X.drop k ++ Q)).length = (P ++ X ++ Q).length := fun k => by simp [Srt.len_isort]; omega
 refine ctrI_at (M := m_slices_insertionSortCmpFunc_impl_Found) (m := 0) (n := 53) (res := []) hmix Tryz.func422 rfl (by kernel_rfl) rfl (by kernel_rfl) (by kernel_rfl) (Nat.le_of_ble_eq_true rfl) rfl rfl ?_; unfold m_slices_insertionSortCmpFunc_impl_Found
 intro hbd
 have hl := len_of_bd hbd
 clear hbd
 have hb' : b = a + X.length := by rw [← hb, ← ha]; simp
 have hbN : b ≤ (P ++ X ++ Q).length := by rw [List.length_append, hb]; omega
 generalize hN : (P ++ X ++ Q).length = N at *
 simp only [roomB] at hl
 simp only [↓reduceIte, go_sem, hN, wN1 (a := a) (by omega)]
 refine loopK_up (fun k : Nat => [(8, vI ((a + k : Nat) : Int))]) (fun k => [(0, ⟨1, .row true 6 ((P ++ Srt.isort (ltc c) (X.take k) ++ (X.drop k ++ Q)).map GFound.enc)⟩)]) (fun k => 1 ≤ k ∧ (k ≤ X.length ∨ k = 1)) (fun k => X.length - k) 1 ?_
 simp only [↓reduceIte, go_sem]
 refine ⟨?_, ⟨by omega, by omega⟩, ?_⟩
 ·simp only [↓reduceIte, go_sem]
  cases X with
  | nil => simp [Srt.isort, Srt.mrg]
  | cons x X => simp [Srt.isort, Srt.mrg, Srt.ins]
 ·rintro k ⟨h1, h2⟩
  simp only [↓reduceIte, go_sem]
  refine ⟨fun hlt => ?_, fun hge => ?_⟩
  ·obtain ⟨x, hx⟩ := at_some (show k < X.length by omega)
   refine loopK_up (ι := List GFound × Nat) (fun s => [(9, vI s.2)]) (fun s => [(0, ⟨1, .row true 6 (s.1.map GFound.enc)⟩)]) (fun s => InsI (ltc c) P (Srt.isort (ltc c) (X.take k)) (X.drop (k + 1) ++ Q) x s.1 s.2) (fun s => s.2) (P ++ Srt.isort (ltc c) (X.take k) ++ (X.drop k ++ Q), a + k) ?_
   simp only [↓reduceIte, go_sem]
   refine ⟨?_, ⟨Srt.isort (ltc c) (X.take k), [], by simp [drop_cons hx], by simp [Srt.len_isort]; omega, by simp, by simp⟩, ?_⟩
   ·simp only [↓reduceIte, go_sem]
   ·rintro ⟨d, j⟩ hI
    simp only at hI
    obtain ⟨hd, h3, h4⟩ := hI.len
    have hdN : d.length = N := by
     have := hlk k
     simp [drop_cons hx] at this hd
     omega
    have hdone : (j = P.length ∨ ∀ z ∈ d[j - 1]?, ltc c x z = false) → d.map GFound.enc = (P ++ Srt.isort (ltc c) (X.take (k + 1)) ++ (X.drop (k + 1) ++ Q)).map GFound.enc := fun h => by
     rw [hI.done hw (Srt.srt_isort hw _) h, take_snoc hx, Srt.isort_snoc]
    by_cases hj : P.length < j
    ·obtain ⟨A, z, C, e, k1, k2, k3⟩ := hI.step hj
     have e' : d.map GFound.enc = two (A.map GFound.enc) z.enc [] x.enc (C.map GFound.enc) := by subst e; simp [two]
     have e2 : (A ++ x :: ([] ++ z :: C)).map GFound.enc = two (A.map GFound.enc) x.enc [] z.enc (C.map GFound.enc) := by simp [two]
     obtain ⟨g1, g2, s1, s2, hL, d1, d2⟩ := two_at (A := A.map GFound.enc) (B := []) (C := C.map GFound.enc) (p := j - 1) (q := j) (by simpa using k1) (by simp; omega)
     have hL' : ∀ u v, (two (A.map GFound.enc) u [] v (C.map GFound.enc)).length = N := fun u v => by
      rw [← hdN, hL, e]; simp; omega
     rw [e']
     have j0 : (j : Int) > (a : Int) := by omega
     have j1 : (0 : Int) ≤ (j : Int) := by omega
     have j2 : (j : Int) < (N : Int) := by omega
     have j3 : (0 : Int) ≤ ((j - 1 : Nat) : Int) := by omega
     have j4 : ((j - 1 : Nat) : Int) < (N : Int) := by omega
     simp only [↓reduceIte, go_sem, hL', g1, g2, j0, j1, j2, j3, j4, wS1 (a := j) (by omega) (by omega)]
     apply callK_of (hc x z)
     simp only [↓reduceIte, go_sem, hL', g1, g2, s1, s2, j1, j2, j3, j4, wS1 (a := j) (by omega) (by omega), wN1 (a := a + k) (by omega)]
     intro _
     refine ⟨fun hn => ⟨(A ++ x :: ([] ++ z :: C), j - 1), ⟨rfl, e2.symm⟩, k3 (by simpa [ltc] using hn), by show j - 1 < j; omega⟩, fun hn => ?_⟩
     have hz : ltc c x z = false := by simpa [ltc] using hn
     have := hdone (.inr (by rw [k2]; intro y hy; obtain rfl := Option.some.inj hy; exact hz))
     rw [e'] at this
     exact ⟨k + 1, ⟨rfl, this⟩, ⟨by omega, by omega⟩, by omega⟩
    ·have j0 : ¬ (j : Int) > (a : Int) := by omega
     simp only [↓reduceIte, go_sem, j0, wN1 (a := a + k) (by omega)]
     have := hdone (.inl (by omega))
     exact ⟨k + 1, ⟨rfl, this⟩, ⟨by omega, by omega⟩, by omega⟩
  ·have hk : X.length ≤ k := by omega
   rw [List.take_of_length_le hk, List.drop_of_length_le hk, List.nil_append]
end Go.Proofs.YtgkeplbnnjogiaaGreatR
namespace Go.Proofs.YtgkeplbnnjogiaaGreatR
open Go Go.RowKit Go.Proofs
open Nat (reduceEqDiff reduceLT reduceLeDiff reduceAdd reduceMul)
open List (reduceReplicate)
namespace Srt
variable {α : Type} {lt : α → α → Bool}
theorem srt_at {l : List α} (h : srt lt l) {i j : Nat} {x y : α} (hi : l[i]? = some x) (hj : l[j]? = some y) (hij : i < j) : lt y x = false := by
 obtain ⟨h1, rfl⟩ := List.getElem?_eq_some_iff.1 hi
 obtain ⟨h2, rfl⟩ := List.getElem?_eq_some_iff.1 hj
 exact (List.pairwise_iff_getElem.1 h) i j h1 h2 hij
theorem srt_at_le (hw : Swo lt) {l : List α} (h : srt lt l) {i j : Nat} {x y : α} (hi : l[i]? = some x) (hj : l[j]? = some y) (hij : i ≤ j) : lt y x = false := by
 rcases Nat.lt_or_eq_of_le hij with k | rfl
 ·exact srt_at h hi hj k
 ·obtain rfl := Option.some.inj (hi.symm.trans hj)
  exact hw.irr x
theorem mem_take_at {l : List α} {u : Nat} {x : α} (h : x ∈ l.take u) : ∃ i, i < u ∧ l[i]? = some x := by
 obtain ⟨i, hi⟩ := List.mem_iff_getElem?.1 h
 rw [List.getElem?_take] at hi
 split at hi
 ·exact ⟨i, by assumption, hi⟩
 ·cases hi
theorem mem_drop_at {l : List α} {u : Nat} {x : α} (h : x ∈ l.drop u) : ∃ i, u ≤ i ∧ l[i]? = some x := by
 obtain ⟨i, hi⟩ := List.mem_iff_getElem?.1 h
 rw [List.getElem?_drop] at hi
 exact ⟨u + i, by omega, hi⟩
theorem head_drop_at {l : List α} {u : Nat} {x : α} (h : x ∈ (l.drop u).head?) : l[u]? = some x := by
 rw [List.head?_drop] at h
 exact h
theorem mrg_sym (hw : Swo lt) {X Y : List α} (hX : srt lt X) (hY : srt lt Y) {u M : Nat} (huX : u ≤ X.length) (huM : u ≤ M)
  (h1 : u = 0 ∨ Y.length ≤ M - u ∨ ∃ y x, Y[M - u]? = some y ∧ X[u - 1]? = some x ∧ lt y x = false)
  (h2 : u = M ∨ u = X.length ∨ ∃ y x, Y[M - 1 - u]? = some y ∧ X[u]? = some x ∧ lt y x = true) :
  mrg lt X Y = mrg lt (X.take u) (Y.take (M - u)) ++ mrg lt (X.drop u) (Y.drop (M - u)) := by
 conv => lhs; rw [← List.take_append_drop u X, ← List.take_append_drop (M - u) Y]
 refine mrg_split ?_ ?_ ?_
 ·intro b hb a ha
  obtain ⟨i, hi, eb⟩ := mem_take_at hb
  have ea := head_drop_at ha
  have hlt := len_at ea
  rcases h2 with h2 | h2 | ⟨y, x, e1, e2, h2⟩
  ·omega
  ·omega
  ·obtain rfl := Option.some.inj (e2.symm.trans ea)
   exact hw.fl (srt_at_le hw hY eb e1 (by omega)) h2
 ·intro b hb a ha
  obtain ⟨i, hi, eb⟩ := mem_drop_at hb
  obtain ⟨k, hk, ea⟩ := mem_take_at ha
  have hlt := len_at eb
  rcases h1 with h1 | h1 | ⟨y, x, e1, e2, h1⟩
  ·omega
  ·omega
  ·have p1 := srt_at_le hw hY e1 eb (by omega)
   have p2 := srt_at_le hw hX ea e2 (by omega)
   exact hw.ntr (hw.ntr p1 h1) p2
 ·intro b hb a ha
  obtain ⟨i, hi, eb⟩ := mem_drop_at hb
  obtain ⟨k, hk, ea⟩ := mem_take_at ha
  exact srt_at hY ea eb (by omega)
theorem mrg_one (hw : Swo lt) {x : α} {Y : List α} (hY : srt lt Y) {u : Nat} (h1 : ∀ y ∈ Y.take u, lt y x = true) (h2 : ∀ y ∈ Y.drop u, lt y x = false) : mrg lt [x] Y = Y.take u ++ x :: Y.drop u := by
 have e := mrg_split (lt := lt) (A1 := []) (A2 := [x]) (B1 := Y.take u) (B2 := Y.drop u) (by simpa using h1) (by simp) (by
  intro b hb a ha
  obtain ⟨i, hi, eb⟩ := mem_drop_at hb
  obtain ⟨k, hk, ea⟩ := mem_take_at ha
  exact srt_at hY ea eb (by omega))
 rw [List.take_append_drop, List.nil_append] at e
 rw [e, mrg_nil_srt hw (srt_append.1 ((List.take_append_drop u Y).symm ▸ hY)).1]
 have e2 := mrg_right (lt := lt) (A1 := [x]) (A2 := []) (B := Y.drop u) (by simpa using h2)
 rw [List.append_nil] at e2
 rw [e2, mrg_nil_srt hw (srt_append.1 ((List.take_append_drop u Y).symm ▸ hY)).2.1]
 rfl
theorem mrg_last {y : α} {X : List α} {u : Nat} (h1 : ∀ z ∈ X.take u, lt y z = false) (h2 : ∀ z ∈ X.drop u, lt y z = true) : mrg lt X [y] = X.take u ++ y :: X.drop u := by
 have := ins_mid (lt := lt) (x := y) h1 (fun z hz => h2 z (List.mem_of_mem_head? hz))
 rw [List.take_append_drop] at this
 exact this
theorem lo_of (hw : Swo lt) {Y : List α} (hY : srt lt Y) {w : Nat} {x y : α} (e : Y[w]? = some y) (h : lt y x = true) : ∀ z ∈ Y.take (w + 1), lt z x = true := fun z hz => by
 obtain ⟨i, hi, ez⟩ := mem_take_at hz
 exact hw.fl (srt_at_le hw hY ez e (by omega)) h
theorem hi_of (hw : Swo lt) {Y : List α} (hY : srt lt Y) {w : Nat} {x y : α} (e : Y[w]? = some y) (h : lt y x = false) : ∀ z ∈ Y.drop w, lt z x = false := fun z hz => by
 obtain ⟨i, hi, ez⟩ := mem_drop_at hz
 exact hw.ntr (srt_at_le hw hY e ez hi) h
theorem lo_of' (hw : Swo lt) {X : List α} (hX : srt lt X) {w : Nat} {x y : α} (e : X[w]? = some x) (h : lt y x = false) : ∀ z ∈ X.take (w + 1), lt y z = false := fun z hz => by
 obtain ⟨i, hi, ez⟩ := mem_take_at hz
 exact hw.ntr h (srt_at_le hw hX ez e (by omega))
theorem hi_of' (hw : Swo lt) {X : List α} (hX : srt lt X) {w : Nat} {x y : α} (e : X[w]? = some x) (h : lt y x = true) : ∀ z ∈ X.drop w, lt y z = true := fun z hz => by
 obtain ⟨i, hi, ez⟩ := mem_drop_at hz
 exact hw.lf h (srt_at_le hw hX e ez hi)
end Srt
theorem shr1 {k : Int} : (if (1 : Int) < 0 then none else some (Value.int IntKind.u64 (k.fdiv (2 ^ min (Int.toNat 1) 64)))) = some (Value.int IntKind.u64 (k.fdiv 2)) := by rw [if_neg (by decide)]; rfl
theorem u64_wrap {n : Int} (h1 : 0 ≤ n) (h2 : n ≤ 9223372036854775807) : IntKind.u64.wrap n = n := by
 simp only [IntKind.wrap, IntKind.signed, IntKind.bits, Bool.false_and, Bool.false_eq_true, if_false]
 omega
theorem half_of {i j : Nat} (h : i + j ≤ 9223372036854775807) : (IntKind.u64.wrap (IntKind.i64.wrap ((i : Int) + (j : Int)))).fdiv 2 = (((i + j) / 2 : Nat) : Int) := by
 rw [wN h, u64_wrap (by omega) (by omega), Int.fdiv_eq_ediv_of_nonneg _ (by omega)]
 omega
theorem wK {k : Nat} (h : k ≤ 9223372036854775807) : IntKind.i64.wrap (k : Int) = (k : Int) := wI (by omega) (by omega)
def SymI (lt : GFound → GFound → Bool) (X Y : List GFound) (M u0 v0 u v : Nat) : Prop :=
 u0 ≤ u ∧ u ≤ v ∧ v ≤ v0 ∧ (u = 0 ∨ Y.length ≤ M - u ∨ ∃ y x, Y[M - u]? = some y ∧ X[u - 1]? = some x ∧ lt y x = false) ∧
  (v = M ∨ v = X.length ∨ ∃ y x, Y[M - 1 - v]? = some y ∧ X[v]? = some x ∧ lt y x = true)
theorem SymI.fin {lt : GFound → GFound → Bool} (hw : Srt.Swo lt) {X Y : List GFound} {M u0 v0 u : Nat} (h : SymI lt X Y M u0 v0 u u) (hX : Srt.srt lt X) (hY : Srt.srt lt Y) (q2 : v0 ≤ M) (q3 : v0 ≤ X.length) (q4 : M ≤ u0 + Y.length) :
  ∃ A1 A2 B1 B2, X = A1 ++ A2 ∧ Y = B1 ++ B2 ∧ A1.length = u ∧ B1.length = M - u ∧ u ≤ M ∧ Srt.mrg lt X Y = Srt.mrg lt A1 B1 ++ Srt.mrg lt A2 B2 ∧ Srt.srt lt A1 ∧ Srt.srt lt A2 ∧ Srt.srt lt B1 ∧ Srt.srt lt B2 := by
 obtain ⟨h1, h2, h3, h4, h5⟩ := h
 have e := Srt.mrg_sym hw hX hY (by omega) (by omega) h4 h5
 have sX := Srt.srt_append.1 ((List.take_append_drop u X).symm ▸ hX)
 have sY := Srt.srt_append.1 ((List.take_append_drop (M - u) Y).symm ▸ hY)
 exact ⟨X.take u, X.drop u, Y.take (M - u), Y.drop (M - u), (List.take_append_drop _ _).symm, (List.take_append_drop _ _).symm, by simp; omega, by simp; omega, by omega, e, sX.1, sX.2.1, sY.1, sY.2.1⟩
theorem sym7 {u l2 k l4 M : Nat} (hk : k = M - u) (huM : u ≤ M) (hM : M = (u + l2 + (k + l4)) / 2) (hX : 2 ≤ u + l2) (hY : 2 ≤ k + l4) :
  (0 < u ∧ 0 < l2 ∧ 0 < k ∧ 0 < l4) ∨ (u = 0 ∧ 0 < l2 ∧ 0 < k ∧ 0 < l4) ∨ (0 < u ∧ l2 = 0 ∧ 0 < k ∧ 0 < l4) ∨ (0 < u ∧ 0 < l2 ∧ k = 0 ∧ 0 < l4) ∨ (0 < u ∧ 0 < l2 ∧ 0 < k ∧ l4 = 0) ∨ (u = 0 ∧ 0 < l2 ∧ 0 < k ∧ l4 = 0) ∨ (0 < u ∧ l2 = 0 ∧ k = 0 ∧ 0 < l4) := by omega
theorem lt_yes {i j : Nat} (k : Nat) (h : j = i + k) (hk : 0 < k) : (i : Int) < (j : Int) := by omega
theorem lt_no {i j : Nat} (k : Nat) (h : j = i + k) (hk : k = 0) : ¬ (i : Int) < (j : Int) := by omega
theorem symL (lt : GFound → GFound → Bool) {P A1 A2 B1 B2 Q : List GFound} {a m b M u N n : Nat} (ha : P.length = a) (hA1 : A1.length = u) (hB1 : B1.length = M - u) (huM : u ≤ M) (hm : m = a + (A1 ++ A2).length) (hb : b = m + (B1 ++ B2).length)
  (hN : (P ++ (A1 ++ A2) ++ (B1 ++ B2) ++ Q).length = N) (hM : M = ((A1 ++ A2).length + (B1 ++ B2).length) / 2) (hn : (A1 ++ A2).length + (B1 ++ B2).length ≤ n + 1) (h1 : ¬ ((m - a : Nat) : Int) = 1) (h2 : ¬ ((b - m : Nat) : Int) = 1) (hX : 0 < (A1 ++ A2).length) (hY : 0 < (B1 ++ B2).length) :
  ((P ++ A1 ++ B1 ++ A2 ++ (B2 ++ Q)).length = N ∧ (P ++ A1 ++ A2 ++ B1 ++ (B2 ++ Q)).length = N ∧ (P ++ A1 ++ B1 ++ (A2 ++ (B2 ++ Q))).length = N ∧ (P ++ Srt.mrg lt A1 B1 ++ A2 ++ B2 ++ Q).length = N ∧ (P ++ Srt.mrg lt A1 B1 ++ (A2 ++ (B2 ++ Q))).length = N ∧ (P ++ Srt.mrg lt A1 B1 ++ Srt.mrg lt A2 B2 ++ Q).length = N) ∧
  ((P ++ A1).length = a + u ∧ (P ++ A1 ++ A2).length = m ∧ (P ++ A1 ++ A2 ++ B1).length = m + (M - u) ∧ (P ++ A1 ++ B1).length = a + M ∧ (P ++ Srt.mrg lt A1 B1).length = a + M ∧ (P ++ Srt.mrg lt A1 B1 ++ A2).length = m + (M - u) ∧ (P ++ Srt.mrg lt A1 B1 ++ A2 ++ B2).length = b) ∧
  A1.length + B1.length ≤ n ∧ A2.length + B2.length ≤ n ∧
  (m = a + u + A2.length ∧ m + (M - u) = m + B1.length ∧ a + u = a + A1.length ∧ a + M = a + u + B1.length ∧ m + (M - u) = a + M + A2.length ∧ b = m + (M - u) + B2.length) ∧
  ((0 < A1.length ∧ 0 < A2.length ∧ 0 < B1.length ∧ 0 < B2.length) ∨ (A1.length = 0 ∧ 0 < A2.length ∧ 0 < B1.length ∧ 0 < B2.length) ∨ (0 < A1.length ∧ A2.length = 0 ∧ 0 < B1.length ∧ 0 < B2.length) ∨ (0 < A1.length ∧ 0 < A2.length ∧ B1.length = 0 ∧ 0 < B2.length) ∨ (0 < A1.length ∧ 0 < A2.length ∧ 0 < B1.length ∧ B2.length = 0) ∨ (A1.length = 0 ∧ 0 < A2.length ∧ 0 < B1.length ∧ B2.length = 0) ∨ (0 < A1.length ∧ A2.length = 0 ∧ B1.length = 0 ∧ 0 < B2.length)) := by
 simp only [List.length_append, Srt.len_mrg] at *
 have h7 := sym7 (u := A1.length) (l2 := A2.length) (k := B1.length) (l4 := B2.length) (M := M) (by omega) (by omega) (by omega) (by omega) (by omega)
 refine ⟨⟨?_, ?_, ?_, ?_, ?_, ?_⟩, ⟨?_, ?_, ?_, ?_, ?_, ?_, ?_⟩, ?_, ?_, ⟨?_, ?_, ?_, ?_, ?_, ?_⟩, h7⟩ <;> clear h7 <;> omega
def m_slices_symMergeCmpFunc_impl_Found : MC :=
(.seq (.seq (pr [.mv 25 (.s 2), .mv 26 (.s 1), .bin 27 false .sub (.s 25) (.s 26), .bin 28 false .eql (.s 27) (ci 1)] [0,1,2,3,4,28])
(.cond (.s 28) (.seq (pr [.mv 29 (.s 2), .mv 10 (.s 29)] [0,1,3,4,10])
(.seq (pr [.mv 30 (.s 3), .mv 11 (.s 30)] [0,1,4,10,11])
(.seq (.block 0 (.loop ([0,1,4,10,11], []) (.seq (.seq (pr [.mv 31 (.s 10), .mv 32 (.s 11), .bin 33 false .lss (.s 31) (.s 32)] [0,1,4,10,11,33])
(.cond (.s 33) .skip (.exit 0)))
(.block 1 (.seq (pr [.mv 34 (.s 10), .mv 35 (.s 11), .bin 36 false .add (.s 34) (.s 35), .convI 37 .u64 (.s 36), .bin 38 false .shr (.s 37) (.c (.int .u64 1)), .convI 39 .i64 (.s 38), .mv 12 (.s 39)] [0,1,4,10,11,12])
(.seq (.dreg [Zc [41,42,43,44,45,46,47,48] (.mv 40 (.s 4)), Zc [40,42,45,46,47,48] (.mv 41 (.s 0)), Zc [40,41,45,46,47,48] (.mv 42 (.s 12)), Zd [40,45,46,47,48] [1,2] (.idx 43 6 (.s 41) (.s 42)), Zd [40,45,46,47,48] [1,2,3] (.load 44 true 6 (.s 43)), Zc [40,41,42,43,44,46] (.mv 45 (.s 0)), Zc [40,41,42,43,44,45] (.mv 46 (.s 1)), Zd [40,41,42,43,44] [5,6] (.idx 47 6 (.s 45) (.s 46)), Zd [40,41,42,43,44] [5,6,7] (.load 48 true 6 (.s 47)), Ze (.range 9) (.call 49 [] (.s 40) [.s 44, .s 48]), Ze (.range 10) (.bin 50 false .lss (.s 49) (ci 0))] [0,1,4,10,11,12,50])
(.cond (.s 50) (pr [.mv 51 (.s 12), .bin 52 false .add (.s 51) (ci 1), .mv 10 (.s 52)] [0,1,4,10,11]) (pr [.mv 53 (.s 12), .mv 11 (.s 53)] [0,1,4,10,11]))))))))
(.seq (.seq (pr [.mv 54 (.s 1), .mv 13 (.s 54)] [0,10,13])
(.block 2 (.loop ([0,10,13], []) (.seq (.seq (pr [.mv 55 (.s 13), .mv 56 (.s 10), .bin 57 false .sub (.s 56) (ci 1), .bin 58 false .lss (.s 55) (.s 57)] [0,10,13,58])
(.cond (.s 58) .skip (.exit 2)))
(.seq (.block 3 (.dreg [Zc [62,63,64,65,66,67,68,69,70,71,72,73,74] (.mv 61 (.s 0)), Zc [61,63,64,65,66,67,68,69,70,71,72,73,74] (.mv 62 (.s 13)), Zf [61,62,64,65,66,67,68,69,70,71,72,73,74,75] [0] (.mv 63 (.s 0)), Zf [61,62,63,66,67,68,69,70,71,72,73,74,75] [0] (.mv 64 (.s 13)), Zg [61,62,63,66,67,68,69,70,71,72,73,74,75] [0] [3] (.bin 65 false .add (.s 64) (ci 1)), Zc [61,62,63,64,65,67,68,71,72,73,74] (.mv 66 (.s 0)), Zc [61,62,63,64,65,66,71,72,73,74] (.mv 67 (.s 13)), Zd [61,62,63,64,65,66,71,72,73,74] [6] (.bin 68 false .add (.s 67) (ci 1)), Zd [61,62,63,64,65,71,72,73,74] [5,6,7] (.idx 69 6 (.s 66) (.s 68)), Zd [61,62,63,64,65,71,72,73,74] [5,6,7,8] (.load 70 true 6 (.s 69)), Zc [61,62,63,64,65,66,67,68,69,70,72] (.mv 71 (.s 0)), Zc [61,62,63,64,65,66,67,68,69,70,71] (.mv 72 (.s 13)), Zd [61,62,63,64,65,66,67,68,69,70] [10,11] (.idx 73 6 (.s 71) (.s 72)), Zd [61,62,63,64,65,66,67,68,69,70] [10,11,12] (.load 74 true 6 (.s 73)), Zd [63,64,65] [0,1,5,6,7,8,9,10,11,12,13] (.idx 75 6 (.s 61) (.s 62)), { o := .store 6 (.s 75) (.s 70), hs := [63,64,65], ws := [0], bf := [0,1,5,6,7,8,9,10,11,12,13,14] }, Ze (.range 16) (.idx 76 6 (.s 63) (.s 65)), { o := .store 6 (.s 76) (.s 74), ws := [0], bf := (.range 17) }] [0,10,13]))
(pr [.mv 59 (.s 13), .bin 60 false .add (.s 59) (ci 1), .mv 13 (.s 60)] [0,10,13]))))))
.ret)))) .skip))
(.seq (.seq (pr [.mv 77 (.s 3), .mv 78 (.s 2), .bin 79 false .sub (.s 77) (.s 78), .bin 80 false .eql (.s 79) (ci 1)] [0,1,2,3,4,80])
(.cond (.s 80) (.seq (pr [.mv 81 (.s 1), .mv 14 (.s 81)] [0,2,4,14])
(.seq (pr [.mv 82 (.s 2), .mv 15 (.s 82)] [0,2,4,14,15])
(.seq (.block 4 (.loop ([0,2,4,14,15], []) (.seq (.seq (pr [.mv 83 (.s 14), .mv 84 (.s 15), .bin 85 false .lss (.s 83) (.s 84)] [0,2,4,14,15,85])
(.cond (.s 85) .skip (.exit 4)))
(.block 5 (.seq (pr [.mv 86 (.s 14), .mv 87 (.s 15), .bin 88 false .add (.s 86) (.s 87), .convI 89 .u64 (.s 88), .bin 90 false .shr (.s 89) (.c (.int .u64 1)), .convI 91 .i64 (.s 90), .mv 16 (.s 91)] [0,2,4,14,15,16])
(.seq (.dreg [Zc [93,94,95,96,97,98,99,100] (.mv 92 (.s 4)), Zc [92,94,97,98,99,100] (.mv 93 (.s 0)), Zc [92,93,97,98,99,100] (.mv 94 (.s 2)), Zd [92,97,98,99,100] [1,2] (.idx 95 6 (.s 93) (.s 94)), Zd [92,97,98,99,100] [1,2,3] (.load 96 true 6 (.s 95)), Zc [92,93,94,95,96,98] (.mv 97 (.s 0)), Zc [92,93,94,95,96,97] (.mv 98 (.s 16)), Zd [92,93,94,95,96] [5,6] (.idx 99 6 (.s 97) (.s 98)), Zd [92,93,94,95,96] [5,6,7] (.load 100 true 6 (.s 99)), Ze (.range 9) (.call 101 [] (.s 92) [.s 96, .s 100]), Ze (.range 10) (.bin 102 false .lss (.s 101) (ci 0)), Ze (.range 11) (.un 103 .not (.s 102))] [0,2,4,14,15,16,103])
(.cond (.s 103) (pr [.mv 104 (.s 16), .bin 105 false .add (.s 104) (ci 1), .mv 14 (.s 105)] [0,2,4,14,15]) (pr [.mv 106 (.s 16), .mv 15 (.s 106)] [0,2,4,14,15]))))))))
(.seq (.seq (pr [.mv 107 (.s 2), .mv 17 (.s 107)] [0,14,17])
(.block 6 (.loop ([0,14,17], []) (.seq (.seq (pr [.mv 108 (.s 17), .mv 109 (.s 14), .bin 110 false .gtr (.s 108) (.s 109)] [0,14,17,110])
(.cond (.s 110) .skip (.exit 6)))
(.seq (.block 7 (.dreg [Zc [114,115,116,117,118,119,120,121,122,123,124,125,126] (.mv 113 (.s 0)), Zc [113,115,116,117,118,119,120,121,122,123,124,125,126] (.mv 114 (.s 17)), Zf [113,114,116,117,118,119,120,121,122,123,124,125,126,127] [0] (.mv 115 (.s 0)), Zf [113,114,115,118,119,120,121,122,123,124,125,126,127] [0] (.mv 116 (.s 17)), Zg [113,114,115,118,119,120,121,122,123,124,125,126,127] [0] [3] (.bin 117 false .sub (.s 116) (ci 1)), Zc [113,114,115,116,117,119,120,123,124,125,126] (.mv 118 (.s 0)), Zc [113,114,115,116,117,118,123,124,125,126] (.mv 119 (.s 17)), Zd [113,114,115,116,117,118,123,124,125,126] [6] (.bin 120 false .sub (.s 119) (ci 1)), Zd [113,114,115,116,117,123,124,125,126] [5,6,7] (.idx 121 6 (.s 118) (.s 120)), Zd [113,114,115,116,117,123,124,125,126] [5,6,7,8] (.load 122 true 6 (.s 121)), Zc [113,114,115,116,117,118,119,120,121,122,124] (.mv 123 (.s 0)), Zc [113,114,115,116,117,118,119,120,121,122,123] (.mv 124 (.s 17)), Zd [113,114,115,116,117,118,119,120,121,122] [10,11] (.idx 125 6 (.s 123) (.s 124)), Zd [113,114,115,116,117,118,119,120,121,122] [10,11,12] (.load 126 true 6 (.s 125)), Zd [115,116,117] [0,1,5,6,7,8,9,10,11,12,13] (.idx 127 6 (.s 113) (.s 114)), { o := .store 6 (.s 127) (.s 122), hs := [115,116,117], ws := [0], bf := [0,1,5,6,7,8,9,10,11,12,13,14] }, Ze (.range 16) (.idx 128 6 (.s 115) (.s 117)), { o := .store 6 (.s 128) (.s 126), ws := [0], bf := (.range 17) }] [0,14,17]))
(pr [.mv 111 (.s 17), .bin 112 false .sub (.s 111) (ci 1), .mv 17 (.s 112)] [0,14,17]))))))
.ret)))) .skip))
(.seq (pr [.mv 129 (.s 1), .mv 130 (.s 3), .bin 131 false .add (.s 129) (.s 130), .convI 132 .u64 (.s 131), .bin 133 false .shr (.s 132) (.c (.int .u64 1)), .convI 134 .i64 (.s 133), .mv 18 (.s 134)] [0,1,2,3,4,18])
(.seq (pr [.mv 135 (.s 18), .mv 136 (.s 2), .bin 137 false .add (.s 135) (.s 136), .mv 19 (.s 137)] [0,1,2,3,4,18,19])
(.seq (pr [.mv 20 (ci 0), .mv 21 (ci 0)] [0,1,2,3,4,18,19])
(.seq (.seq (pr [.mv 138 (.s 2), .mv 139 (.s 18), .bin 140 false .gtr (.s 138) (.s 139)] [0,1,2,3,4,18,19,140])
(.cond (.s 140) (.seq (pr [.mv 141 (.s 19), .mv 142 (.s 3), .bin 143 false .sub (.s 141) (.s 142), .mv 20 (.s 143)] [0,1,2,3,4,18,19,20])
(pr [.mv 144 (.s 18), .mv 21 (.s 144)] [0,1,2,3,4,18,19,20,21])) (.seq (pr [.mv 145 (.s 1), .mv 20 (.s 145)] [0,1,2,3,4,18,19,20])
(pr [.mv 146 (.s 2), .mv 21 (.s 146)] [0,1,2,3,4,18,19,20,21]))))
(.seq (pr [.mv 147 (.s 19), .bin 148 false .sub (.s 147) (ci 1), .mv 22 (.s 148)] [0,1,2,3,4,18,19,20,21,22])
(.seq (.block 8 (.loop ([0,1,2,3,4,18,19,20,21,22], []) (.seq (.seq (pr [.mv 149 (.s 20), .mv 150 (.s 21), .bin 151 false .lss (.s 149) (.s 150)] [0,1,2,3,4,18,19,20,21,22,151])
(.cond (.s 151) .skip (.exit 8)))
(.block 9 (.seq (pr [.mv 152 (.s 20), .mv 153 (.s 21), .bin 154 false .add (.s 152) (.s 153), .convI 155 .u64 (.s 154), .bin 156 false .shr (.s 155) (.c (.int .u64 1)), .convI 157 .i64 (.s 156), .mv 23 (.s 157)] [0,1,2,3,4,18,19,20,21,22,23])
(.seq (.dreg [Zc [159,160,161,162,163,164,165,166,167,168] (.mv 158 (.s 4)), Zc [158,160,161,162,165,166,167,168] (.mv 159 (.s 0)), Zc [158,159,161,165,166,167,168] (.mv 160 (.s 22)), Zc [158,159,160,165,166,167,168] (.mv 161 (.s 23)), Zd [158,159,165,166,167,168] [2,3] (.bin 162 false .sub (.s 160) (.s 161)), Zd [158,165,166,167,168] [1,2,3,4] (.idx 163 6 (.s 159) (.s 162)), Zd [158,165,166,167,168] [1,2,3,4,5] (.load 164 true 6 (.s 163)), Zc [158,159,160,161,162,163,164,166] (.mv 165 (.s 0)), Zc [158,159,160,161,162,163,164,165] (.mv 166 (.s 23)), Zd [158,159,160,161,162,163,164] [7,8] (.idx 167 6 (.s 165) (.s 166)), Zd [158,159,160,161,162,163,164] [7,8,9] (.load 168 true 6 (.s 167)), Ze (.range 11) (.call 169 [] (.s 158) [.s 164, .s 168]), Ze (.range 12) (.bin 170 false .lss (.s 169) (ci 0)), Ze (.range 13) (.un 171 .not (.s 170))] [0,1,2,3,4,18,19,20,21,22,23,171])
(.cond (.s 171) (pr [.mv 172 (.s 23), .bin 173 false .add (.s 172) (ci 1), .mv 20 (.s 173)] [0,1,2,3,4,18,19,20,21,22]) (pr [.mv 174 (.s 23), .mv 21 (.s 174)] [0,1,2,3,4,18,19,20,21,22]))))))))
(.seq (pr [.mv 175 (.s 19), .mv 176 (.s 20), .bin 177 false .sub (.s 175) (.s 176), .mv 24 (.s 177)] [0,1,2,3,4,18,20,24])
(.seq (.seq (.reg [Za (.mv 178 (.s 20)), Za (.mv 179 (.s 2)), Za (.bin 180 false .lss (.s 178) (.s 179)), Za (.mv 181 (.s 180)), Zb 181 true (.mv 182 (.s 2)), Zb 181 true (.mv 183 (.s 24)), Zb 181 true (.bin 184 false .lss (.s 182) (.s 183)), Za (.pick 185 (.s 181) (.s 184) cF)] [0,1,2,3,4,18,20,24,185])
(.cond (.s 185) (pr [.mv 186 (.s 0), .mv 187 (.s 20), .mv 188 (.s 2), .mv 189 (.s 24), .mv 190 (.s 4), .callI 191 [] (.f n_slices_rotateCmpFunc_impl_Found) [.s 186, .s 187, .s 188, .s 189, .s 190] [0] []] [0,1,3,4,18,20,24]) .skip))
(.seq (.seq (.reg [Za (.mv 192 (.s 1)), Za (.mv 193 (.s 20)), Za (.bin 194 false .lss (.s 192) (.s 193)), Za (.mv 195 (.s 194)), Zb 195 true (.mv 196 (.s 20)), Zb 195 true (.mv 197 (.s 18)), Zb 195 true (.bin 198 false .lss (.s 196) (.s 197)), Za (.pick 199 (.s 195) (.s 198) cF)] [0,1,3,4,18,20,24,199])
(.cond (.s 199) (pr [.mv 200 (.s 0), .mv 201 (.s 1), .mv 202 (.s 20), .mv 203 (.s 18), .mv 204 (.s 4), .callI 205 [] (.f n_slices_symMergeCmpFunc_impl_Found) [.s 200, .s 201, .s 202, .s 203, .s 204] [0] []] [0,3,4,18,24]) .skip))
(.seq (.reg [Za (.mv 206 (.s 18)), Za (.mv 207 (.s 24)), Za (.bin 208 false .lss (.s 206) (.s 207)), Za (.mv 209 (.s 208)), Zb 209 true (.mv 210 (.s 24)), Zb 209 true (.mv 211 (.s 3)), Zb 209 true (.bin 212 false .lss (.s 210) (.s 211)), Za (.pick 213 (.s 209) (.s 212) cF)] [0,3,4,18,24,213])
(.cond (.s 213) (pr [.mv 214 (.s 0), .mv 215 (.s 18), .mv 216 (.s 24), .mv 217 (.s 3), .mv 218 (.s 4), .callI 219 [] (.f n_slices_symMergeCmpFunc_impl_Found) [.s 214, .s 215, .s 216, .s 217, .s 218] [0] []] []) .skip)))))))))))))
set_option maxHeartbeats 4000000 in
theorem c_slices_symMergeCmpFunc (f : FuncId) (c : GFound → GFound → Int) (hc : ∀ x y, Ctr Tryz.prog f [aS x.enc, aS y.enc] [rI (c x y)]) (hw : Srt.Swo (ltc c)) (n : Nat) : ∀ (P X Y Q : List GFound) {a m b : Nat}, X.length + Y.length ≤ n → P.length = a → (P ++ X).length = m → (P ++ X ++ Y).length = b → 0 < X.length → 0 < Y.length → Srt.srt (ltc c) X → Srt.srt (ltc c) Y →
  CtrI Tryz.prog n_slices_symMergeCmpFunc_impl_Found [oL 6 ((P ++ X ++ Y ++ Q).map GFound.enc), iI a, iI m, iI b, fI f] [some (6, (P ++ Srt.mrg (ltc c) X Y ++ Q).map GFound.enc)] [] := by
 induction n with
 | zero => intro P X Y Q a m b hn _ _ _ hX; omega
 | succ n ih =>
  intro P X Y Q a m b hn ha hm hb hX hY sX sY
  have hN2 : (P ++ Srt.mrg (ltc c) X Y ++ Q).length = (P ++ X ++ Y ++ Q).length := by simp [Srt.len_mrg]; omega
  refine ctrI_at (M := m_slices_symMergeCmpFunc_impl_Found) (m := 0) (n := 220) (res := []) hmix Tryz.func423 rfl (by kernel_rfl) rfl (by kernel_rfl) (by kernel_rfl) (Nat.le_of_ble_eq_true rfl) rfl rfl ?_; unfold m_slices_symMergeCmpFunc_impl_Found
  intro hbd
  have hl := len_of_bd hbd
  clear hbd
  have hm' : m = a + X.length := by rw [← hm, ← ha]; simp
  have hb' : b = m + Y.length := by rw [← hb, ← hm]; simp; omega
  have hbN : b ≤ (P ++ X ++ Y ++ Q).length := by rw [List.length_append, hb]; omega
  generalize hN : (P ++ X ++ Y ++ Q).length = N at *
  simp only [roomB] at hl
  simp only [↓reduceIte, go_sem, hN, wS (a := m) (b := a) (by omega) (by omega)]
  refine ⟨fun h1 => ?_, fun h1 => ?_⟩
  ·obtain ⟨x, rfl⟩ : ∃ x, X = [x] := List.length_eq_one_iff.1 (by omega)
   simp only [List.length_cons, List.length_nil] at hm' hn
   have hxa : (P ++ [x] ++ Y ++ Q)[a]? = some x := by rw [← ha]; simp
   have hya : ∀ w, w < Y.length → (P ++ [x] ++ Y ++ Q)[m + w]? = Y[w]? := fun w hw => by
    rw [List.append_assoc, List.getElem?_append_right (by simp; omega), List.getElem?_append_left (by simp; omega)]
    congr 1; simp; omega
   refine loopK_up (ι := Nat × Nat) (fun s => [(10, vI ((m + s.1 : Nat) : Int)), (11, vI ((m + s.2 : Nat) : Int))]) (fun s => []) (fun s => s.1 ≤ s.2 ∧ s.2 ≤ Y.length ∧ (∀ y ∈ Y.take s.1, ltc c y x = true) ∧ (∀ y ∈ Y.drop s.2, ltc c y x = false)) (fun s => s.2 - s.1) (0, Y.length) ?_
   simp only [↓reduceIte, go_sem]
   refine ⟨?_, ⟨by omega, by omega, by simp, by simp⟩, ?_⟩
   ·simp only [↓reduceIte, go_sem]
    exact ⟨by omega, by omega⟩
   ·rintro ⟨u, v⟩ ⟨i1, i2, i3, i4⟩
    simp only at i1 i2 i3 i4
    simp only [↓reduceIte, go_sem, hN, shr1, half_of (i := m + u) (j := m + v) (by omega)]
    refine ⟨fun hlt => ?_, fun hge => ?_⟩
    ·have hwx : (m + u + (m + v)) / 2 = m + (u + v) / 2 := by omega
     have w1 : u ≤ (u + v) / 2 := by omega
     have w2 : (u + v) / 2 < v := by omega
     rw [hwx]
     generalize (u + v) / 2 = w at w1 w2
     obtain ⟨y, hy⟩ := at_some (show w < Y.length by omega)
     have hyw := (hya w (by omega)).trans hy
     have k1 : (0 : Int) ≤ ((m + w : Nat) : Int) := by omega
     have k2 : ((m + w : Nat) : Int) < (N : Int) := by omega
     have k3 : (0 : Int) ≤ (a : Int) := by omega
     have k4 : (a : Int) < (N : Int) := by omega
     simp only [go_sem, wK (k := m + w) (by omega), k1, k2, k3, k4, bk_eq hyw, bk_eq hxa]
     apply callK_of (hc y x)
     simp only [↓reduceIte, go_sem, wN1 (a := m + w) (by omega)]
     intro _
     refine ⟨fun hn => ⟨(w + 1, v), ⟨rfl, rfl⟩, ⟨by omega, i2, Srt.lo_of hw sY hy (by simpa [ltc] using hn), i4⟩, by omega⟩, fun hn => ⟨(u, w), ⟨rfl, rfl⟩, ⟨w1, by omega, i3, Srt.hi_of hw sY hy (by simpa [ltc] using hn)⟩, by omega⟩⟩
    ·obtain rfl : u = v := by omega
     have hres := Srt.mrg_one hw sY i3 i4
     have hlt : ∀ t, (P ++ (Y.take t ++ x :: Y.drop t) ++ Q).length = N := fun t => by rw [← hN]; simp; omega
     refine loopK_up (fun t : Nat => [(13, vI ((a + t : Nat) : Int))]) (fun t => [(0, ⟨1, .row true 6 ((P ++ (Y.take t ++ x :: Y.drop t) ++ Q).map GFound.enc)⟩)]) (fun t => t ≤ u) (fun t => u - t) 0 ?_
     simp only [↓reduceIte, go_sem]
     refine ⟨?_, by omega, ?_⟩
     ·simp only [↓reduceIte, go_sem]
      simp
     ·intro t ht
      have hs1 : IntKind.i64.wrap (((m + u : Nat) : Int) - 1) = ((a + u : Nat) : Int) := by
       rw [wI (by omega) (by omega)]; omega
      by_cases htu : t < u
      ·obtain ⟨y, hy⟩ := at_some (show t < Y.length by omega)
       have e1 : (P ++ (Y.take t ++ x :: Y.drop t) ++ Q).map GFound.enc = two ((P ++ Y.take t).map GFound.enc) x.enc [] y.enc ((Y.drop (t + 1) ++ Q).map GFound.enc) := by simp [two, drop_cons hy]
       have e2 : (P ++ (Y.take (t + 1) ++ x :: Y.drop (t + 1)) ++ Q).map GFound.enc = two ((P ++ Y.take t).map GFound.enc) y.enc [] x.enc ((Y.drop (t + 1) ++ Q).map GFound.enc) := by simp [two, take_snoc hy]
       have hA : ((P ++ Y.take t).map GFound.enc).length = a + t := by simp; omega
       have hL0 : ∀ p q, (two ((P ++ Y.take t).map GFound.enc) p [] q ((Y.drop (t + 1) ++ Q).map GFound.enc)).length = N := fun p q => by
        rw [← hlt t]; simp [two, drop_cons hy]
       generalize (P ++ Y.take t).map GFound.enc = A at *
       generalize (Y.drop (t + 1) ++ Q).map GFound.enc = C at *
       obtain ⟨g1, g2, s1, s2, hL, d1, d2⟩ := two_at (A := A) (B := []) (C := C) (p := a + t) (q := a + t + 1) hA (by simp)
       have k1 : (0 : Int) ≤ ((a + t : Nat) : Int) := by omega
       have k2 : ((a + t : Nat) : Int) < (N : Int) := by omega
       have k3 : (0 : Int) ≤ ((a + t + 1 : Nat) : Int) := by omega
       have k4 : ((a + t + 1 : Nat) : Int) < (N : Int) := by omega
       have k5 : ((a + t : Nat) : Int) < ((a + u : Nat) : Int) := by omega
       rw [e1]
       simp only [↓reduceIte, go_sem, hs1, hL0, g1, g2, s1, s2, k1, k2, k3, k4, k5, wN1 (a := a + t) (by omega)]
       exact ⟨t + 1, ⟨rfl, e2.symm⟩, by omega, by omega⟩
      ·obtain rfl : t = u := by omega
       simp only [↓reduceIte, go_sem, hs1]
       rw [hres]
  ·simp only [go_sem, wS (a := b) (b := m) (by omega) (by omega)]
   refine ⟨fun h2 => ?_, fun h2 => ?_⟩
   ·obtain ⟨y, rfl⟩ : ∃ y, Y = [y] := List.length_eq_one_iff.1 (by omega)
    simp only [List.length_cons, List.length_nil] at hb' hn
    have hym : (P ++ X ++ [y] ++ Q)[m]? = some y := by rw [← hm]; simp
    have hxa : ∀ w, w < X.length → (P ++ X ++ [y] ++ Q)[a + w]? = X[w]? := fun w hw => by
     rw [List.append_assoc, List.append_assoc, List.getElem?_append_right (by omega), List.getElem?_append_left (by omega)]
     congr 1; omega
    refine loopK_up (ι := Nat × Nat) (fun s => [(14, vI ((a + s.1 : Nat) : Int)), (15, vI ((a + s.2 : Nat) : Int))]) (fun s => []) (fun s => s.1 ≤ s.2 ∧ s.2 ≤ X.length ∧ (∀ z ∈ X.take s.1, ltc c y z = false) ∧ (∀ z ∈ X.drop s.2, ltc c y z = true)) (fun s => s.2 - s.1) (0, X.length) ?_
    simp only [↓reduceIte, go_sem]
    refine ⟨?_, ⟨by omega, by omega, by simp, by simp⟩, ?_⟩
    ·simp only [↓reduceIte, go_sem]
     exact ⟨by omega, by omega⟩
    ·rintro ⟨u, v⟩ ⟨i1, i2, i3, i4⟩
     simp only at i1 i2 i3 i4
     simp only [↓reduceIte, go_sem, hN, shr1, half_of (i := a + u) (j := a + v) (by omega)]
     refine ⟨fun hlt => ?_, fun hge => ?_⟩
     ·have hwx : (a + u + (a + v)) / 2 = a + (u + v) / 2 := by omega
      have w1 : u ≤ (u + v) / 2 := by omega
      have w2 : (u + v) / 2 < v := by omega
      rw [hwx]
      generalize (u + v) / 2 = w at w1 w2
      obtain ⟨x, hx⟩ := at_some (show w < X.length by omega)
      have hxw := (hxa w (by omega)).trans hx
      have k1 : (0 : Int) ≤ ((a + w : Nat) : Int) := by omega
      have k2 : ((a + w : Nat) : Int) < (N : Int) := by omega
      have k3 : (0 : Int) ≤ (m : Int) := by omega
      have k4 : (m : Int) < (N : Int) := by omega
      simp only [go_sem, wK (k := a + w) (by omega), k1, k2, k3, k4, bk_eq hxw, bk_eq hym]
      apply callK_of (hc y x)
      simp only [↓reduceIte, go_sem, wN1 (a := a + w) (by omega)]
      intro _
      refine ⟨fun hn => ⟨(w + 1, v), ⟨rfl, rfl⟩, ⟨by omega, i2, Srt.lo_of' hw sX hx (by simpa [ltc] using hn), i4⟩, by omega⟩, fun hn => ⟨(u, w), ⟨rfl, rfl⟩, ⟨w1, by omega, i3, Srt.hi_of' hw sX hx (by simpa [ltc] using hn)⟩, by omega⟩⟩
     ·obtain rfl : u = v := by omega
      have hres := Srt.mrg_last i3 i4
      have hlt : ∀ t, (P ++ (X.take t ++ y :: X.drop t) ++ Q).length = N := fun t => by rw [← hN]; simp; omega
      refine loopK_up (fun t : Nat => [(17, vI ((a + t : Nat) : Int))]) (fun t => [(0, ⟨1, .row true 6 ((P ++ (X.take t ++ y :: X.drop t) ++ Q).map GFound.enc)⟩)]) (fun t => u ≤ t ∧ t ≤ X.length) (fun t => t - u) X.length ?_
      simp only [↓reduceIte, go_sem]
      refine ⟨?_, ⟨i2, by omega⟩, ?_⟩
      ·simp only [↓reduceIte, go_sem, hm']
       simp
      ·rintro t ⟨ht, ht2⟩
       by_cases htu : u < t
       ·obtain ⟨t, rfl⟩ : ∃ s, t = s + 1 := ⟨t - 1, by omega⟩
        obtain ⟨x, hx⟩ := at_some (show t < X.length by omega)
        have e1 : (P ++ (X.take (t + 1) ++ y :: X.drop (t + 1)) ++ Q).map GFound.enc = two ((P ++ X.take t).map GFound.enc) x.enc [] y.enc ((X.drop (t + 1) ++ Q).map GFound.enc) := by simp [two, take_snoc hx]
        have e2 : (P ++ (X.take t ++ y :: X.drop t) ++ Q).map GFound.enc = two ((P ++ X.take t).map GFound.enc) y.enc [] x.enc ((X.drop (t + 1) ++ Q).map GFound.enc) := by simp [two, drop_cons hx]
        have hA : ((P ++ X.take t).map GFound.enc).length = a + t := by simp; omega
        have hL0 : ∀ p q, (two ((P ++ X.take t).map GFound.enc) p [] q ((X.drop (t + 1) ++ Q).map GFound.enc)).length = N := fun p q => by
         rw [← hlt t]; simp [two, drop_cons hx]
        generalize (P ++ X.take t).map GFound.enc = A at *
        generalize (X.drop (t + 1) ++ Q).map GFound.enc = C at *
        obtain ⟨g1, g2, s1, s2, hL, d1, d2⟩ := two_at (A := A) (B := []) (C := C) (p := a + t) (q := a + t + 1) hA (by simp)
        have k1 : (0 : Int) ≤ ((a + t : Nat) : Int) := by omega
        have k2 : ((a + t : Nat) : Int) < (N : Int) := by omega
        have k3 : (0 : Int) ≤ ((a + t + 1 : Nat) : Int) := by omega
        have k4 : ((a + t + 1 : Nat) : Int) < (N : Int) := by omega
        have k5 : ((a + t + 1 : Nat) : Int) > ((a + u : Nat) : Int) := by omega
        have k6 : IntKind.i64.wrap (((a + t + 1 : Nat) : Int) - 1) = ((a + t : Nat) : Int) := by
         rw [wI (by omega) (by omega)]; omega
        rw [e1, show a + (t + 1) = a + t + 1 from rfl]
        simp only [↓reduceIte, go_sem, hL0, g1, g2, s1, s2, k1, k2, k3, k4, k5, k6]
        exact ⟨t, ⟨rfl, e2.symm⟩, ⟨by omega, by omega⟩, by omega⟩
       ·obtain rfl : t = u := by omega
        simp only [↓reduceIte, go_sem]
        rw [hres]
   ·obtain ⟨M, hM⟩ : ∃ M, M = (X.length + Y.length) / 2 := ⟨_, rfl⟩
    have hmid : (a + b) / 2 = a + M := by omega
    have hxa : ∀ w, w < X.length → (P ++ X ++ Y ++ Q)[a + w]? = X[w]? := fun w hw => by
     rw [List.append_assoc, List.append_assoc, List.getElem?_append_right (by omega), List.getElem?_append_left (by omega)]
     congr 1; omega
    have hya : ∀ w, w < Y.length → (P ++ X ++ Y ++ Q)[m + w]? = Y[w]? := fun w hw => by
     rw [List.append_assoc, List.getElem?_append_right (by omega), List.getElem?_append_left (by omega)]
     congr 1; omega
    simp only [↓reduceIte, go_sem, shr1, half_of (i := a) (j := b) (by omega), hmid, wK (k := a + M) (by omega), wN (a := a + M) (b := m) (by omega)]
    refine ⟨fun h3 => ?_, fun h3 => ?_⟩
    ·have hs : IntKind.i64.wrap (((a + M + m : Nat) : Int) - (b : Int)) = ((a + (M - Y.length) : Nat) : Int) := by
      rw [wI (by omega) (by omega)]; omega
     simp only [go_sem, hs, wS1 (a := a + M + m) (by omega) (by omega)]
     obtain ⟨u0, hu0⟩ : ∃ u, u = M - Y.length := ⟨_, rfl⟩
     obtain ⟨v0, hv0⟩ : ∃ v, v = M := ⟨_, rfl⟩
     rw [← hu0]
     have q1 : u0 ≤ v0 := by omega
     have q2 : v0 ≤ M := by omega
     have q3 : v0 ≤ X.length := by omega
     have q4 : M ≤ u0 + Y.length := by omega
     have q5 : u0 = 0 ∨ Y.length ≤ M - u0 := by omega
     have q6 : v0 = M ∨ v0 = X.length := by omega
     have q7 : a + M = a + v0 := by omega
     refine loopK_up (ι := Nat × Nat) (fun s => [(20, vI ((a + s.1 : Nat) : Int)), (21, vI ((a + s.2 : Nat) : Int))]) (fun s => []) (fun s => SymI (ltc c) X Y M u0 v0 s.1 s.2) (fun s => s.2 - s.1) (u0, v0) ?_
     simp only [↓reduceIte, go_sem]
     refine ⟨?_, ⟨by omega, q1, by omega, q5.imp_right .inl, q6.imp_right .inl⟩, ?_⟩
     ·simp only [↓reduceIte, go_sem]
      first | exact ⟨by omega, by omega⟩ | omega
     ·rintro ⟨u, v⟩ hI
      obtain ⟨i1, i2, i3, i4, i5⟩ := hI
      simp only at i1 i2 i3 i4 i5
      simp only [↓reduceIte, go_sem, hN, shr1, half_of (i := a + u) (j := a + v) (by omega)]
      refine ⟨fun hlt => ?_, fun hge => ?_⟩
      ·have hwx : (a + u + (a + v)) / 2 = a + (u + v) / 2 := by omega
       have w1 : u ≤ (u + v) / 2 := by omega
       have w2 : (u + v) / 2 < v := by omega
       rw [hwx]
       generalize (u + v) / 2 = w at w1 w2
       have hpc : IntKind.i64.wrap (((a + M + m - 1 : Nat) : Int) - ((a + w : Nat) : Int)) = ((m + (M - 1 - w) : Nat) : Int) := by
        rw [wI (by omega) (by omega)]; omega
       obtain ⟨x, hx⟩ := at_some (show w < X.length by omega)
       obtain ⟨y, hy⟩ := at_some (show M - 1 - w < Y.length by omega)
       have hxw := (hxa w (by omega)).trans hx
       have hyw := (hya (M - 1 - w) (by omega)).trans hy
       have k1 : (0 : Int) ≤ ((a + w : Nat) : Int) := by omega
       have k2 : ((a + w : Nat) : Int) < (N : Int) := by omega
       have k3 : (0 : Int) ≤ ((m + (M - 1 - w) : Nat) : Int) := by omega
       have k4 : ((m + (M - 1 - w) : Nat) : Int) < (N : Int) := by omega
       simp only [go_sem, wK (k := a + w) (by omega), hpc, k1, k2, k3, k4, bk_eq hxw, bk_eq hyw]
       apply callK_of (hc y x)
       simp only [↓reduceIte, go_sem, wN1 (a := a + w) (by omega)]
       intro _
       refine ⟨fun hn => ⟨(w + 1, v), ⟨rfl, rfl⟩, ⟨by omega, by omega, i3, .inr (.inr ⟨y, x, by rw [show M - (w + 1) = M - 1 - w by omega]; exact hy, hx, by simpa [ltc] using hn⟩), i5⟩, by show v - (w + 1) < v - u; omega⟩, fun hn => ⟨(u, w), ⟨rfl, rfl⟩, ⟨i1, w1, by omega, i4, .inr (.inr ⟨y, x, hy, hx, by simpa [ltc] using hn⟩)⟩, by show w - u < v - u; omega⟩⟩
      ·obtain rfl : u = v := by omega
       obtain ⟨A1, A2, B1, B2, rfl, rfl, hA1, hB1, huM, hres, t1, t2, t3, t4⟩ := SymI.fin hw ⟨i1, i2, i3, i4, i5⟩ sX sY q2 q3 q4
       have hend : IntKind.i64.wrap (((a + M + m : Nat) : Int) - ((a + u : Nat) : Int)) = ((m + (M - u) : Nat) : Int) := by
        rw [wI (by omega) (by omega)]; omega
       have r0 : P ++ (A1 ++ A2) ++ (B1 ++ B2) ++ Q = (P ++ A1) ++ A2 ++ B1 ++ (B2 ++ Q) := by simp
       have r1 : (P ++ A1) ++ B1 ++ A2 ++ (B2 ++ Q) = P ++ A1 ++ B1 ++ (A2 ++ (B2 ++ Q)) := by simp
       have r2 : A2.length = 0 ∨ B1.length = 0 → P ++ (A1 ++ A2) ++ (B1 ++ B2) ++ Q = P ++ A1 ++ B1 ++ (A2 ++ (B2 ++ Q)) := fun h => by
        rcases h with h | h
        ·rw [List.length_eq_zero_iff.1 h]; simp
        ·rw [List.length_eq_zero_iff.1 h]; simp
       have r3 : A1.length = 0 ∨ B1.length = 0 → P ++ A1 ++ B1 ++ (A2 ++ (B2 ++ Q)) = (P ++ Srt.mrg (ltc c) A1 B1) ++ A2 ++ B2 ++ Q := fun h => by
        rcases h with h | h
        ·rw [List.length_eq_zero_iff.1 h, Srt.mrg_nil_srt hw t3]; simp
        ·rw [List.length_eq_zero_iff.1 h, Srt.mrg_nil]; simp
       have r4 : P ++ Srt.mrg (ltc c) A1 B1 ++ (A2 ++ (B2 ++ Q)) = (P ++ Srt.mrg (ltc c) A1 B1) ++ A2 ++ B2 ++ Q := by simp
       have r5 : A2.length = 0 ∨ B2.length = 0 → (P ++ Srt.mrg (ltc c) A1 B1) ++ A2 ++ B2 ++ Q = (P ++ Srt.mrg (ltc c) A1 B1) ++ Srt.mrg (ltc c) A2 B2 ++ Q := fun h => by
        rcases h with h | h
        ·rw [List.length_eq_zero_iff.1 h, Srt.mrg_nil_srt hw t4]; simp
        ·rw [List.length_eq_zero_iff.1 h, Srt.mrg_nil]; simp
       have r6 : P ++ Srt.mrg (ltc c) (A1 ++ A2) (B1 ++ B2) ++ Q = (P ++ Srt.mrg (ltc c) A1 B1) ++ Srt.mrg (ltc c) A2 B2 ++ Q := by rw [hres]; simp
       obtain ⟨⟨l0, l1, l2, l3, l4, l5⟩, ⟨L1, L2, L3, L4, L5, L6, L7⟩, hn1, hn2, ⟨eA, eB, eC, eD, eE, eF⟩, h7⟩ := symL (ltc c) ha hA1 hB1 huM hm' hb' hN hM hn h1 h2 hX hY
       clear hxa hya hres i4 i5
       rcases h7 with ⟨z1, z2, z3, z4⟩ | ⟨z1, z2, z3, z4⟩ | ⟨z1, z2, z3, z4⟩ | ⟨z1, z2, z3, z4⟩ | ⟨z1, z2, z3, z4⟩ | ⟨z1, z2, z3, z4⟩ | ⟨z1, z2, z3, z4⟩
       ·have fA := lt_yes A2.length eA z2
        have fB := lt_yes B1.length eB z3
        have fC := lt_yes A1.length eC z1
        have fD := lt_yes B1.length eD z3
        have fE := lt_yes A2.length eE z2
        have fF := lt_yes B2.length eF z4
        simp only [go_sem, hend, fA, fB, fC, fD, fE, fF]
        rw [r0]
        apply callIK_of (c_slices_rotateCmpFunc (P ++ A1) A2 B1 (B2 ++ Q) f L1 L2 L3 z2 z3)
        simp only [↓reduceIte, go_sem, fC, fD, l0]
        rw [r1]
        apply callIK_of (ih P A1 B1 (A2 ++ (B2 ++ Q)) hn1 ha L1 L4 z1 z3 t1 t3)
        simp only [↓reduceIte, go_sem, fE, fF, l4]
        rw [r4]
        apply callIK_of (ih (P ++ Srt.mrg (ltc c) A1 B1) A2 B2 Q hn2 L5 L6 L7 z2 z4 t2 t4)
        simp only [↓reduceIte, go_sem]
        rw [r6]
       ·have fA := lt_yes A2.length eA z2
        have fB := lt_yes B1.length eB z3
        have fC := lt_no A1.length eC z1
        have fD := lt_yes B1.length eD z3
        have fE := lt_yes A2.length eE z2
        have fF := lt_yes B2.length eF z4
        simp only [go_sem, hend, fA, fB, fC, fD, fE, fF]
        rw [r0]
        apply callIK_of (c_slices_rotateCmpFunc (P ++ A1) A2 B1 (B2 ++ Q) f L1 L2 L3 z2 z3)
        simp only [↓reduceIte, go_sem, fC, fE, fF, l0]
        rw [r1]
        rw [r3 (.inl z1)]
        apply callIK_of (ih (P ++ Srt.mrg (ltc c) A1 B1) A2 B2 Q hn2 L5 L6 L7 z2 z4 t2 t4)
        simp only [↓reduceIte, go_sem]
        rw [r6]
       ·have fA := lt_no A2.length eA z2
        have fB := lt_yes B1.length eB z3
        have fC := lt_yes A1.length eC z1
        have fD := lt_yes B1.length eD z3
        have fE := lt_no A2.length eE z2
        have fF := lt_yes B2.length eF z4
        simp only [go_sem, hend, fA, fB, fC, fD, fE, fF]
        rw [r2 (.inl z2)]
        apply callIK_of (ih P A1 B1 (A2 ++ (B2 ++ Q)) hn1 ha L1 L4 z1 z3 t1 t3)
        simp only [↓reduceIte, go_sem, fE]
        rw [r4]
        rw [r5 (.inl z2)]
        rw [r6]
       ·have fA := lt_yes A2.length eA z2
        have fB := lt_no B1.length eB z3
        have fC := lt_yes A1.length eC z1
        have fD := lt_no B1.length eD z3
        have fE := lt_yes A2.length eE z2
        have fF := lt_yes B2.length eF z4
        simp only [go_sem, hend, fA, fB, fC, fD, fE, fF]
        rw [r2 (.inr z3)]
        rw [r3 (.inr z3)]
        apply callIK_of (ih (P ++ Srt.mrg (ltc c) A1 B1) A2 B2 Q hn2 L5 L6 L7 z2 z4 t2 t4)
        simp only [↓reduceIte, go_sem]
        rw [r6]
       ·have fA := lt_yes A2.length eA z2
        have fB := lt_yes B1.length eB z3
        have fC := lt_yes A1.length eC z1
        have fD := lt_yes B1.length eD z3
        have fE := lt_yes A2.length eE z2
        have fF := lt_no B2.length eF z4
        simp only [go_sem, hend, fA, fB, fC, fD, fE, fF]
        rw [r0]
        apply callIK_of (c_slices_rotateCmpFunc (P ++ A1) A2 B1 (B2 ++ Q) f L1 L2 L3 z2 z3)
        simp only [↓reduceIte, go_sem, fC, fD, l0]
        rw [r1]
        apply callIK_of (ih P A1 B1 (A2 ++ (B2 ++ Q)) hn1 ha L1 L4 z1 z3 t1 t3)
        simp only [↓reduceIte, go_sem, fE, fF]
        rw [r4]
        rw [r5 (.inr z4)]
        rw [r6]
       ·have fA := lt_yes A2.length eA z2
        have fB := lt_yes B1.length eB z3
        have fC := lt_no A1.length eC z1
        have fD := lt_yes B1.length eD z3
        have fE := lt_yes A2.length eE z2
        have fF := lt_no B2.length eF z4
        simp only [go_sem, hend, fA, fB, fC, fD, fE, fF]
        rw [r0]
        apply callIK_of (c_slices_rotateCmpFunc (P ++ A1) A2 B1 (B2 ++ Q) f L1 L2 L3 z2 z3)
        simp only [↓reduceIte, go_sem, fC, fE, fF]
        rw [r1]
        rw [r3 (.inl z1)]
        rw [r5 (.inr z4)]
        rw [r6]
       ·have fA := lt_no A2.length eA z2
        have fB := lt_no B1.length eB z3
        have fC := lt_yes A1.length eC z1
        have fD := lt_no B1.length eD z3
        have fE := lt_no A2.length eE z2
        have fF := lt_yes B2.length eF z4
        simp only [go_sem, hend, fA, fB, fC, fD, fE, fF]
        rw [r2 (.inl z2)]
        rw [r3 (.inr z3)]
        rw [r5 (.inl z2)]
        rw [r6]
    ·simp only [go_sem, wS1 (a := a + M + m) (by omega) (by omega)]
     obtain ⟨u0, hu0⟩ : ∃ u, u = 0 := ⟨_, rfl⟩
     obtain ⟨v0, hv0⟩ : ∃ v, v = X.length := ⟨_, rfl⟩
     have q1 : u0 ≤ v0 := by omega
     have q2 : v0 ≤ M := by omega
     have q3 : v0 ≤ X.length := by omega
     have q4 : M ≤ u0 + Y.length := by omega
     have q5 : u0 = 0 ∨ Y.length ≤ M - u0 := by omega
     have q6 : v0 = M ∨ v0 = X.length := by omega
     refine loopK_up (ι := Nat × Nat) (fun s => [(20, vI ((a + s.1 : Nat) : Int)), (21, vI ((a + s.2 : Nat) : Int))]) (fun s => []) (fun s => SymI (ltc c) X Y M u0 v0 s.1 s.2) (fun s => s.2 - s.1) (u0, v0) ?_
     simp only [↓reduceIte, go_sem]
     refine ⟨?_, ⟨by omega, q1, by omega, q5.imp_right .inl, q6.imp_right .inl⟩, ?_⟩
     ·simp only [↓reduceIte, go_sem]
      first | exact ⟨by omega, by omega⟩ | omega
     ·rintro ⟨u, v⟩ hI
      obtain ⟨i1, i2, i3, i4, i5⟩ := hI
      simp only at i1 i2 i3 i4 i5
      simp only [↓reduceIte, go_sem, hN, shr1, half_of (i := a + u) (j := a + v) (by omega)]
      refine ⟨fun hlt => ?_, fun hge => ?_⟩
      ·have hwx : (a + u + (a + v)) / 2 = a + (u + v) / 2 := by omega
       have w1 : u ≤ (u + v) / 2 := by omega
       have w2 : (u + v) / 2 < v := by omega
       rw [hwx]
       generalize (u + v) / 2 = w at w1 w2
       have hpc : IntKind.i64.wrap (((a + M + m - 1 : Nat) : Int) - ((a + w : Nat) : Int)) = ((m + (M - 1 - w) : Nat) : Int) := by
        rw [wI (by omega) (by omega)]; omega
       obtain ⟨x, hx⟩ := at_some (show w < X.length by omega)
       obtain ⟨y, hy⟩ := at_some (show M - 1 - w < Y.length by omega)
       have hxw := (hxa w (by omega)).trans hx
       have hyw := (hya (M - 1 - w) (by omega)).trans hy
       have k1 : (0 : Int) ≤ ((a + w : Nat) : Int) := by omega
       have k2 : ((a + w : Nat) : Int) < (N : Int) := by omega
       have k3 : (0 : Int) ≤ ((m + (M - 1 - w) : Nat) : Int) := by omega
       have k4 : ((m + (M - 1 - w) : Nat) : Int) < (N : Int) := by omega
       simp only [go_sem, wK (k := a + w) (by omega), hpc, k1, k2, k3, k4, bk_eq hxw, bk_eq hyw]
       apply callK_of (hc y x)
       simp only [↓reduceIte, go_sem, wN1 (a := a + w) (by omega)]
       intro _
       refine ⟨fun hn => ⟨(w + 1, v), ⟨rfl, rfl⟩, ⟨by omega, by omega, i3, .inr (.inr ⟨y, x, by rw [show M - (w + 1) = M - 1 - w by omega]; exact hy, hx, by simpa [ltc] using hn⟩), i5⟩, by show v - (w + 1) < v - u; omega⟩, fun hn => ⟨(u, w), ⟨rfl, rfl⟩, ⟨i1, w1, by omega, i4, .inr (.inr ⟨y, x, hy, hx, by simpa [ltc] using hn⟩)⟩, by show w - u < v - u; omega⟩⟩
      ·obtain rfl : u = v := by omega
       obtain ⟨A1, A2, B1, B2, rfl, rfl, hA1, hB1, huM, hres, t1, t2, t3, t4⟩ := SymI.fin hw ⟨i1, i2, i3, i4, i5⟩ sX sY q2 q3 q4
       have hend : IntKind.i64.wrap (((a + M + m : Nat) : Int) - ((a + u : Nat) : Int)) = ((m + (M - u) : Nat) : Int) := by
        rw [wI (by omega) (by omega)]; omega
       have r0 : P ++ (A1 ++ A2) ++ (B1 ++ B2) ++ Q = (P ++ A1) ++ A2 ++ B1 ++ (B2 ++ Q) := by simp
       have r1 : (P ++ A1) ++ B1 ++ A2 ++ (B2 ++ Q) = P ++ A1 ++ B1 ++ (A2 ++ (B2 ++ Q)) := by simp
       have r2 : A2.length = 0 ∨ B1.length = 0 → P ++ (A1 ++ A2) ++ (B1 ++ B2) ++ Q = P ++ A1 ++ B1 ++ (A2 ++ (B2 ++ Q)) := fun h => by
        rcases h with h | h
        ·rw [List.length_eq_zero_iff.1 h]; simp
        ·rw [List.length_eq_zero_iff.1 h]; simp
       have r3 : A1.length = 0 ∨ B1.length = 0 → P ++ A1 ++ B1 ++ (A2 ++ (B2 ++ Q)) = (P ++ Srt.mrg (ltc c) A1 B1) ++ A2 ++ B2 ++ Q := fun h => by
        rcases h with h | h
        ·rw [List.length_eq_zero_iff.1 h, Srt.mrg_nil_srt hw t3]; simp
        ·rw [List.length_eq_zero_iff.1 h, Srt.mrg_nil]; simp
       have r4 : P ++ Srt.mrg (ltc c) A1 B1 ++ (A2 ++ (B2 ++ Q)) = (P ++ Srt.mrg (ltc c) A1 B1) ++ A2 ++ B2 ++ Q := by simp
       have r5 : A2.length = 0 ∨ B2.length = 0 → (P ++ Srt.mrg (ltc c) A1 B1) ++ A2 ++ B2 ++ Q = (P ++ Srt.mrg (ltc c) A1 B1) ++ Srt.mrg (ltc c) A2 B2 ++ Q := fun h => by
        rcases h with h | h
        ·rw [List.length_eq_zero_iff.1 h, Srt.mrg_nil_srt hw t4]; simp
        ·rw [List.length_eq_zero_iff.1 h, Srt.mrg_nil]; simp
       have r6 : P ++ Srt.mrg (ltc c) (A1 ++ A2) (B1 ++ B2) ++ Q = (P ++ Srt.mrg (ltc c) A1 B1) ++ Srt.mrg (ltc c) A2 B2 ++ Q := by rw [hres]; simp
       obtain ⟨⟨l0, l1, l2, l3, l4, l5⟩, ⟨L1, L2, L3, L4, L5, L6, L7⟩, hn1, hn2, ⟨eA, eB, eC, eD, eE, eF⟩, h7⟩ := symL (ltc c) ha hA1 hB1 huM hm' hb' hN hM hn h1 h2 hX hY
       clear hxa hya hres i4 i5
       rcases h7 with ⟨z1, z2, z3, z4⟩ | ⟨z1, z2, z3, z4⟩ | ⟨z1, z2, z3, z4⟩ | ⟨z1, z2, z3, z4⟩ | ⟨z1, z2, z3, z4⟩ | ⟨z1, z2, z3, z4⟩ | ⟨z1, z2, z3, z4⟩
       ·have fA := lt_yes A2.length eA z2
        have fB := lt_yes B1.length eB z3
        have fC := lt_yes A1.length eC z1
        have fD := lt_yes B1.length eD z3
        have fE := lt_yes A2.length eE z2
        have fF := lt_yes B2.length eF z4
        simp only [go_sem, hend, fA, fB, fC, fD, fE, fF]
        rw [r0]
        apply callIK_of (c_slices_rotateCmpFunc (P ++ A1) A2 B1 (B2 ++ Q) f L1 L2 L3 z2 z3)
        simp only [↓reduceIte, go_sem, fC, fD, l0]
        rw [r1]
        apply callIK_of (ih P A1 B1 (A2 ++ (B2 ++ Q)) hn1 ha L1 L4 z1 z3 t1 t3)
        simp only [↓reduceIte, go_sem, fE, fF, l4]
        rw [r4]
        apply callIK_of (ih (P ++ Srt.mrg (ltc c) A1 B1) A2 B2 Q hn2 L5 L6 L7 z2 z4 t2 t4)
        simp only [↓reduceIte, go_sem]
        rw [r6]
       ·have fA := lt_yes A2.length eA z2
        have fB := lt_yes B1.length eB z3
        have fC := lt_no A1.length eC z1
        have fD := lt_yes B1.length eD z3
        have fE := lt_yes A2.length eE z2
        have fF := lt_yes B2.length eF z4
        simp only [go_sem, hend, fA, fB, fC, fD, fE, fF]
        rw [r0]
        apply callIK_of (c_slices_rotateCmpFunc (P ++ A1) A2 B1 (B2 ++ Q) f L1 L2 L3 z2 z3)
        simp only [↓reduceIte, go_sem, fC, fE, fF, l0]
        rw [r1]
        rw [r3 (.inl z1)]
        apply callIK_of (ih (P ++ Srt.mrg (ltc c) A1 B1) A2 B2 Q hn2 L5 L6 L7 z2 z4 t2 t4)
        simp only [↓reduceIte, go_sem]
        rw [r6]
       ·have fA := lt_no A2.length eA z2
        have fB := lt_yes B1.length eB z3
        have fC := lt_yes A1.length eC z1
        have fD := lt_yes B1.length eD z3
        have fE := lt_no A2.length eE z2
        have fF := lt_yes B2.length eF z4
        simp only [go_sem, hend, fA, fB, fC, fD, fE, fF]
        rw [r2 (.inl z2)]
        apply callIK_of (ih P A1 B1 (A2 ++ (B2 ++ Q)) hn1 ha L1 L4 z1 z3 t1 t3)
        simp only [↓reduceIte, go_sem, fE]
        rw [r4]
        rw [r5 (.inl z2)]
        rw [r6]
       ·have fA := lt_yes A2.length eA z2
        have fB := lt_no B1.length eB z3
        have fC := lt_yes A1.length eC z1
        have fD := lt_no B1.length eD z3
        have fE := lt_yes A2.length eE z2
        have fF := lt_yes B2.length eF z4
        simp only [go_sem, hend, fA, fB, fC, fD, fE, fF]
        rw [r2 (.inr z3)]
        rw [r3 (.inr z3)]
        apply callIK_of (ih (P ++ Srt.mrg (ltc c) A1 B1) A2 B2 Q hn2 L5 L6 L7 z2 z4 t2 t4)
        simp only [↓reduceIte, go_sem]
        rw [r6]
       ·have fA := lt_yes A2.length eA z2
        have fB := lt_yes B1.length eB z3
        have fC := lt_yes A1.length eC z1
        have fD := lt_yes B1.length eD z3
        have fE := lt_yes A2.length eE z2
        have fF := lt_no B2.length eF z4
        simp only [go_sem, hend, fA, fB, fC, fD, fE, fF]
        rw [r0]
        apply callIK_of (c_slices_rotateCmpFunc (P ++ A1) A2 B1 (B2 ++ Q) f L1 L2 L3 z2 z3)
        simp only [↓reduceIte, go_sem, fC, fD, l0]
        rw [r1]
        apply callIK_of (ih P A1 B1 (A2 ++ (B2 ++ Q)) hn1 ha L1 L4 z1 z3 t1 t3)
        simp only [↓reduceIte, go_sem, fE, fF]
        rw [r4]
        rw [r5 (.inr z4)]
        rw [r6]
       ·have fA := lt_yes A2.length eA z2
        have fB := lt_yes B1.length eB z3
        have fC := lt_no A1.length eC z1
        have fD := lt_yes B1.length eD z3
        have fE := lt_yes A2.length eE z2
        have fF := lt_no B2.length eF z4
        simp only [go_sem, hend, fA, fB, fC, fD, fE, fF]
        rw [r0]
        apply callIK_of (c_slices_rotateCmpFunc (P ++ A1) A2 B1 (B2 ++ Q) f L1 L2 L3 z2 z3)
        simp only [↓reduceIte, go_sem, fC, fE, fF]
        rw [r1]
        rw [r3 (.inl z1)]
        rw [r5 (.inr z4)]
        rw [r6]
       ·have fA := lt_no A2.length eA z2
        have fB := lt_no B1.length eB z3
        have fC := lt_yes A1.length eC z1
        have fD := lt_no B1.length eD z3
        have fE := lt_no A2.length eE z2
        have fF := lt_yes B2.length eF z4
        simp only [go_sem, hend, fA, fB, fC, fD, fE, fF]
        rw [r2 (.inl z2)]
        rw [r3 (.inr z3)]
        rw [r5 (.inl z2)]
        rw [r6]
end Go.Proofs.YtgkeplbnnjogiaaGreatR
namespace Go.Proofs.YtgkeplbnnjogiaaGreatR
open Go Go.RowKit Go.Proofs
open Nat (reduceEqDiff reduceLT reduceLeDiff reduceAdd reduceMul)
open List (reduceReplicate)
namespace Srt
variable {α : Type} {lt : α → α → Bool}
def blks (lt : α → α → Bool) (s : Nat) : Nat → List α → List α
 | 0, l => l
 | k + 1, l => isort lt (l.take s) ++ blks lt s k (l.drop s)
theorem len_blks {s : Nat} : ∀ {k : Nat} {l : List α}, (blks lt s k l).length = l.length
 | 0, l => rfl
 | k + 1, l => by
  simp only [blks, List.length_append, len_isort, len_blks, List.length_take, List.length_drop]; omega
theorem blks_snoc {s : Nat} : ∀ {k : Nat} {l : List α}, (k + 1) * s ≤ l.length → ∃ A, A.length = k * s ∧ blks lt s k l = A ++ ((l.drop (k * s)).take s ++ l.drop ((k + 1) * s)) ∧ blks lt s (k + 1) l = A ++ (isort lt ((l.drop (k * s)).take s) ++ l.drop ((k + 1) * s))
 | 0, l, h => ⟨[], by simp, by simp [blks], by simp [blks]⟩
 | k + 1, l, h => by
  have h' : (k + 1) * s ≤ (l.drop s).length := by
   rw [Nat.succ_mul] at h
   simp only [List.length_drop]; omega
  obtain ⟨A, hA, e1, e2⟩ := blks_snoc (k := k) (l := l.drop s) h'
  have d1 : s + k * s = (k + 1) * s := by rw [Nat.succ_mul]; omega
  have d2 : s + (k + 1) * s = (k + 1 + 1) * s := by rw [Nat.succ_mul (k + 1)]; omega
  have hs : s ≤ l.length := by rw [Nat.succ_mul] at h; omega
  refine ⟨isort lt (l.take s) ++ A, ?_, ?_, ?_⟩
  ·rw [List.length_append, len_isort, List.length_take, Nat.min_eq_left hs, hA, d1]
  ·rw [blks, e1, List.drop_drop, List.drop_drop, d1, d2, List.append_assoc]
  ·rw [blks, e2, List.drop_drop, List.drop_drop, d1, d2, List.append_assoc]
theorem blks_last {s : Nat} : ∀ {k : Nat} {l : List α}, k * s ≤ l.length → l.length < (k + 1) * s → ∃ A, A.length = k * s ∧ blks lt s k l = A ++ l.drop (k * s) ∧ blks lt s (k + 1) l = A ++ isort lt (l.drop (k * s))
 | 0, l, _, h => by
  have h' : l.length ≤ s := by omega
  exact ⟨[], by simp, by simp [blks], by simp [blks, List.take_of_length_le h', List.drop_of_length_le h']⟩
 | k + 1, l, h0, h => by
  have d1 : s + k * s = (k + 1) * s := by rw [Nat.succ_mul]; omega
  have d2 : s + (k + 1) * s = (k + 1 + 1) * s := by rw [Nat.succ_mul (k + 1)]; omega
  have h1 : k * s + s ≤ l.length := by rw [← Nat.succ_mul]; exact h0
  have h2 : l.length < k * s + s + s := by rw [← Nat.succ_mul, ← Nat.succ_mul]; exact h
  obtain ⟨A, hA, e1, e2⟩ := blks_last (k := k) (l := l.drop s) (Nat.le_trans (Nat.le_sub_of_add_le h1) (by rw [List.length_drop]; exact Nat.le_refl _)) (by rw [List.length_drop, Nat.succ_mul]; exact Nat.sub_lt_right_of_lt_add (Nat.le_trans (Nat.le_add_left _ _) h1) h2)
  have hs : s ≤ l.length := Nat.le_trans (Nat.le_add_left _ _) h1
  refine ⟨isort lt (l.take s) ++ A, ?_, ?_, ?_⟩
  ·rw [List.length_append, len_isort, List.length_take, Nat.min_eq_left hs, hA, d1]
  ·rw [blks, e1, List.drop_drop, d1, List.append_assoc]
  ·rw [blks, e2, List.drop_drop, d1, List.append_assoc]
theorem blk_le {s : Nat} {l : List α} (h : l.length ≤ s) : blk lt s l = isort lt l := by
 rw [blk, dif_pos (.inr h)]
theorem blk_eq {s : Nat} {l : List α} : blk lt s l = isort lt (l.take s) ++ blk lt s (l.drop s) := by
 by_cases h : s = 0 ∨ l.length ≤ s
 ·rcases h with rfl | h
  ·simp [isort, mrg]
  ·rw [blk_le h, List.take_of_length_le h, List.drop_of_length_le h, blk_le (by simp)]
   simp [isort, mrg]
 ·rw [blk, dif_neg h]
theorem len_blk {s : Nat} : ∀ {n : Nat} {l : List α}, l.length ≤ n → (blk lt s l).length = l.length
 | 0, l, h => by rw [blk_le (by omega), len_isort]
 | n + 1, l, h => by
  by_cases h2 : s = 0 ∨ l.length ≤ s
  ·rw [blk, dif_pos h2, len_isort]
  ·rw [blk_eq, List.length_append, len_isort, len_blk (n := n) (by simp only [List.length_drop]; omega), List.length_take, List.length_drop]
   omega
theorem blks_blk {s : Nat} : ∀ {k : Nat} {l : List α}, k * s ≤ l.length → l.length < (k + 1) * s → blks lt s (k + 1) l = blk lt s l
 | 0, l, _, h => by
  have h' : l.length ≤ s := by omega
  rw [blk_le h']
  simp [blks, List.take_of_length_le h', List.drop_of_length_le h']
 | k + 1, l, h0, h => by
  rw [Nat.succ_mul] at h0 h
  rw [blks, blk_eq, blks_blk (k := k) (l := l.drop s) (by rw [List.length_drop]; omega) (by rw [List.length_drop]; omega)]
def mix (lt : α → α → Bool) (s : Nat) : Nat → List α → List α
 | 0, l => blk lt s l
 | k + 1, l => isort lt (l.take (2 * s)) ++ mix lt s k (l.drop (2 * s))
theorem len_mix {s : Nat} : ∀ {k : Nat} {l : List α}, (mix lt s k l).length = l.length
 | 0, l => len_blk (Nat.le_refl _)
 | k + 1, l => by
  rw [mix, List.length_append, len_isort, len_mix, List.length_take, List.length_drop]; omega
theorem mix_step (hw : Swo lt) {s : Nat} : ∀ {k : Nat} {l : List α}, k * (2 * s) + 2 * s ≤ l.length → ∃ P X Y Q, P.length = k * (2 * s) ∧ X.length = s ∧ Y.length = s ∧ srt lt X ∧ srt lt Y ∧ mix lt s k l = P ++ X ++ Y ++ Q ∧ mix lt s (k + 1) l = P ++ mrg lt X Y ++ Q
 | 0, l, h => by
  refine ⟨[], isort lt (l.take s), isort lt ((l.drop s).take s), blk lt s (l.drop (2 * s)), by simp, ?_, ?_, srt_isort hw _, srt_isort hw _, ?_, ?_⟩
  ·rw [len_isort, List.length_take]; omega
  ·rw [len_isort, List.length_take, List.length_drop]; omega
  ·rw [mix, blk_eq, blk_eq (l := l.drop s), List.drop_drop, show s + s = 2 * s by omega]
   simp
  ·rw [← isort_append hw, mix, mix, List.nil_append, ← List.take_add, show s + s = 2 * s by omega]
 | k + 1, l, h => by
  have e : (k + 1) * (2 * s) = k * (2 * s) + 2 * s := Nat.succ_mul ..
  rw [e] at h
  obtain ⟨P, X, Y, Q, h1, h2, h3, h4, h5, h6, h7⟩ := mix_step hw (s := s) (k := k) (l := l.drop (2 * s)) (by rw [List.length_drop]; omega)
  refine ⟨isort lt (l.take (2 * s)) ++ P, X, Y, Q, ?_, h2, h3, h4, h5, ?_, ?_⟩
  ·rw [List.length_append, len_isort, h1, List.length_take, e]; omega
  ·rw [mix, h6]; simp
  ·rw [mix, h7]; simp
theorem mix_end (hw : Swo lt) {s : Nat} : ∀ {k : Nat} {l : List α}, k * (2 * s) ≤ l.length → l.length < k * (2 * s) + 2 * s →
  (k * (2 * s) + s < l.length → ∃ P X Y, P.length = k * (2 * s) ∧ X.length = s ∧ k * (2 * s) + s + Y.length = l.length ∧ srt lt X ∧ srt lt Y ∧ mix lt s k l = P ++ X ++ Y ∧ blk lt (2 * s) l = P ++ mrg lt X Y) ∧
  (l.length ≤ k * (2 * s) + s → mix lt s k l = blk lt (2 * s) l)
 | 0, l, h0, h => by
  refine ⟨fun h1 => ⟨[], isort lt (l.take s), isort lt (l.drop s), by simp, ?_, ?_, srt_isort hw _, srt_isort hw _, ?_, ?_⟩, fun h1 => ?_⟩
  ·rw [len_isort, List.length_take]; omega
  ·rw [len_isort, List.length_drop]; omega
  ·rw [mix, blk_eq, blk_le (l := l.drop s) (by rw [List.length_drop]; omega), List.nil_append]
  ·rw [← isort_append hw, List.take_append_drop, blk_le (by omega), List.nil_append]
  ·rw [mix, blk_le (by omega), blk_le (by omega)]
 | k + 1, l, h0, h => by
  have e : (k + 1) * (2 * s) = k * (2 * s) + 2 * s := Nat.succ_mul ..
  rw [e] at h h0
  obtain ⟨i1, i2⟩ := mix_end hw (s := s) (k := k) (l := l.drop (2 * s)) (by rw [List.length_drop]; omega) (by rw [List.length_drop]; omega)
  rw [List.length_drop] at i1 i2
  rw [e]
  refine ⟨fun h1 => ?_, fun h1 => ?_⟩
  ·obtain ⟨P, X, Y, h1, h2, h3, h4, h5, h6, h7⟩ := i1 (by omega)
   refine ⟨isort lt (l.take (2 * s)) ++ P, X, Y, ?_, h2, by omega, h4, h5, ?_, ?_⟩
   ·rw [List.length_append, len_isort, h1, List.length_take]; omega
   ·rw [mix, h6]; simp
   ·rw [blk_eq, h7]; simp
  ·rw [mix, i2 (by omega), ← blk_eq]
end Srt
def m_slices_stableCmpFunc_impl_Found : MC :=
(.seq (pr [.mv 6 (ci 20)] [0,1,2,6])
(.seq (pr [.mv 10 (.s 6), .mv 7 (ci 0), .mv 8 (.s 10)] [0,1,2,6,7,8])
(.seq (.block 0 (.loop ([0,1,2,6,7,8], []) (.seq (.seq (pr [.mv 11 (.s 8), .mv 12 (.s 1), .bin 13 false .leq (.s 11) (.s 12)] [0,1,2,6,7,8,13])
(.cond (.s 13) .skip (.exit 0)))
(.block 1 (.seq (pr [.mv 14 (.s 0), .mv 15 (.s 7), .mv 16 (.s 8), .mv 17 (.s 2), .callI 18 [] (.f n_slices_insertionSortCmpFunc_impl_Found) [.s 14, .s 15, .s 16, .s 17] [0] []] [0,1,2,6,8])
(.seq (pr [.mv 19 (.s 8), .mv 7 (.s 19)] [0,1,2,6,7,8])
(pr [.mv 20 (.s 8), .mv 21 (.s 6), .bin 22 false .add (.s 20) (.s 21), .mv 8 (.s 22)] [0,1,2,6,7,8])))))))
(.seq (pr [.mv 23 (.s 0), .mv 24 (.s 7), .mv 25 (.s 1), .mv 26 (.s 2), .callI 27 [] (.f n_slices_insertionSortCmpFunc_impl_Found) [.s 23, .s 24, .s 25, .s 26] [0] []] [0,1,2,6])
(.block 2 (.loop ([0,1,2,6], []) (.seq (.seq (pr [.mv 28 (.s 6), .mv 29 (.s 1), .bin 30 false .lss (.s 28) (.s 29)] [0,1,2,6,30])
(.cond (.s 30) .skip (.exit 2)))
(.block 3 (.seq (pr [.mv 31 (.s 6), .bin 32 false .mul (ci 2) (.s 31), .mv 7 (ci 0), .mv 8 (.s 32)] [0,1,2,6,7,8])
(.seq (.block 4 (.loop ([0,1,2,6,7,8], []) (.seq (.seq (pr [.mv 33 (.s 8), .mv 34 (.s 1), .bin 35 false .leq (.s 33) (.s 34)] [0,1,2,6,7,8,35])
(.cond (.s 35) .skip (.exit 4)))
(.block 5 (.seq (pr [.mv 36 (.s 0), .mv 37 (.s 7), .mv 38 (.s 7), .mv 39 (.s 6), .bin 40 false .add (.s 38) (.s 39), .mv 41 (.s 8), .mv 42 (.s 2), .callI 43 [] (.f n_slices_symMergeCmpFunc_impl_Found) [.s 36, .s 37, .s 40, .s 41, .s 42] [0] []] [0,1,2,6,8])
(.seq (pr [.mv 44 (.s 8), .mv 7 (.s 44)] [0,1,2,6,7,8])
(pr [.mv 45 (.s 8), .mv 46 (.s 6), .bin 47 false .mul (ci 2) (.s 46), .bin 48 false .add (.s 45) (.s 47), .mv 8 (.s 48)] [0,1,2,6,7,8])))))))
(.seq (.seq (pr [.mv 49 (.s 7), .mv 50 (.s 6), .bin 51 false .add (.s 49) (.s 50), .mv 9 (.s 51)] [0,1,2,6,7,9])
(.seq (pr [.mv 52 (.s 9), .mv 53 (.s 1), .bin 54 false .lss (.s 52) (.s 53)] [0,1,2,6,7,9,54])
(.cond (.s 54) (pr [.mv 55 (.s 0), .mv 56 (.s 7), .mv 57 (.s 9), .mv 58 (.s 1), .mv 59 (.s 2), .callI 60 [] (.f n_slices_symMergeCmpFunc_impl_Found) [.s 55, .s 56, .s 57, .s 58, .s 59] [0] []] [0,1,2,6]) .skip)))
(pr [.mv 61 (.s 6), .bin 62 false .mul (.s 61) (ci 2), .mv 6 (.s 62)] [0,1,2,6]))))))))))))
set_option maxHeartbeats 4000000 in
theorem c_slices_stableCmpFunc (X : List GFound) (f : FuncId) (c : GFound → GFound → Int) (hc : ∀ x y, Ctr Tryz.prog f [aS x.enc, aS y.enc] [rI (c x y)]) (hw : Srt.Swo (ltc c)) : CtrI Tryz.prog n_slices_stableCmpFunc_impl_Found [oL 6 (X.map GFound.enc), iI X.length, fI f] [some (6, (Srt.isort (ltc c) X).map GFound.enc)] [] := by
 refine ctrI_at (M := m_slices_stableCmpFunc_impl_Found) (m := 0) (n := 63) (res := []) hmix Tryz.func383 rfl (by kernel_rfl) rfl (by kernel_rfl) (by kernel_rfl) (Nat.le_of_ble_eq_true rfl) rfl rfl ?_; unfold m_slices_stableCmpFunc_impl_Found
 intro hbd
 have hl := len_of_bd hbd
 clear hbd
 simp only [roomB] at hl
 simp only [↓reduceIte, go_sem]
 refine loopK_up (fun k : Nat => [(7, vI ((k * 20 : Nat) : Int)), (8, vI (((k + 1) * 20 : Nat) : Int))]) (fun k => [(0, ⟨1, .row true 6 ((Srt.blks (ltc c) 20 k X).map GFound.enc)⟩)]) (fun k => k * 20 ≤ X.length) (fun k => X.length - k * 20) 0 ?_
 simp only [↓reduceIte, go_sem]
 refine ⟨?_, by omega, ?_⟩
 ·simp only [↓reduceIte, go_sem]
  exact ⟨rfl, rfl⟩
 ·intro k hk
  simp only [↓reduceIte, go_sem, Srt.len_blks]
  refine ⟨fun hlt => ?_, fun hge => ?_⟩
  ·obtain ⟨A, hA, e1, e2⟩ := Srt.blks_snoc (lt := ltc c) (s := 20) (k := k) (l := X) (by omega)
   have g1 := congrArg List.length e1
   have g2 := congrArg List.length e2
   rw [Srt.len_blks] at g1 g2
   rw [← List.append_assoc] at e1 e2 g1 g2
   rw [e1]
   apply callIK_of (c_slices_insertionSortCmpFunc A _ _ f c hc hw hA (by simp [hA]; omega))
   have w1 : IntKind.i64.wrap ((((k + 1) * 20 : Nat) : Int) + 20) = (((k + 1 + 1) * 20 : Nat) : Int) := by
    rw [wI (by omega) (by omega)]; omega
   simp only [↓reduceIte, go_sem, w1]
   exact ⟨k + 1, ⟨⟨rfl, rfl⟩, by rw [e2]⟩, by omega, by omega⟩
  ·obtain ⟨A, hA, e1, e2⟩ := Srt.blks_last (lt := ltc c) (s := 20) (k := k) (l := X) (by omega) (by omega)
   have g1 := congrArg List.length e1
   have g2 := congrArg List.length e2
   rw [Srt.len_blks] at g1 g2
   have e1' : A ++ X.drop (k * 20) = A ++ X.drop (k * 20) ++ [] := by simp
   rw [e1, e1']
   apply callIK_of (c_slices_insertionSortCmpFunc A _ [] f c hc hw hA (by simp [hA]; omega))
   rw [List.append_nil, ← e2]
   rw [Srt.blks_blk (by omega) (by omega)]
   simp only [↓reduceIte, go_sem]
   refine loopK_up (fun s : Nat => [(6, vI (s : Int))]) (fun s => [(0, ⟨1, .row true 6 ((Srt.blk (ltc c) s X).map GFound.enc)⟩)]) (fun s => 0 < s ∧ s ≤ 2 * X.length + 20) (fun s => X.length - s) 20 ?_
   simp only [↓reduceIte, go_sem]
   refine ⟨?_, ⟨by omega, by omega⟩, ?_⟩
   ·simp only [↓reduceIte, go_sem]
    first | rfl | exact ⟨rfl, rfl⟩
   ·rintro s ⟨hs0, hs1⟩
    clear e1' e1 e2 g1 g2 hA A hge hk
    have w2 : IntKind.i64.wrap (2 * (s : Int)) = ((2 * s : Nat) : Int) := by rw [wI (by omega) (by omega)]; omega
    have w3 : IntKind.i64.wrap ((s : Int) * 2) = ((2 * s : Nat) : Int) := by rw [wI (by omega) (by omega)]; omega
    simp only [↓reduceIte, go_sem, w2]
    refine ⟨fun hlt => ?_, fun hge => ?_⟩
    ·refine loopK_up (fun k : Nat => [(7, vI ((k * (2 * s) : Nat) : Int)), (8, vI ((k * (2 * s) + 2 * s : Nat) : Int))]) (fun k => [(0, ⟨1, .row true 6 ((Srt.mix (ltc c) s k X).map GFound.enc)⟩)]) (fun k => k * (2 * s) ≤ X.length) (fun k => X.length - k * (2 * s)) 0 ?_
     simp only [↓reduceIte, go_sem]
     refine ⟨?_, by omega, ?_⟩
     ·simp only [↓reduceIte, go_sem]
      refine ⟨⟨?_, ?_⟩, rfl⟩
      ·rw [Nat.zero_mul]; rfl
      ·rw [Nat.zero_mul, Nat.zero_add]
     ·intro k hk
      simp only [↓reduceIte, go_sem, Srt.len_mix, w3]
      refine ⟨fun hle => ?_, fun hgt => ?_⟩
      ·obtain ⟨P, A, B, Q, m1, m2, m3, m4, m5, m6, m7⟩ := Srt.mix_step hw (s := s) (k := k) (l := X) (by omega)
       have g1 : (P ++ A ++ B ++ Q).length = X.length := by rw [← m6, Srt.len_mix]
       have g2 : (P ++ Srt.mrg (ltc c) A B ++ Q).length = X.length := by rw [← m7, Srt.len_mix]
       have wa : IntKind.i64.wrap (((k * (2 * s) : Nat) : Int) + (s : Int)) = ((k * (2 * s) + s : Nat) : Int) := wN (by omega)
       have wb : IntKind.i64.wrap (((k * (2 * s) + 2 * s : Nat) : Int) + ((2 * s : Nat) : Int)) = (((k + 1) * (2 * s) + 2 * s : Nat) : Int) := by
        rw [wN (by omega), Nat.succ_mul k (2 * s)]
       rw [m6]
       simp only [go_sem, wa]
       apply callIK_of (c_slices_symMergeCmpFunc f c hc hw _ P A B Q (Nat.le_refl _) m1 (m := k * (2 * s) + s) (b := k * (2 * s) + 2 * s) (by rw [List.length_append]; omega) (by rw [List.length_append, List.length_append]; omega) (by omega) (by omega) m4 m5)
       simp only [↓reduceIte, go_sem]
       have hj : (k + 1) * (2 * s) = k * (2 * s) + 2 * s := Nat.succ_mul k (2 * s)
       exact ⟨k + 1, ⟨⟨by rw [hj], by rw [w2, wb]⟩, by rw [m7]⟩, by omega, by omega⟩
      ·obtain ⟨i1, i2⟩ := Srt.mix_end hw (s := s) (k := k) (l := X) hk (by omega)
       have wa : IntKind.i64.wrap (((k * (2 * s) : Nat) : Int) + (s : Int)) = ((k * (2 * s) + s : Nat) : Int) := wN (by omega)
       simp only [go_sem, wa]
       refine ⟨fun hlt2 => ?_, fun hge2 => ?_⟩
       ·obtain ⟨P, A, B, m1, m2, m3, m4, m5, m6, m7⟩ := i1 (by omega)
        have g1 : (P ++ A ++ B ++ []).length = X.length := by rw [List.append_nil, ← m6, Srt.len_mix]
        have g2 : (P ++ Srt.mrg (ltc c) A B ++ []).length = X.length := by rw [List.append_nil, ← m7, Srt.len_blk (Nat.le_refl _)]
        rw [m6, ← List.append_nil (P ++ A ++ B)]
        apply callIK_of (c_slices_symMergeCmpFunc f c hc hw _ P A B [] (Nat.le_refl _) m1 (m := k * (2 * s) + s) (b := X.length) (by rw [List.length_append]; omega) (by rw [List.length_append, List.length_append]; omega) (by omega) (by omega) m4 m5)
        simp only [↓reduceIte, go_sem, w3]
        exact ⟨2 * s, ⟨rfl, by rw [m7]⟩, ⟨by omega, by omega⟩, by omega⟩
       ·exact ⟨2 * s, ⟨rfl, by rw [i2 (by omega)]⟩, ⟨by omega, by omega⟩, by omega⟩
    ·rw [Srt.blk_le (by omega)]
end Go.Proofs.YtgkeplbnnjogiaaGreatR
namespace Go.Proofs.YtgkeplbnnjogiaaGreatR
open Go Go.RowKit Go.Proofs
open Nat (reduceEqDiff reduceLT reduceLeDiff reduceAdd reduceMul)
open List (reduceReplicate)
def m_slices_SortStableFunc_impl_Found_impl_Found : MC :=
(pr [.mv 4 (.s 0), .mv 5 (.s 0), .len 6 false (.s 5), .mv 7 (.s 1), .callI 8 [] (.f n_slices_stableCmpFunc_impl_Found) [.s 4, .s 6, .s 7] [0] []] [])
theorem c_slices_SortStableFunc (X : List GFound) (f : FuncId) (c : GFound → GFound → Int) (hc : ∀ x y, Ctr Tryz.prog f [aS x.enc, aS y.enc] [rI (c x y)]) (hw : Srt.Swo (ltc c)) : CtrI Tryz.prog n_slices_SortStableFunc_impl_Found_impl_Found [oL 6 (X.map GFound.enc), fI f] [some (6, (Srt.isort (ltc c) X).map GFound.enc)] [] := by
 refine ctrI_at (M := m_slices_SortStableFunc_impl_Found_impl_Found) (m := 0) (n := 9) (res := []) hmix Tryz.func298 rfl (by kernel_rfl) rfl (by kernel_rfl) (by kernel_rfl) (Nat.le_of_ble_eq_true rfl) rfl rfl ?_; unfold m_slices_SortStableFunc_impl_Found_impl_Found
 intro hbd
 have hl := len_of_bd hbd
 clear hbd
 simp only [roomB] at hl
 simp only [↓reduceIte, go_sem]
 apply callIK_of (c_slices_stableCmpFunc X f c hc hw)
 simp only [↓reduceIte, go_sem]
 try intros
 try trivial
end Go.Proofs.YtgkeplbnnjogiaaGreatR
namespace Go.Proofs.YtgkeplbnnjogiaaGreatR
open Go Go.RowKit Go.Proofs
open Nat (reduceEqDiff reduceLT reduceLeDiff reduceAdd reduceMul)
open List (reduceReplicate)
attribute [go_sem] eqB
def addrLt (a b : GAddress) : Bool := decide (a.Host < b.Host ∨ a.Host = b.Host ∧ (a.Path < b.Path ∨ a.Path = b.Path ∧ a.Query < b.Query))
def cmpI (x y : Int) : Int := if x < y then -1 else if y < x then 1 else 0
def fndCmp (a b : GFound) : Int := if addrLt a.Address b.Address = true then -1 else if addrLt b.Address a.Address = true then 1 else cmpI a.Tick b.Tick
def fndLt (a b : GFound) : Bool := decide (a.Address.Host < b.Address.Host ∨ a.Address.Host = b.Address.Host ∧ (a.Address.Path < b.Address.Path ∨ a.Address.Path = b.Address.Path ∧ (a.Address.Query < b.Address.Query ∨ a.Address.Query = b.Address.Query ∧ a.Tick < b.Tick)))
theorem fndLt_eq : ltc fndCmp = fndLt := by
 funext a b
 unfold ltc fndCmp fndLt addrLt cmpI
 rw [Bool.eq_iff_iff]
 simp only [decide_eq_true_eq]
 split
 ·simp; omega
 ·split
  ·simp; omega
  ·split
   ·simp; omega
   ·split <;> simp <;> omega
theorem fndSwo : Srt.Swo (ltc fndCmp) := by
 rw [fndLt_eq]
 constructor
 ·intro x y h
  simp only [fndLt, decide_eq_true_eq, decide_eq_false_iff_not] at *
  omega
 ·intro x y z h
  simp only [fndLt, decide_eq_true_eq] at *
  omega
def fnd1 (i : Nat) : Nat → List GCapture → List GFound
 | _, [] => []
 | k, c :: cs => ⟨c.Address, c.Tick, i, k⟩ :: fnd1 i (k + 1) cs
def fnds : Nat → List GContainer → List GFound
 | _, [] => []
 | i, x :: xs => fnd1 i 0 x.Captures ++ fnds (i + 1) xs
theorem fnd1_snoc {i : Nat} : ∀ {cs : List GCapture} {k m : Nat} {c : GCapture}, cs[k]? = some c → fnd1 i m (cs.take (k + 1)) = fnd1 i m (cs.take k) ++ [⟨c.Address, c.Tick, i, (m + k : Nat)⟩]
 | [], _, _, _, h => by simp at h
 | c :: cs, 0, m, d, h => by
  simp only [List.getElem?_cons_zero, Option.some.injEq] at h
  subst h
  simp [fnd1]
 | c :: cs, k + 1, m, d, h => by
  simp only [List.getElem?_cons_succ] at h
  rw [List.take_succ_cons, List.take_succ_cons, fnd1, fnd1, fnd1_snoc h, List.cons_append, show m + 1 + k = m + (k + 1) by omega]
theorem fnds_snoc : ∀ {l : List GContainer} {k m : Nat} {x : GContainer}, l[k]? = some x → fnds m (l.take (k + 1)) = fnds m (l.take k) ++ fnd1 (m + k) 0 x.Captures
 | [], _, _, _, h => by simp at h
 | c :: cs, 0, m, d, h => by
  simp only [List.getElem?_cons_zero, Option.some.injEq] at h
  subst h
  simp [fnds]
 | c :: cs, k + 1, m, d, h => by
  simp only [List.getElem?_cons_succ] at h
  rw [List.take_succ_cons, List.take_succ_cons, fnds, fnds, fnds_snoc h, List.append_assoc, show m + 1 + k = m + (k + 1) by omega]
theorem len_fnd1 {i : Nat} : ∀ {cs : List GCapture} {k : Nat}, (fnd1 i k cs).length = cs.length
 | [], _ => rfl
 | c :: cs, k => by rw [fnd1, List.length_cons, len_fnd1, List.length_cons]
theorem len_fnds : ∀ {l : List GContainer} {m : Nat}, (fnds m l).length = (l.map fun x => x.Captures.length).sum
 | [], _ => rfl
 | x :: l, m => by rw [fnds, List.length_append, len_fnd1, len_fnds, List.map_cons, List.sum_cons]
def index (l : List GContainer) : List GFound := Srt.isort fndLt (fnds 0 l)
theorem fndSwo' : Srt.Swo fndLt := fndLt_eq ▸ fndSwo
theorem len_fnds_le {m : Nat} : ∀ {l : List GContainer}, (fnds m l).length ≤ (l.map GContainer.size).sum := by
 intro l
 rw [len_fnds]
 induction l with
 | nil => simp
 | cons x l ih => simp only [List.map_cons, List.sum_cons, GContainer.size]; omega
theorem len_fnds_at {l : List GContainer} {i k : Nat} {x : GContainer} (hx : l[i]? = some x) : (fnds 0 (l.take i) ++ fnd1 i 0 (x.Captures.take k)).length ≤ (l.map GContainer.size).sum := by
 have h1 : (fnds 0 (l.take (i + 1))).length ≤ (l.map GContainer.size).sum := Nat.le_trans len_fnds_le (sum_take_le l (i + 1))
 rw [fnds_snoc hx, List.length_append, len_fnd1] at h1
 rw [List.length_append, len_fnd1, List.length_take]
 omega
theorem fnds_step {l : List GContainer} {i k : Nat} {x : GContainer} {c : GCapture} (hc : x.Captures[k]? = some c) : fnds 0 (l.take i) ++ fnd1 i 0 (x.Captures.take (k + 1)) = fnds 0 (l.take i) ++ fnd1 i 0 (x.Captures.take k) ++ [⟨c.Address, c.Tick, i, k⟩] := by
 rw [fnd1_snoc hc, List.append_assoc, Nat.zero_add]
theorem cutA {α : Type} {f : α → List T} {l : List α} {m : Nat} (h : m ≤ l.length) : (if ((m : Int) - 0).toNat = l.length then l.map f else List.take ((m : Int) - 0).toNat (l.map f)) = (l.take m).map f := by
 rw [show ((m : Int) - 0).toNat = m by omega]
 split
 ·rename_i e; rw [List.take_of_length_le (by omega)]
 ·rw [List.map_take]
theorem cutB {α : Type} {f : α → List T} {l : List α} {m : Nat} (h : m ≤ l.length) : (if m = 0 ∧ ((l.length : Int) - (m : Int)).toNat = l.length then l.map f else List.take ((l.length : Int) - (m : Int)).toNat (List.drop m (l.map f))) = (l.drop m).map f := by
 rw [show ((l.length : Int) - (m : Int)).toNat = l.length - m by omega]
 split
 ·rename_i e; rw [e.1]; rfl
 ·rw [List.take_of_length_le (by simp), List.map_drop]
namespace Srt
variable {α : Type} {lt : α → α → Bool}
theorem ins_at {l : List α} (hw : Swo lt) (hs : srt lt l) {x : α} {n : Nat} (h1 : ∀ z ∈ l.drop n, lt x z = true) (h2 : n = 0 ∨ ∃ y, l[n - 1]? = some y ∧ lt x y = false) : ins lt x l = l.take n ++ [x] ++ l.drop n := by
 have e : ins lt x (l.take n ++ l.drop n) = l.take n ++ x :: l.drop n := by
  refine ins_mid ?_ (fun a ha => h1 a (List.mem_of_mem_head? ha))
  intro a ha
  rcases h2 with rfl | ⟨y, hy, h⟩
  ·simp at ha
  ·obtain ⟨i, hi⟩ := List.mem_iff_getElem?.1 ha
   rw [List.getElem?_take] at hi
   split at hi
   ·rename_i hlt
    by_cases hin : i = n - 1
    ·subst hin
     obtain rfl := Option.some.inj (hi.symm.trans hy)
     exact h
    ·obtain ⟨h1, rfl⟩ := List.getElem?_eq_some_iff.1 hi
     obtain ⟨h2, rfl⟩ := List.getElem?_eq_some_iff.1 hy
     exact hw.ntr h ((List.pairwise_iff_getElem.1 hs) i (n - 1) h1 h2 (by omega))
   ·cases hi
 rw [List.take_append_drop] at e
 rw [e]; simp
theorem drop_step {l : List α} {x : α} {n : Nat} {y : α} (hn : 0 < n) (hy : l[n - 1]? = some y) (h : ∀ z ∈ l.drop n, lt x z = true) (hx : lt x y = true) : ∀ z ∈ l.drop (n - 1), lt x z = true := by
 obtain ⟨h1, rfl⟩ := List.getElem?_eq_some_iff.1 hy
 rw [List.drop_eq_getElem_cons h1, show n - 1 + 1 = n by omega]
 intro z hz
 rcases List.mem_cons.1 hz with rfl | hz
 ·exact hx
 ·exact h z hz
end Srt
def m_impl_BeforeAddress : MC :=
(.seq (pr [.box 2 0 (.s 0), .box 3 1 (.s 1), .mv 4 cF] [2,3])
(.seq (.block 0 (.seq (pr [.fld 6 (.s 2) 0, .load 7 false 1 (.s 6), .fld 8 (.s 3) 0, .load 9 false 1 (.s 8), .bin 10 false .neq (.s 7) (.s 9), .mv 5 (.s 10)] [2,3,5])
(.cond (.s 5) (.seq (pr [.fld 11 (.s 2) 0, .load 12 false 1 (.s 11), .fld 13 (.s 3) 0, .load 14 false 1 (.s 13), .bin 15 false .lss (.s 12) (.s 14), .mv 4 (.s 15)] [4])
.ret) (.seq (pr [.fld 17 (.s 2) 1, .load 18 false 1 (.s 17), .fld 19 (.s 3) 1, .load 20 false 1 (.s 19), .bin 21 false .neq (.s 18) (.s 20), .mv 16 (.s 21)] [2,3,16])
(.cond (.s 16) (.seq (pr [.fld 22 (.s 2) 1, .load 23 false 1 (.s 22), .fld 24 (.s 3) 1, .load 25 false 1 (.s 24), .bin 26 false .lss (.s 23) (.s 25), .mv 4 (.s 26)] [4])
.ret) .skip)))))
(.seq (pr [.fld 27 (.s 2) 2, .load 28 false 1 (.s 27), .fld 29 (.s 3) 2, .load 30 false 1 (.s 29), .bin 31 false .lss (.s 28) (.s 30), .mv 4 (.s 31)] [4])
.ret)))
theorem c_impl_BeforeAddress (a b : GAddress) : Ctr Tryz.prog n_impl_BeforeAddress [aS a.enc, aS b.enc] [rB (addrLt a b)] := by
 refine cA m_impl_BeforeAddress 2 32 [(.tmp 4, [false])] Tryz.func84 rfl rfl ?_; unfold m_impl_BeforeAddress
 intro hb
 clear hb
 simp only [↓reduceIte, go_sem]
 repeat' first
  | (refine And.intro ?_ ?_ <;> intro h)
 all_goals (unfold addrLt; first | (symm; rw [decide_eq_false_iff_not]; omega) | (rw [Bool.eq_iff_iff]; simp only [decide_eq_true_eq]; omega))
def m_spec_BeforeAddress : MC :=
(.seq (pr [.box 2 0 (.s 0), .box 3 1 (.s 1), .mv 4 cF] [2,3])
(.seq (.seq (pr [.fld 5 (.s 2) 0, .load 6 false 1 (.s 5), .fld 7 (.s 3) 0, .load 8 false 1 (.s 7), .bin 9 false .neq (.s 6) (.s 8)] [2,3,9])
(.cond (.s 9) (.seq (pr [.fld 10 (.s 2) 0, .load 11 false 1 (.s 10), .fld 12 (.s 3) 0, .load 13 false 1 (.s 12), .bin 14 false .lss (.s 11) (.s 13), .mv 4 (.s 14)] [4])
.ret) .skip))
(.seq (.seq (pr [.fld 15 (.s 2) 1, .load 16 false 1 (.s 15), .fld 17 (.s 3) 1, .load 18 false 1 (.s 17), .bin 19 false .neq (.s 16) (.s 18)] [2,3,19])
(.cond (.s 19) (.seq (pr [.fld 20 (.s 2) 1, .load 21 false 1 (.s 20), .fld 22 (.s 3) 1, .load 23 false 1 (.s 22), .bin 24 false .lss (.s 21) (.s 23), .mv 4 (.s 24)] [4])
.ret) .skip))
(.seq (pr [.fld 25 (.s 2) 2, .load 26 false 1 (.s 25), .fld 27 (.s 3) 2, .load 28 false 1 (.s 27), .bin 29 false .lss (.s 26) (.s 28), .mv 4 (.s 29)] [4])
.ret))))
theorem c_spec_BeforeAddress (a b : GAddress) : Ctr Tryz.prog n_spec_BeforeAddress [aS a.enc, aS b.enc] [rB (addrLt a b)] := by
 refine cA m_spec_BeforeAddress 2 30 [(.tmp 4, [false])] Tryz.func79 rfl rfl ?_; unfold m_spec_BeforeAddress
 intro hb
 clear hb
 simp only [↓reduceIte, go_sem]
 repeat' first
  | (refine And.intro ?_ ?_ <;> intro h)
 all_goals (unfold addrLt; first | (symm; rw [decide_eq_false_iff_not]; omega) | (rw [Bool.eq_iff_iff]; simp only [decide_eq_true_eq]; omega))
def m_spec_l31Before : MC :=
(.seq (pr [.box 2 0 (.s 0), .box 3 1 (.s 1), .mv 4 cF] [2,3])
(.seq (.seq (pr [.fld 5 (.s 2) 0, .load 6 true 3 (.s 5), .fld 7 (.s 3) 0, .load 8 true 3 (.s 7), .eqA 9 true [.i .i64, .i .i64, .i .i64] (.s 6) (.s 8)] [2,3,9])
(.cond (.s 9) (.seq (pr [.fld 10 (.s 2) 0, .load 11 true 3 (.s 10), .fld 12 (.s 3) 0, .load 13 true 3 (.s 12), .call 14 [] (.f n_spec_BeforeAddress) [.s 11, .s 13], .mv 4 (.s 14)] [4])
.ret) .skip))
(.seq (pr [.fld 15 (.s 2) 3, .load 16 false 1 (.s 15), .fld 17 (.s 3) 3, .load 18 false 1 (.s 17), .bin 19 false .lss (.s 16) (.s 18), .mv 4 (.s 19)] [4])
.ret)))
theorem c_spec_l31Before (a b : GFound) : Ctr Tryz.prog n_spec_l31Before [aS a.enc, aS b.enc] [rB (fndLt a b)] := by
 refine cA m_spec_l31Before 2 20 [(.tmp 4, [false])] Tryz.func293 rfl rfl ?_; unfold m_spec_l31Before
 intro hb
 clear hb
 simp only [↓reduceIte, go_sem]
 repeat' first
  | (refine And.intro ?_ ?_ <;> intro h)
  | (apply callK_of (c_spec_BeforeAddress _ _); simp only [↓reduceIte, go_sem])
 all_goals (simp only [fndLt, addrLt]; rw [Bool.eq_iff_iff]; simp only [decide_eq_true_eq]; simp at h; omega)
def m_cmp_isNaN_int : MC :=
(.seq (pr [.mv 2 cF] [0])
(.seq (pr [.mv 3 (.s 0), .mv 4 (.s 0), .bin 5 false .neq (.s 3) (.s 4), .mv 2 (.s 5)] [2])
.ret))
theorem c_cmp_isNaN (x : Int) : Ctr Tryz.prog n_cmp_isNaN_int [aI x] [rB false] := by
 refine cA m_cmp_isNaN_int 0 6 [(.tmp 2, [false])] Tryz.func384 rfl rfl ?_; unfold m_cmp_isNaN_int
 intro hb
 clear hb
 simp only [↓reduceIte, go_sem]
def m_cmp_Compare_int : MC :=
(.seq (pr [.mv 4 (ci 0)] [0,1])
(.seq (pr [.mv 7 (.s 0), .call 8 [] (.f n_cmp_isNaN_int) [.s 7], .mv 5 (.s 8)] [0,1,5])
(.seq (pr [.mv 9 (.s 1), .call 10 [] (.f n_cmp_isNaN_int) [.s 9], .mv 6 (.s 10)] [0,1,5,6])
(.seq (.seq (pr [.mv 11 (.s 5)] [0,1,6,11])
(.cond (.s 11) (.seq (.seq (pr [.mv 12 (.s 6)] [12])
(.cond (.s 12) (.seq (pr [.mv 4 (ci 0)] [4])
.ret) .skip))
(.seq (pr [.mv 4 (.c (.int .i64 (-1)))] [4])
.ret)) .skip))
(.seq (.seq (pr [.mv 13 (.s 6)] [0,1,13])
(.cond (.s 13) (.seq (pr [.mv 4 (ci 1)] [4])
.ret) .skip))
(.seq (.seq (pr [.mv 14 (.s 0), .mv 15 (.s 1), .bin 16 false .lss (.s 14) (.s 15)] [0,1,16])
(.cond (.s 16) (.seq (pr [.mv 4 (.c (.int .i64 (-1)))] [4])
.ret) .skip))
(.seq (.seq (pr [.mv 17 (.s 0), .mv 18 (.s 1), .bin 19 false .gtr (.s 17) (.s 18)] [19])
(.cond (.s 19) (.seq (pr [.mv 4 (ci 1)] [4])
.ret) .skip))
(.seq (pr [.mv 4 (ci 0)] [4])
.ret))))))))
theorem c_cmp_Compare (x y : Int) : Ctr Tryz.prog n_cmp_Compare_int [aI x, aI y] [rI (cmpI x y)] := by
 refine cA m_cmp_Compare_int 0 20 [(.tmp 4, [false])] Tryz.func300 rfl rfl ?_; unfold m_cmp_Compare_int
 intro hb
 clear hb
 simp only [↓reduceIte, go_sem]
 repeat' first
  | (refine And.intro ?_ ?_ <;> intro h)
  | (apply callK_of (c_cmp_isNaN _); simp only [↓reduceIte, go_sem])
 all_goals (unfold cmpI; first | rfl | (repeat' split) <;> first | rfl | omega)
def m_impl_BuildIndex_1 : MC :=
(.seq (pr [.box 2 0 (.s 0), .box 3 1 (.s 1), .mv 4 (ci 0)] [2,3])
(.seq (.block 0 (.seq (pr [.fld 6 (.s 2) 0, .load 7 true 3 (.s 6), .fld 8 (.s 3) 0, .load 9 true 3 (.s 8), .call 10 [] (.f n_impl_BeforeAddress) [.s 7, .s 9], .mv 5 (.s 10)] [2,3,5])
(.cond (.s 5) (.seq (pr [.mv 4 (.c (.int .i64 (-1)))] [4])
.ret) (.seq (pr [.fld 12 (.s 3) 0, .load 13 true 3 (.s 12), .fld 14 (.s 2) 0, .load 15 true 3 (.s 14), .call 16 [] (.f n_impl_BeforeAddress) [.s 13, .s 15], .mv 11 (.s 16)] [2,3,11])
(.cond (.s 11) (.seq (pr [.mv 4 (ci 1)] [4])
.ret) .skip)))))
(.seq (pr [.fld 17 (.s 2) 3, .load 18 false 1 (.s 17), .fld 19 (.s 3) 3, .load 20 false 1 (.s 19), .call 21 [] (.f n_cmp_Compare_int) [.s 18, .s 20], .mv 4 (.s 21)] [4])
.ret)))
theorem c_impl_BuildIndex_1 (a b : GFound) : Ctr Tryz.prog n_impl_BuildIndex_1 [aS a.enc, aS b.enc] [rI (fndCmp a b)] := by
 refine cA m_impl_BuildIndex_1 2 22 [(.tmp 4, [false])] Tryz.func299 rfl rfl ?_; unfold m_impl_BuildIndex_1
 intro hb
 clear hb
 simp only [↓reduceIte, go_sem]
 repeat' first
  | (refine And.intro ?_ ?_ <;> intro h)
  | (apply callK_of (c_impl_BeforeAddress _ _); simp only [↓reduceIte, go_sem])
  | (apply callK_of (c_cmp_Compare _ _); simp only [↓reduceIte, go_sem])
 all_goals (unfold fndCmp; simp_all)
def m_impl_BuildIndex : MC :=
(.seq (pr [.nilo 2 0 6] [0])
(.seq (pr [.nilo 3 0 6] [0,3])
(.seq (.seq (pr [.mv 8 (.s 0), .len 9 false (.s 8), .mv 10 (ci 0)] [3,8,9,10])
(.block 0 (.loop ([3,8,9,10], [1,2,3]) (.seq (pr [.bin 11 false .lss (.s 10) (.s 9)] [3,8,9,10,11])
(.seq (.cond (.s 11) .skip (.exit 0))
(.seq (.block 1 (.seq (pr [.mv 12 (.s 10), .idx 13 4 (.s 8) (.s 10), .load 14 true 4 (.s 13), .alloc 5 1 [.emp 4, .emp 5, .emp 9, pz], .mv 4 (.s 12), .store 4 (.s 5) (.s 14)] [3,4,5,8,9,10])
(.seq (pr [.fld 15 (.s 5) 2, .load 16 false 1 (.s 15), .len 17 false (.s 16), .mv 18 (ci 0)] [3,4,8,9,10,16,17,18])
(.block 2 (.loop ([3,4,8,9,10,16,17,18], [1,2,3]) (.seq (pr [.bin 19 false .lss (.s 18) (.s 17)] [3,4,8,9,10,16,17,18,19])
(.seq (.cond (.s 19) .skip (.exit 2))
(.seq (.block 3 (.seq (pr [.mv 20 (.s 18), .idx 21 9 (.s 16) (.s 18), .load 22 true 9 (.s 21), .alloc 7 2 [pz, pz, pz, pz, pz, .emp 1, pz, pz, pz], .mv 6 (.s 20), .store 9 (.s 7) (.s 22)] [3,4,6,7,8,9,10,16,17,18])
(pr [.mv 23 (.s 3), .fld 24 (.s 7) 0, .load 25 true 3 (.s 24), .fld 26 (.s 7) 3, .load 27 false 1 (.s 26), .mv 28 (.s 4), .mv 29 (.s 6), .build 30 [pz, pz, pz, pz, pz, pz] [(0, 3, .s 25), (3, 1, .s 27), (4, 1, .s 28), (5, 1, .s 29)], .lit 31 3 6 48 [.s 30], .app 32 0 6 48 (.s 23) (.s 31), .mv 3 (.s 32)] [3,4,8,9,10,16,17,18])))
(pr [.bin 33 false .add (.s 18) (ci 1), .mv 18 (.s 33)] [3,4,8,9,10,16,17,18])))))))))
(pr [.bin 34 false .add (.s 10) (ci 1), .mv 10 (.s 34)] [3,8,9,10])))))))
(.seq (pr [.mv 35 (.s 3), .callI 36 [] (.f n_slices_SortStableFunc_impl_Found_impl_Found) [.s 35, .f n_impl_BuildIndex_1] [0] []] [3])
(.seq (pr [.mv 37 (.s 3), .mv 2 (.s 37)] [2])
.ret)))))
theorem c_impl_BuildIndex (l : List GContainer) (hs : l.length + (l.map GContainer.size).sum ≤ 1073741824) : Ctr Tryz.prog n_impl_BuildIndex [aL 4 (l.map GContainer.enc)] [rL 6 ((index l).map GFound.enc)] := by
 refine cA m_impl_BuildIndex 4 38 [(.tmp 2, [true])] Tryz.func189 rfl rfl ?_; unfold m_impl_BuildIndex
 intro hb
 clear hb
 simp only [↓reduceIte, go_sem]
 refine loopK_rng l (fun i => [(3, .val false [.ref 0 0 6 0 (fnds 0 (l.take i)).length]), (10, vI i)]) (fun i => [(0, ⟨0, .row true 6 ((fnds 0 (l.take i)).map GFound.enc)⟩)]) (fun _ => True) (by simp only [roomB]; omega) ?_
 simp only [↓reduceIte, go_sem]
 refine ⟨?_, trivial, ?_, ?_⟩
 ·simp only [↓reduceIte, go_sem, List.take_zero]
  exact ⟨rfl, rfl⟩
 ·intro i x hx _ h0 h1 hw
  have hx1 := mem_sum (f := GContainer.size) (at_mem hx)
  have hi := len_at hx
  have hxl : x.Captures.length ≤ x.size := by simp only [GContainer.size]; omega
  simp only [↓reduceIte, go_sem, bk_eq hx, h0, h1]
  refine loopK_rng x.Captures (fun k => [(3, .val false [.ref 0 0 6 0 (fnds 0 (l.take i) ++ fnd1 i 0 (x.Captures.take k)).length]), (18, vI k)]) (fun k => [(0, ⟨0, .row true 6 ((fnds 0 (l.take i) ++ fnd1 i 0 (x.Captures.take k)).map GFound.enc)⟩)]) (fun _ => True) (by simp only [roomB]; omega) ?_
  simp only [↓reduceIte, go_sem]
  refine ⟨?_, trivial, ?_, ?_⟩
  ·simp only [↓reduceIte, go_sem, List.take_zero]
   exact ⟨by simp [fnd1], by simp [fnd1]⟩
  ·intro k c hc _ h2 h3 hw2
   have hn := len_fnds_at (k := k) hx
   simp only [↓reduceIte, go_sem, bk_eq hc, h2, h3, hw2, fnds_step hc]
   exact ⟨by simp only [roomB]; omega, by simp only [roomB]; omega, by simp only [List.length_append, List.length_cons, List.length_nil], by simp [GFound.enc]⟩
  ·intro _
   simp only [↓reduceIte, go_sem, List.take_length, hw]
   exact ⟨by rw [fnds_snoc hx, Nat.zero_add], by rw [fnds_snoc hx, Nat.zero_add]⟩
 ·intro _
  simp only [↓reduceIte, go_sem, List.take_length]
  apply callIK_of (c_slices_SortStableFunc (fnds 0 l) _ fndCmp c_impl_BuildIndex_1 fndSwo)
  simp only [↓reduceIte, go_sem]
  exact ⟨Srt.len_isort.symm, by rw [index, fndLt_eq]⟩
def m_spec_BuildIndex : MC :=
(.seq (pr [.nilo 2 0 6] [0])
(.seq (pr [.lit 8 0 6 48 [], .mv 3 (.s 8)] [0,3])
(.seq (.seq (pr [.mv 4 (ci 0)] [0,3,4])
(.block 0 (.loop ([0,3,4], [1,2,3]) (.seq (.seq (pr [.mv 9 (.s 4), .mv 10 (.s 0), .len 11 false (.s 10), .bin 12 false .lss (.s 9) (.s 11)] [0,3,4,12])
(.cond (.s 12) .skip (.exit 0)))
(.seq (.block 1 (.seq (pr [.mv 5 (ci 0)] [0,3,4,5])
(.block 2 (.loop ([0,3,4,5], [1,2,3]) (.seq (.seq (pr [.mv 15 (.s 5), .mv 16 (.s 0), .mv 17 (.s 4), .idx 18 4 (.s 16) (.s 17), .fld 19 (.s 18) 2, .load 20 false 1 (.s 19), .len 21 false (.s 20), .bin 22 false .lss (.s 15) (.s 21)] [0,3,4,5,22])
(.cond (.s 22) .skip (.exit 2)))
(.seq (.block 3 (.seq (.dreg [Zf [6,26,30,34,35,36,37,38,39,40,41,42,43,44] [1] (.mv 25 (.s 0)), Zf [6,25,30,34,35,36,37,38,39,40,41,42,43,44] [1] (.mv 26 (.s 4)), Zg [6,30,34,35,36,37,38,39,40,41,42,43,44] [1] [0,1] (.idx 27 4 (.s 25) (.s 26)), Zg [6,30,34,35,36,37,38,39,40,41,42,43,44] [1] [0,1,2] (.fld 28 (.s 27) 2), Zg [6,30,34,35,36,37,38,39,40,41,42,43,44] [1] (.range 4) (.load 29 false 1 (.s 28)), Zf [6,25,26,27,28,29,34,35,36,37,38,39,40,41,42,43,44] [1] (.mv 30 (.s 5)), Zg [6,34,35,36,37,38,39,40,41,42,43,44] [1] (.range 6) (.idx 31 9 (.s 29) (.s 30)), Zg [6,34,35,36,37,38,39,40,41,42,43,44] [1] (.range 7) (.fld 32 (.s 31) 0), Zg [6,34,35,36,37,38,39,40,41,42,43,44] [1] (.range 8) (.load 33 true 3 (.s 32)), Zf [6,25,26,27,28,29,30,31,32,33,35,39,43,44] [1] (.mv 34 (.s 0)), Zf [6,25,26,27,28,29,30,31,32,33,34,39,43,44] [1] (.mv 35 (.s 4)), Zg [6,25,26,27,28,29,30,31,32,33,39,43,44] [1] [9,10] (.idx 36 4 (.s 34) (.s 35)), Zg [6,25,26,27,28,29,30,31,32,33,39,43,44] [1] [9,10,11] (.fld 37 (.s 36) 2), Zg [6,25,26,27,28,29,30,31,32,33,39,43,44] [1] [9,10,11,12] (.load 38 false 1 (.s 37)), Zf [6,25,26,27,28,29,30,31,32,33,34,35,36,37,38,43,44] [1] (.mv 39 (.s 5)), Zg [6,25,26,27,28,29,30,31,32,33,43,44] [1] [9,10,11,12,13,14] (.idx 40 9 (.s 38) (.s 39)), Zg [6,25,26,27,28,29,30,31,32,33,43,44] [1] [9,10,11,12,13,14,15] (.fld 41 (.s 40) 3), Zg [6,25,26,27,28,29,30,31,32,33,43,44] [1] [9,10,11,12,13,14,15,16] (.load 42 false 1 (.s 41)), Zf [6,25,26,27,28,29,30,31,32,33,34,35,36,37,38,39,40,41,42,44] [1] (.mv 43 (.s 4)), Zf [6,25,26,27,28,29,30,31,32,33,34,35,36,37,38,39,40,41,42,43] [1] (.mv 44 (.s 5)), Zg [6] [1] (.range 20) (.build 45 [pz, pz, pz, pz, pz, pz] [(0, 3, .s 33), (3, 1, .s 42), (4, 1, .s 43), (5, 1, .s 44)]), { o := .alloc 6 1 [pz, pz, pz, pz, pz, pz], hs := [25,26,27,28,29,30,31,32,33,34,35,36,37,38,39,40,41,42,43,44,45], ws := [1] }, { o := .store 6 (.s 6) (.s 45), ws := [1], bf := (.range 22) }] [0,3,4,5,6])
(.seq (pr [.mv 46 (.s 3), .len 47 false (.s 46), .mv 7 (.s 47)] [0,3,4,5,6,7])
(.seq (.block 4 (.loop ([0,3,4,5,6,7], [2,3]) (.seq (.seq (.dreg [Za (.mv 48 (.s 7)), Ze [0] (.bin 49 false .gtr (.s 48) (ci 0)), Ze [0,1] (.mv 50 (.s 49)), { o := .load 51 true 6 (.s 6), g := some (50, true), hs := [52,53,54,55,56], bf := [0,1,2] }, { o := .mv 52 (.s 3), g := some (50, true), hs := [51,53,54], bf := [0,1,2] }, { o := .mv 53 (.s 7), g := some (50, true), hs := [51,52], bf := [0,1,2] }, { o := .bin 54 false .sub (.s 53) (ci 1), g := some (50, true), hs := [51,52], bf := [0,1,2,5] }, { o := .idx 55 6 (.s 52) (.s 54), g := some (50, true), hs := [51], bf := [0,1,2,4,5,6] }, { o := .load 56 true 6 (.s 55), g := some (50, true), hs := [51], bf := [0,1,2,4,5,6,7] }, { o := .call 57 [] (.f n_spec_l31Before) [.s 51, .s 56], g := some (50, true), bf := (.range 9) }, Ze (.range 10) (.pick 58 (.s 50) (.s 57) cF)] [0,3,4,5,6,7,58])
(.cond (.s 58) .skip (.exit 4)))
(.block 5 (pr [.mv 59 (.s 7), .bin 60 false .sub (.s 59) (ci 1), .mv 7 (.s 60)] [0,3,4,5,6,7])))))
(.dreg [{ o := .lit 61 2 6 48 [], hs := [62,63,64,66,67,69,70,71], ho := [3], ws := [2] }, Zf [61,63,66,67,69,70,71] [2,3] (.mv 62 (.s 3)), Zf [61,62,66,67,69,70,71] [2,3] (.mv 63 (.s 7)), Zg [61,66,67,69,70,71] [2,3] [1,2] (.slc 64 6 (.s 62) none (some (.s 63)) none), { o := .app 65 2 6 48 (.s 61) (.s 64), hs := [66,67,69,70,71], ho := [3], ws := [2], bf := (.range 4) }, Zf [61,62,63,64,65,69,70,71] [2] (.load 66 true 6 (.s 6)), { o := .lit 67 3 6 48 [.s 66], hs := [61,62,63,64,65,69,70,71], ho := [2], ws := [3], bf := [5] }, { o := .app 68 2 6 48 (.s 65) (.s 67), hs := [69,70,71], ws := [2], bf := (.range 7) }, Zf [61,62,63,64,65,66,67,68,70] [2,3] (.mv 69 (.s 3)), Zf [61,62,63,64,65,66,67,68,69] [2,3] (.mv 70 (.s 7)), Zg [61,62,63,64,65,66,67,68] [2,3] [8,9] (.slc 71 6 (.s 69) (some (.s 70)) none none), { o := .app 72 0 6 48 (.s 68) (.s 71), ws := [0,2], bf := (.range 11) }, Ze (.range 12) (.mv 3 (.s 72))] [0,3,4,5])))))
(pr [.mv 23 (.s 5), .bin 24 false .add (.s 23) (ci 1), .mv 5 (.s 24)] [0,3,4,5])))))))
(pr [.mv 13 (.s 4), .bin 14 false .add (.s 13) (ci 1), .mv 4 (.s 14)] [0,3,4]))))))
(.seq (pr [.mv 73 (.s 3), .mv 2 (.s 73)] [2])
.ret))))
theorem c_spec_BuildIndex (l : List GContainer) (hs : l.length + (l.map GContainer.size).sum ≤ 1073741824) : Ctr Tryz.prog n_spec_BuildIndex [aL 4 (l.map GContainer.enc)] [rL 6 ((index l).map GFound.enc)] := by
 refine cA m_spec_BuildIndex 4 74 [(.tmp 2, [true])] Tryz.func178 rfl rfl ?_; unfold m_spec_BuildIndex
 intro hb
 clear hb
 simp only [↓reduceIte, go_sem]
 refine loopK_rng l (fun i => [(3, .val false [.ref 0 0 6 0 (Srt.isort fndLt (fnds 0 (l.take i))).length]), (4, vI i)]) (fun i => [(0, ⟨0, .row true 6 ((Srt.isort fndLt (fnds 0 (l.take i))).map GFound.enc)⟩)]) (fun _ => True) (by simp only [roomB]; omega) ?_
 simp only [↓reduceIte, go_sem]
 refine ⟨?_, trivial, ?_, ?_⟩
 ·simp only [↓reduceIte, go_sem, List.take_zero]
  exact ⟨rfl, rfl⟩
 ·intro i x hx _ h0 h1 hw
  have hx1 := mem_sum (f := GContainer.size) (at_mem hx)
  have hi := len_at hx
  have hxl : x.Captures.length ≤ x.size := by simp only [GContainer.size]; omega
  simp only [↓reduceIte, go_sem, h1]
  refine loopK_rng x.Captures (fun k => [(3, .val false [.ref 0 0 6 0 (Srt.isort fndLt (fnds 0 (l.take i) ++ fnd1 i 0 (x.Captures.take k))).length]), (5, vI k)]) (fun k => [(0, ⟨0, .row true 6 ((Srt.isort fndLt (fnds 0 (l.take i) ++ fnd1 i 0 (x.Captures.take k))).map GFound.enc)⟩)]) (fun _ => True) (by simp only [roomB]; omega) ?_
  simp only [↓reduceIte, go_sem]
  refine ⟨?_, trivial, ?_, ?_⟩
  ·simp only [↓reduceIte, go_sem, List.take_zero]
   exact ⟨by simp [fnd1], by simp [fnd1]⟩
  ·intro k c hc _ h2 h3 hw2
   have hn := len_fnds_at (k := k) hx
   obtain ⟨y, hy⟩ : ∃ y : GFound, y = ⟨c.Address, c.Tick, i, k⟩ := ⟨_, rfl⟩
   obtain ⟨out, hout⟩ : ∃ out, out = Srt.isort fndLt (fnds 0 (l.take i) ++ fnd1 i 0 (x.Captures.take k)) := ⟨_, rfl⟩
   have hsr : Srt.srt fndLt out := hout ▸ Srt.srt_isort fndSwo' _
   have hol : out.length ≤ (l.map GContainer.size).sum := by rw [hout, Srt.len_isort]; exact hn
   have hst : Srt.isort fndLt (fnds 0 (l.take i) ++ fnd1 i 0 (x.Captures.take (k + 1))) = Srt.ins fndLt y out := by
    rw [fnds_step hc, Srt.isort_snoc, ← hout, ← hy]
   have hye : ([tI c.Address.Host, tI c.Address.Path, tI c.Address.Query, tI c.Tick, tI (i : Int), tI (k : Int)] : List T) = y.enc := by rw [hy]; rfl
   rw [hst, ← hout]
   simp only [↓reduceIte, go_sem, bk_eq hx, bk_eq hc, h0, h1, h2, h3, hw]
   refine loopK_up (fun n : Nat => [(7, vI n)]) (fun n => []) (fun n => n ≤ out.length ∧ ∀ z ∈ out.drop n, fndLt y z = true) (fun n => n) out.length ?_
   simp only [↓reduceIte, go_sem]
   refine ⟨?_, ⟨Nat.le_refl _, by simp⟩, ?_⟩
   ·simp only [↓reduceIte, go_sem]
   ·rintro n ⟨hn1, hn2⟩
    simp only [↓reduceIte, go_sem]
    refine ⟨fun hpos => ?_, fun hzero => ?_⟩
    ·obtain ⟨m, hm⟩ : ∃ m, m = n - 1 := ⟨_, rfl⟩
     obtain ⟨z, hz⟩ := at_some (show m < out.length by omega)
     have e1 : IntKind.i64.wrap ((n : Int) - 1) = (m : Int) := by rw [wI (by omega) (by omega)]; omega
     rw [e1]
     simp only [go_sem, bk_eq hz]
     refine ⟨⟨by omega, by omega⟩, ?_⟩
     apply callK_of (c_spec_l31Before ⟨c.Address, c.Tick, (i : Int), (k : Int)⟩ z)
     simp only [↓reduceIte, go_sem]
     rw [e1]
     refine ⟨fun ht => ⟨m, rfl, ⟨by omega, ?_⟩, by omega⟩, fun hf => ?_⟩
     ·rw [hm]
      exact Srt.drop_step (by omega) (hm ▸ hz) hn2 (hy ▸ ht)
     ·have hstop : n = 0 ∨ ∃ y', out[n - 1]? = some y' ∧ fndLt y y' = false := .inr ⟨z, hm ▸ hz, hy ▸ hf⟩
      rw [cutA hn1]
      refine ⟨by omega, by omega, ?_⟩
      have hA : (out.take n).length = n := by rw [List.length_take]; omega
      have hB : out.length = n + (out.drop n).length := by rw [List.length_drop]; omega
      have eC := cutB (f := GFound.enc) hn1
      have e5 : List.map GFound.enc (out.take n) ++ [[T.sc (Value.int IntKind.i64 c.Address.Host), T.sc (Value.int IntKind.i64 c.Address.Path), T.sc (Value.int IntKind.i64 c.Address.Query), T.sc (Value.int IntKind.i64 c.Tick), T.sc (Value.int IntKind.i64 (i : Int)), T.sc (Value.int IntKind.i64 (k : Int))]] = (out.take n ++ [y]).map GFound.enc := by rw [hy]; simp [GFound.enc]
      have e6 : ((out.take n ++ [y]).map GFound.enc).length = (out.take n).length + 1 := by simp
      simp only [↓reduceIte, go_sem, ↓flat_of (f := GFound.enc) (fun _ => rfl) (out.take n), ↓eC, ↓e5, ↓e6, ↓flat_of (f := GFound.enc) (fun _ => rfl) (out.drop n)]
      rw [Srt.ins_at fndSwo' hsr hn2 hstop]
      simp only [roomB]
      exact ⟨by omega, by omega, by omega, ⟨by omega, by omega, by omega⟩, by omega, by omega, ⟨by simp only [List.length_append, List.length_cons, List.length_nil], hw2⟩, by rw [← List.map_append]⟩
    ·have hstop : n = 0 ∨ ∃ y', out[n - 1]? = some y' ∧ fndLt y y' = false := .inl (by omega)
     rw [cutA hn1]
     refine ⟨by omega, by omega, ?_⟩
     have hA : (out.take n).length = n := by rw [List.length_take]; omega
     have hB : out.length = n + (out.drop n).length := by rw [List.length_drop]; omega
     have eC := cutB (f := GFound.enc) hn1
     have e5 : List.map GFound.enc (out.take n) ++ [[T.sc (Value.int IntKind.i64 c.Address.Host), T.sc (Value.int IntKind.i64 c.Address.Path), T.sc (Value.int IntKind.i64 c.Address.Query), T.sc (Value.int IntKind.i64 c.Tick), T.sc (Value.int IntKind.i64 (i : Int)), T.sc (Value.int IntKind.i64 (k : Int))]] = (out.take n ++ [y]).map GFound.enc := by rw [hy]; simp [GFound.enc]
     have e6 : ((out.take n ++ [y]).map GFound.enc).length = (out.take n).length + 1 := by simp
     simp only [↓reduceIte, go_sem, ↓flat_of (f := GFound.enc) (fun _ => rfl) (out.take n), ↓eC, ↓e5, ↓e6, ↓flat_of (f := GFound.enc) (fun _ => rfl) (out.drop n)]
     rw [Srt.ins_at fndSwo' hsr hn2 hstop]
     simp only [roomB]
     exact ⟨by omega, by omega, by omega, ⟨by omega, by omega, by omega⟩, by omega, by omega, ⟨by simp only [List.length_append, List.length_cons, List.length_nil], hw2⟩, by rw [← List.map_append]⟩
  ·intro _
   simp only [↓reduceIte, go_sem, List.take_length, bk_eq hx, h0, h1, hw, Int.lt_irrefl]
   exact ⟨by rw [fnds_snoc hx, Nat.zero_add], by rw [fnds_snoc hx, Nat.zero_add]⟩
 ·intro _
  simp only [↓reduceIte, go_sem, List.take_length]
  rfl
end Go.Proofs.YtgkeplbnnjogiaaGreatR
namespace Go.Proofs.YtgkeplbnnjogiaaGreatR
open Go Go.RowKit Go.Proofs
open Nat (reduceEqDiff reduceLT reduceLeDiff reduceAdd reduceMul)
open List (reduceReplicate)
theorem any_nots {α : Type} {p : α → Bool} {l : List α} : (l.any fun x => !p x) = !l.all p := by
 induction l with
 | nil => rfl
 | cons x l ih => rw [List.any_cons, List.all_cons, ih]; cases p x <;> rfl
def fewAll {α : Type} (n : Nat) (p : α → Bool) (l : List α) : Bool := decide (l.length ≤ n) && l.all p
theorem fewAll_no {α : Type} {n : Nat} {p : α → Bool} {l : List α} (h : ¬ l.length ≤ n) : false = fewAll n p l := by
 unfold fewAll; rw [decide_eq_false h]; rfl
theorem fewAll_yes {α : Type} {n : Nat} {p : α → Bool} {l : List α} (h : l.length ≤ n) : (!l.any fun x => !p x) = fewAll n p l := by
 unfold fewAll; rw [decide_eq_true h, any_nots, Bool.not_not]; rfl
theorem fewAll_at {α : Type} {n : Nat} {p : α → Bool} {l : List α} {k : Nat} {x : α} (hx : l[k]? = some x) (h : p x = false) : false = fewAll n p l := by
 unfold fewAll; rw [← all_not hx h, Bool.and_false]
theorem fewAll_end {α : Type} {n : Nat} {p : α → Bool} {l : List α} (h : l.all p = true) : decide (l.length ≤ n) = fewAll n p l := by
 unfold fewAll; rw [h, Bool.and_true]
theorem le_cast {n m : Nat} : decide ((n : Int) ≤ (m : Int)) = decide (n ≤ m) := by
 rw [Bool.eq_iff_iff]; simp only [decide_eq_true_eq]; omega
def opOk (o : GOp) : Bool := decide ((0 ≤ o.A ∧ o.A < 4) ∧ (
 (o.Kind = 1 ∧ (1 ≤ o.B ∧ o.B ≤ 9) ∧ (0 ≤ o.C ∧ o.C ≤ 99)) ∨
 ((o.Kind = 2 ∨ o.Kind = 3 ∨ o.Kind = 4) ∧ o.B = 0 ∧ o.C = 0) ∨
 (o.Kind = 5 ∧ (0 ≤ o.B ∧ o.B < 4) ∧ (0 ≤ o.C ∧ o.C < 4)) ∨
 (o.Kind = 6 ∧ (0 ≤ o.B ∧ o.B < 4) ∧ o.C = 0) ∨
 (o.Kind = 7 ∧ (1 ≤ o.B ∧ o.B ≤ 3) ∧ o.C = 0) ∨
 ((o.Kind = 8 ∨ o.Kind = 9) ∧ (0 ≤ o.B ∧ o.B < 3) ∧ o.C = 0)))
def scriptOk (l : List GOp) : Bool := fewAll 16 opOk l
def m_impl_isOp : MC :=
(.seq (pr [.box 1 0 (.s 0), .mv 2 cF] [1])
(.seq (.seq (pr [.fld 3 (.s 1) 1, .load 4 false 1 (.s 3), .call 5 [] (.f n_impl_at) [.s 4, .c (.int .i64 4)], .un 6 .not (.s 5)] [1,6])
(.cond (.s 6) (.seq (pr [.mv 2 cF] [2])
.ret) .skip))
(.seq (.seq (pr [.fld 7 (.s 1) 0, .load 8 false 1 (.s 7)] [1,8])
(.block 0 (.seq (pr [.bin 10 false .eql (.s 8) (ci 1), .mv 9 (.s 10)] [1,8,9])
(.cond (.s 9) (.seq (.reg [Za (.fld 11 (.s 1) 2), Za (.load 12 false 1 (.s 11)), Za (.call 13 [] (.f n_impl_InRange) [.s 12, .c (.int .i64 1), .c (.int .i64 9)]), Za (.mv 14 (.s 13)), Zb 14 true (.fld 15 (.s 1) 3), Zb 14 true (.load 16 false 1 (.s 15)), Zb 14 true (.call 17 [] (.f n_impl_InRange) [.s 16, .c (.int .i64 0), .c (.int .i64 99)]), Za (.pick 18 (.s 14) (.s 17) cF), Za (.mv 2 (.s 18))] [2])
.ret) (.seq (.seq (pr [.bin 20 false .eql (.s 8) (ci 2), .mv 19 (.s 20)] [1,8,19])
(.cond (.s 19) .skip (.seq (pr [.bin 21 false .eql (.s 8) (ci 3), .mv 19 (.s 21)] [1,8,19])
(.cond (.s 19) .skip (pr [.bin 22 false .eql (.s 8) (ci 4), .mv 19 (.s 22)] [1,8,19])))))
(.cond (.s 19) (.seq (.reg [Za (.fld 23 (.s 1) 2), Za (.load 24 false 1 (.s 23)), Za (.bin 25 false .eql (.s 24) (ci 0)), Za (.mv 26 (.s 25)), Zb 26 true (.fld 27 (.s 1) 3), Zb 26 true (.load 28 false 1 (.s 27)), Zb 26 true (.bin 29 false .eql (.s 28) (ci 0)), Za (.pick 30 (.s 26) (.s 29) cF), Za (.mv 2 (.s 30))] [2])
.ret) (.seq (pr [.bin 32 false .eql (.s 8) (ci 5), .mv 31 (.s 32)] [1,8,31])
(.cond (.s 31) (.seq (.reg [Za (.fld 33 (.s 1) 2), Za (.load 34 false 1 (.s 33)), Za (.call 35 [] (.f n_impl_at) [.s 34, .c (.int .i64 4)]), Za (.mv 36 (.s 35)), Zb 36 true (.fld 37 (.s 1) 3), Zb 36 true (.load 38 false 1 (.s 37)), Zb 36 true (.call 39 [] (.f n_impl_at) [.s 38, .c (.int .i64 4)]), Za (.pick 40 (.s 36) (.s 39) cF), Za (.mv 2 (.s 40))] [2])
.ret) (.seq (pr [.bin 42 false .eql (.s 8) (ci 6), .mv 41 (.s 42)] [1,8,41])
(.cond (.s 41) (.seq (.reg [Za (.fld 43 (.s 1) 2), Za (.load 44 false 1 (.s 43)), Za (.call 45 [] (.f n_impl_at) [.s 44, .c (.int .i64 4)]), Za (.mv 46 (.s 45)), Zb 46 true (.fld 47 (.s 1) 3), Zb 46 true (.load 48 false 1 (.s 47)), Zb 46 true (.bin 49 false .eql (.s 48) (ci 0)), Za (.pick 50 (.s 46) (.s 49) cF), Za (.mv 2 (.s 50))] [2])
.ret) (.seq (pr [.bin 52 false .eql (.s 8) (ci 7), .mv 51 (.s 52)] [1,8,51])
(.cond (.s 51) (.seq (.reg [Za (.fld 53 (.s 1) 2), Za (.load 54 false 1 (.s 53)), Za (.call 55 [] (.f n_impl_InRange) [.s 54, .c (.int .i64 1), .c (.int .i64 3)]), Za (.mv 56 (.s 55)), Zb 56 true (.fld 57 (.s 1) 3), Zb 56 true (.load 58 false 1 (.s 57)), Zb 56 true (.bin 59 false .eql (.s 58) (ci 0)), Za (.pick 60 (.s 56) (.s 59) cF), Za (.mv 2 (.s 60))] [2])
.ret) (.seq (.seq (pr [.bin 62 false .eql (.s 8) (ci 8), .mv 61 (.s 62)] [1,8,61])
(.cond (.s 61) .skip (pr [.bin 63 false .eql (.s 8) (ci 9), .mv 61 (.s 63)] [1,61])))
(.cond (.s 61) (.seq (.reg [Za (.fld 64 (.s 1) 2), Za (.load 65 false 1 (.s 64)), Za (.call 66 [] (.f n_impl_at) [.s 65, .c (.int .i64 3)]), Za (.mv 67 (.s 66)), Zb 67 true (.fld 68 (.s 1) 3), Zb 67 true (.load 69 false 1 (.s 68)), Zb 67 true (.bin 70 false .eql (.s 69) (ci 0)), Za (.pick 71 (.s 67) (.s 70) cF), Za (.mv 2 (.s 71))] [2])
.ret) .skip))))))))))))))
(.seq (pr [.mv 2 cF] [2])
.ret))))
theorem c_impl_isOp (o : GOp) : Ctr Tryz.prog n_impl_isOp [aS o.enc] [rB (opOk o)] := by
 refine cA m_impl_isOp 1 72 [(.tmp 2, [false])] Tryz.func329 rfl rfl ?_; unfold m_impl_isOp
 intro hb
 clear hb
 simp only [↓reduceIte, go_sem]
 repeat' first
  | (refine And.intro ?_ ?_ <;> intro h)
  | (apply callK_of (c_impl_at _ _); simp only [↓reduceIte, go_sem])
  | (apply callK_of (c_impl_InRange _ _ _); simp only [↓reduceIte, go_sem])
 all_goals (unfold opOk; first | (symm; rw [decide_eq_false_iff_not]; omega) | (symm; rw [decide_eq_true_eq]; omega) | (rw [Bool.eq_iff_iff]; simp only [decide_eq_true_eq, beq_iff_eq]; omega))
def m_spec_l10Ok : MC :=
(.seq (pr [.box 1 0 (.s 0), .mv 2 cF] [1])
(.seq (pr [.mv 3 (ci 3)] [1,3])
(.seq (.seq (pr [.fld 4 (.s 1) 1, .load 5 false 1 (.s 4), .mv 6 (.s 3), .call 7 [] (.f n_spec_l1In) [.s 5, .c (.int .i64 0), .s 6], .un 8 .not (.s 7)] [1,3,8])
(.cond (.s 8) (.seq (pr [.mv 2 cF] [2])
.ret) .skip))
(.seq (.seq (pr [.fld 9 (.s 1) 0, .load 10 false 1 (.s 9)] [1,3,10])
(.block 0 (.seq (pr [.bin 12 false .eql (.s 10) (ci 1), .mv 11 (.s 12)] [1,3,10,11])
(.cond (.s 11) (.seq (.reg [Za (.fld 13 (.s 1) 2), Za (.load 14 false 1 (.s 13)), Za (.call 15 [] (.f n_spec_l1In) [.s 14, .c (.int .i64 1), .c (.int .i64 9)]), Za (.mv 16 (.s 15)), Zb 16 true (.fld 17 (.s 1) 3), Zb 16 true (.load 18 false 1 (.s 17)), Zb 16 true (.call 19 [] (.f n_spec_l1In) [.s 18, .c (.int .i64 0), .c (.int .i64 99)]), Za (.pick 20 (.s 16) (.s 19) cF), Za (.mv 2 (.s 20))] [2])
.ret) (.seq (.seq (pr [.bin 22 false .eql (.s 10) (ci 2), .mv 21 (.s 22)] [1,3,10,21])
(.cond (.s 21) .skip (.seq (pr [.bin 23 false .eql (.s 10) (ci 3), .mv 21 (.s 23)] [1,3,10,21])
(.cond (.s 21) .skip (pr [.bin 24 false .eql (.s 10) (ci 4), .mv 21 (.s 24)] [1,3,10,21])))))
(.cond (.s 21) (.seq (.reg [Za (.fld 25 (.s 1) 2), Za (.load 26 false 1 (.s 25)), Za (.bin 27 false .eql (.s 26) (ci 0)), Za (.mv 28 (.s 27)), Zb 28 true (.fld 29 (.s 1) 3), Zb 28 true (.load 30 false 1 (.s 29)), Zb 28 true (.bin 31 false .eql (.s 30) (ci 0)), Za (.pick 32 (.s 28) (.s 31) cF), Za (.mv 2 (.s 32))] [2])
.ret) (.seq (pr [.bin 34 false .eql (.s 10) (ci 5), .mv 33 (.s 34)] [1,3,10,33])
(.cond (.s 33) (.seq (.reg [Za (.fld 35 (.s 1) 2), Za (.load 36 false 1 (.s 35)), Za (.mv 37 (.s 3)), Za (.call 38 [] (.f n_spec_l1In) [.s 36, .c (.int .i64 0), .s 37]), Za (.mv 39 (.s 38)), Zb 39 true (.fld 40 (.s 1) 3), Zb 39 true (.load 41 false 1 (.s 40)), Zb 39 true (.mv 42 (.s 3)), Zb 39 true (.call 43 [] (.f n_spec_l1In) [.s 41, .c (.int .i64 0), .s 42]), Za (.pick 44 (.s 39) (.s 43) cF), Za (.mv 2 (.s 44))] [2])
.ret) (.seq (pr [.bin 46 false .eql (.s 10) (ci 6), .mv 45 (.s 46)] [1,10,45])
(.cond (.s 45) (.seq (.reg [Za (.fld 47 (.s 1) 2), Za (.load 48 false 1 (.s 47)), Za (.call 49 [] (.f n_spec_l1In) [.s 48, .c (.int .i64 0), .c (.int .i64 3)]), Za (.mv 50 (.s 49)), Zb 50 true (.fld 51 (.s 1) 3), Zb 50 true (.load 52 false 1 (.s 51)), Zb 50 true (.bin 53 false .eql (.s 52) (ci 0)), Za (.pick 54 (.s 50) (.s 53) cF), Za (.mv 2 (.s 54))] [2])
.ret) (.seq (pr [.bin 56 false .eql (.s 10) (ci 7), .mv 55 (.s 56)] [1,10,55])
(.cond (.s 55) (.seq (.reg [Za (.fld 57 (.s 1) 2), Za (.load 58 false 1 (.s 57)), Za (.call 59 [] (.f n_spec_l1In) [.s 58, .c (.int .i64 1), .c (.int .i64 3)]), Za (.mv 60 (.s 59)), Zb 60 true (.fld 61 (.s 1) 3), Zb 60 true (.load 62 false 1 (.s 61)), Zb 60 true (.bin 63 false .eql (.s 62) (ci 0)), Za (.pick 64 (.s 60) (.s 63) cF), Za (.mv 2 (.s 64))] [2])
.ret) (.seq (.seq (pr [.bin 66 false .eql (.s 10) (ci 8), .mv 65 (.s 66)] [1,10,65])
(.cond (.s 65) .skip (pr [.bin 67 false .eql (.s 10) (ci 9), .mv 65 (.s 67)] [1,65])))
(.cond (.s 65) (.seq (.reg [Za (.fld 68 (.s 1) 2), Za (.load 69 false 1 (.s 68)), Za (.call 70 [] (.f n_spec_l1In) [.s 69, .c (.int .i64 0), .c (.int .i64 2)]), Za (.mv 71 (.s 70)), Zb 71 true (.fld 72 (.s 1) 3), Zb 71 true (.load 73 false 1 (.s 72)), Zb 71 true (.bin 74 false .eql (.s 73) (ci 0)), Za (.pick 75 (.s 71) (.s 74) cF), Za (.mv 2 (.s 75))] [2])
.ret) .skip))))))))))))))
(.seq (pr [.mv 2 cF] [2])
.ret)))))
theorem c_spec_l10Ok (o : GOp) : Ctr Tryz.prog n_spec_l10Ok [aS o.enc] [rB (opOk o)] := by
 refine cA m_spec_l10Ok 1 76 [(.tmp 2, [false])] Tryz.func320 rfl rfl ?_; unfold m_spec_l10Ok
 intro hb
 clear hb
 simp only [↓reduceIte, go_sem]
 repeat' first
  | (refine And.intro ?_ ?_ <;> intro h)
  | (apply callK_of (c_spec_l1In _ _ _); simp only [↓reduceIte, go_sem])
 all_goals (unfold opOk; first | (symm; rw [decide_eq_false_iff_not]; omega) | (symm; rw [decide_eq_true_eq]; omega) | (rw [Bool.eq_iff_iff]; simp only [decide_eq_true_eq, beq_iff_eq]; omega))
def m_impl_IsScript_1 : MC :=
(.seq (pr [.box 1 0 (.s 0), .mv 2 cF] [1])
(.seq (pr [.load 3 true 4 (.s 1), .call 4 [] (.f n_impl_isOp) [.s 3], .un 5 .not (.s 4), .mv 2 (.s 5)] [2])
.ret))
theorem c_impl_IsScript_1 (o : GOp) : Ctr Tryz.prog n_impl_IsScript_1 [aS o.enc] [rB (!opOk o)] := by
 refine cA m_impl_IsScript_1 1 6 [(.tmp 2, [false])] Tryz.func328 rfl rfl ?_; unfold m_impl_IsScript_1
 intro hb
 clear hb
 simp only [↓reduceIte, go_sem]
 apply callK_of (c_impl_isOp _)
 simp only [↓reduceIte, go_sem]
def m_impl_IsScript : MC :=
(.seq (pr [.mv 2 cF] [0])
(.seq (.reg [Za (.mv 3 (.s 0)), Za (.len 4 false (.s 3)), Za (.bin 5 false .leq (.s 4) (ci 16)), Za (.mv 6 (.s 5)), Zb 6 true (.mv 7 (.s 0)), Zb 6 true (.call 8 [] (.f n_slices_ContainsFunc_impl_Op_impl_Op) [.s 7, .f n_impl_IsScript_1]), Zb 6 true (.un 9 .not (.s 8)), Za (.pick 10 (.s 6) (.s 9) cF), Za (.mv 2 (.s 10))] [2])
.ret))
theorem c_impl_IsScript (l : List GOp) : Ctr Tryz.prog n_impl_IsScript [aL 4 (l.map GOp.enc)] [rB (scriptOk l)] := by
 refine cA m_impl_IsScript 0 11 [(.tmp 2, [false])] Tryz.func236 rfl rfl ?_; unfold m_impl_IsScript
 intro hb
 clear hb
 simp only [↓reduceIte, go_sem]
 refine ⟨fun h => ?_, fun h => fewAll_no (by omega)⟩
 refine callK_of (c_slices_ContainsFunc_Op l _ [] (fun o => !opOk o) fun o _ => c_impl_IsScript_1 o) ?_
 simp only [↓reduceIte, go_sem]
 exact fewAll_yes (by omega)
def m_spec_IsScript : MC :=
(.seq (pr [.mv 2 cF] [0])
(.seq (.seq (pr [.mv 3 (ci 0)] [0,3])
(.block 0 (.loop ([0,3], []) (.seq (.seq (pr [.mv 4 (.s 3), .mv 5 (.s 0), .len 6 false (.s 5), .bin 7 false .lss (.s 4) (.s 6)] [0,3,7])
(.cond (.s 7) .skip (.exit 0)))
(.seq (.block 1 (.seq (pr [.mv 10 (.s 0), .mv 11 (.s 3), .idx 12 4 (.s 10) (.s 11), .load 13 true 4 (.s 12), .call 14 [] (.f n_spec_l10Ok) [.s 13], .un 15 .not (.s 14)] [0,3,15])
(.cond (.s 15) (.seq (pr [.mv 2 cF] [2])
.ret) .skip)))
(pr [.mv 8 (.s 3), .bin 9 false .add (.s 8) (ci 1), .mv 3 (.s 9)] [0,3]))))))
(.seq (pr [.mv 16 (.s 0), .len 17 false (.s 16), .bin 18 false .leq (.s 17) (ci 16), .mv 2 (.s 18)] [2])
.ret)))
theorem c_spec_IsScript (l : List GOp) : Ctr Tryz.prog n_spec_IsScript [aL 4 (l.map GOp.enc)] [rB (scriptOk l)] := by
 refine cA m_spec_IsScript 0 19 [(.tmp 2, [false])] Tryz.func223 rfl rfl ?_; unfold m_spec_IsScript
 intro hb
 simp only [bdA, bdL, bdT, bdR_map, roomB, and_true, List.length_map] at hb
 have hl := hb.1
 clear hb
 simp only [↓reduceIte, go_sem]
 refine loopK_rng l (fun k => [(3, vI k)]) (fun k => []) (fun k => (l.take k).all opOk = true) hl ?_
 simp only [↓reduceIte, go_sem]
 refine ⟨?_, by simp, ?_, ?_⟩
 ·simp only [↓reduceIte, go_sem]
 ·intro k x hx h h0 h1 hw
  simp only [↓reduceIte, go_sem, bk_eq hx, h0, h1]
  apply callK_of (c_spec_l10Ok _)
  simp only [↓reduceIte, go_sem, hw]
  exact ⟨fun hn => fewAll_at hx hn, fun hn => all_step hx h hn⟩
 ·intro h
  simp only [↓reduceIte, go_sem]
  rw [List.take_length] at h
  exact le_cast.trans (fewAll_end h)
def asks (k : Int) : Bool := decide (1 ≤ k ∧ k ≤ 4)
def m_impl_Asks : MC :=
(.seq (pr [.mv 2 cF] [0])
(.seq (pr [.mv 3 (.s 0), .call 4 [] (.f n_impl_InRange) [.s 3, .c (.int .i64 1), .c (.int .i64 4)], .mv 2 (.s 4)] [2])
.ret))
theorem c_impl_Asks (k : Int) : Ctr Tryz.prog n_impl_Asks [aI k] [rB (asks k)] := by
 refine cA m_impl_Asks 0 5 [(.tmp 2, [false])] Tryz.func334 rfl rfl ?_; unfold m_impl_Asks
 intro hb
 clear hb
 simp only [↓reduceIte, go_sem]
 apply callK_of (c_impl_InRange _ _ _)
 simp only [↓reduceIte, go_sem]
 try rfl
def m_spec_Asks : MC :=
(.seq (pr [.mv 2 cF] [0])
(.seq (pr [.mv 3 (.s 0), .call 4 [] (.f n_spec_l1In) [.s 3, .c (.int .i64 1), .c (.int .i64 4)], .mv 2 (.s 4)] [2])
.ret))
theorem c_spec_Asks (k : Int) : Ctr Tryz.prog n_spec_Asks [aI k] [rB (asks k)] := by
 refine cA m_spec_Asks 0 5 [(.tmp 2, [false])] Tryz.func323 rfl rfl ?_; unfold m_spec_Asks
 intro hb
 clear hb
 simp only [↓reduceIte, go_sem]
 apply callK_of (c_spec_l1In _ _ _)
 simp only [↓reduceIte, go_sem]
 try rfl
def entOk (e : GEntry) : Bool := asks e.Kind && (decide (0 ≤ e.Value ∧ e.Value ≤ 999) && (if e.Kind = 1 then isAddr e.Address else noAddr e.Address))
def entsOk (l : List GEntry) : Bool := fewAll 16 entOk l
def m_impl_AreEntries_1 : MC :=
(.seq (pr [.box 1 0 (.s 0), .mv 2 cF] [1])
(.seq (.seq (pr [.fld 3 (.s 1) 0, .load 4 false 1 (.s 3), .bin 5 false .eql (.s 4) (ci 1)] [1,5])
(.cond (.s 5) (.seq (.reg [Za (.fld 6 (.s 1) 1), Za (.load 7 true 3 (.s 6)), Za (.call 8 [] (.f n_impl_IsAddress) [.s 7]), Za (.un 9 .not (.s 8)), Za (.mv 10 (.s 9)), Zb 10 false (.fld 11 (.s 1) 4), Zb 10 false (.load 12 false 1 (.s 11)), Zb 10 false (.call 13 [] (.f n_impl_InRange) [.s 12, .c (.int .i64 0), .c (.int .i64 999)]), Zb 10 false (.un 14 .not (.s 13)), Za (.pick 15 (.s 10) cT (.s 14)), Za (.mv 2 (.s 15))] [2])
.ret) .skip))
(.seq (.reg [Za (.fld 16 (.s 1) 0), Za (.load 17 false 1 (.s 16)), Za (.call 18 [] (.f n_impl_Asks) [.s 17]), Za (.un 19 .not (.s 18)), Za (.mv 20 (.s 19)), Zb 20 false (.fld 21 (.s 1) 1), Zb 20 false (.load 22 true 3 (.s 21)), Zb 20 false (.build 23 [pz, pz, pz] []), Zb 20 false (.eqA 24 true [.i .i64, .i .i64, .i .i64] (.s 22) (.s 23)), Za (.pick 25 (.s 20) cT (.s 24)), Za (.mv 26 (.s 25)), Zb 26 false (.fld 27 (.s 1) 4), Zb 26 false (.load 28 false 1 (.s 27)), Zb 26 false (.call 29 [] (.f n_impl_InRange) [.s 28, .c (.int .i64 0), .c (.int .i64 999)]), Zb 26 false (.un 30 .not (.s 29)), Za (.pick 31 (.s 26) cT (.s 30)), Za (.mv 2 (.s 31))] [2])
.ret)))
theorem c_impl_AreEntries_1 (e : GEntry) : Ctr Tryz.prog n_impl_AreEntries_1 [aS e.enc] [rB (!entOk e)] := by
 refine cA m_impl_AreEntries_1 1 32 [(.tmp 2, [false])] Tryz.func408 rfl rfl ?_; unfold m_impl_AreEntries_1
 intro hb
 clear hb
 simp only [↓reduceIte, go_sem]
 repeat' first
  | (refine And.intro ?_ ?_ <;> intro h)
  | (apply callK_of (c_impl_IsAddress _); simp only [↓reduceIte, go_sem])
  | (apply callK_of (c_impl_Asks _); simp only [↓reduceIte, go_sem])
  | (apply callK_of (c_impl_InRange _ _ _); simp only [↓reduceIte, go_sem])
 all_goals (simp_all [entOk, asks, noAddr]; try omega)
def m_impl_AreEntries : MC :=
(.seq (pr [.mv 2 cF] [0])
(.seq (.reg [Za (.mv 3 (.s 0)), Za (.len 4 false (.s 3)), Za (.bin 5 false .leq (.s 4) (ci 16)), Za (.mv 6 (.s 5)), Zb 6 true (.mv 7 (.s 0)), Zb 6 true (.call 8 [] (.f n_slices_ContainsFunc_impl_Entry_impl_Entry) [.s 7, .f n_impl_AreEntries_1]), Zb 6 true (.un 9 .not (.s 8)), Za (.pick 10 (.s 6) (.s 9) cF), Za (.mv 2 (.s 10))] [2])
.ret))
theorem c_impl_AreEntries (l : List GEntry) : Ctr Tryz.prog n_impl_AreEntries [aL 5 (l.map GEntry.enc)] [rB (entsOk l)] := by
 refine cA m_impl_AreEntries 0 11 [(.tmp 2, [false])] Tryz.func357 rfl rfl ?_; unfold m_impl_AreEntries
 intro hb
 clear hb
 simp only [↓reduceIte, go_sem]
 refine ⟨fun h => ?_, fun h => fewAll_no (by omega)⟩
 refine callK_of (c_slices_ContainsFunc_Entry l _ [] (fun o => !entOk o) fun o _ => c_impl_AreEntries_1 o) ?_
 simp only [↓reduceIte, go_sem]
 exact fewAll_yes (by omega)
def m_spec_AreEntries : MC :=
(.seq (pr [.mv 2 cF] [0])
(.seq (.seq (pr [.mv 3 (ci 0)] [0,3])
(.block 0 (.loop ([0,3], [0]) (.seq (.seq (pr [.mv 5 (.s 3), .mv 6 (.s 0), .len 7 false (.s 6), .bin 8 false .lss (.s 5) (.s 7)] [0,3,8])
(.cond (.s 8) .skip (.exit 0)))
(.seq (.block 1 (.seq (pr [.mv 11 (.s 0), .mv 12 (.s 3), .idx 13 5 (.s 11) (.s 12), .load 14 true 5 (.s 13), .alloc 4 0 [pz, pz, pz, pz, pz], .store 5 (.s 4) (.s 14)] [0,3,4])
(.seq (.reg [Za (.fld 15 (.s 4) 0), Za (.load 16 false 1 (.s 15)), Za (.call 17 [] (.f n_spec_Asks) [.s 16]), Za (.un 18 .not (.s 17)), Za (.mv 19 (.s 18)), Zb 19 false (.fld 20 (.s 4) 4), Zb 19 false (.load 21 false 1 (.s 20)), Zb 19 false (.call 22 [] (.f n_spec_l1In) [.s 21, .c (.int .i64 0), .c (.int .i64 999)]), Zb 19 false (.un 23 .not (.s 22)), Za (.pick 24 (.s 19) cT (.s 23)), Za (.mv 25 (.s 24)), Zb 25 false (.fld 26 (.s 4) 0), Zb 25 false (.load 27 false 1 (.s 26)), Zb 25 false (.bin 28 false .eql (.s 27) (ci 1)), Zb 25 false (.mv 29 (.s 28)), Zb 29 true (.fld 30 (.s 4) 1), Zb 29 true (.load 31 true 3 (.s 30)), Zb 29 true (.call 32 [] (.f n_spec_IsAddress) [.s 31]), Zb 29 true (.un 33 .not (.s 32)), Zb 25 false (.pick 34 (.s 29) (.s 33) cF), Za (.pick 35 (.s 25) cT (.s 34)), Za (.mv 36 (.s 35)), Zb 36 false (.fld 37 (.s 4) 0), Zb 36 false (.load 38 false 1 (.s 37)), Zb 36 false (.bin 39 false .neq (.s 38) (ci 1)), Zb 36 false (.mv 40 (.s 39)), Zb 40 true (.fld 41 (.s 4) 1), Zb 40 true (.load 42 true 3 (.s 41)), Zb 40 true (.build 43 [pz, pz, pz] []), Zb 40 true (.eqA 44 true [.i .i64, .i .i64, .i .i64] (.s 42) (.s 43)), Zb 36 false (.pick 45 (.s 40) (.s 44) cF), Za (.pick 46 (.s 36) cT (.s 45))] [0,3,46])
(.cond (.s 46) (.seq (pr [.mv 2 cF] [2])
.ret) .skip))))
(pr [.mv 9 (.s 3), .bin 10 false .add (.s 9) (ci 1), .mv 3 (.s 10)] [0,3]))))))
(.seq (pr [.mv 47 (.s 0), .len 48 false (.s 47), .bin 49 false .leq (.s 48) (ci 16), .mv 2 (.s 49)] [2])
.ret)))
theorem c_spec_AreEntries (l : List GEntry) : Ctr Tryz.prog n_spec_AreEntries [aL 5 (l.map GEntry.enc)] [rB (entsOk l)] := by
 refine cA m_spec_AreEntries 1 50 [(.tmp 2, [false])] Tryz.func347 rfl rfl ?_; unfold m_spec_AreEntries
 intro hb
 simp only [bdA, bdL, bdT, bdR_map, roomB, and_true, List.length_map] at hb
 have hl := hb.1
 clear hb
 simp only [↓reduceIte, go_sem]
 refine loopK_rng l (fun k => [(3, vI k)]) (fun k => []) (fun k => (l.take k).all entOk = true) hl ?_
 simp only [↓reduceIte, go_sem]
 refine ⟨?_, by simp, ?_, ?_⟩
 ·simp only [↓reduceIte, go_sem]
 ·intro k x hx hT h0 h1 hw
  have hy : entOk x = true → (l.take (k + 1)).all entOk = true := fun hn => all_step hx hT hn
  have hn : entOk x = false → false = entsOk l := fun hn => fewAll_at hx hn
  clear hT
  simp only [↓reduceIte, go_sem, bk_eq hx, h0, h1]
  repeat' first
   | (refine And.intro ?_ ?_ <;> intro h)
   | (apply callK_of (c_spec_IsAddress _); simp only [↓reduceIte, go_sem, hw])
   | (apply callK_of (c_spec_Asks _); simp only [↓reduceIte, go_sem])
   | (apply callK_of (c_spec_l1In _ _ _); simp only [↓reduceIte, go_sem, hw])
  all_goals first | (apply hy; clear hy hn hx hw; simp_all [entOk, noAddr]; done) | (apply hn; clear hy hn hx hw; simp_all [entOk, noAddr]; done) | (apply hn; clear hy hn hx hw; unfold entOk; rw [decide_eq_false (by assumption)]; simp; done)
 ·intro h
  simp only [↓reduceIte, go_sem]
  rw [List.take_length] at h
  exact le_cast.trans (fewAll_end h)
def capOk (c : GCapture) : Bool := isAddr c.Address && (decide (0 ≤ c.Tick ∧ c.Tick ≤ 2000) && isRes c.Resource)
def capsOk (l : List GCapture) : Bool := fewAll 20 capOk l
def m_impl_AreCaptures_1 : MC :=
(.seq (pr [.box 1 0 (.s 0), .mv 2 cF] [1])
(.seq (.reg [Za (.fld 3 (.s 1) 0), Za (.load 4 true 3 (.s 3)), Za (.call 5 [] (.f n_impl_IsAddress) [.s 4]), Za (.un 6 .not (.s 5)), Za (.mv 7 (.s 6)), Zb 7 false (.fld 8 (.s 1) 3), Zb 7 false (.load 9 false 1 (.s 8)), Zb 7 false (.call 10 [] (.f n_impl_InRange) [.s 9, .c (.int .i64 0), .c (.int .i64 2000)]), Zb 7 false (.un 11 .not (.s 10)), Za (.pick 12 (.s 7) cT (.s 11)), Za (.mv 13 (.s 12)), Zb 13 false (.fld 14 (.s 1) 4), Zb 13 false (.load 15 true 5 (.s 14)), Zb 13 false (.call 16 [] (.f n_impl_IsResource) [.s 15]), Zb 13 false (.un 17 .not (.s 16)), Za (.pick 18 (.s 13) cT (.s 17)), Za (.mv 2 (.s 18))] [2])
.ret))
theorem c_impl_AreCaptures_1 (c : GCapture) : Ctr Tryz.prog n_impl_AreCaptures_1 [aS c.enc] [rB (!capOk c)] := by
 refine cA m_impl_AreCaptures_1 1 19 [(.tmp 2, [false])] Tryz.func331 rfl rfl ?_; unfold m_impl_AreCaptures_1
 intro hb
 clear hb
 simp only [↓reduceIte, go_sem]
 repeat' first
  | (refine And.intro ?_ ?_ <;> intro h)
  | (apply callK_of (c_impl_IsAddress _); simp only [↓reduceIte, go_sem])
  | (apply callK_of (c_impl_IsResource _); simp only [↓reduceIte, go_sem])
  | (apply callK_of (c_impl_InRange _ _ _); simp only [↓reduceIte, go_sem])
 all_goals (simp_all [capOk]; try omega)
def m_impl_AreCaptures : MC :=
(.seq (pr [.mv 2 cF] [0])
(.seq (.reg [Za (.mv 3 (.s 0)), Za (.len 4 false (.s 3)), Za (.bin 5 false .leq (.s 4) (ci 20)), Za (.mv 6 (.s 5)), Zb 6 true (.mv 7 (.s 0)), Zb 6 true (.call 8 [] (.f n_slices_ContainsFunc_impl_Capture_impl_Capture) [.s 7, .f n_impl_AreCaptures_1]), Zb 6 true (.un 9 .not (.s 8)), Za (.pick 10 (.s 6) (.s 9) cF), Za (.mv 2 (.s 10))] [2])
.ret))
theorem c_impl_AreCaptures (l : List GCapture) : Ctr Tryz.prog n_impl_AreCaptures [aL 9 (l.map GCapture.enc)] [rB (capsOk l)] := by
 refine cA m_impl_AreCaptures 0 11 [(.tmp 2, [false])] Tryz.func237 rfl rfl ?_; unfold m_impl_AreCaptures
 intro hb
 clear hb
 simp only [↓reduceIte, go_sem]
 refine ⟨fun h => ?_, fun h => fewAll_no (by omega)⟩
 refine callK_of (c_slices_ContainsFunc_Capture l _ [] (fun o => !capOk o) fun o _ => c_impl_AreCaptures_1 o) ?_
 simp only [↓reduceIte, go_sem]
 exact fewAll_yes (by omega)
def m_spec_AreCaptures : MC :=
(.seq (pr [.mv 2 cF] [0])
(.seq (.seq (pr [.mv 3 (ci 0)] [0,3])
(.block 0 (.loop ([0,3], []) (.seq (.seq (pr [.mv 4 (.s 3), .mv 5 (.s 0), .len 6 false (.s 5), .bin 7 false .lss (.s 4) (.s 6)] [0,3,7])
(.cond (.s 7) .skip (.exit 0)))
(.seq (.block 1 (.seq (.reg [Za (.mv 10 (.s 0)), Za (.mv 11 (.s 3)), Za (.idx 12 9 (.s 10) (.s 11)), Za (.fld 13 (.s 12) 0), Za (.load 14 true 3 (.s 13)), Za (.call 15 [] (.f n_spec_IsAddress) [.s 14]), Za (.un 16 .not (.s 15)), Za (.mv 17 (.s 16)), Zb 17 false (.mv 18 (.s 0)), Zb 17 false (.mv 19 (.s 3)), Zb 17 false (.idx 20 9 (.s 18) (.s 19)), Zb 17 false (.fld 21 (.s 20) 3), Zb 17 false (.load 22 false 1 (.s 21)), Zb 17 false (.call 23 [] (.f n_spec_l1In) [.s 22, .c (.int .i64 0), .c (.int .i64 2000)]), Zb 17 false (.un 24 .not (.s 23)), Za (.pick 25 (.s 17) cT (.s 24)), Za (.mv 26 (.s 25)), Zb 26 false (.mv 27 (.s 0)), Zb 26 false (.mv 28 (.s 3)), Zb 26 false (.idx 29 9 (.s 27) (.s 28)), Zb 26 false (.fld 30 (.s 29) 4), Zb 26 false (.load 31 true 5 (.s 30)), Zb 26 false (.call 32 [] (.f n_spec_IsResource) [.s 31]), Zb 26 false (.un 33 .not (.s 32)), Za (.pick 34 (.s 26) cT (.s 33))] [0,3,34])
(.cond (.s 34) (.seq (pr [.mv 2 cF] [2])
.ret) .skip)))
(pr [.mv 8 (.s 3), .bin 9 false .add (.s 8) (ci 1), .mv 3 (.s 9)] [0,3]))))))
(.seq (pr [.mv 35 (.s 0), .len 36 false (.s 35), .bin 37 false .leq (.s 36) (ci 20), .mv 2 (.s 37)] [2])
.ret)))
theorem c_spec_AreCaptures (l : List GCapture) : Ctr Tryz.prog n_spec_AreCaptures [aL 9 (l.map GCapture.enc)] [rB (capsOk l)] := by
 refine cA m_spec_AreCaptures 0 38 [(.tmp 2, [false])] Tryz.func224 rfl rfl ?_; unfold m_spec_AreCaptures
 intro hb
 simp only [bdA, bdL, bdT, bdR_map, roomB, and_true, List.length_map] at hb
 have hl := hb.1
 clear hb
 simp only [↓reduceIte, go_sem]
 refine loopK_rng l (fun k => [(3, vI k)]) (fun k => []) (fun k => (l.take k).all capOk = true) hl ?_
 simp only [↓reduceIte, go_sem]
 refine ⟨?_, by simp, ?_, ?_⟩
 ·simp only [↓reduceIte, go_sem]
 ·intro k x hx hT h0 h1 hw
  have hy : capOk x = true → (l.take (k + 1)).all capOk = true := fun hn => all_step hx hT hn
  have hn : capOk x = false → false = capsOk l := fun hn => fewAll_at hx hn
  clear hT
  simp only [↓reduceIte, go_sem, bk_eq hx, h0, h1]
  repeat' first
   | (refine And.intro ?_ ?_ <;> intro h)
   | (apply callK_of (c_spec_IsAddress _); simp only [↓reduceIte, go_sem, bk_eq hx, h0, h1])
   | (apply callK_of (c_spec_IsResource _); simp only [↓reduceIte, go_sem, hw])
   | (apply callK_of (c_spec_l1In _ _ _); simp only [↓reduceIte, go_sem, bk_eq hx, h0, h1])
  all_goals first | (apply hy; clear hy hn hx hw; simp_all [capOk]; done) | (apply hn; clear hy hn hx hw; simp_all [capOk]; done) | (apply hn; clear hy hn hx hw; unfold capOk; rw [decide_eq_false (by assumption)]; simp; done)
 ·intro h
  simp only [↓reduceIte, go_sem]
  rw [List.take_length] at h
  exact le_cast.trans (fewAll_end h)
end Go.Proofs.YtgkeplbnnjogiaaGreatR
