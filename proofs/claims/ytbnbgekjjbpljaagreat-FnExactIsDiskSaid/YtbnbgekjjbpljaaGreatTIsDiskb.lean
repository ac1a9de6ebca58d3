/- What the functions compute that the law of IsDisk reaches: contracts, function by function. Conditions stand in each theorem. -/
import Derived.Test.YtbnbgekjjbpljaaGreatProg
import Derived.KernelRfl
import Derived.Test.YtbnbgekjjbpljaaGreatTIsDiska
namespace Go.Proofs.YtbnbgekjjbpljaaGreatR
open Go Go.RowKit Go.Proofs
set_option linter.unusedSimpArgs false
set_option linter.unusedVariables false
def resInts (r : GResource) : List Int := [r.Kind, r.To.Host, r.To.Path, r.To.Query, r.Body.length] ++ r.Body
def capInts (c : GCapture) : List Int := [c.Address.Host, c.Address.Path, c.Address.Query, c.Tick] ++ resInts c.Resource
theorem resInts_len (r : GResource) : (resInts r).length = 5 + r.Body.length := by simp [resInts]; omega
theorem capInts_len (c : GCapture) : (capInts c).length = 9 + c.Resource.Body.length := by simp [capInts, resInts]; omega
def m_spec_ResourceInts : MC :=
(.seq (pr [.box 1 0 (.s 0), .nilo 2 1 1] [1])
(.seq (pr [.fld 3 (.s 1) 0, .load 4 false 1 (.s 3), .fld 5 (.s 1) 2, .fld 6 (.s 5) 0, .load 7 false 1 (.s 6), .fld 8 (.s 1) 2, .fld 9 (.s 8) 1, .load 10 false 1 (.s 9), .fld 11 (.s 1) 2, .fld 12 (.s 11) 2, .load 13 false 1 (.s 12), .fld 14 (.s 1) 1, .load 15 false 1 (.s 14), .len 16 false (.s 15), .lit 17 1 1 8 [.s 4, .s 7, .s 10, .s 13, .s 16], .fld 18 (.s 1) 1, .load 19 false 1 (.s 18), .app 20 1 1 8 (.s 17) (.s 19), .mv 2 (.s 20)] [2])
.ret))
theorem c_spec_ResourceInts (r : GResource) (hs : r.Body.length ≤ 1073741824) : Ctr Tryz.prog n_spec_ResourceInts [aS r.enc] [rL 1 ((resInts r).map encI)] := by
  refine ctr_at (M := m_spec_ResourceInts) (m := 2) (n := 21) (res := [(.tmp 2, [true])]) hmix Tryz.func243 rfl (by kernel_rfl) rfl (by kernel_rfl) (by kernel_rfl) (Nat.le_of_ble_eq_true rfl) ?_; unfold m_spec_ResourceInts
  intro hb
  clear hb
  simp only [↓bk_bind, ↓bk_map, ↓bk_ite, ↓bk_some, ↓reduceIte, Nat.reduceEqDiff, Nat.reduceLT, Nat.reduceLeDiff, Nat.reduceAdd, Nat.reduceMul, reduceCtorEq, List.reduceReplicate, go_sem, ↓flat_of (f := encI) (fun _ => rfl) r.Body]
  simp only [roomB]
  refine ⟨by decide, by omega, ?_⟩
  simp [resInts, encI]
  omega
def m_impl_ResourceInts : MC :=
(.seq (pr [.box 1 0 (.s 0), .nilo 2 1 1] [1])
(.seq (pr [.fld 3 (.s 1) 0, .load 4 false 1 (.s 3), .fld 5 (.s 1) 2, .fld 6 (.s 5) 0, .load 7 false 1 (.s 6), .fld 8 (.s 1) 2, .fld 9 (.s 8) 1, .load 10 false 1 (.s 9), .fld 11 (.s 1) 2, .fld 12 (.s 11) 2, .load 13 false 1 (.s 12), .fld 14 (.s 1) 1, .load 15 false 1 (.s 14), .len 16 false (.s 15), .lit 17 1 1 8 [.s 4, .s 7, .s 10, .s 13, .s 16], .fld 18 (.s 1) 1, .load 19 false 1 (.s 18), .app 20 1 1 8 (.s 17) (.s 19), .mv 2 (.s 20)] [2])
.ret))
theorem c_impl_ResourceInts (r : GResource) (hs : r.Body.length ≤ 1073741824) : Ctr Tryz.prog n_impl_ResourceInts [aS r.enc] [rL 1 ((resInts r).map encI)] := by
  refine ctr_at (M := m_impl_ResourceInts) (m := 2) (n := 21) (res := [(.tmp 2, [true])]) hmix Tryz.func240 rfl (by kernel_rfl) rfl (by kernel_rfl) (by kernel_rfl) (Nat.le_of_ble_eq_true rfl) ?_; unfold m_impl_ResourceInts
  intro hb
  clear hb
  simp only [↓bk_bind, ↓bk_map, ↓bk_ite, ↓bk_some, ↓reduceIte, Nat.reduceEqDiff, Nat.reduceLT, Nat.reduceLeDiff, Nat.reduceAdd, Nat.reduceMul, reduceCtorEq, List.reduceReplicate, go_sem, ↓flat_of (f := encI) (fun _ => rfl) r.Body]
  simp only [roomB]
  refine ⟨by decide, by omega, ?_⟩
  simp [resInts, encI]
  omega
def m_spec_CaptureInts : MC :=
(.seq (pr [.box 1 0 (.s 0), .nilo 2 1 1] [1])
(.seq (.dreg [{ o := .fld 3 (.s 1) 0, hs := [6,7,8,9,10,11,12,13,15,16,17], ho := [2] }, { o := .fld 4 (.s 3) 0, hs := [6,7,8,9,10,11,12,13,15,16,17], ho := [2], bf := [0] }, { o := .load 5 false 1 (.s 4), hs := [6,7,8,9,10,11,12,13,15,16,17], ho := [2], bf := [0,1] }, { o := .fld 6 (.s 1) 0, hs := [3,4,5,9,10,11,12,13,15,16,17], ho := [2] }, { o := .fld 7 (.s 6) 1, hs := [3,4,5,9,10,11,12,13,15,16,17], ho := [2], bf := [3] }, { o := .load 8 false 1 (.s 7), hs := [3,4,5,9,10,11,12,13,15,16,17], ho := [2], bf := [3,4] }, { o := .fld 9 (.s 1) 0, hs := [3,4,5,6,7,8,12,13,15,16,17], ho := [2] }, { o := .fld 10 (.s 9) 2, hs := [3,4,5,6,7,8,12,13,15,16,17], ho := [2], bf := [6] }, { o := .load 11 false 1 (.s 10), hs := [3,4,5,6,7,8,12,13,15,16,17], ho := [2], bf := [6,7] }, { o := .fld 12 (.s 1) 3, hs := [3,4,5,6,7,8,9,10,11,15,16,17], ho := [2] }, { o := .load 13 false 1 (.s 12), hs := [3,4,5,6,7,8,9,10,11,15,16,17], ho := [2], bf := [9] }, { o := .lit 14 1 1 8 [.s 5, .s 8, .s 11, .s 13], hs := [15,16,17], ho := [2], ws := [1], bf := [0,1,2,3,4,5,6,7,8,9,10] }, { o := .fld 15 (.s 1) 4, hs := [3,4,5,6,7,8,9,10,11,12,13,14], ho := [1] }, { o := .load 16 true 5 (.s 15), hs := [3,4,5,6,7,8,9,10,11,12,13,14], ho := [1], bf := [12] }, { o := .call 17 [2] (.f n_spec_ResourceInts) [.s 16], hs := [3,4,5,6,7,8,9,10,11,12,13,14], ho := [1], ws := [2], bf := [12,13] }, { o := .app 18 1 1 8 (.s 14) (.s 17), ws := [1], bf := [0,1,2,3,4,5,6,7,8,9,10,11,12,13,14] }, { o := .mv 2 (.s 18), bf := [0,1,2,3,4,5,6,7,8,9,10,11,12,13,14,15] }] [2])
.ret))
theorem c_spec_CaptureInts (c : GCapture) (hs : c.Resource.Body.length ≤ 1073741824) : Ctr Tryz.prog n_spec_CaptureInts [aS c.enc] [rL 1 ((capInts c).map encI)] := by
  refine ctr_at (M := m_spec_CaptureInts) (m := 3) (n := 19) (res := [(.tmp 2, [true])]) hmix Tryz.func225 rfl (by kernel_rfl) rfl (by kernel_rfl) (by kernel_rfl) (Nat.le_of_ble_eq_true rfl) ?_; unfold m_spec_CaptureInts
  intro hb
  clear hb
  simp only [↓bk_bind, ↓bk_map, ↓bk_ite, ↓bk_some, ↓reduceIte, Nat.reduceEqDiff, Nat.reduceLT, Nat.reduceLeDiff, Nat.reduceAdd, Nat.reduceMul, reduceCtorEq, List.reduceReplicate, go_sem]
  refine ⟨by decide, ?_⟩
  apply callK_of (c_spec_ResourceInts c.Resource hs)
  simp only [↓bk_bind, ↓bk_map, ↓bk_ite, ↓bk_some, ↓reduceIte, Nat.reduceEqDiff, Nat.reduceLT, Nat.reduceLeDiff, Nat.reduceAdd, Nat.reduceMul, reduceCtorEq, List.reduceReplicate, go_sem, ↓flat_of (f := encI) (fun _ => rfl) (resInts c.Resource), resInts_len]
  simp only [roomB]
  exact ⟨by omega, fun _ => ⟨by omega, by simp [capInts, encI]⟩⟩
def m_impl_CaptureInts : MC :=
(.seq (pr [.box 1 0 (.s 0), .nilo 2 1 1] [1])
(.seq (.dreg [{ o := .fld 3 (.s 1) 0, hs := [6,7,8,9,10,11,12,13,15,16,17], ho := [2] }, { o := .fld 4 (.s 3) 0, hs := [6,7,8,9,10,11,12,13,15,16,17], ho := [2], bf := [0] }, { o := .load 5 false 1 (.s 4), hs := [6,7,8,9,10,11,12,13,15,16,17], ho := [2], bf := [0,1] }, { o := .fld 6 (.s 1) 0, hs := [3,4,5,9,10,11,12,13,15,16,17], ho := [2] }, { o := .fld 7 (.s 6) 1, hs := [3,4,5,9,10,11,12,13,15,16,17], ho := [2], bf := [3] }, { o := .load 8 false 1 (.s 7), hs := [3,4,5,9,10,11,12,13,15,16,17], ho := [2], bf := [3,4] }, { o := .fld 9 (.s 1) 0, hs := [3,4,5,6,7,8,12,13,15,16,17], ho := [2] }, { o := .fld 10 (.s 9) 2, hs := [3,4,5,6,7,8,12,13,15,16,17], ho := [2], bf := [6] }, { o := .load 11 false 1 (.s 10), hs := [3,4,5,6,7,8,12,13,15,16,17], ho := [2], bf := [6,7] }, { o := .fld 12 (.s 1) 3, hs := [3,4,5,6,7,8,9,10,11,15,16,17], ho := [2] }, { o := .load 13 false 1 (.s 12), hs := [3,4,5,6,7,8,9,10,11,15,16,17], ho := [2], bf := [9] }, { o := .lit 14 1 1 8 [.s 5, .s 8, .s 11, .s 13], hs := [15,16,17], ho := [2], ws := [1], bf := [0,1,2,3,4,5,6,7,8,9,10] }, { o := .fld 15 (.s 1) 4, hs := [3,4,5,6,7,8,9,10,11,12,13,14], ho := [1] }, { o := .load 16 true 5 (.s 15), hs := [3,4,5,6,7,8,9,10,11,12,13,14], ho := [1], bf := [12] }, { o := .call 17 [2] (.f n_impl_ResourceInts) [.s 16], hs := [3,4,5,6,7,8,9,10,11,12,13,14], ho := [1], ws := [2], bf := [12,13] }, { o := .app 18 1 1 8 (.s 14) (.s 17), ws := [1], bf := [0,1,2,3,4,5,6,7,8,9,10,11,12,13,14] }, { o := .mv 2 (.s 18), bf := [0,1,2,3,4,5,6,7,8,9,10,11,12,13,14,15] }] [2])
.ret))
theorem c_impl_CaptureInts (c : GCapture) (hs : c.Resource.Body.length ≤ 1073741824) : Ctr Tryz.prog n_impl_CaptureInts [aS c.enc] [rL 1 ((capInts c).map encI)] := by
  refine ctr_at (M := m_impl_CaptureInts) (m := 3) (n := 19) (res := [(.tmp 2, [true])]) hmix Tryz.func217 rfl (by kernel_rfl) rfl (by kernel_rfl) (by kernel_rfl) (Nat.le_of_ble_eq_true rfl) ?_; unfold m_impl_CaptureInts
  intro hb
  clear hb
  simp only [↓bk_bind, ↓bk_map, ↓bk_ite, ↓bk_some, ↓reduceIte, Nat.reduceEqDiff, Nat.reduceLT, Nat.reduceLeDiff, Nat.reduceAdd, Nat.reduceMul, reduceCtorEq, List.reduceReplicate, go_sem]
  refine ⟨by decide, ?_⟩
  apply callK_of (c_impl_ResourceInts c.Resource hs)
  simp only [↓bk_bind, ↓bk_map, ↓bk_ite, ↓bk_some, ↓reduceIte, Nat.reduceEqDiff, Nat.reduceLT, Nat.reduceLeDiff, Nat.reduceAdd, Nat.reduceMul, reduceCtorEq, List.reduceReplicate, go_sem, ↓flat_of (f := encI) (fun _ => rfl) (resInts c.Resource), resInts_len]
  simp only [roomB]
  exact ⟨by omega, fun _ => ⟨by omega, by simp [capInts, encI]⟩⟩
def entInts (l : List GEntry) : List Int := l.flatMap fun e => [e.Kind, e.Address.Host, e.Address.Path, e.Address.Query, e.Value]
theorem entInts_snoc {l : List GEntry} {k : Nat} {x : GEntry} (h : l[k]? = some x) : entInts (l.take (k + 1)) = entInts (l.take k) ++ [x.Kind, x.Address.Host, x.Address.Path, x.Address.Query, x.Value] := by
  rw [take_snoc h, entInts, List.flatMap_append]; rfl
theorem entInts_len {l : List GEntry} : (entInts l).length = 5 * l.length := by
  induction l with
  | nil => rfl
  | cons x l ih => simp only [entInts, List.flatMap_cons, List.length_append, List.length_cons, List.length_nil] at ih ⊢; omega
def m_spec_l30Entries : MC :=
(.seq (pr [.nilo 2 0 1] [0])
(.seq (pr [.lit 6 0 1 8 [], .mv 3 (.s 6)] [0,3])
(.seq (.seq (pr [.mv 4 (.c (.int .i64 0))] [0,3,4])
(.block 0 (.loop ([0,3,4], [1,2]) (.seq (.seq (pr [.mv 7 (.s 4), .mv 8 (.s 0), .len 9 false (.s 8), .bin 10 false .lss (.s 7) (.s 9)] [0,3,4,10])
(.cond (.s 10) .skip (.exit 0)))
(.seq (.block 1 (.seq (pr [.mv 13 (.s 0), .mv 14 (.s 4), .idx 15 5 (.s 13) (.s 14), .load 16 true 5 (.s 15), .alloc 5 1 [.pl (.sc (.int .i64 0)), .pl (.sc (.int .i64 0)), .pl (.sc (.int .i64 0)), .pl (.sc (.int .i64 0)), .pl (.sc (.int .i64 0))], .store 5 (.s 5) (.s 16)] [0,3,4,5])
(pr [.mv 17 (.s 3), .fld 18 (.s 5) 0, .load 19 false 1 (.s 18), .fld 20 (.s 5) 1, .fld 21 (.s 20) 0, .load 22 false 1 (.s 21), .fld 23 (.s 5) 1, .fld 24 (.s 23) 1, .load 25 false 1 (.s 24), .fld 26 (.s 5) 1, .fld 27 (.s 26) 2, .load 28 false 1 (.s 27), .fld 29 (.s 5) 4, .load 30 false 1 (.s 29), .lit 31 2 1 8 [.s 19, .s 22, .s 25, .s 28, .s 30], .app 32 0 1 8 (.s 17) (.s 31), .mv 3 (.s 32)] [0,3,4])))
(pr [.mv 11 (.s 4), .bin 12 false .add (.s 11) (.c (.int .i64 1)), .mv 4 (.s 12)] [0,3,4]))))))
(.seq (pr [.mv 33 (.s 3), .mv 2 (.s 33)] [2])
.ret))))
theorem c_spec_l30Entries (xs : List GEntry) (hN : xs.length ≤ 1073741824) : Ctr Tryz.prog n_spec_l30Entries [aL 5 (xs.map GEntry.enc)] [rL 1 ((entInts xs).map encI)] := by
  refine ctr_at (M := m_spec_l30Entries) (m := 3) (n := 34) (res := [(.tmp 2, [true])]) hmix Tryz.func193 rfl (by kernel_rfl) rfl (by kernel_rfl) (by kernel_rfl) (Nat.le_of_ble_eq_true rfl) ?_; unfold m_spec_l30Entries
  intro hb
  simp only [bdA, bdL, bdT, bdR, bdR_map, wfB_i64, wfB_bool, wfB_str, roomB, and_true, true_and, List.length_map] at hb
  obtain ⟨hl, -⟩ := hb
  simp only [↓bk_bind, ↓bk_map, ↓bk_ite, ↓bk_some, ↓reduceIte, Nat.reduceEqDiff, Nat.reduceLT, Nat.reduceLeDiff, Nat.reduceAdd, Nat.reduceMul, reduceCtorEq, List.reduceReplicate, go_sem]
  refine loopK_rng xs (fun k => [(3, .val false [.ref 0 0 1 0 (entInts (xs.take k)).length]), (4, vI k)]) (fun k => [(0, ⟨0, .row true 1 ((entInts (xs.take k)).map encI)⟩)]) (fun _ => True) hl ?_
  simp only [↓bk_bind, ↓bk_map, ↓bk_ite, ↓bk_some, ↓reduceIte, Nat.reduceEqDiff, Nat.reduceLT, Nat.reduceLeDiff, Nat.reduceAdd, Nat.reduceMul, reduceCtorEq, List.reduceReplicate, go_sem]
  refine ⟨?_, trivial, ?_, ?_⟩
  · simp only [↓bk_bind, ↓bk_map, ↓bk_ite, ↓bk_some, ↓reduceIte, Nat.reduceEqDiff, Nat.reduceLT, Nat.reduceLeDiff, Nat.reduceAdd, Nat.reduceMul, reduceCtorEq, List.reduceReplicate, go_sem, List.take_zero]
    exact ⟨rfl, rfl⟩
  · intro k x hx _ h0 h1 hw
    have hlt := List.length_take_le k xs
    simp only [↓bk_bind, ↓bk_map, ↓bk_ite, ↓bk_some, ↓reduceIte, Nat.reduceEqDiff, Nat.reduceLT, Nat.reduceLeDiff, Nat.reduceAdd, Nat.reduceMul, reduceCtorEq, List.reduceReplicate, go_sem, bk_eq hx, h0, h1, hw, entInts_snoc hx, List.length_append, entInts_len]
    refine ⟨⟨by simp, by decide⟩, by simp only [roomB]; omega, by simp [encI]⟩
  · intro _
    simp only [↓bk_bind, ↓bk_map, ↓bk_ite, ↓bk_some, ↓reduceIte, Nat.reduceEqDiff, Nat.reduceLT, Nat.reduceLeDiff, Nat.reduceAdd, Nat.reduceMul, reduceCtorEq, List.reduceReplicate, go_sem, List.take_length]
def capHashes (l : List GCapture) : List Int := l.map fun c => hashL (capInts c)
theorem capHashes_snoc {l : List GCapture} {k : Nat} {x : GCapture} (h : l[k]? = some x) : capHashes (l.take (k + 1)) = capHashes (l.take k) ++ [hashL (capInts x)] := by
  rw [take_snoc h, capHashes, List.map_append]; rfl
theorem capHashes_len {l : List GCapture} : (capHashes l).length = l.length := by simp [capHashes]
theorem body_le {xs : List GCapture} {x : GCapture} {k : Nat} {n : Nat} (hx : xs[k]? = some x) (hs : xs.length + (xs.map GCapture.size).sum ≤ n) : x.Resource.Body.length ≤ n := by
  have hx1 := mem_sum (f := GCapture.size) (at_mem hx)
  simp only [GCapture.size, GResource.size] at hx1 hs
  omega
def m_spec_l30Captures : MC :=
(.seq (pr [.nilo 2 0 1] [0])
(.seq (pr [.lit 5 0 1 8 [], .mv 3 (.s 5)] [0,3])
(.seq (.seq (pr [.mv 4 (.c (.int .i64 0))] [0,3,4])
(.block 0 (.loop ([0,3,4], [1,2]) (.seq (.seq (pr [.mv 6 (.s 4), .mv 7 (.s 0), .len 8 false (.s 7), .bin 9 false .lss (.s 6) (.s 8)] [0,3,4,9])
(.cond (.s 9) .skip (.exit 0)))
(.seq (.block 1 (pr [.mv 12 (.s 3), .mv 13 (.s 0), .mv 14 (.s 4), .idx 15 9 (.s 13) (.s 14), .load 16 true 9 (.s 15), .call 17 [1] (.f n_spec_CaptureInts) [.s 16], .call 18 [] (.f n_spec_Hash) [.s 17], .lit 19 2 1 8 [.s 18], .app 20 0 1 8 (.s 12) (.s 19), .mv 3 (.s 20)] [0,3,4]))
(pr [.mv 10 (.s 4), .bin 11 false .add (.s 10) (.c (.int .i64 1)), .mv 4 (.s 11)] [0,3,4]))))))
(.seq (pr [.mv 21 (.s 3), .mv 2 (.s 21)] [2])
.ret))))
theorem c_spec_l30Captures (xs : List GCapture) (hs : xs.length + (xs.map GCapture.size).sum ≤ 1073741824) : Ctr Tryz.prog n_spec_l30Captures [aL 9 (xs.map GCapture.enc)] [rL 1 ((capHashes xs).map encI)] := by
  refine ctr_at (M := m_spec_l30Captures) (m := 3) (n := 22) (res := [(.tmp 2, [true])]) hmix Tryz.func194 rfl (by kernel_rfl) rfl (by kernel_rfl) (by kernel_rfl) (Nat.le_of_ble_eq_true rfl) ?_; unfold m_spec_l30Captures
  intro hb
  clear hb
  simp only [↓bk_bind, ↓bk_map, ↓bk_ite, ↓bk_some, ↓reduceIte, Nat.reduceEqDiff, Nat.reduceLT, Nat.reduceLeDiff, Nat.reduceAdd, Nat.reduceMul, reduceCtorEq, List.reduceReplicate, go_sem]
  refine loopK_rng xs (fun k => [(3, .val false [.ref 0 0 1 0 (capHashes (xs.take k)).length]), (4, vI k)]) (fun k => [(0, ⟨0, .row true 1 ((capHashes (xs.take k)).map encI)⟩)]) (fun _ => True) (by simp only [roomB]; omega) ?_
  simp only [↓bk_bind, ↓bk_map, ↓bk_ite, ↓bk_some, ↓reduceIte, Nat.reduceEqDiff, Nat.reduceLT, Nat.reduceLeDiff, Nat.reduceAdd, Nat.reduceMul, reduceCtorEq, List.reduceReplicate, go_sem]
  refine ⟨?_, trivial, ?_, ?_⟩
  · simp only [↓bk_bind, ↓bk_map, ↓bk_ite, ↓bk_some, ↓reduceIte, Nat.reduceEqDiff, Nat.reduceLT, Nat.reduceLeDiff, Nat.reduceAdd, Nat.reduceMul, reduceCtorEq, List.reduceReplicate, go_sem, List.take_zero]
    exact ⟨rfl, rfl⟩
  · intro k x hx _ h0 h1 hw
    have hlt := List.length_take_le k xs
    simp only [↓bk_bind, ↓bk_map, ↓bk_ite, ↓bk_some, ↓reduceIte, Nat.reduceEqDiff, Nat.reduceLT, Nat.reduceLeDiff, Nat.reduceAdd, Nat.reduceMul, reduceCtorEq, List.reduceReplicate, go_sem, bk_eq hx, h0, h1, hw, capHashes_snoc hx, List.length_append]
    apply callK_of (c_spec_CaptureInts x (body_le hx hs))
    simp only [↓bk_bind, ↓bk_map, ↓bk_ite, ↓bk_some, ↓reduceIte, Nat.reduceEqDiff, Nat.reduceLT, Nat.reduceLeDiff, Nat.reduceAdd, Nat.reduceMul, reduceCtorEq, List.reduceReplicate, go_sem, hw]
    try intro _
    apply callK_of (c_spec_Hash (capInts x))
    simp only [↓bk_bind, ↓bk_map, ↓bk_ite, ↓bk_some, ↓reduceIte, Nat.reduceEqDiff, Nat.reduceLT, Nat.reduceLeDiff, Nat.reduceAdd, Nat.reduceMul, reduceCtorEq, List.reduceReplicate, go_sem, hw]
    simp only [roomB, capHashes_len]
    exact ⟨by omega, by omega, fun _ => by simp [encI]⟩
  · intro _
    simp only [↓bk_bind, ↓bk_map, ↓bk_ite, ↓bk_some, ↓reduceIte, Nat.reduceEqDiff, Nat.reduceLT, Nat.reduceLeDiff, Nat.reduceAdd, Nat.reduceMul, reduceCtorEq, List.reduceReplicate, go_sem, List.take_length]
def sealRoot (l : List GOp) (es : List GEntry) (cs : List GCapture) : Int := rootL [hashL (scriptInts l), hashL (entInts es), rootL (capHashes cs)]
def m_spec_SealContainer : MC :=
(.seq (pr [.alloc 6 0 [.emp 4, .emp 5, .emp 9, .pl (.sc (.int .i64 0))]] [0,1,2,6])
(.seq (pr [.lit 8 1 4 32 [], .mv 9 (.s 0), .app 10 1 4 32 (.s 8) (.s 9), .lit 11 2 5 40 [], .mv 12 (.s 1), .app 13 2 5 40 (.s 11) (.s 12), .mv 14 (.s 2), .call 15 [3] (.f n_spec_l15Copy) [.s 14], .build 16 [.emp 4, .emp 5, .emp 9, .pl (.sc (.int .i64 0))] [(0, 1, .s 10), (1, 1, .s 13), (2, 1, .s 15)], .alloc 7 4 [.emp 4, .emp 5, .emp 9, .pl (.sc (.int .i64 0))], .store 4 (.s 7) (.s 16)] [0,1,2,6,7])
(.seq (pr [.mv 17 (.s 0), .call 18 [5] (.f n_spec_ScriptInts) [.s 17], .call 19 [] (.f n_spec_Hash) [.s 18], .mv 20 (.s 1), .call 21 [6] (.f n_spec_l30Entries) [.s 20], .call 22 [] (.f n_spec_Hash) [.s 21], .mv 23 (.s 2), .call 24 [7] (.f n_spec_l30Captures) [.s 23], .call 25 [] (.f n_spec_RootOf) [.s 24], .lit 26 8 1 8 [.s 19, .s 22, .s 25], .call 27 [] (.f n_spec_RootOf) [.s 26], .fld 28 (.s 7) 3, .store 1 (.s 28) (.s 27)] [6,7])
(.seq (pr [.load 29 true 4 (.s 7), .store 4 (.s 6) (.s 29)] [6])
.ret))))
theorem c_spec_SealContainer (l : List GOp) (es : List GEntry) (cs : List GCapture) (h1 : l.length ≤ 1073741824) (h2 : es.length ≤ 1073741824) (hs : cs.length + (cs.map GCapture.size).sum ≤ 1073741824) :
    Ctr Tryz.prog n_spec_SealContainer [aL 4 (l.map GOp.enc), aL 5 (es.map GEntry.enc), aL 9 (cs.map GCapture.enc)] [rS (GContainer.enc ⟨l, es, cs, sealRoot l es cs⟩)] := by
  refine ctr_at (M := m_spec_SealContainer) (m := 9) (n := 30) (res := [(.cell 6 true 4, [true, true, true, false])]) hmix Tryz.func131 rfl (by kernel_rfl) rfl (by kernel_rfl) (by kernel_rfl) (Nat.le_of_ble_eq_true rfl) ?_; unfold m_spec_SealContainer
  intro hb
  clear hb
  simp only [↓bk_bind, ↓bk_map, ↓bk_ite, ↓bk_some, ↓reduceIte, Nat.reduceEqDiff, Nat.reduceLT, Nat.reduceLeDiff, Nat.reduceAdd, Nat.reduceMul, reduceCtorEq, List.reduceReplicate, go_sem, ↓flat_of (f := GOp.enc) (fun _ => rfl) l, ↓flat_of (f := GEntry.enc) (fun _ => rfl) es]
  simp only [roomB]
  refine ⟨by omega, by omega, ?_⟩
  apply callK_of (c_spec_l15Copy cs hs)
  simp only [↓bk_bind, ↓bk_map, ↓bk_ite, ↓bk_some, ↓reduceIte, Nat.reduceEqDiff, Nat.reduceLT, Nat.reduceLeDiff, Nat.reduceAdd, Nat.reduceMul, reduceCtorEq, List.reduceReplicate, go_sem]
  intros
  apply callK_of (c_spec_ScriptInts l (by omega))
  simp only [↓bk_bind, ↓bk_map, ↓bk_ite, ↓bk_some, ↓reduceIte, Nat.reduceEqDiff, Nat.reduceLT, Nat.reduceLeDiff, Nat.reduceAdd, Nat.reduceMul, reduceCtorEq, List.reduceReplicate, go_sem]
  apply callK_of (c_spec_Hash (scriptInts l))
  simp only [↓bk_bind, ↓bk_map, ↓bk_ite, ↓bk_some, ↓reduceIte, Nat.reduceEqDiff, Nat.reduceLT, Nat.reduceLeDiff, Nat.reduceAdd, Nat.reduceMul, reduceCtorEq, List.reduceReplicate, go_sem]
  apply callK_of (c_spec_l30Entries es h2)
  simp only [↓bk_bind, ↓bk_map, ↓bk_ite, ↓bk_some, ↓reduceIte, Nat.reduceEqDiff, Nat.reduceLT, Nat.reduceLeDiff, Nat.reduceAdd, Nat.reduceMul, reduceCtorEq, List.reduceReplicate, go_sem]
  apply callK_of (c_spec_Hash (entInts es))
  simp only [↓bk_bind, ↓bk_map, ↓bk_ite, ↓bk_some, ↓reduceIte, Nat.reduceEqDiff, Nat.reduceLT, Nat.reduceLeDiff, Nat.reduceAdd, Nat.reduceMul, reduceCtorEq, List.reduceReplicate, go_sem]
  apply callK_of (c_spec_l30Captures cs hs)
  simp only [↓bk_bind, ↓bk_map, ↓bk_ite, ↓bk_some, ↓reduceIte, Nat.reduceEqDiff, Nat.reduceLT, Nat.reduceLeDiff, Nat.reduceAdd, Nat.reduceMul, reduceCtorEq, List.reduceReplicate, go_sem]
  apply callK_of (c_spec_RootOf _ (capHashes cs) (Nat.le_refl _))
  simp only [↓bk_bind, ↓bk_map, ↓bk_ite, ↓bk_some, ↓reduceIte, Nat.reduceEqDiff, Nat.reduceLT, Nat.reduceLeDiff, Nat.reduceAdd, Nat.reduceMul, reduceCtorEq, List.reduceReplicate, go_sem]
  refine ⟨by decide, ?_⟩
  apply callK_of (c_spec_RootOf _ [hashL (scriptInts l), hashL (entInts es), rootL (capHashes cs)] (Nat.le_refl _))
  simp only [↓bk_bind, ↓bk_map, ↓bk_ite, ↓bk_some, ↓reduceIte, Nat.reduceEqDiff, Nat.reduceLT, Nat.reduceLeDiff, Nat.reduceAdd, Nat.reduceMul, reduceCtorEq, List.reduceReplicate, go_sem]
  intros
  rfl
end Go.Proofs.YtbnbgekjjbpljaaGreatR
namespace Go.Proofs.YtbnbgekjjbpljaaGreatR
open Go Go.RowKit Go.Proofs
set_option linter.unusedSimpArgs false
set_option linter.unusedVariables false
end Go.Proofs.YtbnbgekjjbpljaaGreatR
namespace Go.Proofs.YtbnbgekjjbpljaaGreatR
set_option linter.unusedSimpArgs false
set_option linter.unusedVariables false
namespace Srt
/-- A strict weak order. -/
structure Swo {α : Type} (lt : α → α → Bool) : Prop where
  asy : ∀ x y, lt x y = true → lt y x = false
  neg : ∀ x y z, lt x z = true → lt x y = true ∨ lt y z = true
variable {α : Type} {lt : α → α → Bool}
theorem Swo.tr (h : Swo lt) {x y z : α} (h1 : lt x y = true) (h2 : lt y z = true) : lt x z = true := by
  rcases h.neg x z y h1 with k | k
  · exact k
  · rw [h.asy y z h2] at k; cases k
theorem Swo.ntr (h : Swo lt) {x y z : α} (h1 : lt x y = false) (h2 : lt y z = false) : lt x z = false := by
  cases k : lt x z
  · rfl
  · rcases h.neg x y z k with k | k <;> simp_all
theorem Swo.irr (h : Swo lt) (x : α) : lt x x = false := by
  cases k : lt x x
  · rfl
  · have := h.asy x x k; simp_all
theorem Swo.lf (h : Swo lt) {x y z : α} (h1 : lt x y = true) (h2 : lt z y = false) : lt x z = true := by
  rcases h.neg x z y h1 with k | k <;> simp_all
theorem Swo.fl (h : Swo lt) {x y z : α} (h1 : lt y x = false) (h2 : lt y z = true) : lt x z = true := by
  rcases h.neg y x z h2 with k | k <;> simp_all
variable (lt)
def ins (x : α) : List α → List α
  | [] => [x]
  | z :: zs => if lt x z then x :: z :: zs else z :: ins x zs
def mrg (A B : List α) : List α := B.foldl (fun acc x => ins lt x acc) A
def isort (l : List α) : List α := mrg lt [] l
def srt (l : List α) : Prop := l.Pairwise fun x y => lt y x = false
variable {lt}
theorem mem_ins {x y : α} : ∀ {l : List α}, y ∈ ins lt x l ↔ y = x ∨ y ∈ l
  | [] => by simp [ins]
  | z :: zs => by
    simp only [ins]
    split
    · simp
    · rw [List.mem_cons, mem_ins, List.mem_cons]
      constructor <;> rintro (h | h | h) <;> simp [h]
theorem len_ins {x : α} : ∀ {l : List α}, (ins lt x l).length = l.length + 1
  | [] => rfl
  | z :: zs => by
    simp only [ins]
    split
    · rfl
    · simp [len_ins]
theorem mrg_nil {A : List α} : mrg lt A [] = A := rfl
theorem mrg_cons {A B : List α} {x : α} : mrg lt A (x :: B) = mrg lt (ins lt x A) B := rfl
theorem mrg_append {A B C : List α} : mrg lt A (B ++ C) = mrg lt (mrg lt A B) C := List.foldl_append
theorem mem_mrg {y : α} : ∀ {B A : List α}, y ∈ mrg lt A B ↔ y ∈ A ∨ y ∈ B
  | [], A => by simp [mrg_nil]
  | x :: B, A => by
    rw [mrg_cons, mem_mrg, mem_ins, List.mem_cons]
    exact ⟨fun h => h.elim (fun h => h.elim (fun h => .inr (.inl h)) .inl) (fun h => .inr (.inr h)), fun h => h.elim (fun h => .inl (.inr h)) (fun h => h.elim (fun h => .inl (.inl h)) .inr)⟩
theorem len_mrg : ∀ {B A : List α}, (mrg lt A B).length = A.length + B.length
  | [], A => rfl
  | x :: B, A => by
    rw [mrg_cons, len_mrg, len_ins, List.length_cons]; omega
theorem len_isort {l : List α} : (isort lt l).length = l.length := by
  unfold isort; rw [len_mrg]; simp
theorem ins_comm (h : Swo lt) {x y : α} (hxy : lt x y = true) : ∀ (A : List α), ins lt y (ins lt x A) = ins lt x (ins lt y A)
  | [] => by simp [ins, hxy, h.asy x y hxy]
  | z :: zs => by
    cases k1 : lt x z <;> cases k2 : lt y z
    · simp [ins, k1, k2, ins_comm h hxy zs]
    · rw [h.tr hxy k2] at k1; cases k1
    · simp [ins, k1, k2, h.asy x y hxy]
    · simp [ins, k1, k2, hxy, h.asy x y hxy]
/-- Merging in a list, or its sorted form, is one. -/
theorem mrg_past (h : Swo lt) {x : α} : ∀ {s A : List α}, (∀ y ∈ s, lt x y = true) → mrg lt (ins lt x A) s = ins lt x (mrg lt A s)
  | [], A, _ => rfl
  | y :: s, A, hs => by
    rw [mrg_cons, ins_comm h (hs y (by simp)), mrg_past h (fun z hz => hs z (by simp [hz])), mrg_cons]
theorem srt_cons {x : α} {l : List α} : srt lt (x :: l) ↔ (∀ y ∈ l, lt y x = false) ∧ srt lt l := List.pairwise_cons
theorem srt_append {A B : List α} : srt lt (A ++ B) ↔ srt lt A ∧ srt lt B ∧ ∀ a ∈ A, ∀ b ∈ B, lt b a = false := List.pairwise_append
theorem srt_ins (h : Swo lt) {x : α} : ∀ {l : List α}, srt lt l → srt lt (ins lt x l)
  | [], _ => by simp [ins, srt]
  | z :: zs, hs => by
    obtain ⟨h1, h2⟩ := srt_cons.1 hs
    simp only [ins]
    split
    · rename_i k
      refine srt_cons.2 ⟨fun y hy => ?_, hs⟩
      rcases List.mem_cons.1 hy with rfl | hy
      · exact h.asy _ _ k
      · exact h.ntr (h1 y hy) (h.asy _ _ k)
    · rename_i k
      refine srt_cons.2 ⟨fun y hy => ?_, srt_ins h h2⟩
      rcases mem_ins.1 hy with rfl | hy
      · simpa using k
      · exact h1 y hy
theorem srt_mrg (h : Swo lt) : ∀ {B A : List α}, srt lt A → srt lt (mrg lt A B)
  | [], A, hA => hA
  | x :: B, A, hA => srt_mrg h (B := B) (srt_ins h hA)
theorem srt_isort (h : Swo lt) (l : List α) : srt lt (isort lt l) := srt_mrg h List.Pairwise.nil
theorem ins_split (h : Swo lt) {x : α} : ∀ {l : List α}, srt lt l → ∃ s t, l = s ++ t ∧ ins lt x l = s ++ x :: t ∧ ∀ y ∈ t, lt x y = true
  | [], _ => ⟨[], [], rfl, rfl, by simp⟩
  | z :: zs, hs => by
    obtain ⟨h1, h2⟩ := srt_cons.1 hs
    cases k : lt x z
    · obtain ⟨s, t, e, e2, h3⟩ := ins_split h (x := x) h2
      exact ⟨z :: s, t, by simp [e], by simp [ins, k, e2], h3⟩
    · refine ⟨[], z :: zs, rfl, by simp [ins, k], fun y hy => ?_⟩
      rcases List.mem_cons.1 hy with rfl | hy
      · exact k
      · exact h.lf k (h1 y hy)
theorem mrg_ins (h : Swo lt) {x : α} {A s : List α} (hs : srt lt s) : mrg lt A (ins lt x s) = ins lt x (mrg lt A s) := by
  obtain ⟨s1, s2, rfl, e, h2⟩ := ins_split h (x := x) hs
  rw [e, mrg_append, mrg_cons, mrg_past h h2, mrg_append]
theorem isort_snoc {l : List α} {x : α} : isort lt (l ++ [x]) = ins lt x (isort lt l) := by
  unfold isort; rw [mrg_append]; rfl
theorem mrg_isort (h : Swo lt) {A : List α} (r : List α) : mrg lt A (isort lt r) = mrg lt A r := by
  suffices H : ∀ (n : Nat) (r : List α), r.length = n → mrg lt A (isort lt r) = mrg lt A r from H _ r rfl
  intro n
  induction n with
  | zero => intro r hr; obtain rfl := List.length_eq_zero_iff.1 hr; rfl
  | succ n ih =>
    intro r hr
    rcases List.eq_nil_or_concat r with rfl | ⟨s, x, rfl⟩
    · rfl
    · rw [List.concat_eq_append] at *
      rw [isort_snoc, mrg_ins h (srt_isort h s), ih s (by simpa using hr), mrg_append]; rfl
theorem isort_append (h : Swo lt) (l r : List α) : isort lt (l ++ r) = mrg lt (isort lt l) (isort lt r) := by
  rw [mrg_isort h]; unfold isort; rw [mrg_append]
theorem ins_left {b : α} {A2 : List α} (h : ∀ a ∈ A2.head?, lt b a = true) : ∀ (A1 : List α), ins lt b (A1 ++ A2) = ins lt b A1 ++ A2
  | [] => by
    cases A2 with
    | nil => rfl
    | cons z zs => simp [ins, h z (by simp)]
  | z :: zs => by
    simp only [List.cons_append, ins]
    split
    · rfl
    · rw [ins_left h zs, List.cons_append]
theorem ins_right {b : α} {A2 : List α} : ∀ {A1 : List α}, (∀ a ∈ A1, lt b a = false) → ins lt b (A1 ++ A2) = A1 ++ ins lt b A2
  | [], _ => rfl
  | z :: zs, h => by
    simp only [List.cons_append, ins, h z (by simp), ins_right (A1 := zs) (fun a ha => h a (by simp [ha]))]
    rfl
theorem ins_mid {x : α} {s t : List α} (h1 : ∀ a ∈ s, lt x a = false) (h2 : ∀ a ∈ t.head?, lt x a = true) : ins lt x (s ++ t) = s ++ x :: t := by
  rw [ins_right h1]
  cases t with
  | nil => rfl
  | cons z zs => simp [ins, h2 z (by simp)]
theorem mrg_left {A2 : List α} : ∀ {B A1 : List α}, (∀ b ∈ B, ∀ a ∈ A2.head?, lt b a = true) → mrg lt (A1 ++ A2) B = mrg lt A1 B ++ A2
  | [], _, _ => rfl
  | b :: B, A1, h => by
    rw [mrg_cons, ins_left (h b (by simp)), mrg_left (fun b hb => h b (by simp [hb])), mrg_cons]
theorem mrg_right {A1 : List α} : ∀ {B A2 : List α}, (∀ b ∈ B, ∀ a ∈ A1, lt b a = false) → mrg lt (A1 ++ A2) B = A1 ++ mrg lt A2 B
  | [], _, _ => rfl
  | b :: B, A2, h => by
    rw [mrg_cons, ins_right (h b (by simp)), mrg_right (fun b hb => h b (by simp [hb])), mrg_cons]
theorem mrg_nil_srt (h : Swo lt) {l : List α} (hs : srt lt l) : mrg lt [] l = l := by
  suffices H : ∀ (l A : List α), srt lt (A ++ l) → mrg lt A l = A ++ l from H l [] (by simpa using hs)
  intro l
  induction l with
  | nil => intro A _; simp [mrg_nil]
  | cons x l ih =>
    intro A hA
    have := srt_append.1 hA
    rw [mrg_cons, show ins lt x A = A ++ [x] from by
      have := ins_mid (lt := lt) (x := x) (s := A) (t := []) (fun a ha => (srt_append.1 hA).2.2 a ha x (by simp)) (by simp)
      simpa using this, ih (A ++ [x]) (by simpa using hA)]
    simp
/-- A merge falls into two. -/
theorem mrg_split {A1 A2 B1 B2 : List α} (h1 : ∀ b ∈ B1, ∀ a ∈ A2.head?, lt b a = true) (h2 : ∀ b ∈ B2, ∀ a ∈ A1, lt b a = false) (h3 : ∀ b ∈ B2, ∀ a ∈ B1, lt b a = false) : mrg lt (A1 ++ A2) (B1 ++ B2) = mrg lt A1 B1 ++ mrg lt A2 B2 := by
  rw [mrg_append, mrg_left h1, mrg_right]
  intro b hb a ha
  rcases mem_mrg.1 ha with k | k
  · exact h2 b hb a k
  · exact h3 b hb a k
/-- Blocks of s elements, each sorted. -/
def blk (lt : α → α → Bool) (s : Nat) (l : List α) : List α :=
  if h : s = 0 ∨ l.length ≤ s then isort lt l else isort lt (l.take s) ++ blk lt s (l.drop s)
termination_by l.length
decreasing_by
  simp only [List.length_drop]
  omega
end Srt
end Go.Proofs.YtbnbgekjjbpljaaGreatR
namespace Go.Proofs.YtbnbgekjjbpljaaGreatR
open Go Go.RowKit Go.Proofs
set_option linter.unusedSimpArgs false
set_option linter.unusedVariables false
abbrev fI (f : FuncId) : RV := ⟨false, [(false, .fn f [])]⟩
attribute [go_sem] fI
/-- A row around two elements. -/
def two (A : List (List T)) (e : List T) (B : List (List T)) (e' : List T) (C : List (List T)) : List (List T) := A ++ e :: (B ++ e' :: C)
theorem two_at {A B C : List (List T)} {p q : Nat} (hp : A.length = p) (hq : p + 1 + B.length = q) :
    (∀ e e', (two A e B e' C)[p]? = some e) ∧ (∀ e e', (two A e B e' C)[q]? = some e') ∧
    (∀ e e' u, (two A e B e' C).set p u = two A u B e' C) ∧ (∀ e e' u, (two A e B e' C).set q u = two A e B u C) ∧
    (∀ e e', (two A e B e' C).length = A.length + B.length + C.length + 2) ∧
    (∀ e e', (two A e B e' C).getD p [] = e) ∧ (∀ e e', (two A e B e' C).getD q [] = e') := by
  subst hp hq
  have h1 : ∀ e e', (two A e B e' C)[A.length]? = some e := fun e e' => by simp [two]
  have h2 : ∀ e e', (two A e B e' C)[A.length + 1 + B.length]? = some e' := fun e e' => by
    unfold two
    rw [List.getElem?_append_right (by omega), show A.length + 1 + B.length - A.length = B.length + 1 by omega, List.getElem?_cons_succ, List.getElem?_append_right (by omega), Nat.sub_self]
    rfl
  refine ⟨h1, h2, fun e e' u => by simp [two], fun e e' u => ?_, fun e e' => by simp [two]; omega, fun e e' => by rw [List.getD_eq_getElem?_getD, h1]; rfl, fun e e' => by rw [List.getD_eq_getElem?_getD, h2]; rfl⟩
  unfold two
  rw [List.set_append_right _ _ (by omega), show A.length + 1 + B.length - A.length = B.length + 1 by omega, List.set_cons_succ, List.set_append_right _ _ (by omega), Nat.sub_self]
  rfl
def swp {α : Type} (P X M Y Q : List α) (i : Nat) : List α := (P ++ Y.take i) ++ (X.drop i ++ M ++ X.take i) ++ (Y.drop i ++ Q)
theorem swp_len {α : Type} {P X M Y Q : List α} {i : Nat} (h : X.length = Y.length) : (swp P X M Y Q i).length = (P ++ X ++ M ++ Y ++ Q).length := by
  simp [swp, List.length_take, List.length_drop]; omega
theorem swp_two {α : Type} {P X M Y Q : List α} {i : Nat} {x y : α} {f : α → List T} (hx : X[i]? = some x) (hy : Y[i]? = some y) :
    (swp P X M Y Q i).map f = two ((P ++ Y.take i).map f) (f x) ((X.drop (i + 1) ++ M ++ X.take i).map f) (f y) ((Y.drop (i + 1) ++ Q).map f) ∧
    (swp P X M Y Q (i + 1)).map f = two ((P ++ Y.take i).map f) (f y) ((X.drop (i + 1) ++ M ++ X.take i).map f) (f x) ((Y.drop (i + 1) ++ Q).map f) := by
  constructor
  · simp [swp, two, drop_cons hx, drop_cons hy]
  · simp [swp, two, take_snoc hx, take_snoc hy]
theorem wN {a b : Nat} (h : a + b ≤ 9223372036854775807) : IntKind.i64.wrap ((a : Int) + (b : Int)) = ((a + b : Nat) : Int) := by
  rw [wI (by omega) (by omega)]; omega
theorem wN1 {a : Nat} (h : a + 1 ≤ 9223372036854775807) : IntKind.i64.wrap ((a : Int) + 1) = ((a + 1 : Nat) : Int) := by
  rw [wI (by omega) (by omega)]; omega
theorem wS {a b : Nat} (h : b ≤ a) (h2 : a ≤ 9223372036854775807) : IntKind.i64.wrap ((a : Int) - (b : Int)) = ((a - b : Nat) : Int) := by
  rw [wI (by omega) (by omega)]; omega
theorem wS1 {a : Nat} (h : 1 ≤ a) (h2 : a ≤ 9223372036854775807) : IntKind.i64.wrap ((a : Int) - 1) = ((a - 1 : Nat) : Int) := by
  rw [wI (by omega) (by omega)]; omega
def m_slices_swapRangeCmpFunc_impl_Found : MC :=
(.seq (pr [.mv 10 (.c (.int .i64 0))] [0,1,2,3,10])
(.block 0 (.loop ([0,1,2,3,10], []) (.seq (.seq (pr [.mv 11 (.s 10), .mv 12 (.s 3), .bin 13 false .lss (.s 11) (.s 12)] [0,1,2,3,10,13])
(.cond (.s 13) .skip (.exit 0)))
(.seq (.block 1 (.dreg [{ o := .mv 16 (.s 0), hs := [17,18,19,20,21,22,23,24,25,26,27,28,29,30,31,32,33,34,35] }, { o := .mv 17 (.s 1), hs := [16,18,20,21,22,23,24,25,26,27,28,29,30,31,32,33,34,35] }, { o := .mv 18 (.s 10), hs := [16,17,20,21,22,23,24,25,26,27,28,29,30,31,32,33,34,35] }, { o := .bin 19 false .add (.s 17) (.s 18), hs := [16,20,21,22,23,24,25,26,27,28,29,30,31,32,33,34,35], bf := [1,2] }, { o := .mv 20 (.s 0), hs := [16,17,18,19,21,22,23,24,25,26,27,28,29,30,31,32,33,34,35,36], ho := [0] }, { o := .mv 21 (.s 2), hs := [16,17,18,19,20,22,24,25,26,27,28,29,30,31,32,33,34,35,36], ho := [0] }, { o := .mv 22 (.s 10), hs := [16,17,18,19,20,21,24,25,26,27,28,29,30,31,32,33,34,35,36], ho := [0] }, { o := .bin 23 false .add (.s 21) (.s 22), hs := [16,17,18,19,20,24,25,26,27,28,29,30,31,32,33,34,35,36], ho := [0], bf := [5,6] }, { o := .mv 24 (.s 0), hs := [16,17,18,19,20,21,22,23,25,26,27,30,31,32,33,34,35] }, { o := .mv 25 (.s 2), hs := [16,17,18,19,20,21,22,23,24,26,30,31,32,33,34,35] }, { o := .mv 26 (.s 10), hs := [16,17,18,19,20,21,22,23,24,25,30,31,32,33,34,35] }, { o := .bin 27 false .add (.s 25) (.s 26), hs := [16,17,18,19,20,21,22,23,24,30,31,32,33,34,35], bf := [9,10] }, { o := .idx 28 6 (.s 24) (.s 27), hs := [16,17,18,19,20,21,22,23,30,31,32,33,34,35], bf := [8,9,10,11] }, { o := .load 29 true 6 (.s 28), hs := [16,17,18,19,20,21,22,23,30,31,32,33,34,35], bf := [8,9,10,11,12] }, { o := .mv 30 (.s 0), hs := [16,17,18,19,20,21,22,23,24,25,26,27,28,29,31,32,33] }, { o := .mv 31 (.s 1), hs := [16,17,18,19,20,21,22,23,24,25,26,27,28,29,30,32] }, { o := .mv 32 (.s 10), hs := [16,17,18,19,20,21,22,23,24,25,26,27,28,29,30,31] }, { o := .bin 33 false .add (.s 31) (.s 32), hs := [16,17,18,19,20,21,22,23,24,25,26,27,28,29,30], bf := [15,16] }, { o := .idx 34 6 (.s 30) (.s 33), hs := [16,17,18,19,20,21,22,23,24,25,26,27,28,29], bf := [14,15,16,17] }, { o := .load 35 true 6 (.s 34), hs := [16,17,18,19,20,21,22,23,24,25,26,27,28,29], bf := [14,15,16,17,18] }, { o := .idx 36 6 (.s 16) (.s 19), hs := [20,21,22,23], bf := [0,1,2,3,8,9,10,11,12,13,14,15,16,17,18,19] }, { o := .store 6 (.s 36) (.s 29), hs := [20,21,22,23], ws := [0], bf := [0,1,2,3,8,9,10,11,12,13,14,15,16,17,18,19,20] }, { o := .idx 37 6 (.s 20) (.s 23), bf := [0,1,2,3,4,5,6,7,8,9,10,11,12,13,14,15,16,17,18,19,20,21] }, { o := .store 6 (.s 37) (.s 35), ws := [0], bf := [0,1,2,3,4,5,6,7,8,9,10,11,12,13,14,15,16,17,18,19,20,21,22] }] [0,1,2,3,10]))
(pr [.mv 14 (.s 10), .bin 15 false .add (.s 14) (.c (.int .i64 1)), .mv 10 (.s 15)] [0,1,2,3,10]))))))
theorem c_slices_swapRangeCmpFunc (P X M Y Q : List GFound) (f : FuncId) {a b n : Nat} (ha : P.length = a) (hb : (P ++ X ++ M).length = b) (hX : X.length = n) (hY : Y.length = n) : CtrI Tryz.prog n_slices_swapRangeCmpFunc_impl_Found [oL 6 ((P ++ X ++ M ++ Y ++ Q).map GFound.enc), iI a, iI b, iI n, fI f] [some (6, (P ++ Y ++ M ++ X ++ Q).map GFound.enc)] [] := by
  have hL0 : (P ++ X ++ M ++ Y ++ Q).length = b + n + Q.length := by rw [List.length_append, List.length_append, hb, hY]
  have hL1 : (P ++ Y ++ M ++ X ++ Q).length = (P ++ X ++ M ++ Y ++ Q).length := by simp; omega
  have hb' : b = a + n + M.length := by rw [← hb]; simp; omega
  have hsw0 : swp P X M Y Q 0 = P ++ X ++ M ++ Y ++ Q := by simp [swp]
  have hswn : swp P X M Y Q n = P ++ Y ++ M ++ X ++ Q := by simp [swp, ← hX, List.take_of_length_le (show Y.length ≤ X.length by omega), List.drop_of_length_le (show Y.length ≤ X.length by omega)]
  refine ctrI_at (M := m_slices_swapRangeCmpFunc_impl_Found) (m := 0) (n := 38) (res := []) hmix Tryz.func250 rfl (by kernel_rfl) rfl (by kernel_rfl) (by kernel_rfl) (Nat.le_of_ble_eq_true rfl) rfl rfl ?_; unfold m_slices_swapRangeCmpFunc_impl_Found
  intro hbd
  have hl := len_of_bd hbd
  clear hbd
  simp only [roomB] at hl
  rw [← hsw0, ← hswn]
  rw [← hsw0, ← hswn] at hL1
  rw [← hsw0] at hl hL0
  subst hX
  generalize hN : (swp P X M Y Q 0).length = N at *
  simp only [↓bk_bind, ↓bk_map, ↓bk_ite, ↓bk_some, ↓reduceIte, Nat.reduceEqDiff, Nat.reduceLT, Nat.reduceLeDiff, Nat.reduceAdd, Nat.reduceMul, reduceCtorEq, List.reduceReplicate, go_sem, hN]
  refine loopK_rng X (fun i => [(10, vI i)]) (fun i => [(0, ⟨1, .row true 6 ((swp P X M Y Q i).map GFound.enc)⟩)]) (fun _ => True) (by simp only [roomB]; omega) ?_
  simp only [↓bk_bind, ↓bk_map, ↓bk_ite, ↓bk_some, ↓reduceIte, Nat.reduceEqDiff, Nat.reduceLT, Nat.reduceLeDiff, Nat.reduceAdd, Nat.reduceMul, reduceCtorEq, List.reduceReplicate, go_sem, hN]
  refine ⟨?_, trivial, ?_, ?_⟩
  · simp only [↓bk_bind, ↓bk_map, ↓bk_ite, ↓bk_some, ↓reduceIte, Nat.reduceEqDiff, Nat.reduceLT, Nat.reduceLeDiff, Nat.reduceAdd, Nat.reduceMul, reduceCtorEq, List.reduceReplicate, go_sem]
  · intro i x hx _ h0 h1 hw
    have hi := len_at hx
    obtain ⟨y, hy⟩ := at_some (show i < Y.length by omega)
    obtain ⟨e1, e2⟩ := swp_two (P := P) (M := M) (Q := Q) (f := GFound.enc) hx hy
    have hlen := swp_len (P := P) (X := X) (M := M) (Y := Y) (Q := Q) (i := i) hY.symm
    rw [e1, e2]
    generalize hAe : (P ++ Y.take i).map GFound.enc = A at e1 e2
    generalize hBe : (X.drop (i + 1) ++ M ++ X.take i).map GFound.enc = B at e1 e2
    generalize hCe : (Y.drop (i + 1) ++ Q).map GFound.enc = C at e1 e2
    have hA : A.length = a + i := by subst hAe; simp; omega
    have hB : (a + i) + 1 + B.length = b + i := by subst hBe; simp; omega
    have hC : C.length = Y.length - (i + 1) + Q.length := by subst hCe; simp
    obtain ⟨g1, g2, s1, s2, hL, d1, d2⟩ := two_at (C := C) hA hB
    have hL' : ∀ e e', (two A e B e' C).length = N := fun e e' => by rw [hL]; omega
    have k1 : (0 : Int) ≤ ((a + i : Nat) : Int) := by omega
    have k2 : ((a + i : Nat) : Int) < (N : Int) := by omega
    have k3 : (0 : Int) ≤ ((b + i : Nat) : Int) := by omega
    have k4 : ((b + i : Nat) : Int) < (N : Int) := by omega
    have k5 : ¬ b + i = a + i := by omega
    simp only [↓bk_bind, ↓bk_map, ↓bk_ite, ↓bk_some, ↓reduceIte, Nat.reduceEqDiff, Nat.reduceLT, Nat.reduceLeDiff, Nat.reduceAdd, Nat.reduceMul, reduceCtorEq, List.reduceReplicate, go_sem, g1, g2, s1, s2, hL', d1, d2, hw, h0, h1, wN (a := a) (b := i) (by omega), wN (a := b) (b := i) (by omega), k1, k2, k3, k4]
  · intro _
    simp only [↓bk_bind, ↓bk_map, ↓bk_ite, ↓bk_some, ↓reduceIte, Nat.reduceEqDiff, Nat.reduceLT, Nat.reduceLeDiff, Nat.reduceAdd, Nat.reduceMul, reduceCtorEq, List.reduceReplicate, go_sem]
/-- Where the rotation stands. -/
def RotI (P X Y Q : List GFound) (m : Nat) (d : List GFound) (i j : Nat) : Prop :=
  ∃ C X' Y' D, d = P ++ C ++ X' ++ Y' ++ D ++ Q ∧ X'.length = i ∧ Y'.length = j ∧ P.length + C.length + i = m ∧ C ++ Y' ++ X' ++ D = Y ++ X ∧ 0 < i ∧ 0 < j
theorem RotI.gt {P X Y Q : List GFound} {m : Nat} {d : List GFound} {i j : Nat} (h : RotI P X Y Q m d i j) (hij : j < i) :
    ∃ P' X1 M Y' Q', d = P' ++ X1 ++ M ++ Y' ++ Q' ∧ P'.length = m - i ∧ (P' ++ X1 ++ M).length = m ∧ X1.length = j ∧ Y'.length = j ∧ RotI P X Y Q m (P' ++ Y' ++ M ++ X1 ++ Q') (i - j) j := by
  obtain ⟨C, X', Y', D, rfl, rfl, rfl, h3, h4, h5, h6⟩ := h
  obtain ⟨X1, X2, rfl, hX1⟩ : ∃ X1 X2, X' = X1 ++ X2 ∧ X1.length = Y'.length := ⟨X'.take Y'.length, X'.drop Y'.length, (List.take_append_drop _ _).symm, by simp; omega⟩
  simp only [List.length_append] at *
  exact ⟨P ++ C, X1, X2, Y', D ++ Q, by simp, by simp; omega, by simp; omega, hX1, rfl, C ++ Y', X2, X1, D, by simp, by omega, by omega, by simp; omega, by rw [← h4]; simp, by omega, by omega⟩
theorem RotI.le {P X Y Q : List GFound} {m : Nat} {d : List GFound} {i j : Nat} (h : RotI P X Y Q m d i j) (hij : i < j) :
    ∃ P' X' M Y2 Q', d = P' ++ X' ++ M ++ Y2 ++ Q' ∧ P'.length = m - i ∧ (P' ++ X' ++ M).length = m + j - i ∧ X'.length = i ∧ Y2.length = i ∧ RotI P X Y Q m (P' ++ Y2 ++ M ++ X' ++ Q') i (j - i) := by
  obtain ⟨C, X', Y', D, rfl, rfl, rfl, h3, h4, h5, h6⟩ := h
  obtain ⟨Y1, Y2, rfl, hY2⟩ : ∃ Y1 Y2, Y' = Y1 ++ Y2 ∧ Y2.length = X'.length := ⟨Y'.take (Y'.length - X'.length), Y'.drop (Y'.length - X'.length), (List.take_append_drop _ _).symm, by simp; omega⟩
  simp only [List.length_append] at *
  exact ⟨P ++ C, X', Y1, Y2, D ++ Q, by simp, by simp; omega, by simp; omega, rfl, hY2, C, Y2, Y1, X' ++ D, by simp, by omega, by omega, by omega, by rw [← h4]; simp, by omega, by omega⟩
theorem RotI.eq {P X Y Q : List GFound} {m : Nat} {d : List GFound} {i : Nat} (h : RotI P X Y Q m d i i) :
    ∃ P' X' Y' Q', d = P' ++ X' ++ [] ++ Y' ++ Q' ∧ P'.length = m - i ∧ (P' ++ X' ++ []).length = m ∧ X'.length = i ∧ Y'.length = i ∧ P' ++ Y' ++ [] ++ X' ++ Q' = P ++ Y ++ X ++ Q := by
  obtain ⟨C, X', Y', D, rfl, rfl, h2, h3, h4, h5, h6⟩ := h
  refine ⟨P ++ C, X', Y', D ++ Q, by simp, by simp; omega, by simp; omega, rfl, h2, ?_⟩
  have := congrArg (fun l => P ++ (l ++ Q)) h4
  simpa using this
theorem RotI.len {P X Y Q : List GFound} {m : Nat} {d : List GFound} {i j : Nat} (h : RotI P X Y Q m d i j) : d.length = (P ++ X ++ Y ++ Q).length ∧ i ≤ m ∧ m + j ≤ d.length ∧ 0 < i ∧ 0 < j := by
  obtain ⟨C, X', Y', D, rfl, rfl, rfl, h3, h4, h5, h6⟩ := h
  have := congrArg List.length h4
  simp at this ⊢
  omega
theorem RotI.start {P X Y Q : List GFound} {m i j : Nat} (hm : P.length + X.length = m) (hi : X.length = i) (hj : Y.length = j) (hX : 0 < X.length) (hY : 0 < Y.length) : RotI P X Y Q m (P ++ X ++ Y ++ Q) i j :=
  ⟨[], X, Y, [], by simp, hi, hj, by simp; omega, by simp, by omega, by omega⟩
def m_slices_rotateCmpFunc_impl_Found : MC :=
(.seq (pr [.mv 12 (.s 2), .mv 13 (.s 1), .bin 14 false .sub (.s 12) (.s 13), .mv 10 (.s 14)] [0,2,3,4,10])
(.seq (pr [.mv 15 (.s 3), .mv 16 (.s 2), .bin 17 false .sub (.s 15) (.s 16), .mv 11 (.s 17)] [0,2,4,10,11])
(.seq (.block 0 (.loop ([0,2,4,10,11], []) (.seq (.seq (pr [.mv 18 (.s 10), .mv 19 (.s 11), .bin 20 false .neq (.s 18) (.s 19)] [0,2,4,10,11,20])
(.cond (.s 20) .skip (.exit 0)))
(.block 1 (.seq (pr [.mv 21 (.s 10), .mv 22 (.s 11), .bin 23 false .gtr (.s 21) (.s 22)] [0,2,4,10,11,23])
(.cond (.s 23) (.seq (pr [.mv 24 (.s 0), .mv 25 (.s 2), .mv 26 (.s 10), .bin 27 false .sub (.s 25) (.s 26), .mv 28 (.s 2), .mv 29 (.s 11), .mv 30 (.s 4), .callI 31 [] (.f n_slices_swapRangeCmpFunc_impl_Found) [.s 24, .s 27, .s 28, .s 29, .s 30] [0] []] [0,2,4,10,11])
(pr [.mv 32 (.s 10), .mv 33 (.s 11), .bin 34 false .sub (.s 32) (.s 33), .mv 10 (.s 34)] [0,2,4,10,11])) (.seq (pr [.mv 35 (.s 0), .mv 36 (.s 2), .mv 37 (.s 10), .bin 38 false .sub (.s 36) (.s 37), .mv 39 (.s 2), .mv 40 (.s 11), .bin 41 false .add (.s 39) (.s 40), .mv 42 (.s 10), .bin 43 false .sub (.s 41) (.s 42), .mv 44 (.s 10), .mv 45 (.s 4), .callI 46 [] (.f n_slices_swapRangeCmpFunc_impl_Found) [.s 35, .s 38, .s 43, .s 44, .s 45] [0] []] [0,2,4,10,11])
(pr [.mv 47 (.s 11), .mv 48 (.s 10), .bin 49 false .sub (.s 47) (.s 48), .mv 11 (.s 49)] [0,2,4,10,11]))))))))
(pr [.mv 50 (.s 0), .mv 51 (.s 2), .mv 52 (.s 10), .bin 53 false .sub (.s 51) (.s 52), .mv 54 (.s 2), .mv 55 (.s 10), .mv 56 (.s 4), .callI 57 [] (.f n_slices_swapRangeCmpFunc_impl_Found) [.s 50, .s 53, .s 54, .s 55, .s 56] [0] []] []))))
theorem c_slices_rotateCmpFunc (P X Y Q : List GFound) (f : FuncId) {a m b : Nat} (ha : P.length = a) (hm : (P ++ X).length = m) (hb : (P ++ X ++ Y).length = b) (hX : 0 < X.length) (hY : 0 < Y.length) : CtrI Tryz.prog n_slices_rotateCmpFunc_impl_Found [oL 6 ((P ++ X ++ Y ++ Q).map GFound.enc), iI a, iI m, iI b, fI f] [some (6, (P ++ Y ++ X ++ Q).map GFound.enc)] [] := by
  refine ctrI_at (M := m_slices_rotateCmpFunc_impl_Found) (m := 0) (n := 58) (res := []) hmix Tryz.func244 rfl (by kernel_rfl) rfl (by kernel_rfl) (by kernel_rfl) (Nat.le_of_ble_eq_true rfl) rfl rfl ?_; unfold m_slices_rotateCmpFunc_impl_Found
  intro hbd
  have hl := len_of_bd hbd
  clear hbd
  have hN2 : (P ++ Y ++ X ++ Q).length = (P ++ X ++ Y ++ Q).length := by simp; omega
  have hm' : m = a + X.length := by rw [← hm, ← ha]; simp
  have hb' : b = m + Y.length := by rw [← hb, ← hm]; simp; omega
  have hbN : b ≤ (P ++ X ++ Y ++ Q).length := by rw [List.length_append, hb]; omega
  generalize hN : (P ++ X ++ Y ++ Q).length = N at *
  simp only [roomB] at hl
  simp only [↓bk_bind, ↓bk_map, ↓bk_ite, ↓bk_some, ↓reduceIte, Nat.reduceEqDiff, Nat.reduceLT, Nat.reduceLeDiff, Nat.reduceAdd, Nat.reduceMul, reduceCtorEq, List.reduceReplicate, go_sem, hN, wS (a := m) (b := a) (by omega) (by omega), wS (a := b) (b := m) (by omega) (by omega)]
  refine loopK_up (ι := List GFound × Nat × Nat) (fun s => [(10, vI s.2.1), (11, vI s.2.2)]) (fun s => [(0, ⟨1, .row true 6 (s.1.map GFound.enc)⟩)]) (fun s => RotI P X Y Q m s.1 s.2.1 s.2.2) (fun s => s.2.1 + s.2.2) (P ++ X ++ Y ++ Q, m - a, b - m) ?_
  simp only [↓bk_bind, ↓bk_map, ↓bk_ite, ↓bk_some, ↓reduceIte, Nat.reduceEqDiff, Nat.reduceLT, Nat.reduceLeDiff, Nat.reduceAdd, Nat.reduceMul, reduceCtorEq, List.reduceReplicate, go_sem, hN]
  refine ⟨?_, RotI.start (by omega) (show X.length = m - a by omega) (show Y.length = b - m by omega) hX hY, ?_⟩
  · simp only [↓bk_bind, ↓bk_map, ↓bk_ite, ↓bk_some, ↓reduceIte, Nat.reduceEqDiff, Nat.reduceLT, Nat.reduceLeDiff, Nat.reduceAdd, Nat.reduceMul, reduceCtorEq, List.reduceReplicate, go_sem]
  · rintro ⟨d, i, j⟩ hI
    simp only at hI
    obtain ⟨hd, h1, h2, h3, h4⟩ := hI.len
    rw [hN] at hd
    simp only [↓bk_bind, ↓bk_map, ↓bk_ite, ↓bk_some, ↓reduceIte, Nat.reduceEqDiff, Nat.reduceLT, Nat.reduceLeDiff, Nat.reduceAdd, Nat.reduceMul, reduceCtorEq, List.reduceReplicate, go_sem, hd]
    refine ⟨fun hne => ⟨fun hgt => ?_, fun hle => ?_⟩, fun heq => ?_⟩
    · obtain ⟨P', X1, M, Y', Q', rfl, k1, k2, k3, k4, hR⟩ := hI.gt (by omega)
      have hd2 := hR.len.1
      rw [hN] at hd2
      rw [wS h1 (by omega)]
      apply callIK_of (c_slices_swapRangeCmpFunc P' X1 M Y' Q' f k1 k2 k3 k4)
      simp only [↓bk_bind, ↓bk_map, ↓bk_ite, ↓bk_some, ↓reduceIte, Nat.reduceEqDiff, Nat.reduceLT, Nat.reduceLeDiff, Nat.reduceAdd, Nat.reduceMul, reduceCtorEq, List.reduceReplicate, go_sem, hd, hd2, wS (a := i) (b := j) (by omega) (by omega)]
      exact ⟨(_, i - j, j), ⟨⟨rfl, rfl⟩, rfl⟩, hR, by show i - j + j < i + j; omega⟩
    · obtain ⟨P', X1, M, Y', Q', rfl, k1, k2, k3, k4, hR⟩ := hI.le (by omega)
      have hd2 := hR.len.1
      rw [hN] at hd2
      rw [wS h1 (by omega), wN (by omega), wS (a := m + j) (b := i) (by omega) (by omega)]
      apply callIK_of (c_slices_swapRangeCmpFunc P' X1 M Y' Q' f k1 k2 k3 k4)
      simp only [↓bk_bind, ↓bk_map, ↓bk_ite, ↓bk_some, ↓reduceIte, Nat.reduceEqDiff, Nat.reduceLT, Nat.reduceLeDiff, Nat.reduceAdd, Nat.reduceMul, reduceCtorEq, List.reduceReplicate, go_sem, hd, hd2, wS (a := j) (b := i) (by omega) (by omega)]
      exact ⟨(_, i, j - i), ⟨⟨rfl, rfl⟩, rfl⟩, hR, by show i + (j - i) < i + j; omega⟩
    · obtain rfl : i = j := by omega
      obtain ⟨P', X1, Y', Q', rfl, k1, k2, k3, k4, hR⟩ := hI.eq
      rw [wS h1 (by omega)]
      apply callIK_of (c_slices_swapRangeCmpFunc P' X1 [] Y' Q' f k1 k2 k3 k4)
      rw [hR]
      simp only [↓bk_bind, ↓bk_map, ↓bk_ite, ↓bk_some, ↓reduceIte, Nat.reduceEqDiff, Nat.reduceLT, Nat.reduceLeDiff, Nat.reduceAdd, Nat.reduceMul, reduceCtorEq, List.reduceReplicate, go_sem, hd]
def ltc (c : GFound → GFound → Int) (x y : GFound) : Bool := decide (c x y < 0)
def InsI (lt : GFound → GFound → Bool) (P S R : List GFound) (x : GFound) (d : List GFound) (j : Nat) : Prop :=
  ∃ s1 s2, d = P ++ s1 ++ x :: s2 ++ R ∧ P.length + s1.length = j ∧ s1 ++ s2 = S ∧ ∀ y ∈ s2, lt x y = true
theorem InsI.len {lt : GFound → GFound → Bool} {P S R : List GFound} {x : GFound} {d : List GFound} {j : Nat} (h : InsI lt P S R x d j) : d.length = P.length + S.length + 1 + R.length ∧ P.length ≤ j ∧ j ≤ P.length + S.length := by
  obtain ⟨s1, s2, rfl, rfl, rfl, h⟩ := h
  simp; omega
theorem InsI.done {lt : GFound → GFound → Bool} (hw : Srt.Swo lt) {P S R : List GFound} {x : GFound} {d : List GFound} {j : Nat} (h : InsI lt P S R x d j) (hs : Srt.srt lt S) (hj : j = P.length ∨ ∀ z ∈ d[j - 1]?, lt x z = false) : d = P ++ Srt.ins lt x S ++ R := by
  obtain ⟨s1, s2, rfl, rfl, rfl, h⟩ := h
  rw [Srt.ins_mid]
  · simp
  · intro y hy
    rcases List.eq_nil_or_concat s1 with rfl | ⟨s, z, rfl⟩
    · simp at hy
    · rcases hj with hj | hj
      · simp at hj
      · rw [List.concat_eq_append] at *
        have hz : lt x z = false := hj z (by simp [List.getElem?_append])
        rcases List.mem_append.1 hy with k | k
        · have := (Srt.srt_append.1 (Srt.srt_append.1 hs).1).2.2 y k z (by simp)
          exact hw.ntr hz this
        · obtain rfl := List.mem_singleton.1 k
          exact hz
  · intro y hy
    exact h y (List.mem_of_mem_head? hy)
theorem InsI.step {lt : GFound → GFound → Bool} {P S R : List GFound} {x : GFound} {d : List GFound} {j : Nat} (h : InsI lt P S R x d j) (hj : P.length < j) :
    ∃ A z C, d = A ++ z :: ([] ++ x :: C) ∧ A.length = j - 1 ∧ d[j - 1]? = some z ∧ (lt x z = true → InsI lt P S R x (A ++ x :: ([] ++ z :: C)) (j - 1)) := by
  obtain ⟨s1, s2, rfl, rfl, rfl, h⟩ := h
  rcases List.eq_nil_or_concat s1 with rfl | ⟨s, z, rfl⟩
  · simp at hj
  · rw [List.concat_eq_append] at *
    refine ⟨P ++ s, z, s2 ++ R, by simp, by simp, by simp [List.getElem?_append], fun hl => ⟨s, z :: s2, by simp, by simp, by simp, ?_⟩⟩
    intro y hy
    rcases List.mem_cons.1 hy with rfl | k
    · exact hl
    · exact h y k
def m_slices_insertionSortCmpFunc_impl_Found : MC :=
(.seq (pr [.mv 10 (.s 1), .bin 11 false .add (.s 10) (.c (.int .i64 1)), .mv 8 (.s 11)] [0,1,2,3,8])
(.block 0 (.loop ([0,1,2,3,8], []) (.seq (.seq (pr [.mv 12 (.s 8), .mv 13 (.s 2), .bin 14 false .lss (.s 12) (.s 13)] [0,1,2,3,8,14])
(.cond (.s 14) .skip (.exit 0)))
(.seq (.block 1 (.seq (pr [.mv 17 (.s 8), .mv 9 (.s 17)] [0,1,2,3,8,9])
(.block 2 (.loop ([0,1,2,3,8,9], []) (.seq (.seq (.dreg [{ o := .mv 18 (.s 9), hs := [19] }, { o := .mv 19 (.s 1), hs := [18] }, { o := .bin 20 false .gtr (.s 18) (.s 19), bf := [0,1] }, { o := .mv 21 (.s 20), bf := [0,1,2] }, { o := .mv 22 (.s 3), g := some (21, true), hs := [23,24,25,26,27,28,29,30,31], bf := [0,1,2,3] }, { o := .mv 23 (.s 0), g := some (21, true), hs := [22,24,27,28,29,30,31], bf := [0,1,2,3] }, { o := .mv 24 (.s 9), g := some (21, true), hs := [22,23,27,28,29,30,31], bf := [0,1,2,3] }, { o := .idx 25 6 (.s 23) (.s 24), g := some (21, true), hs := [22,27,28,29,30,31], bf := [0,1,2,3,5,6] }, { o := .load 26 true 6 (.s 25), g := some (21, true), hs := [22,27,28,29,30,31], bf := [0,1,2,3,5,6,7] }, { o := .mv 27 (.s 0), g := some (21, true), hs := [22,23,24,25,26,28,29], bf := [0,1,2,3] }, { o := .mv 28 (.s 9), g := some (21, true), hs := [22,23,24,25,26,27], bf := [0,1,2,3] }, { o := .bin 29 false .sub (.s 28) (.c (.int .i64 1)), g := some (21, true), hs := [22,23,24,25,26,27], bf := [0,1,2,3,10] }, { o := .idx 30 6 (.s 27) (.s 29), g := some (21, true), hs := [22,23,24,25,26], bf := [0,1,2,3,9,10,11] }, { o := .load 31 true 6 (.s 30), g := some (21, true), hs := [22,23,24,25,26], bf := [0,1,2,3,9,10,11,12] }, { o := .call 32 [] (.s 22) [.s 26, .s 31], g := some (21, true), bf := [0,1,2,3,4,5,6,7,8,9,10,11,12,13] }, { o := .bin 33 false .lss (.s 32) (.c (.int .i64 0)), g := some (21, true), bf := [0,1,2,3,4,5,6,7,8,9,10,11,12,13,14] }, { o := .pick 34 (.s 21) (.s 33) (.c (.bool false)), bf := [0,1,2,3,4,5,6,7,8,9,10,11,12,13,14,15] }] [0,1,2,3,8,9,34])
(.cond (.s 34) .skip (.exit 2)))
(.seq (.block 3 (.dreg [{ o := .mv 37 (.s 0), hs := [38,39,40,41,42,43,44,45,46,47,48,49,50] }, { o := .mv 38 (.s 9), hs := [37,39,40,41,42,43,44,45,46,47,48,49,50] }, { o := .mv 39 (.s 0), hs := [37,38,40,41,42,43,44,45,46,47,48,49,50,51], ho := [0] }, { o := .mv 40 (.s 9), hs := [37,38,39,42,43,44,45,46,47,48,49,50,51], ho := [0] }, { o := .bin 41 false .sub (.s 40) (.c (.int .i64 1)), hs := [37,38,39,42,43,44,45,46,47,48,49,50,51], ho := [0], bf := [3] }, { o := .mv 42 (.s 0), hs := [37,38,39,40,41,43,44,47,48,49,50] }, { o := .mv 43 (.s 9), hs := [37,38,39,40,41,42,47,48,49,50] }, { o := .bin 44 false .sub (.s 43) (.c (.int .i64 1)), hs := [37,38,39,40,41,42,47,48,49,50], bf := [6] }, { o := .idx 45 6 (.s 42) (.s 44), hs := [37,38,39,40,41,47,48,49,50], bf := [5,6,7] }, { o := .load 46 true 6 (.s 45), hs := [37,38,39,40,41,47,48,49,50], bf := [5,6,7,8] }, { o := .mv 47 (.s 0), hs := [37,38,39,40,41,42,43,44,45,46,48] }, { o := .mv 48 (.s 9), hs := [37,38,39,40,41,42,43,44,45,46,47] }, { o := .idx 49 6 (.s 47) (.s 48), hs := [37,38,39,40,41,42,43,44,45,46], bf := [10,11] }, { o := .load 50 true 6 (.s 49), hs := [37,38,39,40,41,42,43,44,45,46], bf := [10,11,12] }, { o := .idx 51 6 (.s 37) (.s 38), hs := [39,40,41], bf := [0,1,5,6,7,8,9,10,11,12,13] }, { o := .store 6 (.s 51) (.s 46), hs := [39,40,41], ws := [0], bf := [0,1,5,6,7,8,9,10,11,12,13,14] }, { o := .idx 52 6 (.s 39) (.s 41), bf := [0,1,2,3,4,5,6,7,8,9,10,11,12,13,14,15] }, { o := .store 6 (.s 52) (.s 50), ws := [0], bf := [0,1,2,3,4,5,6,7,8,9,10,11,12,13,14,15,16] }] [0,1,2,3,8,9]))
(pr [.mv 35 (.s 9), .bin 36 false .sub (.s 35) (.c (.int .i64 1)), .mv 9 (.s 36)] [0,1,2,3,8,9])))))))
(pr [.mv 15 (.s 8), .bin 16 false .add (.s 15) (.c (.int .i64 1)), .mv 8 (.s 16)] [0,1,2,3,8]))))))
theorem c_slices_insertionSortCmpFunc (P X Q : List GFound) (f : FuncId) (c : GFound → GFound → Int) (hc : ∀ x y, Ctr Tryz.prog f [aS x.enc, aS y.enc] [rI (c x y)]) (hw : Srt.Swo (ltc c)) {a b : Nat} (ha : P.length = a) (hb : (P ++ X).length = b) : CtrI Tryz.prog n_slices_insertionSortCmpFunc_impl_Found [oL 6 ((P ++ X ++ Q).map GFound.enc), iI a, iI b, fI f] [some (6, (P ++ Srt.isort (ltc c) X ++ Q).map GFound.enc)] [] := by
  have hlk : ∀ k, (P ++ Srt.isort (ltc c) (X.take k) ++ (X.drop k ++ Q)).length = (P ++ X ++ Q).length := fun k => by simp [Srt.len_isort]; omega
  refine ctrI_at (M := m_slices_insertionSortCmpFunc_impl_Found) (m := 0) (n := 53) (res := []) hmix Tryz.func226 rfl (by kernel_rfl) rfl (by kernel_rfl) (by kernel_rfl) (Nat.le_of_ble_eq_true rfl) rfl rfl ?_; unfold m_slices_insertionSortCmpFunc_impl_Found
  intro hbd
  have hl := len_of_bd hbd
  clear hbd
  have hb' : b = a + X.length := by rw [← hb, ← ha]; simp
  have hbN : b ≤ (P ++ X ++ Q).length := by rw [List.length_append, hb]; omega
  generalize hN : (P ++ X ++ Q).length = N at *
  simp only [roomB] at hl
  simp only [↓bk_bind, ↓bk_map, ↓bk_ite, ↓bk_some, ↓reduceIte, Nat.reduceEqDiff, Nat.reduceLT, Nat.reduceLeDiff, Nat.reduceAdd, Nat.reduceMul, reduceCtorEq, List.reduceReplicate, go_sem, hN, wN1 (a := a) (by omega)]
  refine loopK_up (fun k : Nat => [(8, vI ((a + k : Nat) : Int))]) (fun k => [(0, ⟨1, .row true 6 ((P ++ Srt.isort (ltc c) (X.take k) ++ (X.drop k ++ Q)).map GFound.enc)⟩)]) (fun k => 1 ≤ k ∧ (k ≤ X.length ∨ k = 1)) (fun k => X.length - k) 1 ?_
  simp only [↓bk_bind, ↓bk_map, ↓bk_ite, ↓bk_some, ↓reduceIte, Nat.reduceEqDiff, Nat.reduceLT, Nat.reduceLeDiff, Nat.reduceAdd, Nat.reduceMul, reduceCtorEq, List.reduceReplicate, go_sem, hN]
  refine ⟨?_, ⟨by omega, by omega⟩, ?_⟩
  · simp only [↓bk_bind, ↓bk_map, ↓bk_ite, ↓bk_some, ↓reduceIte, Nat.reduceEqDiff, Nat.reduceLT, Nat.reduceLeDiff, Nat.reduceAdd, Nat.reduceMul, reduceCtorEq, List.reduceReplicate, go_sem]
    cases X with
    | nil => simp [Srt.isort, Srt.mrg]
    | cons x X => simp [Srt.isort, Srt.mrg, Srt.ins]
  · rintro k ⟨h1, h2⟩
    simp only [↓bk_bind, ↓bk_map, ↓bk_ite, ↓bk_some, ↓reduceIte, Nat.reduceEqDiff, Nat.reduceLT, Nat.reduceLeDiff, Nat.reduceAdd, Nat.reduceMul, reduceCtorEq, List.reduceReplicate, go_sem, hlk]
    refine ⟨fun hlt => ?_, fun hge => ?_⟩
    · obtain ⟨x, hx⟩ := at_some (show k < X.length by omega)
      refine loopK_up (ι := List GFound × Nat) (fun s => [(9, vI s.2)]) (fun s => [(0, ⟨1, .row true 6 (s.1.map GFound.enc)⟩)]) (fun s => InsI (ltc c) P (Srt.isort (ltc c) (X.take k)) (X.drop (k + 1) ++ Q) x s.1 s.2) (fun s => s.2) (P ++ Srt.isort (ltc c) (X.take k) ++ (X.drop k ++ Q), a + k) ?_
      simp only [↓bk_bind, ↓bk_map, ↓bk_ite, ↓bk_some, ↓reduceIte, Nat.reduceEqDiff, Nat.reduceLT, Nat.reduceLeDiff, Nat.reduceAdd, Nat.reduceMul, reduceCtorEq, List.reduceReplicate, go_sem, hlk]
      refine ⟨?_, ⟨Srt.isort (ltc c) (X.take k), [], by simp [drop_cons hx], by simp [Srt.len_isort]; omega, by simp, by simp⟩, ?_⟩
      · simp only [↓bk_bind, ↓bk_map, ↓bk_ite, ↓bk_some, ↓reduceIte, Nat.reduceEqDiff, Nat.reduceLT, Nat.reduceLeDiff, Nat.reduceAdd, Nat.reduceMul, reduceCtorEq, List.reduceReplicate, go_sem]
      · rintro ⟨d, j⟩ hI
        simp only at hI
        obtain ⟨hd, h3, h4⟩ := hI.len
        have hdN : d.length = N := by
          have := hlk k
          simp [drop_cons hx] at this hd
          omega
        have hdone : (j = P.length ∨ ∀ z ∈ d[j - 1]?, ltc c x z = false) → d.map GFound.enc = (P ++ Srt.isort (ltc c) (X.take (k + 1)) ++ (X.drop (k + 1) ++ Q)).map GFound.enc := fun h => by
          rw [hI.done hw (Srt.srt_isort hw _) h, take_snoc hx, Srt.isort_snoc]
        by_cases hj : P.length < j
        · obtain ⟨A, z, C, e, k1, k2, k3⟩ := hI.step hj
          have e' : d.map GFound.enc = two (A.map GFound.enc) z.enc [] x.enc (C.map GFound.enc) := by subst e; simp [two]
          have e2 : (A ++ x :: ([] ++ z :: C)).map GFound.enc = two (A.map GFound.enc) x.enc [] z.enc (C.map GFound.enc) := by simp [two]
          obtain ⟨g1, g2, s1, s2, hL, d1, d2⟩ := two_at (A := A.map GFound.enc) (B := []) (C := C.map GFound.enc) (p := j - 1) (q := j) (by simpa using k1) (by simp; omega)
          have hL' : ∀ u v, (two (A.map GFound.enc) u [] v (C.map GFound.enc)).length = N := fun u v => by
            rw [← hdN, hL, e]; simp; omega
          rw [e']
          have j0 : (j : Int) > (a : Int) := by omega
          have j1 : (0 : Int) ≤ (j : Int) := by omega
          have j2 : (j : Int) < (N : Int) := by omega
          have j3 : (0 : Int) ≤ ((j - 1 : Nat) : Int) := by omega
          have j4 : ((j - 1 : Nat) : Int) < (N : Int) := by omega
          simp only [↓bk_bind, ↓bk_map, ↓bk_ite, ↓bk_some, ↓reduceIte, Nat.reduceEqDiff, Nat.reduceLT, Nat.reduceLeDiff, Nat.reduceAdd, Nat.reduceMul, reduceCtorEq, List.reduceReplicate, go_sem, hL', g1, g2, s1, s2, d1, d2, j0, j1, j2, j3, j4, wS1 (a := j) (by omega) (by omega)]
          apply callK_of (hc x z)
          simp only [↓bk_bind, ↓bk_map, ↓bk_ite, ↓bk_some, ↓reduceIte, Nat.reduceEqDiff, Nat.reduceLT, Nat.reduceLeDiff, Nat.reduceAdd, Nat.reduceMul, reduceCtorEq, List.reduceReplicate, go_sem, hL', g1, g2, s1, s2, d1, d2, j0, j1, j2, j3, j4, wS1 (a := j) (by omega) (by omega), wN1 (a := a + k) (by omega)]
          intro _
          refine ⟨fun hn => ⟨(A ++ x :: ([] ++ z :: C), j - 1), ⟨rfl, e2.symm⟩, k3 (by simpa [ltc] using hn), by show j - 1 < j; omega⟩, fun hn => ?_⟩
          have hz : ltc c x z = false := by simpa [ltc] using hn
          have := hdone (.inr (by rw [k2]; intro y hy; obtain rfl := Option.some.inj hy; exact hz))
          rw [e'] at this
          exact ⟨k + 1, ⟨rfl, this⟩, ⟨by omega, by omega⟩, by omega⟩
        · have j0 : ¬ (j : Int) > (a : Int) := by omega
          simp only [↓bk_bind, ↓bk_map, ↓bk_ite, ↓bk_some, ↓reduceIte, Nat.reduceEqDiff, Nat.reduceLT, Nat.reduceLeDiff, Nat.reduceAdd, Nat.reduceMul, reduceCtorEq, List.reduceReplicate, go_sem, hdN, j0, wN1 (a := a + k) (by omega)]
          have := hdone (.inl (by omega))
          exact ⟨k + 1, ⟨rfl, this⟩, ⟨by omega, by omega⟩, by omega⟩
    · have hk : X.length ≤ k := by omega
      rw [List.take_of_length_le hk, List.drop_of_length_le hk, List.nil_append]
end Go.Proofs.YtbnbgekjjbpljaaGreatR
namespace Go.Proofs.YtbnbgekjjbpljaaGreatR
open Go Go.RowKit Go.Proofs
set_option linter.unusedSimpArgs false
set_option linter.unusedVariables false
namespace Srt
variable {α : Type} {lt : α → α → Bool}
theorem srt_at {l : List α} (h : srt lt l) {i j : Nat} {x y : α} (hi : l[i]? = some x) (hj : l[j]? = some y) (hij : i < j) : lt y x = false := by
  obtain ⟨h1, rfl⟩ := List.getElem?_eq_some_iff.1 hi
  obtain ⟨h2, rfl⟩ := List.getElem?_eq_some_iff.1 hj
  exact (List.pairwise_iff_getElem.1 h) i j h1 h2 hij
theorem srt_at_le (hw : Swo lt) {l : List α} (h : srt lt l) {i j : Nat} {x y : α} (hi : l[i]? = some x) (hj : l[j]? = some y) (hij : i ≤ j) : lt y x = false := by
  rcases Nat.lt_or_eq_of_le hij with k | rfl
  · exact srt_at h hi hj k
  · obtain rfl := Option.some.inj (hi.symm.trans hj)
    exact hw.irr x
theorem mem_take_at {l : List α} {u : Nat} {x : α} (h : x ∈ l.take u) : ∃ i, i < u ∧ l[i]? = some x := by
  obtain ⟨i, hi⟩ := List.mem_iff_getElem?.1 h
  rw [List.getElem?_take] at hi
  split at hi
  · exact ⟨i, by assumption, hi⟩
  · cases hi
theorem mem_drop_at {l : List α} {u : Nat} {x : α} (h : x ∈ l.drop u) : ∃ i, u ≤ i ∧ l[i]? = some x := by
  obtain ⟨i, hi⟩ := List.mem_iff_getElem?.1 h
  rw [List.getElem?_drop] at hi
  exact ⟨u + i, by omega, hi⟩
theorem head_drop_at {l : List α} {u : Nat} {x : α} (h : x ∈ (l.drop u).head?) : l[u]? = some x := by
  rw [List.head?_drop] at h
  exact h
theorem mrg_sym (hw : Swo lt) {X Y : List α} (hX : srt lt X) (hY : srt lt Y) {u M : Nat} (huX : u ≤ X.length) (huM : u ≤ M)
    (h1 : u = 0 ∨ Y.length ≤ M - u ∨ ∃ y x, Y[M - u]? = some y ∧ X[u - 1]? = some x ∧ lt y x = false)
    (h2 : u = M ∨ u = X.length ∨ ∃ y x, Y[M - 1 - u]? = some y ∧ X[u]? = some x ∧ lt y x = true) :
    mrg lt X Y = mrg lt (X.take u) (Y.take (M - u)) ++ mrg lt (X.drop u) (Y.drop (M - u)) := by
  conv => lhs; rw [← List.take_append_drop u X, ← List.take_append_drop (M - u) Y]
  refine mrg_split ?_ ?_ ?_
  · intro b hb a ha
    obtain ⟨i, hi, eb⟩ := mem_take_at hb
    have ea := head_drop_at ha
    have hlt := len_at ea
    rcases h2 with h2 | h2 | ⟨y, x, e1, e2, h2⟩
    · omega
    · omega
    · obtain rfl := Option.some.inj (e2.symm.trans ea)
      exact hw.fl (srt_at_le hw hY eb e1 (by omega)) h2
  · intro b hb a ha
    obtain ⟨i, hi, eb⟩ := mem_drop_at hb
    obtain ⟨k, hk, ea⟩ := mem_take_at ha
    have hlt := len_at eb
    rcases h1 with h1 | h1 | ⟨y, x, e1, e2, h1⟩
    · omega
    · omega
    · have p1 := srt_at_le hw hY e1 eb (by omega)
      have p2 := srt_at_le hw hX ea e2 (by omega)
      exact hw.ntr (hw.ntr p1 h1) p2
  · intro b hb a ha
    obtain ⟨i, hi, eb⟩ := mem_drop_at hb
    obtain ⟨k, hk, ea⟩ := mem_take_at ha
    exact srt_at hY ea eb (by omega)
theorem mrg_one (hw : Swo lt) {x : α} {Y : List α} (hY : srt lt Y) {u : Nat} (h1 : ∀ y ∈ Y.take u, lt y x = true) (h2 : ∀ y ∈ Y.drop u, lt y x = false) : mrg lt [x] Y = Y.take u ++ x :: Y.drop u := by
  have e := mrg_split (lt := lt) (A1 := []) (A2 := [x]) (B1 := Y.take u) (B2 := Y.drop u) (by simpa using h1) (by simp) (by
    intro b hb a ha
    obtain ⟨i, hi, eb⟩ := mem_drop_at hb
    obtain ⟨k, hk, ea⟩ := mem_take_at ha
    exact srt_at hY ea eb (by omega))
  rw [List.take_append_drop, List.nil_append] at e
  rw [e, mrg_nil_srt hw (srt_append.1 ((List.take_append_drop u Y).symm ▸ hY)).1]
  have e2 := mrg_right (lt := lt) (A1 := [x]) (A2 := []) (B := Y.drop u) (by simpa using h2)
  rw [List.append_nil] at e2
  rw [e2, mrg_nil_srt hw (srt_append.1 ((List.take_append_drop u Y).symm ▸ hY)).2.1]
  rfl
theorem mrg_last {y : α} {X : List α} {u : Nat} (h1 : ∀ z ∈ X.take u, lt y z = false) (h2 : ∀ z ∈ X.drop u, lt y z = true) : mrg lt X [y] = X.take u ++ y :: X.drop u := by
  have := ins_mid (lt := lt) (x := y) h1 (fun z hz => h2 z (List.mem_of_mem_head? hz))
  rw [List.take_append_drop] at this
  exact this
theorem lo_of (hw : Swo lt) {Y : List α} (hY : srt lt Y) {w : Nat} {x y : α} (e : Y[w]? = some y) (h : lt y x = true) : ∀ z ∈ Y.take (w + 1), lt z x = true := fun z hz => by
  obtain ⟨i, hi, ez⟩ := mem_take_at hz
  exact hw.fl (srt_at_le hw hY ez e (by omega)) h
theorem hi_of (hw : Swo lt) {Y : List α} (hY : srt lt Y) {w : Nat} {x y : α} (e : Y[w]? = some y) (h : lt y x = false) : ∀ z ∈ Y.drop w, lt z x = false := fun z hz => by
  obtain ⟨i, hi, ez⟩ := mem_drop_at hz
  exact hw.ntr (srt_at_le hw hY e ez hi) h
theorem lo_of' (hw : Swo lt) {X : List α} (hX : srt lt X) {w : Nat} {x y : α} (e : X[w]? = some x) (h : lt y x = false) : ∀ z ∈ X.take (w + 1), lt y z = false := fun z hz => by
  obtain ⟨i, hi, ez⟩ := mem_take_at hz
  exact hw.ntr h (srt_at_le hw hX ez e (by omega))
theorem hi_of' (hw : Swo lt) {X : List α} (hX : srt lt X) {w : Nat} {x y : α} (e : X[w]? = some x) (h : lt y x = true) : ∀ z ∈ X.drop w, lt y z = true := fun z hz => by
  obtain ⟨i, hi, ez⟩ := mem_drop_at hz
  exact hw.lf h (srt_at_le hw hX e ez hi)
end Srt
theorem shr1 {k : Int} : (if (1 : Int) < 0 then none else some (Value.int IntKind.u64 (k.fdiv (2 ^ min (Int.toNat 1) 64)))) = some (Value.int IntKind.u64 (k.fdiv 2)) := by rw [if_neg (by decide)]; rfl
theorem u64_wrap {n : Int} (h1 : 0 ≤ n) (h2 : n ≤ 9223372036854775807) : IntKind.u64.wrap n = n := by
  simp only [IntKind.wrap, IntKind.signed, IntKind.bits, Bool.false_and, Bool.false_eq_true, if_false]
  omega
theorem half_of {i j : Nat} (h : i + j ≤ 9223372036854775807) : (IntKind.u64.wrap (IntKind.i64.wrap ((i : Int) + (j : Int)))).fdiv 2 = (((i + j) / 2 : Nat) : Int) := by
  rw [wN h, u64_wrap (by omega) (by omega), Int.fdiv_eq_ediv_of_nonneg _ (by omega)]
  omega
theorem wK {k : Nat} (h : k ≤ 9223372036854775807) : IntKind.i64.wrap (k : Int) = (k : Int) := wI (by omega) (by omega)
def SymI (lt : GFound → GFound → Bool) (X Y : List GFound) (M u0 v0 u v : Nat) : Prop :=
  u0 ≤ u ∧ u ≤ v ∧ v ≤ v0 ∧ (u = 0 ∨ Y.length ≤ M - u ∨ ∃ y x, Y[M - u]? = some y ∧ X[u - 1]? = some x ∧ lt y x = false) ∧
    (v = M ∨ v = X.length ∨ ∃ y x, Y[M - 1 - v]? = some y ∧ X[v]? = some x ∧ lt y x = true)
theorem SymI.fin {lt : GFound → GFound → Bool} (hw : Srt.Swo lt) {X Y : List GFound} {M u0 v0 u : Nat} (h : SymI lt X Y M u0 v0 u u) (hX : Srt.srt lt X) (hY : Srt.srt lt Y) (q2 : v0 ≤ M) (q3 : v0 ≤ X.length) (q4 : M ≤ u0 + Y.length) :
    ∃ A1 A2 B1 B2, X = A1 ++ A2 ∧ Y = B1 ++ B2 ∧ A1.length = u ∧ B1.length = M - u ∧ u ≤ M ∧ Srt.mrg lt X Y = Srt.mrg lt A1 B1 ++ Srt.mrg lt A2 B2 ∧ Srt.srt lt A1 ∧ Srt.srt lt A2 ∧ Srt.srt lt B1 ∧ Srt.srt lt B2 := by
  obtain ⟨h1, h2, h3, h4, h5⟩ := h
  have e := Srt.mrg_sym hw hX hY (by omega) (by omega) h4 h5
  have sX := Srt.srt_append.1 ((List.take_append_drop u X).symm ▸ hX)
  have sY := Srt.srt_append.1 ((List.take_append_drop (M - u) Y).symm ▸ hY)
  exact ⟨X.take u, X.drop u, Y.take (M - u), Y.drop (M - u), (List.take_append_drop _ _).symm, (List.take_append_drop _ _).symm, by simp; omega, by simp; omega, by omega, e, sX.1, sX.2.1, sY.1, sY.2.1⟩
theorem sym7 {u l2 k l4 M : Nat} (hk : k = M - u) (huM : u ≤ M) (hM : M = (u + l2 + (k + l4)) / 2) (hX : 2 ≤ u + l2) (hY : 2 ≤ k + l4) :
    (0 < u ∧ 0 < l2 ∧ 0 < k ∧ 0 < l4) ∨ (u = 0 ∧ 0 < l2 ∧ 0 < k ∧ 0 < l4) ∨ (0 < u ∧ l2 = 0 ∧ 0 < k ∧ 0 < l4) ∨ (0 < u ∧ 0 < l2 ∧ k = 0 ∧ 0 < l4) ∨ (0 < u ∧ 0 < l2 ∧ 0 < k ∧ l4 = 0) ∨ (u = 0 ∧ 0 < l2 ∧ 0 < k ∧ l4 = 0) ∨ (0 < u ∧ l2 = 0 ∧ k = 0 ∧ 0 < l4) := by omega
theorem lt_yes {i j : Nat} (k : Nat) (h : j = i + k) (hk : 0 < k) : (i : Int) < (j : Int) := by omega
theorem lt_no {i j : Nat} (k : Nat) (h : j = i + k) (hk : k = 0) : ¬ (i : Int) < (j : Int) := by omega
theorem symL (lt : GFound → GFound → Bool) {P A1 A2 B1 B2 Q : List GFound} {a m b M u N n : Nat} (ha : P.length = a) (hA1 : A1.length = u) (hB1 : B1.length = M - u) (huM : u ≤ M) (hm : m = a + (A1 ++ A2).length) (hb : b = m + (B1 ++ B2).length)
    (hN : (P ++ (A1 ++ A2) ++ (B1 ++ B2) ++ Q).length = N) (hM : M = ((A1 ++ A2).length + (B1 ++ B2).length) / 2) (hn : (A1 ++ A2).length + (B1 ++ B2).length ≤ n + 1) (h1 : ¬ ((m - a : Nat) : Int) = 1) (h2 : ¬ ((b - m : Nat) : Int) = 1) (hX : 0 < (A1 ++ A2).length) (hY : 0 < (B1 ++ B2).length) :
    ((P ++ A1 ++ B1 ++ A2 ++ (B2 ++ Q)).length = N ∧ (P ++ A1 ++ A2 ++ B1 ++ (B2 ++ Q)).length = N ∧ (P ++ A1 ++ B1 ++ (A2 ++ (B2 ++ Q))).length = N ∧ (P ++ Srt.mrg lt A1 B1 ++ A2 ++ B2 ++ Q).length = N ∧ (P ++ Srt.mrg lt A1 B1 ++ (A2 ++ (B2 ++ Q))).length = N ∧ (P ++ Srt.mrg lt A1 B1 ++ Srt.mrg lt A2 B2 ++ Q).length = N) ∧
    ((P ++ A1).length = a + u ∧ (P ++ A1 ++ A2).length = m ∧ (P ++ A1 ++ A2 ++ B1).length = m + (M - u) ∧ (P ++ A1 ++ B1).length = a + M ∧ (P ++ Srt.mrg lt A1 B1).length = a + M ∧ (P ++ Srt.mrg lt A1 B1 ++ A2).length = m + (M - u) ∧ (P ++ Srt.mrg lt A1 B1 ++ A2 ++ B2).length = b) ∧
    A1.length + B1.length ≤ n ∧ A2.length + B2.length ≤ n ∧
    (m = a + u + A2.length ∧ m + (M - u) = m + B1.length ∧ a + u = a + A1.length ∧ a + M = a + u + B1.length ∧ m + (M - u) = a + M + A2.length ∧ b = m + (M - u) + B2.length) ∧
    ((0 < A1.length ∧ 0 < A2.length ∧ 0 < B1.length ∧ 0 < B2.length) ∨ (A1.length = 0 ∧ 0 < A2.length ∧ 0 < B1.length ∧ 0 < B2.length) ∨ (0 < A1.length ∧ A2.length = 0 ∧ 0 < B1.length ∧ 0 < B2.length) ∨ (0 < A1.length ∧ 0 < A2.length ∧ B1.length = 0 ∧ 0 < B2.length) ∨ (0 < A1.length ∧ 0 < A2.length ∧ 0 < B1.length ∧ B2.length = 0) ∨ (A1.length = 0 ∧ 0 < A2.length ∧ 0 < B1.length ∧ B2.length = 0) ∨ (0 < A1.length ∧ A2.length = 0 ∧ B1.length = 0 ∧ 0 < B2.length)) := by
  simp only [List.length_append, Srt.len_mrg] at *
  have h7 := sym7 (u := A1.length) (l2 := A2.length) (k := B1.length) (l4 := B2.length) (M := M) (by omega) (by omega) (by omega) (by omega) (by omega)
  refine ⟨⟨?_, ?_, ?_, ?_, ?_, ?_⟩, ⟨?_, ?_, ?_, ?_, ?_, ?_, ?_⟩, ?_, ?_, ⟨?_, ?_, ?_, ?_, ?_, ?_⟩, h7⟩ <;> clear h7 <;> omega
def m_slices_symMergeCmpFunc_impl_Found : MC :=
(.seq (.seq (pr [.mv 25 (.s 2), .mv 26 (.s 1), .bin 27 false .sub (.s 25) (.s 26), .bin 28 false .eql (.s 27) (.c (.int .i64 1))] [0,1,2,3,4,28])
(.cond (.s 28) (.seq (pr [.mv 29 (.s 2), .mv 10 (.s 29)] [0,1,3,4,10])
(.seq (pr [.mv 30 (.s 3), .mv 11 (.s 30)] [0,1,4,10,11])
(.seq (.block 0 (.loop ([0,1,4,10,11], []) (.seq (.seq (pr [.mv 31 (.s 10), .mv 32 (.s 11), .bin 33 false .lss (.s 31) (.s 32)] [0,1,4,10,11,33])
(.cond (.s 33) .skip (.exit 0)))
(.block 1 (.seq (pr [.mv 34 (.s 10), .mv 35 (.s 11), .bin 36 false .add (.s 34) (.s 35), .convI 37 .u64 (.s 36), .bin 38 false .shr (.s 37) (.c (.int .u64 1)), .convI 39 .i64 (.s 38), .mv 12 (.s 39)] [0,1,4,10,11,12])
(.seq (.dreg [{ o := .mv 40 (.s 4), hs := [41,42,43,44,45,46,47,48] }, { o := .mv 41 (.s 0), hs := [40,42,45,46,47,48] }, { o := .mv 42 (.s 12), hs := [40,41,45,46,47,48] }, { o := .idx 43 6 (.s 41) (.s 42), hs := [40,45,46,47,48], bf := [1,2] }, { o := .load 44 true 6 (.s 43), hs := [40,45,46,47,48], bf := [1,2,3] }, { o := .mv 45 (.s 0), hs := [40,41,42,43,44,46] }, { o := .mv 46 (.s 1), hs := [40,41,42,43,44,45] }, { o := .idx 47 6 (.s 45) (.s 46), hs := [40,41,42,43,44], bf := [5,6] }, { o := .load 48 true 6 (.s 47), hs := [40,41,42,43,44], bf := [5,6,7] }, { o := .call 49 [] (.s 40) [.s 44, .s 48], bf := [0,1,2,3,4,5,6,7,8] }, { o := .bin 50 false .lss (.s 49) (.c (.int .i64 0)), bf := [0,1,2,3,4,5,6,7,8,9] }] [0,1,4,10,11,12,50])
(.cond (.s 50) (pr [.mv 51 (.s 12), .bin 52 false .add (.s 51) (.c (.int .i64 1)), .mv 10 (.s 52)] [0,1,4,10,11]) (pr [.mv 53 (.s 12), .mv 11 (.s 53)] [0,1,4,10,11]))))))))
(.seq (.seq (pr [.mv 54 (.s 1), .mv 13 (.s 54)] [0,10,13])
(.block 2 (.loop ([0,10,13], []) (.seq (.seq (pr [.mv 55 (.s 13), .mv 56 (.s 10), .bin 57 false .sub (.s 56) (.c (.int .i64 1)), .bin 58 false .lss (.s 55) (.s 57)] [0,10,13,58])
(.cond (.s 58) .skip (.exit 2)))
(.seq (.block 3 (.dreg [{ o := .mv 61 (.s 0), hs := [62,63,64,65,66,67,68,69,70,71,72,73,74] }, { o := .mv 62 (.s 13), hs := [61,63,64,65,66,67,68,69,70,71,72,73,74] }, { o := .mv 63 (.s 0), hs := [61,62,64,65,66,67,68,69,70,71,72,73,74,75], ho := [0] }, { o := .mv 64 (.s 13), hs := [61,62,63,66,67,68,69,70,71,72,73,74,75], ho := [0] }, { o := .bin 65 false .add (.s 64) (.c (.int .i64 1)), hs := [61,62,63,66,67,68,69,70,71,72,73,74,75], ho := [0], bf := [3] }, { o := .mv 66 (.s 0), hs := [61,62,63,64,65,67,68,71,72,73,74] }, { o := .mv 67 (.s 13), hs := [61,62,63,64,65,66,71,72,73,74] }, { o := .bin 68 false .add (.s 67) (.c (.int .i64 1)), hs := [61,62,63,64,65,66,71,72,73,74], bf := [6] }, { o := .idx 69 6 (.s 66) (.s 68), hs := [61,62,63,64,65,71,72,73,74], bf := [5,6,7] }, { o := .load 70 true 6 (.s 69), hs := [61,62,63,64,65,71,72,73,74], bf := [5,6,7,8] }, { o := .mv 71 (.s 0), hs := [61,62,63,64,65,66,67,68,69,70,72] }, { o := .mv 72 (.s 13), hs := [61,62,63,64,65,66,67,68,69,70,71] }, { o := .idx 73 6 (.s 71) (.s 72), hs := [61,62,63,64,65,66,67,68,69,70], bf := [10,11] }, { o := .load 74 true 6 (.s 73), hs := [61,62,63,64,65,66,67,68,69,70], bf := [10,11,12] }, { o := .idx 75 6 (.s 61) (.s 62), hs := [63,64,65], bf := [0,1,5,6,7,8,9,10,11,12,13] }, { o := .store 6 (.s 75) (.s 70), hs := [63,64,65], ws := [0], bf := [0,1,5,6,7,8,9,10,11,12,13,14] }, { o := .idx 76 6 (.s 63) (.s 65), bf := [0,1,2,3,4,5,6,7,8,9,10,11,12,13,14,15] }, { o := .store 6 (.s 76) (.s 74), ws := [0], bf := [0,1,2,3,4,5,6,7,8,9,10,11,12,13,14,15,16] }] [0,10,13]))
(pr [.mv 59 (.s 13), .bin 60 false .add (.s 59) (.c (.int .i64 1)), .mv 13 (.s 60)] [0,10,13]))))))
.ret)))) .skip))
(.seq (.seq (pr [.mv 77 (.s 3), .mv 78 (.s 2), .bin 79 false .sub (.s 77) (.s 78), .bin 80 false .eql (.s 79) (.c (.int .i64 1))] [0,1,2,3,4,80])
(.cond (.s 80) (.seq (pr [.mv 81 (.s 1), .mv 14 (.s 81)] [0,2,4,14])
(.seq (pr [.mv 82 (.s 2), .mv 15 (.s 82)] [0,2,4,14,15])
(.seq (.block 4 (.loop ([0,2,4,14,15], []) (.seq (.seq (pr [.mv 83 (.s 14), .mv 84 (.s 15), .bin 85 false .lss (.s 83) (.s 84)] [0,2,4,14,15,85])
(.cond (.s 85) .skip (.exit 4)))
(.block 5 (.seq (pr [.mv 86 (.s 14), .mv 87 (.s 15), .bin 88 false .add (.s 86) (.s 87), .convI 89 .u64 (.s 88), .bin 90 false .shr (.s 89) (.c (.int .u64 1)), .convI 91 .i64 (.s 90), .mv 16 (.s 91)] [0,2,4,14,15,16])
(.seq (.dreg [{ o := .mv 92 (.s 4), hs := [93,94,95,96,97,98,99,100] }, { o := .mv 93 (.s 0), hs := [92,94,97,98,99,100] }, { o := .mv 94 (.s 2), hs := [92,93,97,98,99,100] }, { o := .idx 95 6 (.s 93) (.s 94), hs := [92,97,98,99,100], bf := [1,2] }, { o := .load 96 true 6 (.s 95), hs := [92,97,98,99,100], bf := [1,2,3] }, { o := .mv 97 (.s 0), hs := [92,93,94,95,96,98] }, { o := .mv 98 (.s 16), hs := [92,93,94,95,96,97] }, { o := .idx 99 6 (.s 97) (.s 98), hs := [92,93,94,95,96], bf := [5,6] }, { o := .load 100 true 6 (.s 99), hs := [92,93,94,95,96], bf := [5,6,7] }, { o := .call 101 [] (.s 92) [.s 96, .s 100], bf := [0,1,2,3,4,5,6,7,8] }, { o := .bin 102 false .lss (.s 101) (.c (.int .i64 0)), bf := [0,1,2,3,4,5,6,7,8,9] }, { o := .un 103 .not (.s 102), bf := [0,1,2,3,4,5,6,7,8,9,10] }] [0,2,4,14,15,16,103])
(.cond (.s 103) (pr [.mv 104 (.s 16), .bin 105 false .add (.s 104) (.c (.int .i64 1)), .mv 14 (.s 105)] [0,2,4,14,15]) (pr [.mv 106 (.s 16), .mv 15 (.s 106)] [0,2,4,14,15]))))))))
(.seq (.seq (pr [.mv 107 (.s 2), .mv 17 (.s 107)] [0,14,17])
(.block 6 (.loop ([0,14,17], []) (.seq (.seq (pr [.mv 108 (.s 17), .mv 109 (.s 14), .bin 110 false .gtr (.s 108) (.s 109)] [0,14,17,110])
(.cond (.s 110) .skip (.exit 6)))
(.seq (.block 7 (.dreg [{ o := .mv 113 (.s 0), hs := [114,115,116,117,118,119,120,121,122,123,124,125,126] }, { o := .mv 114 (.s 17), hs := [113,115,116,117,118,119,120,121,122,123,124,125,126] }, { o := .mv 115 (.s 0), hs := [113,114,116,117,118,119,120,121,122,123,124,125,126,127], ho := [0] }, { o := .mv 116 (.s 17), hs := [113,114,115,118,119,120,121,122,123,124,125,126,127], ho := [0] }, { o := .bin 117 false .sub (.s 116) (.c (.int .i64 1)), hs := [113,114,115,118,119,120,121,122,123,124,125,126,127], ho := [0], bf := [3] }, { o := .mv 118 (.s 0), hs := [113,114,115,116,117,119,120,123,124,125,126] }, { o := .mv 119 (.s 17), hs := [113,114,115,116,117,118,123,124,125,126] }, { o := .bin 120 false .sub (.s 119) (.c (.int .i64 1)), hs := [113,114,115,116,117,118,123,124,125,126], bf := [6] }, { o := .idx 121 6 (.s 118) (.s 120), hs := [113,114,115,116,117,123,124,125,126], bf := [5,6,7] }, { o := .load 122 true 6 (.s 121), hs := [113,114,115,116,117,123,124,125,126], bf := [5,6,7,8] }, { o := .mv 123 (.s 0), hs := [113,114,115,116,117,118,119,120,121,122,124] }, { o := .mv 124 (.s 17), hs := [113,114,115,116,117,118,119,120,121,122,123] }, { o := .idx 125 6 (.s 123) (.s 124), hs := [113,114,115,116,117,118,119,120,121,122], bf := [10,11] }, { o := .load 126 true 6 (.s 125), hs := [113,114,115,116,117,118,119,120,121,122], bf := [10,11,12] }, { o := .idx 127 6 (.s 113) (.s 114), hs := [115,116,117], bf := [0,1,5,6,7,8,9,10,11,12,13] }, { o := .store 6 (.s 127) (.s 122), hs := [115,116,117], ws := [0], bf := [0,1,5,6,7,8,9,10,11,12,13,14] }, { o := .idx 128 6 (.s 115) (.s 117), bf := [0,1,2,3,4,5,6,7,8,9,10,11,12,13,14,15] }, { o := .store 6 (.s 128) (.s 126), ws := [0], bf := [0,1,2,3,4,5,6,7,8,9,10,11,12,13,14,15,16] }] [0,14,17]))
(pr [.mv 111 (.s 17), .bin 112 false .sub (.s 111) (.c (.int .i64 1)), .mv 17 (.s 112)] [0,14,17]))))))
.ret)))) .skip))
(.seq (pr [.mv 129 (.s 1), .mv 130 (.s 3), .bin 131 false .add (.s 129) (.s 130), .convI 132 .u64 (.s 131), .bin 133 false .shr (.s 132) (.c (.int .u64 1)), .convI 134 .i64 (.s 133), .mv 18 (.s 134)] [0,1,2,3,4,18])
(.seq (pr [.mv 135 (.s 18), .mv 136 (.s 2), .bin 137 false .add (.s 135) (.s 136), .mv 19 (.s 137)] [0,1,2,3,4,18,19])
(.seq (pr [.mv 20 (.c (.int .i64 0)), .mv 21 (.c (.int .i64 0))] [0,1,2,3,4,18,19])
(.seq (.seq (pr [.mv 138 (.s 2), .mv 139 (.s 18), .bin 140 false .gtr (.s 138) (.s 139)] [0,1,2,3,4,18,19,140])
(.cond (.s 140) (.seq (pr [.mv 141 (.s 19), .mv 142 (.s 3), .bin 143 false .sub (.s 141) (.s 142), .mv 20 (.s 143)] [0,1,2,3,4,18,19,20])
(pr [.mv 144 (.s 18), .mv 21 (.s 144)] [0,1,2,3,4,18,19,20,21])) (.seq (pr [.mv 145 (.s 1), .mv 20 (.s 145)] [0,1,2,3,4,18,19,20])
(pr [.mv 146 (.s 2), .mv 21 (.s 146)] [0,1,2,3,4,18,19,20,21]))))
(.seq (pr [.mv 147 (.s 19), .bin 148 false .sub (.s 147) (.c (.int .i64 1)), .mv 22 (.s 148)] [0,1,2,3,4,18,19,20,21,22])
(.seq (.block 8 (.loop ([0,1,2,3,4,18,19,20,21,22], []) (.seq (.seq (pr [.mv 149 (.s 20), .mv 150 (.s 21), .bin 151 false .lss (.s 149) (.s 150)] [0,1,2,3,4,18,19,20,21,22,151])
(.cond (.s 151) .skip (.exit 8)))
(.block 9 (.seq (pr [.mv 152 (.s 20), .mv 153 (.s 21), .bin 154 false .add (.s 152) (.s 153), .convI 155 .u64 (.s 154), .bin 156 false .shr (.s 155) (.c (.int .u64 1)), .convI 157 .i64 (.s 156), .mv 23 (.s 157)] [0,1,2,3,4,18,19,20,21,22,23])
(.seq (.dreg [{ o := .mv 158 (.s 4), hs := [159,160,161,162,163,164,165,166,167,168] }, { o := .mv 159 (.s 0), hs := [158,160,161,162,165,166,167,168] }, { o := .mv 160 (.s 22), hs := [158,159,161,165,166,167,168] }, { o := .mv 161 (.s 23), hs := [158,159,160,165,166,167,168] }, { o := .bin 162 false .sub (.s 160) (.s 161), hs := [158,159,165,166,167,168], bf := [2,3] }, { o := .idx 163 6 (.s 159) (.s 162), hs := [158,165,166,167,168], bf := [1,2,3,4] }, { o := .load 164 true 6 (.s 163), hs := [158,165,166,167,168], bf := [1,2,3,4,5] }, { o := .mv 165 (.s 0), hs := [158,159,160,161,162,163,164,166] }, { o := .mv 166 (.s 23), hs := [158,159,160,161,162,163,164,165] }, { o := .idx 167 6 (.s 165) (.s 166), hs := [158,159,160,161,162,163,164], bf := [7,8] }, { o := .load 168 true 6 (.s 167), hs := [158,159,160,161,162,163,164], bf := [7,8,9] }, { o := .call 169 [] (.s 158) [.s 164, .s 168], bf := [0,1,2,3,4,5,6,7,8,9,10] }, { o := .bin 170 false .lss (.s 169) (.c (.int .i64 0)), bf := [0,1,2,3,4,5,6,7,8,9,10,11] }, { o := .un 171 .not (.s 170), bf := [0,1,2,3,4,5,6,7,8,9,10,11,12] }] [0,1,2,3,4,18,19,20,21,22,23,171])
(.cond (.s 171) (pr [.mv 172 (.s 23), .bin 173 false .add (.s 172) (.c (.int .i64 1)), .mv 20 (.s 173)] [0,1,2,3,4,18,19,20,21,22]) (pr [.mv 174 (.s 23), .mv 21 (.s 174)] [0,1,2,3,4,18,19,20,21,22]))))))))
(.seq (pr [.mv 175 (.s 19), .mv 176 (.s 20), .bin 177 false .sub (.s 175) (.s 176), .mv 24 (.s 177)] [0,1,2,3,4,18,20,24])
(.seq (.seq (.reg [{ o := .mv 178 (.s 20) }, { o := .mv 179 (.s 2) }, { o := .bin 180 false .lss (.s 178) (.s 179) }, { o := .mv 181 (.s 180) }, { o := .mv 182 (.s 2), g := some (181, true) }, { o := .mv 183 (.s 24), g := some (181, true) }, { o := .bin 184 false .lss (.s 182) (.s 183), g := some (181, true) }, { o := .pick 185 (.s 181) (.s 184) (.c (.bool false)) }] [0,1,2,3,4,18,20,24,185])
(.cond (.s 185) (pr [.mv 186 (.s 0), .mv 187 (.s 20), .mv 188 (.s 2), .mv 189 (.s 24), .mv 190 (.s 4), .callI 191 [] (.f n_slices_rotateCmpFunc_impl_Found) [.s 186, .s 187, .s 188, .s 189, .s 190] [0] []] [0,1,3,4,18,20,24]) .skip))
(.seq (.seq (.reg [{ o := .mv 192 (.s 1) }, { o := .mv 193 (.s 20) }, { o := .bin 194 false .lss (.s 192) (.s 193) }, { o := .mv 195 (.s 194) }, { o := .mv 196 (.s 20), g := some (195, true) }, { o := .mv 197 (.s 18), g := some (195, true) }, { o := .bin 198 false .lss (.s 196) (.s 197), g := some (195, true) }, { o := .pick 199 (.s 195) (.s 198) (.c (.bool false)) }] [0,1,3,4,18,20,24,199])
(.cond (.s 199) (pr [.mv 200 (.s 0), .mv 201 (.s 1), .mv 202 (.s 20), .mv 203 (.s 18), .mv 204 (.s 4), .callI 205 [] (.f n_slices_symMergeCmpFunc_impl_Found) [.s 200, .s 201, .s 202, .s 203, .s 204] [0] []] [0,3,4,18,24]) .skip))
(.seq (.reg [{ o := .mv 206 (.s 18) }, { o := .mv 207 (.s 24) }, { o := .bin 208 false .lss (.s 206) (.s 207) }, { o := .mv 209 (.s 208) }, { o := .mv 210 (.s 24), g := some (209, true) }, { o := .mv 211 (.s 3), g := some (209, true) }, { o := .bin 212 false .lss (.s 210) (.s 211), g := some (209, true) }, { o := .pick 213 (.s 209) (.s 212) (.c (.bool false)) }] [0,3,4,18,24,213])
(.cond (.s 213) (pr [.mv 214 (.s 0), .mv 215 (.s 18), .mv 216 (.s 24), .mv 217 (.s 3), .mv 218 (.s 4), .callI 219 [] (.f n_slices_symMergeCmpFunc_impl_Found) [.s 214, .s 215, .s 216, .s 217, .s 218] [0] []] []) .skip)))))))))))))
set_option maxHeartbeats 4000000 in
theorem c_slices_symMergeCmpFunc (f : FuncId) (c : GFound → GFound → Int) (hc : ∀ x y, Ctr Tryz.prog f [aS x.enc, aS y.enc] [rI (c x y)]) (hw : Srt.Swo (ltc c)) (n : Nat) : ∀ (P X Y Q : List GFound) {a m b : Nat}, X.length + Y.length ≤ n → P.length = a → (P ++ X).length = m → (P ++ X ++ Y).length = b → 0 < X.length → 0 < Y.length → Srt.srt (ltc c) X → Srt.srt (ltc c) Y →
    CtrI Tryz.prog n_slices_symMergeCmpFunc_impl_Found [oL 6 ((P ++ X ++ Y ++ Q).map GFound.enc), iI a, iI m, iI b, fI f] [some (6, (P ++ Srt.mrg (ltc c) X Y ++ Q).map GFound.enc)] [] := by
  induction n with
  | zero => intro P X Y Q a m b hn _ _ _ hX; omega
  | succ n ih =>
    intro P X Y Q a m b hn ha hm hb hX hY sX sY
    have hN2 : (P ++ Srt.mrg (ltc c) X Y ++ Q).length = (P ++ X ++ Y ++ Q).length := by simp [Srt.len_mrg]; omega
    refine ctrI_at (M := m_slices_symMergeCmpFunc_impl_Found) (m := 0) (n := 220) (res := []) hmix Tryz.func227 rfl (by kernel_rfl) rfl (by kernel_rfl) (by kernel_rfl) (Nat.le_of_ble_eq_true rfl) rfl rfl ?_; unfold m_slices_symMergeCmpFunc_impl_Found
    intro hbd
    have hl := len_of_bd hbd
    clear hbd
    have hm' : m = a + X.length := by rw [← hm, ← ha]; simp
    have hb' : b = m + Y.length := by rw [← hb, ← hm]; simp; omega
    have hbN : b ≤ (P ++ X ++ Y ++ Q).length := by rw [List.length_append, hb]; omega
    generalize hN : (P ++ X ++ Y ++ Q).length = N at *
    simp only [roomB] at hl
    simp only [↓bk_bind, ↓bk_map, ↓bk_ite, ↓bk_some, ↓reduceIte, Nat.reduceEqDiff, Nat.reduceLT, Nat.reduceLeDiff, Nat.reduceAdd, Nat.reduceMul, reduceCtorEq, List.reduceReplicate, go_sem, hN, wS (a := m) (b := a) (by omega) (by omega)]
    refine ⟨fun h1 => ?_, fun h1 => ?_⟩
    · obtain ⟨x, rfl⟩ : ∃ x, X = [x] := List.length_eq_one_iff.1 (by omega)
      simp only [List.length_cons, List.length_nil] at hm' hn
      have hxa : (P ++ [x] ++ Y ++ Q)[a]? = some x := by rw [← ha]; simp
      have hya : ∀ w, w < Y.length → (P ++ [x] ++ Y ++ Q)[m + w]? = Y[w]? := fun w hw => by
        rw [List.append_assoc, List.getElem?_append_right (by simp; omega), List.getElem?_append_left (by simp; omega)]
        congr 1; simp; omega
      refine loopK_up (ι := Nat × Nat) (fun s => [(10, vI ((m + s.1 : Nat) : Int)), (11, vI ((m + s.2 : Nat) : Int))]) (fun s => []) (fun s => s.1 ≤ s.2 ∧ s.2 ≤ Y.length ∧ (∀ y ∈ Y.take s.1, ltc c y x = true) ∧ (∀ y ∈ Y.drop s.2, ltc c y x = false)) (fun s => s.2 - s.1) (0, Y.length) ?_
      simp only [↓bk_bind, ↓bk_map, ↓bk_ite, ↓bk_some, ↓reduceIte, Nat.reduceEqDiff, Nat.reduceLT, Nat.reduceLeDiff, Nat.reduceAdd, Nat.reduceMul, reduceCtorEq, List.reduceReplicate, go_sem, hN]
      refine ⟨?_, ⟨by omega, by omega, by simp, by simp⟩, ?_⟩
      · simp only [↓bk_bind, ↓bk_map, ↓bk_ite, ↓bk_some, ↓reduceIte, Nat.reduceEqDiff, Nat.reduceLT, Nat.reduceLeDiff, Nat.reduceAdd, Nat.reduceMul, reduceCtorEq, List.reduceReplicate, go_sem]
        exact ⟨by omega, by omega⟩
      · rintro ⟨u, v⟩ ⟨i1, i2, i3, i4⟩
        simp only at i1 i2 i3 i4
        simp only [↓bk_bind, ↓bk_map, ↓bk_ite, ↓bk_some, ↓reduceIte, Nat.reduceEqDiff, Nat.reduceLT, Nat.reduceLeDiff, Nat.reduceAdd, Nat.reduceMul, reduceCtorEq, List.reduceReplicate, go_sem, hN, shr1, half_of (i := m + u) (j := m + v) (by omega)]
        refine ⟨fun hlt => ?_, fun hge => ?_⟩
        · have hwx : (m + u + (m + v)) / 2 = m + (u + v) / 2 := by omega
          have w1 : u ≤ (u + v) / 2 := by omega
          have w2 : (u + v) / 2 < v := by omega
          rw [hwx]
          generalize (u + v) / 2 = w at w1 w2
          obtain ⟨y, hy⟩ := at_some (show w < Y.length by omega)
          have hyw := (hya w (by omega)).trans hy
          have k1 : (0 : Int) ≤ ((m + w : Nat) : Int) := by omega
          have k2 : ((m + w : Nat) : Int) < (N : Int) := by omega
          have k3 : (0 : Int) ≤ (a : Int) := by omega
          have k4 : (a : Int) < (N : Int) := by omega
          simp only [↓bk_bind, ↓bk_map, ↓bk_ite, ↓bk_some, ↓reduceIte, Nat.reduceEqDiff, Nat.reduceLT, Nat.reduceLeDiff, Nat.reduceAdd, Nat.reduceMul, reduceCtorEq, List.reduceReplicate, go_sem, wK (k := m + w) (by omega), k1, k2, k3, k4, bk_eq hyw, bk_eq hxa, hN]
          apply callK_of (hc y x)
          simp only [↓bk_bind, ↓bk_map, ↓bk_ite, ↓bk_some, ↓reduceIte, Nat.reduceEqDiff, Nat.reduceLT, Nat.reduceLeDiff, Nat.reduceAdd, Nat.reduceMul, reduceCtorEq, List.reduceReplicate, go_sem, hN, wN1 (a := m + w) (by omega)]
          intro _
          refine ⟨fun hn => ⟨(w + 1, v), ⟨rfl, rfl⟩, ⟨by omega, i2, Srt.lo_of hw sY hy (by simpa [ltc] using hn), i4⟩, by omega⟩, fun hn => ⟨(u, w), ⟨rfl, rfl⟩, ⟨w1, by omega, i3, Srt.hi_of hw sY hy (by simpa [ltc] using hn)⟩, by omega⟩⟩
        · obtain rfl : u = v := by omega
          have hres := Srt.mrg_one hw sY i3 i4
          have hlt : ∀ t, (P ++ (Y.take t ++ x :: Y.drop t) ++ Q).length = N := fun t => by rw [← hN]; simp; omega
          refine loopK_up (fun t : Nat => [(13, vI ((a + t : Nat) : Int))]) (fun t => [(0, ⟨1, .row true 6 ((P ++ (Y.take t ++ x :: Y.drop t) ++ Q).map GFound.enc)⟩)]) (fun t => t ≤ u) (fun t => u - t) 0 ?_
          simp only [↓bk_bind, ↓bk_map, ↓bk_ite, ↓bk_some, ↓reduceIte, Nat.reduceEqDiff, Nat.reduceLT, Nat.reduceLeDiff, Nat.reduceAdd, Nat.reduceMul, reduceCtorEq, List.reduceReplicate, go_sem, hN]
          refine ⟨?_, by omega, ?_⟩
          · simp only [↓bk_bind, ↓bk_map, ↓bk_ite, ↓bk_some, ↓reduceIte, Nat.reduceEqDiff, Nat.reduceLT, Nat.reduceLeDiff, Nat.reduceAdd, Nat.reduceMul, reduceCtorEq, List.reduceReplicate, go_sem]
            simp
          · intro t ht
            have hs1 : IntKind.i64.wrap (((m + u : Nat) : Int) - 1) = ((a + u : Nat) : Int) := by
              rw [wI (by omega) (by omega)]; omega
            by_cases htu : t < u
            · obtain ⟨y, hy⟩ := at_some (show t < Y.length by omega)
              have e1 : (P ++ (Y.take t ++ x :: Y.drop t) ++ Q).map GFound.enc = two ((P ++ Y.take t).map GFound.enc) x.enc [] y.enc ((Y.drop (t + 1) ++ Q).map GFound.enc) := by simp [two, drop_cons hy]
              have e2 : (P ++ (Y.take (t + 1) ++ x :: Y.drop (t + 1)) ++ Q).map GFound.enc = two ((P ++ Y.take t).map GFound.enc) y.enc [] x.enc ((Y.drop (t + 1) ++ Q).map GFound.enc) := by simp [two, take_snoc hy]
              have hA : ((P ++ Y.take t).map GFound.enc).length = a + t := by simp; omega
              have hL0 : ∀ p q, (two ((P ++ Y.take t).map GFound.enc) p [] q ((Y.drop (t + 1) ++ Q).map GFound.enc)).length = N := fun p q => by
                rw [← hlt t]; simp [two, drop_cons hy]
              generalize (P ++ Y.take t).map GFound.enc = A at *
              generalize (Y.drop (t + 1) ++ Q).map GFound.enc = C at *
              obtain ⟨g1, g2, s1, s2, hL, d1, d2⟩ := two_at (A := A) (B := []) (C := C) (p := a + t) (q := a + t + 1) hA (by simp)
              have k1 : (0 : Int) ≤ ((a + t : Nat) : Int) := by omega
              have k2 : ((a + t : Nat) : Int) < (N : Int) := by omega
              have k3 : (0 : Int) ≤ ((a + t + 1 : Nat) : Int) := by omega
              have k4 : ((a + t + 1 : Nat) : Int) < (N : Int) := by omega
              have k5 : ((a + t : Nat) : Int) < ((a + u : Nat) : Int) := by omega
              rw [e1]
              simp only [↓bk_bind, ↓bk_map, ↓bk_ite, ↓bk_some, ↓reduceIte, Nat.reduceEqDiff, Nat.reduceLT, Nat.reduceLeDiff, Nat.reduceAdd, Nat.reduceMul, reduceCtorEq, List.reduceReplicate, go_sem, hs1, hL0, g1, g2, s1, s2, d1, d2, k1, k2, k3, k4, k5, wN1 (a := a + t) (by omega)]
              exact ⟨t + 1, ⟨rfl, e2.symm⟩, by omega, by omega⟩
            · obtain rfl : t = u := by omega
              simp only [↓bk_bind, ↓bk_map, ↓bk_ite, ↓bk_some, ↓reduceIte, Nat.reduceEqDiff, Nat.reduceLT, Nat.reduceLeDiff, Nat.reduceAdd, Nat.reduceMul, reduceCtorEq, List.reduceReplicate, go_sem, hs1, hlt]
              rw [hres]
    · simp only [↓bk_bind, ↓bk_map, ↓bk_ite, ↓bk_some, ↓reduceIte, Nat.reduceEqDiff, Nat.reduceLT, Nat.reduceLeDiff, Nat.reduceAdd, Nat.reduceMul, reduceCtorEq, List.reduceReplicate, go_sem, hN, wS (a := b) (b := m) (by omega) (by omega)]
      refine ⟨fun h2 => ?_, fun h2 => ?_⟩
      · obtain ⟨y, rfl⟩ : ∃ y, Y = [y] := List.length_eq_one_iff.1 (by omega)
        simp only [List.length_cons, List.length_nil] at hb' hn
        have hym : (P ++ X ++ [y] ++ Q)[m]? = some y := by rw [← hm]; simp
        have hxa : ∀ w, w < X.length → (P ++ X ++ [y] ++ Q)[a + w]? = X[w]? := fun w hw => by
          rw [List.append_assoc, List.append_assoc, List.getElem?_append_right (by omega), List.getElem?_append_left (by omega)]
          congr 1; omega
        refine loopK_up (ι := Nat × Nat) (fun s => [(14, vI ((a + s.1 : Nat) : Int)), (15, vI ((a + s.2 : Nat) : Int))]) (fun s => []) (fun s => s.1 ≤ s.2 ∧ s.2 ≤ X.length ∧ (∀ z ∈ X.take s.1, ltc c y z = false) ∧ (∀ z ∈ X.drop s.2, ltc c y z = true)) (fun s => s.2 - s.1) (0, X.length) ?_
        simp only [↓bk_bind, ↓bk_map, ↓bk_ite, ↓bk_some, ↓reduceIte, Nat.reduceEqDiff, Nat.reduceLT, Nat.reduceLeDiff, Nat.reduceAdd, Nat.reduceMul, reduceCtorEq, List.reduceReplicate, go_sem, hN]
        refine ⟨?_, ⟨by omega, by omega, by simp, by simp⟩, ?_⟩
        · simp only [↓bk_bind, ↓bk_map, ↓bk_ite, ↓bk_some, ↓reduceIte, Nat.reduceEqDiff, Nat.reduceLT, Nat.reduceLeDiff, Nat.reduceAdd, Nat.reduceMul, reduceCtorEq, List.reduceReplicate, go_sem]
          exact ⟨by omega, by omega⟩
        · rintro ⟨u, v⟩ ⟨i1, i2, i3, i4⟩
          simp only at i1 i2 i3 i4
          simp only [↓bk_bind, ↓bk_map, ↓bk_ite, ↓bk_some, ↓reduceIte, Nat.reduceEqDiff, Nat.reduceLT, Nat.reduceLeDiff, Nat.reduceAdd, Nat.reduceMul, reduceCtorEq, List.reduceReplicate, go_sem, hN, shr1, half_of (i := a + u) (j := a + v) (by omega)]
          refine ⟨fun hlt => ?_, fun hge => ?_⟩
          · have hwx : (a + u + (a + v)) / 2 = a + (u + v) / 2 := by omega
            have w1 : u ≤ (u + v) / 2 := by omega
            have w2 : (u + v) / 2 < v := by omega
            rw [hwx]
            generalize (u + v) / 2 = w at w1 w2
            obtain ⟨x, hx⟩ := at_some (show w < X.length by omega)
            have hxw := (hxa w (by omega)).trans hx
            have k1 : (0 : Int) ≤ ((a + w : Nat) : Int) := by omega
            have k2 : ((a + w : Nat) : Int) < (N : Int) := by omega
            have k3 : (0 : Int) ≤ (m : Int) := by omega
            have k4 : (m : Int) < (N : Int) := by omega
            simp only [↓bk_bind, ↓bk_map, ↓bk_ite, ↓bk_some, ↓reduceIte, Nat.reduceEqDiff, Nat.reduceLT, Nat.reduceLeDiff, Nat.reduceAdd, Nat.reduceMul, reduceCtorEq, List.reduceReplicate, go_sem, wK (k := a + w) (by omega), k1, k2, k3, k4, bk_eq hxw, bk_eq hym, hN]
            apply callK_of (hc y x)
            simp only [↓bk_bind, ↓bk_map, ↓bk_ite, ↓bk_some, ↓reduceIte, Nat.reduceEqDiff, Nat.reduceLT, Nat.reduceLeDiff, Nat.reduceAdd, Nat.reduceMul, reduceCtorEq, List.reduceReplicate, go_sem, hN, wN1 (a := a + w) (by omega)]
            intro _
            refine ⟨fun hn => ⟨(w + 1, v), ⟨rfl, rfl⟩, ⟨by omega, i2, Srt.lo_of' hw sX hx (by simpa [ltc] using hn), i4⟩, by omega⟩, fun hn => ⟨(u, w), ⟨rfl, rfl⟩, ⟨w1, by omega, i3, Srt.hi_of' hw sX hx (by simpa [ltc] using hn)⟩, by omega⟩⟩
          · obtain rfl : u = v := by omega
            have hres := Srt.mrg_last i3 i4
            have hlt : ∀ t, (P ++ (X.take t ++ y :: X.drop t) ++ Q).length = N := fun t => by rw [← hN]; simp; omega
            refine loopK_up (fun t : Nat => [(17, vI ((a + t : Nat) : Int))]) (fun t => [(0, ⟨1, .row true 6 ((P ++ (X.take t ++ y :: X.drop t) ++ Q).map GFound.enc)⟩)]) (fun t => u ≤ t ∧ t ≤ X.length) (fun t => t - u) X.length ?_
            simp only [↓bk_bind, ↓bk_map, ↓bk_ite, ↓bk_some, ↓reduceIte, Nat.reduceEqDiff, Nat.reduceLT, Nat.reduceLeDiff, Nat.reduceAdd, Nat.reduceMul, reduceCtorEq, List.reduceReplicate, go_sem, hN]
            refine ⟨?_, ⟨i2, by omega⟩, ?_⟩
            · simp only [↓bk_bind, ↓bk_map, ↓bk_ite, ↓bk_some, ↓reduceIte, Nat.reduceEqDiff, Nat.reduceLT, Nat.reduceLeDiff, Nat.reduceAdd, Nat.reduceMul, reduceCtorEq, List.reduceReplicate, go_sem, hm']
              simp
            · rintro t ⟨ht, ht2⟩
              by_cases htu : u < t
              · obtain ⟨t, rfl⟩ : ∃ s, t = s + 1 := ⟨t - 1, by omega⟩
                obtain ⟨x, hx⟩ := at_some (show t < X.length by omega)
                have e1 : (P ++ (X.take (t + 1) ++ y :: X.drop (t + 1)) ++ Q).map GFound.enc = two ((P ++ X.take t).map GFound.enc) x.enc [] y.enc ((X.drop (t + 1) ++ Q).map GFound.enc) := by simp [two, take_snoc hx]
                have e2 : (P ++ (X.take t ++ y :: X.drop t) ++ Q).map GFound.enc = two ((P ++ X.take t).map GFound.enc) y.enc [] x.enc ((X.drop (t + 1) ++ Q).map GFound.enc) := by simp [two, drop_cons hx]
                have hA : ((P ++ X.take t).map GFound.enc).length = a + t := by simp; omega
                have hL0 : ∀ p q, (two ((P ++ X.take t).map GFound.enc) p [] q ((X.drop (t + 1) ++ Q).map GFound.enc)).length = N := fun p q => by
                  rw [← hlt t]; simp [two, drop_cons hx]
                generalize (P ++ X.take t).map GFound.enc = A at *
                generalize (X.drop (t + 1) ++ Q).map GFound.enc = C at *
                obtain ⟨g1, g2, s1, s2, hL, d1, d2⟩ := two_at (A := A) (B := []) (C := C) (p := a + t) (q := a + t + 1) hA (by simp)
                have k1 : (0 : Int) ≤ ((a + t : Nat) : Int) := by omega
                have k2 : ((a + t : Nat) : Int) < (N : Int) := by omega
                have k3 : (0 : Int) ≤ ((a + t + 1 : Nat) : Int) := by omega
                have k4 : ((a + t + 1 : Nat) : Int) < (N : Int) := by omega
                have k5 : ((a + t + 1 : Nat) : Int) > ((a + u : Nat) : Int) := by omega
                have k6 : IntKind.i64.wrap (((a + t + 1 : Nat) : Int) - 1) = ((a + t : Nat) : Int) := by
                  rw [wI (by omega) (by omega)]; omega
                rw [e1, show a + (t + 1) = a + t + 1 from rfl]
                simp only [↓bk_bind, ↓bk_map, ↓bk_ite, ↓bk_some, ↓reduceIte, Nat.reduceEqDiff, Nat.reduceLT, Nat.reduceLeDiff, Nat.reduceAdd, Nat.reduceMul, reduceCtorEq, List.reduceReplicate, go_sem, hL0, g1, g2, s1, s2, d1, d2, k1, k2, k3, k4, k5, k6]
                exact ⟨t, ⟨rfl, e2.symm⟩, ⟨by omega, by omega⟩, by omega⟩
              · obtain rfl : t = u := by omega
                simp only [↓bk_bind, ↓bk_map, ↓bk_ite, ↓bk_some, ↓reduceIte, Nat.reduceEqDiff, Nat.reduceLT, Nat.reduceLeDiff, Nat.reduceAdd, Nat.reduceMul, reduceCtorEq, List.reduceReplicate, go_sem, hlt]
                rw [hres]
      · obtain ⟨M, hM⟩ : ∃ M, M = (X.length + Y.length) / 2 := ⟨_, rfl⟩
        have hmid : (a + b) / 2 = a + M := by omega
        have hxa : ∀ w, w < X.length → (P ++ X ++ Y ++ Q)[a + w]? = X[w]? := fun w hw => by
          rw [List.append_assoc, List.append_assoc, List.getElem?_append_right (by omega), List.getElem?_append_left (by omega)]
          congr 1; omega
        have hya : ∀ w, w < Y.length → (P ++ X ++ Y ++ Q)[m + w]? = Y[w]? := fun w hw => by
          rw [List.append_assoc, List.getElem?_append_right (by omega), List.getElem?_append_left (by omega)]
          congr 1; omega
        simp only [↓bk_bind, ↓bk_map, ↓bk_ite, ↓bk_some, ↓reduceIte, Nat.reduceEqDiff, Nat.reduceLT, Nat.reduceLeDiff, Nat.reduceAdd, Nat.reduceMul, reduceCtorEq, List.reduceReplicate, go_sem, hN, shr1, half_of (i := a) (j := b) (by omega), hmid, wK (k := a + M) (by omega), wN (a := a + M) (b := m) (by omega)]
        refine ⟨fun h3 => ?_, fun h3 => ?_⟩
        · have hs : IntKind.i64.wrap (((a + M + m : Nat) : Int) - (b : Int)) = ((a + (M - Y.length) : Nat) : Int) := by
            rw [wI (by omega) (by omega)]; omega
          simp only [↓bk_bind, ↓bk_map, ↓bk_ite, ↓bk_some, ↓reduceIte, Nat.reduceEqDiff, Nat.reduceLT, Nat.reduceLeDiff, Nat.reduceAdd, Nat.reduceMul, reduceCtorEq, List.reduceReplicate, go_sem, hN, hs, wS1 (a := a + M + m) (by omega) (by omega)]
          obtain ⟨u0, hu0⟩ : ∃ u, u = M - Y.length := ⟨_, rfl⟩
          obtain ⟨v0, hv0⟩ : ∃ v, v = M := ⟨_, rfl⟩
          rw [← hu0]
          have q1 : u0 ≤ v0 := by omega
          have q2 : v0 ≤ M := by omega
          have q3 : v0 ≤ X.length := by omega
          have q4 : M ≤ u0 + Y.length := by omega
          have q5 : u0 = 0 ∨ Y.length ≤ M - u0 := by omega
          have q6 : v0 = M ∨ v0 = X.length := by omega
          have q7 : a + M = a + v0 := by omega
          refine loopK_up (ι := Nat × Nat) (fun s => [(20, vI ((a + s.1 : Nat) : Int)), (21, vI ((a + s.2 : Nat) : Int))]) (fun s => []) (fun s => SymI (ltc c) X Y M u0 v0 s.1 s.2) (fun s => s.2 - s.1) (u0, v0) ?_
          simp only [↓bk_bind, ↓bk_map, ↓bk_ite, ↓bk_some, ↓reduceIte, Nat.reduceEqDiff, Nat.reduceLT, Nat.reduceLeDiff, Nat.reduceAdd, Nat.reduceMul, reduceCtorEq, List.reduceReplicate, go_sem, hN]
          refine ⟨?_, ⟨by omega, q1, by omega, q5.imp_right .inl, q6.imp_right .inl⟩, ?_⟩
          · simp only [↓bk_bind, ↓bk_map, ↓bk_ite, ↓bk_some, ↓reduceIte, Nat.reduceEqDiff, Nat.reduceLT, Nat.reduceLeDiff, Nat.reduceAdd, Nat.reduceMul, reduceCtorEq, List.reduceReplicate, go_sem]
            first | exact ⟨by omega, by omega⟩ | omega
          · rintro ⟨u, v⟩ hI
            obtain ⟨i1, i2, i3, i4, i5⟩ := hI
            simp only at i1 i2 i3 i4 i5
            simp only [↓bk_bind, ↓bk_map, ↓bk_ite, ↓bk_some, ↓reduceIte, Nat.reduceEqDiff, Nat.reduceLT, Nat.reduceLeDiff, Nat.reduceAdd, Nat.reduceMul, reduceCtorEq, List.reduceReplicate, go_sem, hN, shr1, half_of (i := a + u) (j := a + v) (by omega)]
            refine ⟨fun hlt => ?_, fun hge => ?_⟩
            · have hwx : (a + u + (a + v)) / 2 = a + (u + v) / 2 := by omega
              have w1 : u ≤ (u + v) / 2 := by omega
              have w2 : (u + v) / 2 < v := by omega
              rw [hwx]
              generalize (u + v) / 2 = w at w1 w2
              have hpc : IntKind.i64.wrap (((a + M + m - 1 : Nat) : Int) - ((a + w : Nat) : Int)) = ((m + (M - 1 - w) : Nat) : Int) := by
                rw [wI (by omega) (by omega)]; omega
              obtain ⟨x, hx⟩ := at_some (show w < X.length by omega)
              obtain ⟨y, hy⟩ := at_some (show M - 1 - w < Y.length by omega)
              have hxw := (hxa w (by omega)).trans hx
              have hyw := (hya (M - 1 - w) (by omega)).trans hy
              have k1 : (0 : Int) ≤ ((a + w : Nat) : Int) := by omega
              have k2 : ((a + w : Nat) : Int) < (N : Int) := by omega
              have k3 : (0 : Int) ≤ ((m + (M - 1 - w) : Nat) : Int) := by omega
              have k4 : ((m + (M - 1 - w) : Nat) : Int) < (N : Int) := by omega
              simp only [↓bk_bind, ↓bk_map, ↓bk_ite, ↓bk_some, ↓reduceIte, Nat.reduceEqDiff, Nat.reduceLT, Nat.reduceLeDiff, Nat.reduceAdd, Nat.reduceMul, reduceCtorEq, List.reduceReplicate, go_sem, wK (k := a + w) (by omega), hpc, k1, k2, k3, k4, bk_eq hxw, bk_eq hyw, hN]
              apply callK_of (hc y x)
              simp only [↓bk_bind, ↓bk_map, ↓bk_ite, ↓bk_some, ↓reduceIte, Nat.reduceEqDiff, Nat.reduceLT, Nat.reduceLeDiff, Nat.reduceAdd, Nat.reduceMul, reduceCtorEq, List.reduceReplicate, go_sem, hN, wN1 (a := a + w) (by omega)]
              intro _
              refine ⟨fun hn => ⟨(w + 1, v), ⟨rfl, rfl⟩, ⟨by omega, by omega, i3, .inr (.inr ⟨y, x, by rw [show M - (w + 1) = M - 1 - w by omega]; exact hy, hx, by simpa [ltc] using hn⟩), i5⟩, by show v - (w + 1) < v - u; omega⟩, fun hn => ⟨(u, w), ⟨rfl, rfl⟩, ⟨i1, w1, by omega, i4, .inr (.inr ⟨y, x, hy, hx, by simpa [ltc] using hn⟩)⟩, by show w - u < v - u; omega⟩⟩
            · obtain rfl : u = v := by omega
              obtain ⟨A1, A2, B1, B2, rfl, rfl, hA1, hB1, huM, hres, t1, t2, t3, t4⟩ := SymI.fin hw ⟨i1, i2, i3, i4, i5⟩ sX sY q2 q3 q4
              have hend : IntKind.i64.wrap (((a + M + m : Nat) : Int) - ((a + u : Nat) : Int)) = ((m + (M - u) : Nat) : Int) := by
                rw [wI (by omega) (by omega)]; omega
              have r0 : P ++ (A1 ++ A2) ++ (B1 ++ B2) ++ Q = (P ++ A1) ++ A2 ++ B1 ++ (B2 ++ Q) := by simp
              have r1 : (P ++ A1) ++ B1 ++ A2 ++ (B2 ++ Q) = P ++ A1 ++ B1 ++ (A2 ++ (B2 ++ Q)) := by simp
              have r2 : A2.length = 0 ∨ B1.length = 0 → P ++ (A1 ++ A2) ++ (B1 ++ B2) ++ Q = P ++ A1 ++ B1 ++ (A2 ++ (B2 ++ Q)) := fun h => by
                rcases h with h | h
                · rw [List.length_eq_zero_iff.1 h]; simp
                · rw [List.length_eq_zero_iff.1 h]; simp
              have r3 : A1.length = 0 ∨ B1.length = 0 → P ++ A1 ++ B1 ++ (A2 ++ (B2 ++ Q)) = (P ++ Srt.mrg (ltc c) A1 B1) ++ A2 ++ B2 ++ Q := fun h => by
                rcases h with h | h
                · rw [List.length_eq_zero_iff.1 h, Srt.mrg_nil_srt hw t3]; simp
                · rw [List.length_eq_zero_iff.1 h, Srt.mrg_nil]; simp
              have r4 : P ++ Srt.mrg (ltc c) A1 B1 ++ (A2 ++ (B2 ++ Q)) = (P ++ Srt.mrg (ltc c) A1 B1) ++ A2 ++ B2 ++ Q := by simp
              have r5 : A2.length = 0 ∨ B2.length = 0 → (P ++ Srt.mrg (ltc c) A1 B1) ++ A2 ++ B2 ++ Q = (P ++ Srt.mrg (ltc c) A1 B1) ++ Srt.mrg (ltc c) A2 B2 ++ Q := fun h => by
                rcases h with h | h
                · rw [List.length_eq_zero_iff.1 h, Srt.mrg_nil_srt hw t4]; simp
                · rw [List.length_eq_zero_iff.1 h, Srt.mrg_nil]; simp
              have r6 : P ++ Srt.mrg (ltc c) (A1 ++ A2) (B1 ++ B2) ++ Q = (P ++ Srt.mrg (ltc c) A1 B1) ++ Srt.mrg (ltc c) A2 B2 ++ Q := by rw [hres]; simp
              obtain ⟨⟨l0, l1, l2, l3, l4, l5⟩, ⟨L1, L2, L3, L4, L5, L6, L7⟩, hn1, hn2, ⟨eA, eB, eC, eD, eE, eF⟩, h7⟩ := symL (ltc c) ha hA1 hB1 huM hm' hb' hN hM hn h1 h2 hX hY
              clear hxa hya hres i4 i5
              rcases h7 with ⟨z1, z2, z3, z4⟩ | ⟨z1, z2, z3, z4⟩ | ⟨z1, z2, z3, z4⟩ | ⟨z1, z2, z3, z4⟩ | ⟨z1, z2, z3, z4⟩ | ⟨z1, z2, z3, z4⟩ | ⟨z1, z2, z3, z4⟩
              · have fA := lt_yes A2.length eA z2
                have fB := lt_yes B1.length eB z3
                have fC := lt_yes A1.length eC z1
                have fD := lt_yes B1.length eD z3
                have fE := lt_yes A2.length eE z2
                have fF := lt_yes B2.length eF z4
                simp only [↓bk_bind, ↓bk_map, ↓bk_ite, ↓bk_some, ↓reduceIte, Nat.reduceEqDiff, Nat.reduceLT, Nat.reduceLeDiff, Nat.reduceAdd, Nat.reduceMul, reduceCtorEq, List.reduceReplicate, go_sem, hend, fA, fB, fC, fD, fE, fF, hN]
                rw [r0]
                apply callIK_of (c_slices_rotateCmpFunc (P ++ A1) A2 B1 (B2 ++ Q) f L1 L2 L3 z2 z3)
                simp only [↓bk_bind, ↓bk_map, ↓bk_ite, ↓bk_some, ↓reduceIte, Nat.reduceEqDiff, Nat.reduceLT, Nat.reduceLeDiff, Nat.reduceAdd, Nat.reduceMul, reduceCtorEq, List.reduceReplicate, go_sem, fC, fD, fE, fF, l0, l1]
                rw [r1]
                apply callIK_of (ih P A1 B1 (A2 ++ (B2 ++ Q)) hn1 ha L1 L4 z1 z3 t1 t3)
                simp only [↓bk_bind, ↓bk_map, ↓bk_ite, ↓bk_some, ↓reduceIte, Nat.reduceEqDiff, Nat.reduceLT, Nat.reduceLeDiff, Nat.reduceAdd, Nat.reduceMul, reduceCtorEq, List.reduceReplicate, go_sem, fE, fF, l2, l4]
                rw [r4]
                apply callIK_of (ih (P ++ Srt.mrg (ltc c) A1 B1) A2 B2 Q hn2 L5 L6 L7 z2 z4 t2 t4)
                simp only [↓bk_bind, ↓bk_map, ↓bk_ite, ↓bk_some, ↓reduceIte, Nat.reduceEqDiff, Nat.reduceLT, Nat.reduceLeDiff, Nat.reduceAdd, Nat.reduceMul, reduceCtorEq, List.reduceReplicate, go_sem, l3, l5]
                rw [r6]
              · have fA := lt_yes A2.length eA z2
                have fB := lt_yes B1.length eB z3
                have fC := lt_no A1.length eC z1
                have fD := lt_yes B1.length eD z3
                have fE := lt_yes A2.length eE z2
                have fF := lt_yes B2.length eF z4
                simp only [↓bk_bind, ↓bk_map, ↓bk_ite, ↓bk_some, ↓reduceIte, Nat.reduceEqDiff, Nat.reduceLT, Nat.reduceLeDiff, Nat.reduceAdd, Nat.reduceMul, reduceCtorEq, List.reduceReplicate, go_sem, hend, fA, fB, fC, fD, fE, fF, hN]
                rw [r0]
                apply callIK_of (c_slices_rotateCmpFunc (P ++ A1) A2 B1 (B2 ++ Q) f L1 L2 L3 z2 z3)
                simp only [↓bk_bind, ↓bk_map, ↓bk_ite, ↓bk_some, ↓reduceIte, Nat.reduceEqDiff, Nat.reduceLT, Nat.reduceLeDiff, Nat.reduceAdd, Nat.reduceMul, reduceCtorEq, List.reduceReplicate, go_sem, fC, fD, fE, fF, l0, l1]
                rw [r1]
                rw [r3 (.inl z1)]
                apply callIK_of (ih (P ++ Srt.mrg (ltc c) A1 B1) A2 B2 Q hn2 L5 L6 L7 z2 z4 t2 t4)
                simp only [↓bk_bind, ↓bk_map, ↓bk_ite, ↓bk_some, ↓reduceIte, Nat.reduceEqDiff, Nat.reduceLT, Nat.reduceLeDiff, Nat.reduceAdd, Nat.reduceMul, reduceCtorEq, List.reduceReplicate, go_sem, l3, l5]
                rw [r6]
              · have fA := lt_no A2.length eA z2
                have fB := lt_yes B1.length eB z3
                have fC := lt_yes A1.length eC z1
                have fD := lt_yes B1.length eD z3
                have fE := lt_no A2.length eE z2
                have fF := lt_yes B2.length eF z4
                simp only [↓bk_bind, ↓bk_map, ↓bk_ite, ↓bk_some, ↓reduceIte, Nat.reduceEqDiff, Nat.reduceLT, Nat.reduceLeDiff, Nat.reduceAdd, Nat.reduceMul, reduceCtorEq, List.reduceReplicate, go_sem, hend, fA, fB, fC, fD, fE, fF, hN]
                rw [r2 (.inl z2)]
                apply callIK_of (ih P A1 B1 (A2 ++ (B2 ++ Q)) hn1 ha L1 L4 z1 z3 t1 t3)
                simp only [↓bk_bind, ↓bk_map, ↓bk_ite, ↓bk_some, ↓reduceIte, Nat.reduceEqDiff, Nat.reduceLT, Nat.reduceLeDiff, Nat.reduceAdd, Nat.reduceMul, reduceCtorEq, List.reduceReplicate, go_sem, fE, fF, l2, l4]
                rw [r4]
                rw [r5 (.inl z2)]
                rw [r6]
              · have fA := lt_yes A2.length eA z2
                have fB := lt_no B1.length eB z3
                have fC := lt_yes A1.length eC z1
                have fD := lt_no B1.length eD z3
                have fE := lt_yes A2.length eE z2
                have fF := lt_yes B2.length eF z4
                simp only [↓bk_bind, ↓bk_map, ↓bk_ite, ↓bk_some, ↓reduceIte, Nat.reduceEqDiff, Nat.reduceLT, Nat.reduceLeDiff, Nat.reduceAdd, Nat.reduceMul, reduceCtorEq, List.reduceReplicate, go_sem, hend, fA, fB, fC, fD, fE, fF, hN]
                rw [r2 (.inr z3)]
                rw [r3 (.inr z3)]
                apply callIK_of (ih (P ++ Srt.mrg (ltc c) A1 B1) A2 B2 Q hn2 L5 L6 L7 z2 z4 t2 t4)
                simp only [↓bk_bind, ↓bk_map, ↓bk_ite, ↓bk_some, ↓reduceIte, Nat.reduceEqDiff, Nat.reduceLT, Nat.reduceLeDiff, Nat.reduceAdd, Nat.reduceMul, reduceCtorEq, List.reduceReplicate, go_sem, l3, l5]
                rw [r6]
              · have fA := lt_yes A2.length eA z2
                have fB := lt_yes B1.length eB z3
                have fC := lt_yes A1.length eC z1
                have fD := lt_yes B1.length eD z3
                have fE := lt_yes A2.length eE z2
                have fF := lt_no B2.length eF z4
                simp only [↓bk_bind, ↓bk_map, ↓bk_ite, ↓bk_some, ↓reduceIte, Nat.reduceEqDiff, Nat.reduceLT, Nat.reduceLeDiff, Nat.reduceAdd, Nat.reduceMul, reduceCtorEq, List.reduceReplicate, go_sem, hend, fA, fB, fC, fD, fE, fF, hN]
                rw [r0]
                apply callIK_of (c_slices_rotateCmpFunc (P ++ A1) A2 B1 (B2 ++ Q) f L1 L2 L3 z2 z3)
                simp only [↓bk_bind, ↓bk_map, ↓bk_ite, ↓bk_some, ↓reduceIte, Nat.reduceEqDiff, Nat.reduceLT, Nat.reduceLeDiff, Nat.reduceAdd, Nat.reduceMul, reduceCtorEq, List.reduceReplicate, go_sem, fC, fD, fE, fF, l0, l1]
                rw [r1]
                apply callIK_of (ih P A1 B1 (A2 ++ (B2 ++ Q)) hn1 ha L1 L4 z1 z3 t1 t3)
                simp only [↓bk_bind, ↓bk_map, ↓bk_ite, ↓bk_some, ↓reduceIte, Nat.reduceEqDiff, Nat.reduceLT, Nat.reduceLeDiff, Nat.reduceAdd, Nat.reduceMul, reduceCtorEq, List.reduceReplicate, go_sem, fE, fF, l2, l4]
                rw [r4]
                rw [r5 (.inr z4)]
                rw [r6]
              · have fA := lt_yes A2.length eA z2
                have fB := lt_yes B1.length eB z3
                have fC := lt_no A1.length eC z1
                have fD := lt_yes B1.length eD z3
                have fE := lt_yes A2.length eE z2
                have fF := lt_no B2.length eF z4
                simp only [↓bk_bind, ↓bk_map, ↓bk_ite, ↓bk_some, ↓reduceIte, Nat.reduceEqDiff, Nat.reduceLT, Nat.reduceLeDiff, Nat.reduceAdd, Nat.reduceMul, reduceCtorEq, List.reduceReplicate, go_sem, hend, fA, fB, fC, fD, fE, fF, hN]
                rw [r0]
                apply callIK_of (c_slices_rotateCmpFunc (P ++ A1) A2 B1 (B2 ++ Q) f L1 L2 L3 z2 z3)
                simp only [↓bk_bind, ↓bk_map, ↓bk_ite, ↓bk_some, ↓reduceIte, Nat.reduceEqDiff, Nat.reduceLT, Nat.reduceLeDiff, Nat.reduceAdd, Nat.reduceMul, reduceCtorEq, List.reduceReplicate, go_sem, fC, fD, fE, fF, l0, l1]
                rw [r1]
                rw [r3 (.inl z1)]
                rw [r5 (.inr z4)]
                rw [r6]
              · have fA := lt_no A2.length eA z2
                have fB := lt_no B1.length eB z3
                have fC := lt_yes A1.length eC z1
                have fD := lt_no B1.length eD z3
                have fE := lt_no A2.length eE z2
                have fF := lt_yes B2.length eF z4
                simp only [↓bk_bind, ↓bk_map, ↓bk_ite, ↓bk_some, ↓reduceIte, Nat.reduceEqDiff, Nat.reduceLT, Nat.reduceLeDiff, Nat.reduceAdd, Nat.reduceMul, reduceCtorEq, List.reduceReplicate, go_sem, hend, fA, fB, fC, fD, fE, fF, hN]
                rw [r2 (.inl z2)]
                rw [r3 (.inr z3)]
                rw [r5 (.inl z2)]
                rw [r6]
        · simp only [↓bk_bind, ↓bk_map, ↓bk_ite, ↓bk_some, ↓reduceIte, Nat.reduceEqDiff, Nat.reduceLT, Nat.reduceLeDiff, Nat.reduceAdd, Nat.reduceMul, reduceCtorEq, List.reduceReplicate, go_sem, hN, wS1 (a := a + M + m) (by omega) (by omega)]
          obtain ⟨u0, hu0⟩ : ∃ u, u = 0 := ⟨_, rfl⟩
          obtain ⟨v0, hv0⟩ : ∃ v, v = X.length := ⟨_, rfl⟩
          have q1 : u0 ≤ v0 := by omega
          have q2 : v0 ≤ M := by omega
          have q3 : v0 ≤ X.length := by omega
          have q4 : M ≤ u0 + Y.length := by omega
          have q5 : u0 = 0 ∨ Y.length ≤ M - u0 := by omega
          have q6 : v0 = M ∨ v0 = X.length := by omega
          refine loopK_up (ι := Nat × Nat) (fun s => [(20, vI ((a + s.1 : Nat) : Int)), (21, vI ((a + s.2 : Nat) : Int))]) (fun s => []) (fun s => SymI (ltc c) X Y M u0 v0 s.1 s.2) (fun s => s.2 - s.1) (u0, v0) ?_
          simp only [↓bk_bind, ↓bk_map, ↓bk_ite, ↓bk_some, ↓reduceIte, Nat.reduceEqDiff, Nat.reduceLT, Nat.reduceLeDiff, Nat.reduceAdd, Nat.reduceMul, reduceCtorEq, List.reduceReplicate, go_sem, hN]
          refine ⟨?_, ⟨by omega, q1, by omega, q5.imp_right .inl, q6.imp_right .inl⟩, ?_⟩
          · simp only [↓bk_bind, ↓bk_map, ↓bk_ite, ↓bk_some, ↓reduceIte, Nat.reduceEqDiff, Nat.reduceLT, Nat.reduceLeDiff, Nat.reduceAdd, Nat.reduceMul, reduceCtorEq, List.reduceReplicate, go_sem]
            first | exact ⟨by omega, by omega⟩ | omega
          · rintro ⟨u, v⟩ hI
            obtain ⟨i1, i2, i3, i4, i5⟩ := hI
            simp only at i1 i2 i3 i4 i5
            simp only [↓bk_bind, ↓bk_map, ↓bk_ite, ↓bk_some, ↓reduceIte, Nat.reduceEqDiff, Nat.reduceLT, Nat.reduceLeDiff, Nat.reduceAdd, Nat.reduceMul, reduceCtorEq, List.reduceReplicate, go_sem, hN, shr1, half_of (i := a + u) (j := a + v) (by omega)]
            refine ⟨fun hlt => ?_, fun hge => ?_⟩
            · have hwx : (a + u + (a + v)) / 2 = a + (u + v) / 2 := by omega
              have w1 : u ≤ (u + v) / 2 := by omega
              have w2 : (u + v) / 2 < v := by omega
              rw [hwx]
              generalize (u + v) / 2 = w at w1 w2
              have hpc : IntKind.i64.wrap (((a + M + m - 1 : Nat) : Int) - ((a + w : Nat) : Int)) = ((m + (M - 1 - w) : Nat) : Int) := by
                rw [wI (by omega) (by omega)]; omega
              obtain ⟨x, hx⟩ := at_some (show w < X.length by omega)
              obtain ⟨y, hy⟩ := at_some (show M - 1 - w < Y.length by omega)
              have hxw := (hxa w (by omega)).trans hx
              have hyw := (hya (M - 1 - w) (by omega)).trans hy
              have k1 : (0 : Int) ≤ ((a + w : Nat) : Int) := by omega
              have k2 : ((a + w : Nat) : Int) < (N : Int) := by omega
              have k3 : (0 : Int) ≤ ((m + (M - 1 - w) : Nat) : Int) := by omega
              have k4 : ((m + (M - 1 - w) : Nat) : Int) < (N : Int) := by omega
              simp only [↓bk_bind, ↓bk_map, ↓bk_ite, ↓bk_some, ↓reduceIte, Nat.reduceEqDiff, Nat.reduceLT, Nat.reduceLeDiff, Nat.reduceAdd, Nat.reduceMul, reduceCtorEq, List.reduceReplicate, go_sem, wK (k := a + w) (by omega), hpc, k1, k2, k3, k4, bk_eq hxw, bk_eq hyw, hN]
              apply callK_of (hc y x)
              simp only [↓bk_bind, ↓bk_map, ↓bk_ite, ↓bk_some, ↓reduceIte, Nat.reduceEqDiff, Nat.reduceLT, Nat.reduceLeDiff, Nat.reduceAdd, Nat.reduceMul, reduceCtorEq, List.reduceReplicate, go_sem, hN, wN1 (a := a + w) (by omega)]
              intro _
              refine ⟨fun hn => ⟨(w + 1, v), ⟨rfl, rfl⟩, ⟨by omega, by omega, i3, .inr (.inr ⟨y, x, by rw [show M - (w + 1) = M - 1 - w by omega]; exact hy, hx, by simpa [ltc] using hn⟩), i5⟩, by show v - (w + 1) < v - u; omega⟩, fun hn => ⟨(u, w), ⟨rfl, rfl⟩, ⟨i1, w1, by omega, i4, .inr (.inr ⟨y, x, hy, hx, by simpa [ltc] using hn⟩)⟩, by show w - u < v - u; omega⟩⟩
            · obtain rfl : u = v := by omega
              obtain ⟨A1, A2, B1, B2, rfl, rfl, hA1, hB1, huM, hres, t1, t2, t3, t4⟩ := SymI.fin hw ⟨i1, i2, i3, i4, i5⟩ sX sY q2 q3 q4
              have hend : IntKind.i64.wrap (((a + M + m : Nat) : Int) - ((a + u : Nat) : Int)) = ((m + (M - u) : Nat) : Int) := by
                rw [wI (by omega) (by omega)]; omega
              have r0 : P ++ (A1 ++ A2) ++ (B1 ++ B2) ++ Q = (P ++ A1) ++ A2 ++ B1 ++ (B2 ++ Q) := by simp
              have r1 : (P ++ A1) ++ B1 ++ A2 ++ (B2 ++ Q) = P ++ A1 ++ B1 ++ (A2 ++ (B2 ++ Q)) := by simp
              have r2 : A2.length = 0 ∨ B1.length = 0 → P ++ (A1 ++ A2) ++ (B1 ++ B2) ++ Q = P ++ A1 ++ B1 ++ (A2 ++ (B2 ++ Q)) := fun h => by
                rcases h with h | h
                · rw [List.length_eq_zero_iff.1 h]; simp
                · rw [List.length_eq_zero_iff.1 h]; simp
              have r3 : A1.length = 0 ∨ B1.length = 0 → P ++ A1 ++ B1 ++ (A2 ++ (B2 ++ Q)) = (P ++ Srt.mrg (ltc c) A1 B1) ++ A2 ++ B2 ++ Q := fun h => by
                rcases h with h | h
                · rw [List.length_eq_zero_iff.1 h, Srt.mrg_nil_srt hw t3]; simp
                · rw [List.length_eq_zero_iff.1 h, Srt.mrg_nil]; simp
              have r4 : P ++ Srt.mrg (ltc c) A1 B1 ++ (A2 ++ (B2 ++ Q)) = (P ++ Srt.mrg (ltc c) A1 B1) ++ A2 ++ B2 ++ Q := by simp
              have r5 : A2.length = 0 ∨ B2.length = 0 → (P ++ Srt.mrg (ltc c) A1 B1) ++ A2 ++ B2 ++ Q = (P ++ Srt.mrg (ltc c) A1 B1) ++ Srt.mrg (ltc c) A2 B2 ++ Q := fun h => by
                rcases h with h | h
                · rw [List.length_eq_zero_iff.1 h, Srt.mrg_nil_srt hw t4]; simp
                · rw [List.length_eq_zero_iff.1 h, Srt.mrg_nil]; simp
              have r6 : P ++ Srt.mrg (ltc c) (A1 ++ A2) (B1 ++ B2) ++ Q = (P ++ Srt.mrg (ltc c) A1 B1) ++ Srt.mrg (ltc c) A2 B2 ++ Q := by rw [hres]; simp
              obtain ⟨⟨l0, l1, l2, l3, l4, l5⟩, ⟨L1, L2, L3, L4, L5, L6, L7⟩, hn1, hn2, ⟨eA, eB, eC, eD, eE, eF⟩, h7⟩ := symL (ltc c) ha hA1 hB1 huM hm' hb' hN hM hn h1 h2 hX hY
              clear hxa hya hres i4 i5
              rcases h7 with ⟨z1, z2, z3, z4⟩ | ⟨z1, z2, z3, z4⟩ | ⟨z1, z2, z3, z4⟩ | ⟨z1, z2, z3, z4⟩ | ⟨z1, z2, z3, z4⟩ | ⟨z1, z2, z3, z4⟩ | ⟨z1, z2, z3, z4⟩
              · have fA := lt_yes A2.length eA z2
                have fB := lt_yes B1.length eB z3
                have fC := lt_yes A1.length eC z1
                have fD := lt_yes B1.length eD z3
                have fE := lt_yes A2.length eE z2
                have fF := lt_yes B2.length eF z4
                simp only [↓bk_bind, ↓bk_map, ↓bk_ite, ↓bk_some, ↓reduceIte, Nat.reduceEqDiff, Nat.reduceLT, Nat.reduceLeDiff, Nat.reduceAdd, Nat.reduceMul, reduceCtorEq, List.reduceReplicate, go_sem, hend, fA, fB, fC, fD, fE, fF, hN]
                rw [r0]
                apply callIK_of (c_slices_rotateCmpFunc (P ++ A1) A2 B1 (B2 ++ Q) f L1 L2 L3 z2 z3)
                simp only [↓bk_bind, ↓bk_map, ↓bk_ite, ↓bk_some, ↓reduceIte, Nat.reduceEqDiff, Nat.reduceLT, Nat.reduceLeDiff, Nat.reduceAdd, Nat.reduceMul, reduceCtorEq, List.reduceReplicate, go_sem, fC, fD, fE, fF, l0, l1]
                rw [r1]
                apply callIK_of (ih P A1 B1 (A2 ++ (B2 ++ Q)) hn1 ha L1 L4 z1 z3 t1 t3)
                simp only [↓bk_bind, ↓bk_map, ↓bk_ite, ↓bk_some, ↓reduceIte, Nat.reduceEqDiff, Nat.reduceLT, Nat.reduceLeDiff, Nat.reduceAdd, Nat.reduceMul, reduceCtorEq, List.reduceReplicate, go_sem, fE, fF, l2, l4]
                rw [r4]
                apply callIK_of (ih (P ++ Srt.mrg (ltc c) A1 B1) A2 B2 Q hn2 L5 L6 L7 z2 z4 t2 t4)
                simp only [↓bk_bind, ↓bk_map, ↓bk_ite, ↓bk_some, ↓reduceIte, Nat.reduceEqDiff, Nat.reduceLT, Nat.reduceLeDiff, Nat.reduceAdd, Nat.reduceMul, reduceCtorEq, List.reduceReplicate, go_sem, l3, l5]
                rw [r6]
              · have fA := lt_yes A2.length eA z2
                have fB := lt_yes B1.length eB z3
                have fC := lt_no A1.length eC z1
                have fD := lt_yes B1.length eD z3
                have fE := lt_yes A2.length eE z2
                have fF := lt_yes B2.length eF z4
                simp only [↓bk_bind, ↓bk_map, ↓bk_ite, ↓bk_some, ↓reduceIte, Nat.reduceEqDiff, Nat.reduceLT, Nat.reduceLeDiff, Nat.reduceAdd, Nat.reduceMul, reduceCtorEq, List.reduceReplicate, go_sem, hend, fA, fB, fC, fD, fE, fF, hN]
                rw [r0]
                apply callIK_of (c_slices_rotateCmpFunc (P ++ A1) A2 B1 (B2 ++ Q) f L1 L2 L3 z2 z3)
                simp only [↓bk_bind, ↓bk_map, ↓bk_ite, ↓bk_some, ↓reduceIte, Nat.reduceEqDiff, Nat.reduceLT, Nat.reduceLeDiff, Nat.reduceAdd, Nat.reduceMul, reduceCtorEq, List.reduceReplicate, go_sem, fC, fD, fE, fF, l0, l1]
                rw [r1]
                rw [r3 (.inl z1)]
                apply callIK_of (ih (P ++ Srt.mrg (ltc c) A1 B1) A2 B2 Q hn2 L5 L6 L7 z2 z4 t2 t4)
                simp only [↓bk_bind, ↓bk_map, ↓bk_ite, ↓bk_some, ↓reduceIte, Nat.reduceEqDiff, Nat.reduceLT, Nat.reduceLeDiff, Nat.reduceAdd, Nat.reduceMul, reduceCtorEq, List.reduceReplicate, go_sem, l3, l5]
                rw [r6]
              · have fA := lt_no A2.length eA z2
                have fB := lt_yes B1.length eB z3
                have fC := lt_yes A1.length eC z1
                have fD := lt_yes B1.length eD z3
                have fE := lt_no A2.length eE z2
                have fF := lt_yes B2.length eF z4
                simp only [↓bk_bind, ↓bk_map, ↓bk_ite, ↓bk_some, ↓reduceIte, Nat.reduceEqDiff, Nat.reduceLT, Nat.reduceLeDiff, Nat.reduceAdd, Nat.reduceMul, reduceCtorEq, List.reduceReplicate, go_sem, hend, fA, fB, fC, fD, fE, fF, hN]
                rw [r2 (.inl z2)]
                apply callIK_of (ih P A1 B1 (A2 ++ (B2 ++ Q)) hn1 ha L1 L4 z1 z3 t1 t3)
                simp only [↓bk_bind, ↓bk_map, ↓bk_ite, ↓bk_some, ↓reduceIte, Nat.reduceEqDiff, Nat.reduceLT, Nat.reduceLeDiff, Nat.reduceAdd, Nat.reduceMul, reduceCtorEq, List.reduceReplicate, go_sem, fE, fF, l2, l4]
                rw [r4]
                rw [r5 (.inl z2)]
                rw [r6]
              · have fA := lt_yes A2.length eA z2
                have fB := lt_no B1.length eB z3
                have fC := lt_yes A1.length eC z1
                have fD := lt_no B1.length eD z3
                have fE := lt_yes A2.length eE z2
                have fF := lt_yes B2.length eF z4
                simp only [↓bk_bind, ↓bk_map, ↓bk_ite, ↓bk_some, ↓reduceIte, Nat.reduceEqDiff, Nat.reduceLT, Nat.reduceLeDiff, Nat.reduceAdd, Nat.reduceMul, reduceCtorEq, List.reduceReplicate, go_sem, hend, fA, fB, fC, fD, fE, fF, hN]
                rw [r2 (.inr z3)]
                rw [r3 (.inr z3)]
                apply callIK_of (ih (P ++ Srt.mrg (ltc c) A1 B1) A2 B2 Q hn2 L5 L6 L7 z2 z4 t2 t4)
                simp only [↓bk_bind, ↓bk_map, ↓bk_ite, ↓bk_some, ↓reduceIte, Nat.reduceEqDiff, Nat.reduceLT, Nat.reduceLeDiff, Nat.reduceAdd, Nat.reduceMul, reduceCtorEq, List.reduceReplicate, go_sem, l3, l5]
                rw [r6]
              · have fA := lt_yes A2.length eA z2
                have fB := lt_yes B1.length eB z3
                have fC := lt_yes A1.length eC z1
                have fD := lt_yes B1.length eD z3
                have fE := lt_yes A2.length eE z2
                have fF := lt_no B2.length eF z4
                simp only [↓bk_bind, ↓bk_map, ↓bk_ite, ↓bk_some, ↓reduceIte, Nat.reduceEqDiff, Nat.reduceLT, Nat.reduceLeDiff, Nat.reduceAdd, Nat.reduceMul, reduceCtorEq, List.reduceReplicate, go_sem, hend, fA, fB, fC, fD, fE, fF, hN]
                rw [r0]
                apply callIK_of (c_slices_rotateCmpFunc (P ++ A1) A2 B1 (B2 ++ Q) f L1 L2 L3 z2 z3)
                simp only [↓bk_bind, ↓bk_map, ↓bk_ite, ↓bk_some, ↓reduceIte, Nat.reduceEqDiff, Nat.reduceLT, Nat.reduceLeDiff, Nat.reduceAdd, Nat.reduceMul, reduceCtorEq, List.reduceReplicate, go_sem, fC, fD, fE, fF, l0, l1]
                rw [r1]
                apply callIK_of (ih P A1 B1 (A2 ++ (B2 ++ Q)) hn1 ha L1 L4 z1 z3 t1 t3)
                simp only [↓bk_bind, ↓bk_map, ↓bk_ite, ↓bk_some, ↓reduceIte, Nat.reduceEqDiff, Nat.reduceLT, Nat.reduceLeDiff, Nat.reduceAdd, Nat.reduceMul, reduceCtorEq, List.reduceReplicate, go_sem, fE, fF, l2, l4]
                rw [r4]
                rw [r5 (.inr z4)]
                rw [r6]
              · have fA := lt_yes A2.length eA z2
                have fB := lt_yes B1.length eB z3
                have fC := lt_no A1.length eC z1
                have fD := lt_yes B1.length eD z3
                have fE := lt_yes A2.length eE z2
                have fF := lt_no B2.length eF z4
                simp only [↓bk_bind, ↓bk_map, ↓bk_ite, ↓bk_some, ↓reduceIte, Nat.reduceEqDiff, Nat.reduceLT, Nat.reduceLeDiff, Nat.reduceAdd, Nat.reduceMul, reduceCtorEq, List.reduceReplicate, go_sem, hend, fA, fB, fC, fD, fE, fF, hN]
                rw [r0]
                apply callIK_of (c_slices_rotateCmpFunc (P ++ A1) A2 B1 (B2 ++ Q) f L1 L2 L3 z2 z3)
                simp only [↓bk_bind, ↓bk_map, ↓bk_ite, ↓bk_some, ↓reduceIte, Nat.reduceEqDiff, Nat.reduceLT, Nat.reduceLeDiff, Nat.reduceAdd, Nat.reduceMul, reduceCtorEq, List.reduceReplicate, go_sem, fC, fD, fE, fF, l0, l1]
                rw [r1]
                rw [r3 (.inl z1)]
                rw [r5 (.inr z4)]
                rw [r6]
              · have fA := lt_no A2.length eA z2
                have fB := lt_no B1.length eB z3
                have fC := lt_yes A1.length eC z1
                have fD := lt_no B1.length eD z3
                have fE := lt_no A2.length eE z2
                have fF := lt_yes B2.length eF z4
                simp only [↓bk_bind, ↓bk_map, ↓bk_ite, ↓bk_some, ↓reduceIte, Nat.reduceEqDiff, Nat.reduceLT, Nat.reduceLeDiff, Nat.reduceAdd, Nat.reduceMul, reduceCtorEq, List.reduceReplicate, go_sem, hend, fA, fB, fC, fD, fE, fF, hN]
                rw [r2 (.inl z2)]
                rw [r3 (.inr z3)]
                rw [r5 (.inl z2)]
                rw [r6]
end Go.Proofs.YtbnbgekjjbpljaaGreatR
namespace Go.Proofs.YtbnbgekjjbpljaaGreatR
open Go Go.RowKit Go.Proofs
set_option linter.unusedSimpArgs false
set_option linter.unusedVariables false
namespace Srt
variable {α : Type} {lt : α → α → Bool}
/-- k blocks of s elements, each sorted; the rest as it was. -/
def blks (lt : α → α → Bool) (s : Nat) : Nat → List α → List α
  | 0, l => l
  | k + 1, l => isort lt (l.take s) ++ blks lt s k (l.drop s)
theorem len_blks {s : Nat} : ∀ {k : Nat} {l : List α}, (blks lt s k l).length = l.length
  | 0, l => rfl
  | k + 1, l => by
    simp only [blks, List.length_append, len_isort, len_blks, List.length_take, List.length_drop]; omega
/-- Blocks that are sorted, and the rest. -/
theorem blks_split {s : Nat} : ∀ {k : Nat} {l : List α}, k * s ≤ l.length → blks lt s k l = (blks lt s k (l.take (k * s))) ++ l.drop (k * s)
  | 0, l, _ => by simp [blks]
  | k + 1, l, h => by
    rw [Nat.succ_mul] at h
    simp only [blks]
    rw [blks_split (k := k) (l := l.drop s) (by simp; omega), List.append_assoc]
    congr 1
    · rw [List.take_take, Nat.min_eq_left (by rw [Nat.succ_mul]; omega)]
    · rw [List.drop_drop, List.drop_take, show (k + 1) * s - s = k * s by rw [Nat.succ_mul]; omega, show s + k * s = (k + 1) * s by rw [Nat.succ_mul]; omega]
/-- One block more. -/
theorem blks_snoc {s : Nat} : ∀ {k : Nat} {l : List α}, (k + 1) * s ≤ l.length → ∃ A, A.length = k * s ∧ blks lt s k l = A ++ ((l.drop (k * s)).take s ++ l.drop ((k + 1) * s)) ∧ blks lt s (k + 1) l = A ++ (isort lt ((l.drop (k * s)).take s) ++ l.drop ((k + 1) * s))
  | 0, l, h => ⟨[], by simp, by simp [blks], by simp [blks]⟩
  | k + 1, l, h => by
    have h' : (k + 1) * s ≤ (l.drop s).length := by
      rw [Nat.succ_mul] at h
      simp only [List.length_drop]; omega
    obtain ⟨A, hA, e1, e2⟩ := blks_snoc (k := k) (l := l.drop s) h'
    have d1 : s + k * s = (k + 1) * s := by rw [Nat.succ_mul]; omega
    have d2 : s + (k + 1) * s = (k + 1 + 1) * s := by rw [Nat.succ_mul (k + 1)]; omega
    have hs : s ≤ l.length := by rw [Nat.succ_mul] at h; omega
    refine ⟨isort lt (l.take s) ++ A, ?_, ?_, ?_⟩
    · rw [List.length_append, len_isort, List.length_take, Nat.min_eq_left hs, hA, d1]
    · rw [blks, e1, List.drop_drop, List.drop_drop, d1, d2, List.append_assoc]
    · rw [blks, e2, List.drop_drop, List.drop_drop, d1, d2, List.append_assoc]
/-- The last block, shorter than s. -/
theorem blks_last {s : Nat} : ∀ {k : Nat} {l : List α}, k * s ≤ l.length → l.length < (k + 1) * s → ∃ A, A.length = k * s ∧ blks lt s k l = A ++ l.drop (k * s) ∧ blks lt s (k + 1) l = A ++ isort lt (l.drop (k * s))
  | 0, l, _, h => by
    have h' : l.length ≤ s := by omega
    exact ⟨[], by simp, by simp [blks], by simp [blks, List.take_of_length_le h', List.drop_of_length_le h']⟩
  | k + 1, l, h0, h => by
    have d1 : s + k * s = (k + 1) * s := by rw [Nat.succ_mul]; omega
    have d2 : s + (k + 1) * s = (k + 1 + 1) * s := by rw [Nat.succ_mul (k + 1)]; omega
    have h1 : k * s + s ≤ l.length := by rw [← Nat.succ_mul]; exact h0
    have h2 : l.length < k * s + s + s := by rw [← Nat.succ_mul, ← Nat.succ_mul]; exact h
    obtain ⟨A, hA, e1, e2⟩ := blks_last (k := k) (l := l.drop s) (Nat.le_trans (Nat.le_sub_of_add_le h1) (by rw [List.length_drop]; exact Nat.le_refl _)) (by rw [List.length_drop, Nat.succ_mul]; exact Nat.sub_lt_right_of_lt_add (Nat.le_trans (Nat.le_add_left _ _) h1) h2)
    have hs : s ≤ l.length := Nat.le_trans (Nat.le_add_left _ _) h1
    refine ⟨isort lt (l.take s) ++ A, ?_, ?_, ?_⟩
    · rw [List.length_append, len_isort, List.length_take, Nat.min_eq_left hs, hA, d1]
    · rw [blks, e1, List.drop_drop, d1, List.append_assoc]
    · rw [blks, e2, List.drop_drop, d1, List.append_assoc]
theorem blk_le {s : Nat} {l : List α} (h : l.length ≤ s) : blk lt s l = isort lt l := by
  rw [blk, dif_pos (.inr h)]
theorem blk_eq {s : Nat} {l : List α} : blk lt s l = isort lt (l.take s) ++ blk lt s (l.drop s) := by
  by_cases h : s = 0 ∨ l.length ≤ s
  · rcases h with rfl | h
    · simp [isort, mrg]
    · rw [blk_le h, List.take_of_length_le h, List.drop_of_length_le h, blk_le (by simp)]
      simp [isort, mrg]
  · rw [blk, dif_neg h]
theorem len_blk {s : Nat} : ∀ {n : Nat} {l : List α}, l.length ≤ n → (blk lt s l).length = l.length
  | 0, l, h => by rw [blk_le (by omega), len_isort]
  | n + 1, l, h => by
    by_cases h2 : s = 0 ∨ l.length ≤ s
    · rw [blk, dif_pos h2, len_isort]
    · rw [blk_eq, List.length_append, len_isort, len_blk (n := n) (by simp only [List.length_drop]; omega), List.length_take, List.length_drop]
      omega
theorem blks_blk {s : Nat} : ∀ {k : Nat} {l : List α}, k * s ≤ l.length → l.length < (k + 1) * s → blks lt s (k + 1) l = blk lt s l
  | 0, l, _, h => by
    have h' : l.length ≤ s := by omega
    rw [blk_le h']
    simp [blks, List.take_of_length_le h', List.drop_of_length_le h']
  | k + 1, l, h0, h => by
    rw [Nat.succ_mul] at h0 h
    rw [blks, blk_eq, blks_blk (k := k) (l := l.drop s) (by rw [List.length_drop]; omega) (by rw [List.length_drop]; omega)]
/-- k double blocks sorted, the rest in blocks. -/
def mix (lt : α → α → Bool) (s : Nat) : Nat → List α → List α
  | 0, l => blk lt s l
  | k + 1, l => isort lt (l.take (2 * s)) ++ mix lt s k (l.drop (2 * s))
theorem len_mix {s : Nat} : ∀ {k : Nat} {l : List α}, (mix lt s k l).length = l.length
  | 0, l => len_blk (Nat.le_refl _)
  | k + 1, l => by
    rw [mix, List.length_append, len_isort, len_mix, List.length_take, List.length_drop]; omega
theorem mix_step (hw : Swo lt) {s : Nat} : ∀ {k : Nat} {l : List α}, k * (2 * s) + 2 * s ≤ l.length → ∃ P X Y Q, P.length = k * (2 * s) ∧ X.length = s ∧ Y.length = s ∧ srt lt X ∧ srt lt Y ∧ mix lt s k l = P ++ X ++ Y ++ Q ∧ mix lt s (k + 1) l = P ++ mrg lt X Y ++ Q
  | 0, l, h => by
    refine ⟨[], isort lt (l.take s), isort lt ((l.drop s).take s), blk lt s (l.drop (2 * s)), by simp, ?_, ?_, srt_isort hw _, srt_isort hw _, ?_, ?_⟩
    · rw [len_isort, List.length_take]; omega
    · rw [len_isort, List.length_take, List.length_drop]; omega
    · rw [mix, blk_eq, blk_eq (l := l.drop s), List.drop_drop, show s + s = 2 * s by omega]
      simp
    · rw [← isort_append hw, mix, mix, List.nil_append, ← List.take_add, show s + s = 2 * s by omega]
  | k + 1, l, h => by
    have e : (k + 1) * (2 * s) = k * (2 * s) + 2 * s := Nat.succ_mul ..
    rw [e] at h
    obtain ⟨P, X, Y, Q, h1, h2, h3, h4, h5, h6, h7⟩ := mix_step hw (s := s) (k := k) (l := l.drop (2 * s)) (by rw [List.length_drop]; omega)
    refine ⟨isort lt (l.take (2 * s)) ++ P, X, Y, Q, ?_, h2, h3, h4, h5, ?_, ?_⟩
    · rw [List.length_append, len_isort, h1, List.length_take, e]; omega
    · rw [mix, h6]; simp
    · rw [mix, h7]; simp
theorem mix_end (hw : Swo lt) {s : Nat} : ∀ {k : Nat} {l : List α}, k * (2 * s) ≤ l.length → l.length < k * (2 * s) + 2 * s →
    (k * (2 * s) + s < l.length → ∃ P X Y, P.length = k * (2 * s) ∧ X.length = s ∧ k * (2 * s) + s + Y.length = l.length ∧ srt lt X ∧ srt lt Y ∧ mix lt s k l = P ++ X ++ Y ∧ blk lt (2 * s) l = P ++ mrg lt X Y) ∧
    (l.length ≤ k * (2 * s) + s → mix lt s k l = blk lt (2 * s) l)
  | 0, l, h0, h => by
    refine ⟨fun h1 => ⟨[], isort lt (l.take s), isort lt (l.drop s), by simp, ?_, ?_, srt_isort hw _, srt_isort hw _, ?_, ?_⟩, fun h1 => ?_⟩
    · rw [len_isort, List.length_take]; omega
    · rw [len_isort, List.length_drop]; omega
    · rw [mix, blk_eq, blk_le (l := l.drop s) (by rw [List.length_drop]; omega), List.nil_append]
    · rw [← isort_append hw, List.take_append_drop, blk_le (by omega), List.nil_append]
    · rw [mix, blk_le (by omega), blk_le (by omega)]
  | k + 1, l, h0, h => by
    have e : (k + 1) * (2 * s) = k * (2 * s) + 2 * s := Nat.succ_mul ..
    rw [e] at h h0
    obtain ⟨i1, i2⟩ := mix_end hw (s := s) (k := k) (l := l.drop (2 * s)) (by rw [List.length_drop]; omega) (by rw [List.length_drop]; omega)
    rw [List.length_drop] at i1 i2
    rw [e]
    refine ⟨fun h1 => ?_, fun h1 => ?_⟩
    · obtain ⟨P, X, Y, h1, h2, h3, h4, h5, h6, h7⟩ := i1 (by omega)
      refine ⟨isort lt (l.take (2 * s)) ++ P, X, Y, ?_, h2, by omega, h4, h5, ?_, ?_⟩
      · rw [List.length_append, len_isort, h1, List.length_take]; omega
      · rw [mix, h6]; simp
      · rw [blk_eq, h7]; simp
    · rw [mix, i2 (by omega), ← blk_eq]
end Srt
def m_slices_stableCmpFunc_impl_Found : MC :=
(.seq (pr [.mv 6 (.c (.int .i64 20))] [0,1,2,6])
(.seq (pr [.mv 10 (.s 6), .mv 7 (.c (.int .i64 0)), .mv 8 (.s 10)] [0,1,2,6,7,8])
(.seq (.block 0 (.loop ([0,1,2,6,7,8], []) (.seq (.seq (pr [.mv 11 (.s 8), .mv 12 (.s 1), .bin 13 false .leq (.s 11) (.s 12)] [0,1,2,6,7,8,13])
(.cond (.s 13) .skip (.exit 0)))
(.block 1 (.seq (pr [.mv 14 (.s 0), .mv 15 (.s 7), .mv 16 (.s 8), .mv 17 (.s 2), .callI 18 [] (.f n_slices_insertionSortCmpFunc_impl_Found) [.s 14, .s 15, .s 16, .s 17] [0] []] [0,1,2,6,8])
(.seq (pr [.mv 19 (.s 8), .mv 7 (.s 19)] [0,1,2,6,7,8])
(pr [.mv 20 (.s 8), .mv 21 (.s 6), .bin 22 false .add (.s 20) (.s 21), .mv 8 (.s 22)] [0,1,2,6,7,8])))))))
(.seq (pr [.mv 23 (.s 0), .mv 24 (.s 7), .mv 25 (.s 1), .mv 26 (.s 2), .callI 27 [] (.f n_slices_insertionSortCmpFunc_impl_Found) [.s 23, .s 24, .s 25, .s 26] [0] []] [0,1,2,6])
(.block 2 (.loop ([0,1,2,6], []) (.seq (.seq (pr [.mv 28 (.s 6), .mv 29 (.s 1), .bin 30 false .lss (.s 28) (.s 29)] [0,1,2,6,30])
(.cond (.s 30) .skip (.exit 2)))
(.block 3 (.seq (pr [.mv 31 (.s 6), .bin 32 false .mul (.c (.int .i64 2)) (.s 31), .mv 7 (.c (.int .i64 0)), .mv 8 (.s 32)] [0,1,2,6,7,8])
(.seq (.block 4 (.loop ([0,1,2,6,7,8], []) (.seq (.seq (pr [.mv 33 (.s 8), .mv 34 (.s 1), .bin 35 false .leq (.s 33) (.s 34)] [0,1,2,6,7,8,35])
(.cond (.s 35) .skip (.exit 4)))
(.block 5 (.seq (pr [.mv 36 (.s 0), .mv 37 (.s 7), .mv 38 (.s 7), .mv 39 (.s 6), .bin 40 false .add (.s 38) (.s 39), .mv 41 (.s 8), .mv 42 (.s 2), .callI 43 [] (.f n_slices_symMergeCmpFunc_impl_Found) [.s 36, .s 37, .s 40, .s 41, .s 42] [0] []] [0,1,2,6,8])
(.seq (pr [.mv 44 (.s 8), .mv 7 (.s 44)] [0,1,2,6,7,8])
(pr [.mv 45 (.s 8), .mv 46 (.s 6), .bin 47 false .mul (.c (.int .i64 2)) (.s 46), .bin 48 false .add (.s 45) (.s 47), .mv 8 (.s 48)] [0,1,2,6,7,8])))))))
(.seq (.seq (pr [.mv 49 (.s 7), .mv 50 (.s 6), .bin 51 false .add (.s 49) (.s 50), .mv 9 (.s 51)] [0,1,2,6,7,9])
(.seq (pr [.mv 52 (.s 9), .mv 53 (.s 1), .bin 54 false .lss (.s 52) (.s 53)] [0,1,2,6,7,9,54])
(.cond (.s 54) (pr [.mv 55 (.s 0), .mv 56 (.s 7), .mv 57 (.s 9), .mv 58 (.s 1), .mv 59 (.s 2), .callI 60 [] (.f n_slices_symMergeCmpFunc_impl_Found) [.s 55, .s 56, .s 57, .s 58, .s 59] [0] []] [0,1,2,6]) .skip)))
(pr [.mv 61 (.s 6), .bin 62 false .mul (.s 61) (.c (.int .i64 2)), .mv 6 (.s 62)] [0,1,2,6]))))))))))))
set_option maxHeartbeats 4000000 in
theorem c_slices_stableCmpFunc (X : List GFound) (f : FuncId) (c : GFound → GFound → Int) (hc : ∀ x y, Ctr Tryz.prog f [aS x.enc, aS y.enc] [rI (c x y)]) (hw : Srt.Swo (ltc c)) : CtrI Tryz.prog n_slices_stableCmpFunc_impl_Found [oL 6 (X.map GFound.enc), iI X.length, fI f] [some (6, (Srt.isort (ltc c) X).map GFound.enc)] [] := by
  refine ctrI_at (M := m_slices_stableCmpFunc_impl_Found) (m := 0) (n := 63) (res := []) hmix Tryz.func196 rfl (by kernel_rfl) rfl (by kernel_rfl) (by kernel_rfl) (Nat.le_of_ble_eq_true rfl) rfl rfl ?_; unfold m_slices_stableCmpFunc_impl_Found
  intro hbd
  have hl := len_of_bd hbd
  clear hbd
  simp only [roomB] at hl
  simp only [↓bk_bind, ↓bk_map, ↓bk_ite, ↓bk_some, ↓reduceIte, Nat.reduceEqDiff, Nat.reduceLT, Nat.reduceLeDiff, Nat.reduceAdd, Nat.reduceMul, reduceCtorEq, List.reduceReplicate, go_sem]
  refine loopK_up (fun k : Nat => [(7, vI ((k * 20 : Nat) : Int)), (8, vI (((k + 1) * 20 : Nat) : Int))]) (fun k => [(0, ⟨1, .row true 6 ((Srt.blks (ltc c) 20 k X).map GFound.enc)⟩)]) (fun k => k * 20 ≤ X.length) (fun k => X.length - k * 20) 0 ?_
  simp only [↓bk_bind, ↓bk_map, ↓bk_ite, ↓bk_some, ↓reduceIte, Nat.reduceEqDiff, Nat.reduceLT, Nat.reduceLeDiff, Nat.reduceAdd, Nat.reduceMul, reduceCtorEq, List.reduceReplicate, go_sem, Srt.len_blks]
  refine ⟨?_, by omega, ?_⟩
  · simp only [↓bk_bind, ↓bk_map, ↓bk_ite, ↓bk_some, ↓reduceIte, Nat.reduceEqDiff, Nat.reduceLT, Nat.reduceLeDiff, Nat.reduceAdd, Nat.reduceMul, reduceCtorEq, List.reduceReplicate, go_sem]
    exact ⟨rfl, rfl⟩
  · intro k hk
    simp only [↓bk_bind, ↓bk_map, ↓bk_ite, ↓bk_some, ↓reduceIte, Nat.reduceEqDiff, Nat.reduceLT, Nat.reduceLeDiff, Nat.reduceAdd, Nat.reduceMul, reduceCtorEq, List.reduceReplicate, go_sem, Srt.len_blks]
    refine ⟨fun hlt => ?_, fun hge => ?_⟩
    · obtain ⟨A, hA, e1, e2⟩ := Srt.blks_snoc (lt := ltc c) (s := 20) (k := k) (l := X) (by omega)
      have g1 := congrArg List.length e1
      have g2 := congrArg List.length e2
      rw [Srt.len_blks] at g1 g2
      rw [← List.append_assoc] at e1 e2 g1 g2
      rw [e1]
      apply callIK_of (c_slices_insertionSortCmpFunc A _ _ f c hc hw hA (by simp [hA]; omega))
      have w1 : IntKind.i64.wrap ((((k + 1) * 20 : Nat) : Int) + 20) = (((k + 1 + 1) * 20 : Nat) : Int) := by
        rw [wI (by omega) (by omega)]; omega
      simp only [↓bk_bind, ↓bk_map, ↓bk_ite, ↓bk_some, ↓reduceIte, Nat.reduceEqDiff, Nat.reduceLT, Nat.reduceLeDiff, Nat.reduceAdd, Nat.reduceMul, reduceCtorEq, List.reduceReplicate, go_sem, g1.symm, g2.symm, w1]
      exact ⟨k + 1, ⟨⟨rfl, rfl⟩, by rw [e2]⟩, by omega, by omega⟩
    · obtain ⟨A, hA, e1, e2⟩ := Srt.blks_last (lt := ltc c) (s := 20) (k := k) (l := X) (by omega) (by omega)
      have g1 := congrArg List.length e1
      have g2 := congrArg List.length e2
      rw [Srt.len_blks] at g1 g2
      have e1' : A ++ X.drop (k * 20) = A ++ X.drop (k * 20) ++ [] := by simp
      rw [e1, e1']
      apply callIK_of (c_slices_insertionSortCmpFunc A _ [] f c hc hw hA (by simp [hA]; omega))
      rw [List.append_nil, ← e2]
      rw [Srt.blks_blk (by omega) (by omega)]
      simp only [↓bk_bind, ↓bk_map, ↓bk_ite, ↓bk_some, ↓reduceIte, Nat.reduceEqDiff, Nat.reduceLT, Nat.reduceLeDiff, Nat.reduceAdd, Nat.reduceMul, reduceCtorEq, List.reduceReplicate, go_sem, g1.symm, g2.symm, Srt.len_blk (Nat.le_refl X.length)]
      refine loopK_up (fun s : Nat => [(6, vI (s : Int))]) (fun s => [(0, ⟨1, .row true 6 ((Srt.blk (ltc c) s X).map GFound.enc)⟩)]) (fun s => 0 < s ∧ s ≤ 2 * X.length + 20) (fun s => X.length - s) 20 ?_
      simp only [↓bk_bind, ↓bk_map, ↓bk_ite, ↓bk_some, ↓reduceIte, Nat.reduceEqDiff, Nat.reduceLT, Nat.reduceLeDiff, Nat.reduceAdd, Nat.reduceMul, reduceCtorEq, List.reduceReplicate, go_sem, Srt.len_blk (Nat.le_refl X.length)]
      refine ⟨?_, ⟨by omega, by omega⟩, ?_⟩
      · simp only [↓bk_bind, ↓bk_map, ↓bk_ite, ↓bk_some, ↓reduceIte, Nat.reduceEqDiff, Nat.reduceLT, Nat.reduceLeDiff, Nat.reduceAdd, Nat.reduceMul, reduceCtorEq, List.reduceReplicate, go_sem]
        first | rfl | exact ⟨rfl, rfl⟩
      · rintro s ⟨hs0, hs1⟩
        clear e1' e1 e2 g1 g2 hA A hge hk
        have w2 : IntKind.i64.wrap (2 * (s : Int)) = ((2 * s : Nat) : Int) := by rw [wI (by omega) (by omega)]; omega
        have w3 : IntKind.i64.wrap ((s : Int) * 2) = ((2 * s : Nat) : Int) := by rw [wI (by omega) (by omega)]; omega
        simp only [↓bk_bind, ↓bk_map, ↓bk_ite, ↓bk_some, ↓reduceIte, Nat.reduceEqDiff, Nat.reduceLT, Nat.reduceLeDiff, Nat.reduceAdd, Nat.reduceMul, reduceCtorEq, List.reduceReplicate, go_sem, Srt.len_blk (Nat.le_refl X.length), w2, w3]
        refine ⟨fun hlt => ?_, fun hge => ?_⟩
        · refine loopK_up (fun k : Nat => [(7, vI ((k * (2 * s) : Nat) : Int)), (8, vI ((k * (2 * s) + 2 * s : Nat) : Int))]) (fun k => [(0, ⟨1, .row true 6 ((Srt.mix (ltc c) s k X).map GFound.enc)⟩)]) (fun k => k * (2 * s) ≤ X.length) (fun k => X.length - k * (2 * s)) 0 ?_
          simp only [↓bk_bind, ↓bk_map, ↓bk_ite, ↓bk_some, ↓reduceIte, Nat.reduceEqDiff, Nat.reduceLT, Nat.reduceLeDiff, Nat.reduceAdd, Nat.reduceMul, reduceCtorEq, List.reduceReplicate, go_sem, Srt.len_mix, w2, w3]
          refine ⟨?_, by omega, ?_⟩
          · simp only [↓bk_bind, ↓bk_map, ↓bk_ite, ↓bk_some, ↓reduceIte, Nat.reduceEqDiff, Nat.reduceLT, Nat.reduceLeDiff, Nat.reduceAdd, Nat.reduceMul, reduceCtorEq, List.reduceReplicate, go_sem]
            refine ⟨⟨?_, ?_⟩, rfl⟩
            · rw [Nat.zero_mul]; rfl
            · rw [Nat.zero_mul, Nat.zero_add]
          · intro k hk
            simp only [↓bk_bind, ↓bk_map, ↓bk_ite, ↓bk_some, ↓reduceIte, Nat.reduceEqDiff, Nat.reduceLT, Nat.reduceLeDiff, Nat.reduceAdd, Nat.reduceMul, reduceCtorEq, List.reduceReplicate, go_sem, Srt.len_mix, w2, w3]
            refine ⟨fun hle => ?_, fun hgt => ?_⟩
            · obtain ⟨P, A, B, Q, m1, m2, m3, m4, m5, m6, m7⟩ := Srt.mix_step hw (s := s) (k := k) (l := X) (by omega)
              have g1 : (P ++ A ++ B ++ Q).length = X.length := by rw [← m6, Srt.len_mix]
              have g2 : (P ++ Srt.mrg (ltc c) A B ++ Q).length = X.length := by rw [← m7, Srt.len_mix]
              have wa : IntKind.i64.wrap (((k * (2 * s) : Nat) : Int) + (s : Int)) = ((k * (2 * s) + s : Nat) : Int) := wN (by omega)
              have wb : IntKind.i64.wrap (((k * (2 * s) + 2 * s : Nat) : Int) + ((2 * s : Nat) : Int)) = (((k + 1) * (2 * s) + 2 * s : Nat) : Int) := by
                rw [wN (by omega), Nat.succ_mul k (2 * s)]
              rw [m6]
              simp only [↓bk_bind, ↓bk_map, ↓bk_ite, ↓bk_some, ↓reduceIte, Nat.reduceEqDiff, Nat.reduceLT, Nat.reduceLeDiff, Nat.reduceAdd, Nat.reduceMul, reduceCtorEq, List.reduceReplicate, go_sem, g1, g2, wa, wb]
              apply callIK_of (c_slices_symMergeCmpFunc f c hc hw _ P A B Q (Nat.le_refl _) m1 (m := k * (2 * s) + s) (b := k * (2 * s) + 2 * s) (by rw [List.length_append]; omega) (by rw [List.length_append, List.length_append]; omega) (by omega) (by omega) m4 m5)
              simp only [↓bk_bind, ↓bk_map, ↓bk_ite, ↓bk_some, ↓reduceIte, Nat.reduceEqDiff, Nat.reduceLT, Nat.reduceLeDiff, Nat.reduceAdd, Nat.reduceMul, reduceCtorEq, List.reduceReplicate, go_sem, g1, g2, wa, wb]
              have hj : (k + 1) * (2 * s) = k * (2 * s) + 2 * s := Nat.succ_mul k (2 * s)
              exact ⟨k + 1, ⟨⟨by rw [hj], by rw [w2, wb]⟩, by rw [m7]⟩, by omega, by omega⟩
            · obtain ⟨i1, i2⟩ := Srt.mix_end hw (s := s) (k := k) (l := X) hk (by omega)
              have wa : IntKind.i64.wrap (((k * (2 * s) : Nat) : Int) + (s : Int)) = ((k * (2 * s) + s : Nat) : Int) := wN (by omega)
              simp only [↓bk_bind, ↓bk_map, ↓bk_ite, ↓bk_some, ↓reduceIte, Nat.reduceEqDiff, Nat.reduceLT, Nat.reduceLeDiff, Nat.reduceAdd, Nat.reduceMul, reduceCtorEq, List.reduceReplicate, go_sem, Srt.len_mix, wa, w3]
              refine ⟨fun hlt2 => ?_, fun hge2 => ?_⟩
              · obtain ⟨P, A, B, m1, m2, m3, m4, m5, m6, m7⟩ := i1 (by omega)
                have g1 : (P ++ A ++ B ++ []).length = X.length := by rw [List.append_nil, ← m6, Srt.len_mix]
                have g2 : (P ++ Srt.mrg (ltc c) A B ++ []).length = X.length := by rw [List.append_nil, ← m7, Srt.len_blk (Nat.le_refl _)]
                rw [m6, ← List.append_nil (P ++ A ++ B)]
                apply callIK_of (c_slices_symMergeCmpFunc f c hc hw _ P A B [] (Nat.le_refl _) m1 (m := k * (2 * s) + s) (b := X.length) (by rw [List.length_append]; omega) (by rw [List.length_append, List.length_append]; omega) (by omega) (by omega) m4 m5)
                simp only [↓bk_bind, ↓bk_map, ↓bk_ite, ↓bk_some, ↓reduceIte, Nat.reduceEqDiff, Nat.reduceLT, Nat.reduceLeDiff, Nat.reduceAdd, Nat.reduceMul, reduceCtorEq, List.reduceReplicate, go_sem, g1, g2, wa, w3]
                exact ⟨2 * s, ⟨rfl, by rw [m7]⟩, ⟨by omega, by omega⟩, by omega⟩
              · exact ⟨2 * s, ⟨rfl, by rw [i2 (by omega)]⟩, ⟨by omega, by omega⟩, by omega⟩
        · rw [Srt.blk_le (by omega)]
end Go.Proofs.YtbnbgekjjbpljaaGreatR
namespace Go.Proofs.YtbnbgekjjbpljaaGreatR
open Go Go.RowKit Go.Proofs
set_option linter.unusedSimpArgs false
set_option linter.unusedVariables false
def m_slices_SortStableFunc_impl_Found_impl_Found : MC :=
(pr [.mv 4 (.s 0), .mv 5 (.s 0), .len 6 false (.s 5), .mv 7 (.s 1), .callI 8 [] (.f n_slices_stableCmpFunc_impl_Found) [.s 4, .s 6, .s 7] [0] []] [])
theorem c_slices_SortStableFunc (X : List GFound) (f : FuncId) (c : GFound → GFound → Int) (hc : ∀ x y, Ctr Tryz.prog f [aS x.enc, aS y.enc] [rI (c x y)]) (hw : Srt.Swo (ltc c)) : CtrI Tryz.prog n_slices_SortStableFunc_impl_Found_impl_Found [oL 6 (X.map GFound.enc), fI f] [some (6, (Srt.isort (ltc c) X).map GFound.enc)] [] := by
  refine ctrI_at (M := m_slices_SortStableFunc_impl_Found_impl_Found) (m := 0) (n := 9) (res := []) hmix Tryz.func135 rfl (by kernel_rfl) rfl (by kernel_rfl) (by kernel_rfl) (Nat.le_of_ble_eq_true rfl) rfl rfl ?_; unfold m_slices_SortStableFunc_impl_Found_impl_Found
  intro hbd
  have hl := len_of_bd hbd
  clear hbd
  simp only [roomB] at hl
  simp only [↓bk_bind, ↓bk_map, ↓bk_ite, ↓bk_some, ↓reduceIte, Nat.reduceEqDiff, Nat.reduceLT, Nat.reduceLeDiff, Nat.reduceAdd, Nat.reduceMul, reduceCtorEq, List.reduceReplicate, go_sem]
  apply callIK_of (c_slices_stableCmpFunc X f c hc hw)
  simp only [↓bk_bind, ↓bk_map, ↓bk_ite, ↓bk_some, ↓reduceIte, Nat.reduceEqDiff, Nat.reduceLT, Nat.reduceLeDiff, Nat.reduceAdd, Nat.reduceMul, reduceCtorEq, List.reduceReplicate, go_sem]
  try intros
  try trivial
end Go.Proofs.YtbnbgekjjbpljaaGreatR
namespace Go.Proofs.YtbnbgekjjbpljaaGreatR
open Go Go.RowKit Go.Proofs
set_option linter.unusedSimpArgs false
set_option linter.unusedVariables false
attribute [go_sem] eqB
def addrLt (a b : GAddress) : Bool := decide (a.Host < b.Host ∨ a.Host = b.Host ∧ (a.Path < b.Path ∨ a.Path = b.Path ∧ a.Query < b.Query))
def cmpI (x y : Int) : Int := if x < y then -1 else if y < x then 1 else 0
def fndCmp (a b : GFound) : Int := if addrLt a.Address b.Address = true then -1 else if addrLt b.Address a.Address = true then 1 else cmpI a.Tick b.Tick
def fndLt (a b : GFound) : Bool := decide (a.Address.Host < b.Address.Host ∨ a.Address.Host = b.Address.Host ∧ (a.Address.Path < b.Address.Path ∨ a.Address.Path = b.Address.Path ∧ (a.Address.Query < b.Address.Query ∨ a.Address.Query = b.Address.Query ∧ a.Tick < b.Tick)))
theorem fndLt_eq : ltc fndCmp = fndLt := by
  funext a b
  unfold ltc fndCmp fndLt addrLt cmpI
  rw [Bool.eq_iff_iff]
  simp only [decide_eq_true_eq]
  split
  · simp; omega
  · split
    · simp; omega
    · split
      · simp; omega
      · split <;> simp <;> omega
theorem fndSwo : Srt.Swo (ltc fndCmp) := by
  rw [fndLt_eq]
  constructor
  · intro x y h
    simp only [fndLt, decide_eq_true_eq, decide_eq_false_iff_not] at *
    omega
  · intro x y z h
    simp only [fndLt, decide_eq_true_eq] at *
    omega
def fnd1 (i : Nat) : Nat → List GCapture → List GFound
  | _, [] => []
  | k, c :: cs => ⟨c.Address, c.Tick, i, k⟩ :: fnd1 i (k + 1) cs
def fnds : Nat → List GContainer → List GFound
  | _, [] => []
  | i, x :: xs => fnd1 i 0 x.Captures ++ fnds (i + 1) xs
theorem fnd1_snoc {i : Nat} : ∀ {cs : List GCapture} {k m : Nat} {c : GCapture}, cs[k]? = some c → fnd1 i m (cs.take (k + 1)) = fnd1 i m (cs.take k) ++ [⟨c.Address, c.Tick, i, (m + k : Nat)⟩]
  | [], _, _, _, h => by simp at h
  | c :: cs, 0, m, d, h => by
    simp only [List.getElem?_cons_zero, Option.some.injEq] at h
    subst h
    simp [fnd1]
  | c :: cs, k + 1, m, d, h => by
    simp only [List.getElem?_cons_succ] at h
    rw [List.take_succ_cons, List.take_succ_cons, fnd1, fnd1, fnd1_snoc h, List.cons_append, show m + 1 + k = m + (k + 1) by omega]
theorem fnds_snoc : ∀ {l : List GContainer} {k m : Nat} {x : GContainer}, l[k]? = some x → fnds m (l.take (k + 1)) = fnds m (l.take k) ++ fnd1 (m + k) 0 x.Captures
  | [], _, _, _, h => by simp at h
  | c :: cs, 0, m, d, h => by
    simp only [List.getElem?_cons_zero, Option.some.injEq] at h
    subst h
    simp [fnds]
  | c :: cs, k + 1, m, d, h => by
    simp only [List.getElem?_cons_succ] at h
    rw [List.take_succ_cons, List.take_succ_cons, fnds, fnds, fnds_snoc h, List.append_assoc, show m + 1 + k = m + (k + 1) by omega]
theorem len_fnd1 {i : Nat} : ∀ {cs : List GCapture} {k : Nat}, (fnd1 i k cs).length = cs.length
  | [], _ => rfl
  | c :: cs, k => by rw [fnd1, List.length_cons, len_fnd1, List.length_cons]
theorem len_fnds : ∀ {l : List GContainer} {m : Nat}, (fnds m l).length = (l.map fun x => x.Captures.length).sum
  | [], _ => rfl
  | x :: l, m => by rw [fnds, List.length_append, len_fnd1, len_fnds, List.map_cons, List.sum_cons]
/-- The index of a list of containers. -/
def index (l : List GContainer) : List GFound := Srt.isort fndLt (fnds 0 l)
theorem fndSwo' : Srt.Swo fndLt := fndLt_eq ▸ fndSwo
theorem len_fnds_le {m : Nat} : ∀ {l : List GContainer}, (fnds m l).length ≤ (l.map GContainer.size).sum := by
  intro l
  rw [len_fnds]
  induction l with
  | nil => simp
  | cons x l ih => simp only [List.map_cons, List.sum_cons, GContainer.size]; omega
theorem len_fnds_at {l : List GContainer} {i k : Nat} {x : GContainer} (hx : l[i]? = some x) : (fnds 0 (l.take i) ++ fnd1 i 0 (x.Captures.take k)).length ≤ (l.map GContainer.size).sum := by
  have h1 : (fnds 0 (l.take (i + 1))).length ≤ (l.map GContainer.size).sum := Nat.le_trans len_fnds_le (sum_take_le l (i + 1))
  rw [fnds_snoc hx, List.length_append, len_fnd1] at h1
  rw [List.length_append, len_fnd1, List.length_take]
  omega
theorem fnds_step {l : List GContainer} {i k : Nat} {x : GContainer} {c : GCapture} (hc : x.Captures[k]? = some c) : fnds 0 (l.take i) ++ fnd1 i 0 (x.Captures.take (k + 1)) = fnds 0 (l.take i) ++ fnd1 i 0 (x.Captures.take k) ++ [⟨c.Address, c.Tick, i, k⟩] := by
  rw [fnd1_snoc hc, List.append_assoc, Nat.zero_add]
theorem cutA {α : Type} {f : α → List T} {l : List α} {m : Nat} (h : m ≤ l.length) : (if ((m : Int) - 0).toNat = l.length then l.map f else List.take ((m : Int) - 0).toNat (l.map f)) = (l.take m).map f := by
  rw [show ((m : Int) - 0).toNat = m by omega]
  split
  · rename_i e; rw [List.take_of_length_le (by omega)]
  · rw [List.map_take]
theorem cutB {α : Type} {f : α → List T} {l : List α} {m : Nat} (h : m ≤ l.length) : (if m = 0 ∧ ((l.length : Int) - (m : Int)).toNat = l.length then l.map f else List.take ((l.length : Int) - (m : Int)).toNat (List.drop m (l.map f))) = (l.drop m).map f := by
  rw [show ((l.length : Int) - (m : Int)).toNat = l.length - m by omega]
  split
  · rename_i e; rw [e.1]; rfl
  · rw [List.take_of_length_le (by simp), List.map_drop]
namespace Srt
variable {α : Type} {lt : α → α → Bool}
/-- Insertion from the right end. -/
theorem ins_at {l : List α} (hw : Swo lt) (hs : srt lt l) {x : α} {n : Nat} (h1 : ∀ z ∈ l.drop n, lt x z = true) (h2 : n = 0 ∨ ∃ y, l[n - 1]? = some y ∧ lt x y = false) : ins lt x l = l.take n ++ [x] ++ l.drop n := by
  have e : ins lt x (l.take n ++ l.drop n) = l.take n ++ x :: l.drop n := by
    refine ins_mid ?_ (fun a ha => h1 a (List.mem_of_mem_head? ha))
    intro a ha
    rcases h2 with rfl | ⟨y, hy, h⟩
    · simp at ha
    · obtain ⟨i, hi⟩ := List.mem_iff_getElem?.1 ha
      rw [List.getElem?_take] at hi
      split at hi
      · rename_i hlt
        by_cases hin : i = n - 1
        · subst hin
          obtain rfl := Option.some.inj (hi.symm.trans hy)
          exact h
        · obtain ⟨h1, rfl⟩ := List.getElem?_eq_some_iff.1 hi
          obtain ⟨h2, rfl⟩ := List.getElem?_eq_some_iff.1 hy
          exact hw.ntr h ((List.pairwise_iff_getElem.1 hs) i (n - 1) h1 h2 (by omega))
      · cases hi
  rw [List.take_append_drop] at e
  rw [e]; simp
theorem drop_step {l : List α} {x : α} {n : Nat} {y : α} (hn : 0 < n) (hy : l[n - 1]? = some y) (h : ∀ z ∈ l.drop n, lt x z = true) (hx : lt x y = true) : ∀ z ∈ l.drop (n - 1), lt x z = true := by
  obtain ⟨h1, rfl⟩ := List.getElem?_eq_some_iff.1 hy
  rw [List.drop_eq_getElem_cons h1, show n - 1 + 1 = n by omega]
  intro z hz
  rcases List.mem_cons.1 hz with rfl | hz
  · exact hx
  · exact h z hz
end Srt
def m_impl_BeforeAddress : MC :=
(.seq (pr [.box 2 0 (.s 0), .box 3 1 (.s 1), .mv 4 (.c (.bool false))] [2,3])
(.seq (.block 0 (.seq (pr [.fld 6 (.s 2) 0, .load 7 false 1 (.s 6), .fld 8 (.s 3) 0, .load 9 false 1 (.s 8), .bin 10 false .neq (.s 7) (.s 9), .mv 5 (.s 10)] [2,3,5])
(.cond (.s 5) (.seq (pr [.fld 11 (.s 2) 0, .load 12 false 1 (.s 11), .fld 13 (.s 3) 0, .load 14 false 1 (.s 13), .bin 15 false .lss (.s 12) (.s 14), .mv 4 (.s 15)] [4])
.ret) (.seq (pr [.fld 17 (.s 2) 1, .load 18 false 1 (.s 17), .fld 19 (.s 3) 1, .load 20 false 1 (.s 19), .bin 21 false .neq (.s 18) (.s 20), .mv 16 (.s 21)] [2,3,16])
(.cond (.s 16) (.seq (pr [.fld 22 (.s 2) 1, .load 23 false 1 (.s 22), .fld 24 (.s 3) 1, .load 25 false 1 (.s 24), .bin 26 false .lss (.s 23) (.s 25), .mv 4 (.s 26)] [4])
.ret) .skip)))))
(.seq (pr [.fld 27 (.s 2) 2, .load 28 false 1 (.s 27), .fld 29 (.s 3) 2, .load 30 false 1 (.s 29), .bin 31 false .lss (.s 28) (.s 30), .mv 4 (.s 31)] [4])
.ret)))
theorem c_impl_BeforeAddress (a b : GAddress) : Ctr Tryz.prog n_impl_BeforeAddress [aS a.enc, aS b.enc] [rB (addrLt a b)] := by
  refine ctr_at (M := m_impl_BeforeAddress) (m := 2) (n := 32) (res := [(.tmp 4, [false])]) hmix Tryz.func137 rfl (by kernel_rfl) rfl (by kernel_rfl) (by kernel_rfl) (Nat.le_of_ble_eq_true rfl) ?_; unfold m_impl_BeforeAddress
  intro hb
  clear hb
  simp only [↓bk_bind, ↓bk_map, ↓bk_ite, ↓bk_some, ↓reduceIte, Nat.reduceEqDiff, Nat.reduceLT, Nat.reduceLeDiff, Nat.reduceAdd, Nat.reduceMul, reduceCtorEq, List.reduceReplicate, go_sem]
  repeat' first
    | (refine And.intro ?_ ?_ <;> intro h)
  all_goals (unfold addrLt; first | (symm; rw [decide_eq_false_iff_not]; omega) | (rw [Bool.eq_iff_iff]; simp only [decide_eq_true_eq]; omega))
def m_spec_BeforeAddress : MC :=
(.seq (pr [.box 2 0 (.s 0), .box 3 1 (.s 1), .mv 4 (.c (.bool false))] [2,3])
(.seq (.seq (pr [.fld 5 (.s 2) 0, .load 6 false 1 (.s 5), .fld 7 (.s 3) 0, .load 8 false 1 (.s 7), .bin 9 false .neq (.s 6) (.s 8)] [2,3,9])
(.cond (.s 9) (.seq (pr [.fld 10 (.s 2) 0, .load 11 false 1 (.s 10), .fld 12 (.s 3) 0, .load 13 false 1 (.s 12), .bin 14 false .lss (.s 11) (.s 13), .mv 4 (.s 14)] [4])
.ret) .skip))
(.seq (.seq (pr [.fld 15 (.s 2) 1, .load 16 false 1 (.s 15), .fld 17 (.s 3) 1, .load 18 false 1 (.s 17), .bin 19 false .neq (.s 16) (.s 18)] [2,3,19])
(.cond (.s 19) (.seq (pr [.fld 20 (.s 2) 1, .load 21 false 1 (.s 20), .fld 22 (.s 3) 1, .load 23 false 1 (.s 22), .bin 24 false .lss (.s 21) (.s 23), .mv 4 (.s 24)] [4])
.ret) .skip))
(.seq (pr [.fld 25 (.s 2) 2, .load 26 false 1 (.s 25), .fld 27 (.s 3) 2, .load 28 false 1 (.s 27), .bin 29 false .lss (.s 26) (.s 28), .mv 4 (.s 29)] [4])
.ret))))
theorem c_spec_BeforeAddress (a b : GAddress) : Ctr Tryz.prog n_spec_BeforeAddress [aS a.enc, aS b.enc] [rB (addrLt a b)] := by
  refine ctr_at (M := m_spec_BeforeAddress) (m := 2) (n := 30) (res := [(.tmp 4, [false])]) hmix Tryz.func195 rfl (by kernel_rfl) rfl (by kernel_rfl) (by kernel_rfl) (Nat.le_of_ble_eq_true rfl) ?_; unfold m_spec_BeforeAddress
  intro hb
  clear hb
  simp only [↓bk_bind, ↓bk_map, ↓bk_ite, ↓bk_some, ↓reduceIte, Nat.reduceEqDiff, Nat.reduceLT, Nat.reduceLeDiff, Nat.reduceAdd, Nat.reduceMul, reduceCtorEq, List.reduceReplicate, go_sem]
  repeat' first
    | (refine And.intro ?_ ?_ <;> intro h)
  all_goals (unfold addrLt; first | (symm; rw [decide_eq_false_iff_not]; omega) | (rw [Bool.eq_iff_iff]; simp only [decide_eq_true_eq]; omega))
def m_spec_l31Before : MC :=
(.seq (pr [.box 2 0 (.s 0), .box 3 1 (.s 1), .mv 4 (.c (.bool false))] [2,3])
(.seq (.seq (pr [.fld 5 (.s 2) 0, .load 6 true 3 (.s 5), .fld 7 (.s 3) 0, .load 8 true 3 (.s 7), .eqA 9 true [.i .i64, .i .i64, .i .i64] (.s 6) (.s 8)] [2,3,9])
(.cond (.s 9) (.seq (pr [.fld 10 (.s 2) 0, .load 11 true 3 (.s 10), .fld 12 (.s 3) 0, .load 13 true 3 (.s 12), .call 14 [] (.f n_spec_BeforeAddress) [.s 11, .s 13], .mv 4 (.s 14)] [4])
.ret) .skip))
(.seq (pr [.fld 15 (.s 2) 3, .load 16 false 1 (.s 15), .fld 17 (.s 3) 3, .load 18 false 1 (.s 17), .bin 19 false .lss (.s 16) (.s 18), .mv 4 (.s 19)] [4])
.ret)))
theorem c_spec_l31Before (a b : GFound) : Ctr Tryz.prog n_spec_l31Before [aS a.enc, aS b.enc] [rB (fndLt a b)] := by
  refine ctr_at (M := m_spec_l31Before) (m := 2) (n := 20) (res := [(.tmp 4, [false])]) hmix Tryz.func132 rfl (by kernel_rfl) rfl (by kernel_rfl) (by kernel_rfl) (Nat.le_of_ble_eq_true rfl) ?_; unfold m_spec_l31Before
  intro hb
  clear hb
  simp only [↓bk_bind, ↓bk_map, ↓bk_ite, ↓bk_some, ↓reduceIte, Nat.reduceEqDiff, Nat.reduceLT, Nat.reduceLeDiff, Nat.reduceAdd, Nat.reduceMul, reduceCtorEq, List.reduceReplicate, go_sem]
  repeat' first
    | (refine And.intro ?_ ?_ <;> intro h)
    | (apply callK_of (c_spec_BeforeAddress _ _); simp only [↓bk_bind, ↓bk_map, ↓bk_ite, ↓bk_some, ↓reduceIte, Nat.reduceEqDiff, Nat.reduceLT, Nat.reduceLeDiff, Nat.reduceAdd, Nat.reduceMul, reduceCtorEq, List.reduceReplicate, go_sem])
  all_goals (simp only [fndLt, addrLt]; rw [Bool.eq_iff_iff]; simp only [decide_eq_true_eq]; simp at h; omega)
def m_cmp_isNaN_int : MC :=
(.seq (pr [.mv 2 (.c (.bool false))] [0])
(.seq (pr [.mv 3 (.s 0), .mv 4 (.s 0), .bin 5 false .neq (.s 3) (.s 4), .mv 2 (.s 5)] [2])
.ret))
theorem c_cmp_isNaN (x : Int) : Ctr Tryz.prog n_cmp_isNaN_int [aI x] [rB false] := by
  refine ctr_at (M := m_cmp_isNaN_int) (m := 0) (n := 6) (res := [(.tmp 2, [false])]) hmix Tryz.func197 rfl (by kernel_rfl) rfl (by kernel_rfl) (by kernel_rfl) (Nat.le_of_ble_eq_true rfl) ?_; unfold m_cmp_isNaN_int
  intro hb
  clear hb
  simp only [↓bk_bind, ↓bk_map, ↓bk_ite, ↓bk_some, ↓reduceIte, Nat.reduceEqDiff, Nat.reduceLT, Nat.reduceLeDiff, Nat.reduceAdd, Nat.reduceMul, reduceCtorEq, List.reduceReplicate, go_sem]
def m_cmp_Compare_int : MC :=
(.seq (pr [.mv 4 (.c (.int .i64 0))] [0,1])
(.seq (pr [.mv 7 (.s 0), .call 8 [] (.f n_cmp_isNaN_int) [.s 7], .mv 5 (.s 8)] [0,1,5])
(.seq (pr [.mv 9 (.s 1), .call 10 [] (.f n_cmp_isNaN_int) [.s 9], .mv 6 (.s 10)] [0,1,5,6])
(.seq (.seq (pr [.mv 11 (.s 5)] [0,1,6,11])
(.cond (.s 11) (.seq (.seq (pr [.mv 12 (.s 6)] [12])
(.cond (.s 12) (.seq (pr [.mv 4 (.c (.int .i64 0))] [4])
.ret) .skip))
(.seq (pr [.mv 4 (.c (.int .i64 (-1)))] [4])
.ret)) .skip))
(.seq (.seq (pr [.mv 13 (.s 6)] [0,1,13])
(.cond (.s 13) (.seq (pr [.mv 4 (.c (.int .i64 1))] [4])
.ret) .skip))
(.seq (.seq (pr [.mv 14 (.s 0), .mv 15 (.s 1), .bin 16 false .lss (.s 14) (.s 15)] [0,1,16])
(.cond (.s 16) (.seq (pr [.mv 4 (.c (.int .i64 (-1)))] [4])
.ret) .skip))
(.seq (.seq (pr [.mv 17 (.s 0), .mv 18 (.s 1), .bin 19 false .gtr (.s 17) (.s 18)] [19])
(.cond (.s 19) (.seq (pr [.mv 4 (.c (.int .i64 1))] [4])
.ret) .skip))
(.seq (pr [.mv 4 (.c (.int .i64 0))] [4])
.ret))))))))
theorem c_cmp_Compare (x y : Int) : Ctr Tryz.prog n_cmp_Compare_int [aI x, aI y] [rI (cmpI x y)] := by
  refine ctr_at (M := m_cmp_Compare_int) (m := 0) (n := 20) (res := [(.tmp 4, [false])]) hmix Tryz.func138 rfl (by kernel_rfl) rfl (by kernel_rfl) (by kernel_rfl) (Nat.le_of_ble_eq_true rfl) ?_; unfold m_cmp_Compare_int
  intro hb
  clear hb
  simp only [↓bk_bind, ↓bk_map, ↓bk_ite, ↓bk_some, ↓reduceIte, Nat.reduceEqDiff, Nat.reduceLT, Nat.reduceLeDiff, Nat.reduceAdd, Nat.reduceMul, reduceCtorEq, List.reduceReplicate, go_sem]
  repeat' first
    | (refine And.intro ?_ ?_ <;> intro h)
    | (apply callK_of (c_cmp_isNaN _); simp only [↓bk_bind, ↓bk_map, ↓bk_ite, ↓bk_some, ↓reduceIte, Nat.reduceEqDiff, Nat.reduceLT, Nat.reduceLeDiff, Nat.reduceAdd, Nat.reduceMul, reduceCtorEq, List.reduceReplicate, go_sem])
  all_goals (unfold cmpI; first | rfl | (repeat' split) <;> first | rfl | omega)
def m_impl_BuildIndex_1 : MC :=
(.seq (pr [.box 2 0 (.s 0), .box 3 1 (.s 1), .mv 4 (.c (.int .i64 0))] [2,3])
(.seq (.block 0 (.seq (pr [.fld 6 (.s 2) 0, .load 7 true 3 (.s 6), .fld 8 (.s 3) 0, .load 9 true 3 (.s 8), .call 10 [] (.f n_impl_BeforeAddress) [.s 7, .s 9], .mv 5 (.s 10)] [2,3,5])
(.cond (.s 5) (.seq (pr [.mv 4 (.c (.int .i64 (-1)))] [4])
.ret) (.seq (pr [.fld 12 (.s 3) 0, .load 13 true 3 (.s 12), .fld 14 (.s 2) 0, .load 15 true 3 (.s 14), .call 16 [] (.f n_impl_BeforeAddress) [.s 13, .s 15], .mv 11 (.s 16)] [2,3,11])
(.cond (.s 11) (.seq (pr [.mv 4 (.c (.int .i64 1))] [4])
.ret) .skip)))))
(.seq (pr [.fld 17 (.s 2) 3, .load 18 false 1 (.s 17), .fld 19 (.s 3) 3, .load 20 false 1 (.s 19), .call 21 [] (.f n_cmp_Compare_int) [.s 18, .s 20], .mv 4 (.s 21)] [4])
.ret)))
theorem c_impl_BuildIndex_1 (a b : GFound) : Ctr Tryz.prog n_impl_BuildIndex_1 [aS a.enc, aS b.enc] [rI (fndCmp a b)] := by
  refine ctr_at (M := m_impl_BuildIndex_1) (m := 2) (n := 22) (res := [(.tmp 4, [false])]) hmix Tryz.func136 rfl (by kernel_rfl) rfl (by kernel_rfl) (by kernel_rfl) (Nat.le_of_ble_eq_true rfl) ?_; unfold m_impl_BuildIndex_1
  intro hb
  clear hb
  simp only [↓bk_bind, ↓bk_map, ↓bk_ite, ↓bk_some, ↓reduceIte, Nat.reduceEqDiff, Nat.reduceLT, Nat.reduceLeDiff, Nat.reduceAdd, Nat.reduceMul, reduceCtorEq, List.reduceReplicate, go_sem]
  repeat' first
    | (refine And.intro ?_ ?_ <;> intro h)
    | (apply callK_of (c_impl_BeforeAddress _ _); simp only [↓bk_bind, ↓bk_map, ↓bk_ite, ↓bk_some, ↓reduceIte, Nat.reduceEqDiff, Nat.reduceLT, Nat.reduceLeDiff, Nat.reduceAdd, Nat.reduceMul, reduceCtorEq, List.reduceReplicate, go_sem])
    | (apply callK_of (c_cmp_Compare _ _); simp only [↓bk_bind, ↓bk_map, ↓bk_ite, ↓bk_some, ↓reduceIte, Nat.reduceEqDiff, Nat.reduceLT, Nat.reduceLeDiff, Nat.reduceAdd, Nat.reduceMul, reduceCtorEq, List.reduceReplicate, go_sem])
  all_goals (unfold fndCmp; simp_all)
def m_impl_BuildIndex : MC :=
(.seq (pr [.nilo 2 0 6] [0])
(.seq (pr [.nilo 3 0 6] [0,3])
(.seq (.seq (pr [.mv 8 (.s 0), .len 9 false (.s 8), .mv 10 (.c (.int .i64 0))] [3,8,9,10])
(.block 0 (.loop ([3,8,9,10], [1,2,3]) (.seq (pr [.bin 11 false .lss (.s 10) (.s 9)] [3,8,9,10,11])
(.seq (.cond (.s 11) .skip (.exit 0))
(.seq (.block 1 (.seq (pr [.mv 12 (.s 10), .idx 13 4 (.s 8) (.s 10), .load 14 true 4 (.s 13), .alloc 5 1 [.emp 4, .emp 5, .emp 9, .pl (.sc (.int .i64 0))], .mv 4 (.s 12), .store 4 (.s 5) (.s 14)] [3,4,5,8,9,10])
(.seq (pr [.fld 15 (.s 5) 2, .load 16 false 1 (.s 15), .len 17 false (.s 16), .mv 18 (.c (.int .i64 0))] [3,4,8,9,10,16,17,18])
(.block 2 (.loop ([3,4,8,9,10,16,17,18], [1,2,3]) (.seq (pr [.bin 19 false .lss (.s 18) (.s 17)] [3,4,8,9,10,16,17,18,19])
(.seq (.cond (.s 19) .skip (.exit 2))
(.seq (.block 3 (.seq (pr [.mv 20 (.s 18), .idx 21 9 (.s 16) (.s 18), .load 22 true 9 (.s 21), .alloc 7 2 [.pl (.sc (.int .i64 0)), .pl (.sc (.int .i64 0)), .pl (.sc (.int .i64 0)), .pl (.sc (.int .i64 0)), .pl (.sc (.int .i64 0)), .emp 1, .pl (.sc (.int .i64 0)), .pl (.sc (.int .i64 0)), .pl (.sc (.int .i64 0))], .mv 6 (.s 20), .store 9 (.s 7) (.s 22)] [3,4,6,7,8,9,10,16,17,18])
(pr [.mv 23 (.s 3), .fld 24 (.s 7) 0, .load 25 true 3 (.s 24), .fld 26 (.s 7) 3, .load 27 false 1 (.s 26), .mv 28 (.s 4), .mv 29 (.s 6), .build 30 [.pl (.sc (.int .i64 0)), .pl (.sc (.int .i64 0)), .pl (.sc (.int .i64 0)), .pl (.sc (.int .i64 0)), .pl (.sc (.int .i64 0)), .pl (.sc (.int .i64 0))] [(0, 3, .s 25), (3, 1, .s 27), (4, 1, .s 28), (5, 1, .s 29)], .lit 31 3 6 48 [.s 30], .app 32 0 6 48 (.s 23) (.s 31), .mv 3 (.s 32)] [3,4,8,9,10,16,17,18])))
(pr [.bin 33 false .add (.s 18) (.c (.int .i64 1)), .mv 18 (.s 33)] [3,4,8,9,10,16,17,18])))))))))
(pr [.bin 34 false .add (.s 10) (.c (.int .i64 1)), .mv 10 (.s 34)] [3,8,9,10])))))))
(.seq (pr [.mv 35 (.s 3), .callI 36 [] (.f n_slices_SortStableFunc_impl_Found_impl_Found) [.s 35, .f n_impl_BuildIndex_1] [0] []] [3])
(.seq (pr [.mv 37 (.s 3), .mv 2 (.s 37)] [2])
.ret)))))
theorem c_impl_BuildIndex (l : List GContainer) (hs : l.length + (l.map GContainer.size).sum ≤ 1073741824) : Ctr Tryz.prog n_impl_BuildIndex [aL 4 (l.map GContainer.enc)] [rL 6 ((index l).map GFound.enc)] := by
  refine ctr_at (M := m_impl_BuildIndex) (m := 4) (n := 38) (res := [(.tmp 2, [true])]) hmix Tryz.func65 rfl (by kernel_rfl) rfl (by kernel_rfl) (by kernel_rfl) (Nat.le_of_ble_eq_true rfl) ?_; unfold m_impl_BuildIndex
  intro hb
  clear hb
  simp only [↓bk_bind, ↓bk_map, ↓bk_ite, ↓bk_some, ↓reduceIte, Nat.reduceEqDiff, Nat.reduceLT, Nat.reduceLeDiff, Nat.reduceAdd, Nat.reduceMul, reduceCtorEq, List.reduceReplicate, go_sem]
  refine loopK_rng l (fun i => [(3, .val false [.ref 0 0 6 0 (fnds 0 (l.take i)).length]), (10, vI i)]) (fun i => [(0, ⟨0, .row true 6 ((fnds 0 (l.take i)).map GFound.enc)⟩)]) (fun _ => True) (by simp only [roomB]; omega) ?_
  simp only [↓bk_bind, ↓bk_map, ↓bk_ite, ↓bk_some, ↓reduceIte, Nat.reduceEqDiff, Nat.reduceLT, Nat.reduceLeDiff, Nat.reduceAdd, Nat.reduceMul, reduceCtorEq, List.reduceReplicate, go_sem]
  refine ⟨?_, trivial, ?_, ?_⟩
  · simp only [↓bk_bind, ↓bk_map, ↓bk_ite, ↓bk_some, ↓reduceIte, Nat.reduceEqDiff, Nat.reduceLT, Nat.reduceLeDiff, Nat.reduceAdd, Nat.reduceMul, reduceCtorEq, List.reduceReplicate, go_sem, List.take_zero]
    exact ⟨rfl, rfl⟩
  · intro i x hx _ h0 h1 hw
    have hx1 := mem_sum (f := GContainer.size) (at_mem hx)
    have hi := len_at hx
    have hxl : x.Captures.length ≤ x.size := by simp only [GContainer.size]; omega
    simp only [↓bk_bind, ↓bk_map, ↓bk_ite, ↓bk_some, ↓reduceIte, Nat.reduceEqDiff, Nat.reduceLT, Nat.reduceLeDiff, Nat.reduceAdd, Nat.reduceMul, reduceCtorEq, List.reduceReplicate, go_sem, bk_eq hx, h0, h1, hw]
    refine loopK_rng x.Captures (fun k => [(3, .val false [.ref 0 0 6 0 (fnds 0 (l.take i) ++ fnd1 i 0 (x.Captures.take k)).length]), (18, vI k)]) (fun k => [(0, ⟨0, .row true 6 ((fnds 0 (l.take i) ++ fnd1 i 0 (x.Captures.take k)).map GFound.enc)⟩)]) (fun _ => True) (by simp only [roomB]; omega) ?_
    simp only [↓bk_bind, ↓bk_map, ↓bk_ite, ↓bk_some, ↓reduceIte, Nat.reduceEqDiff, Nat.reduceLT, Nat.reduceLeDiff, Nat.reduceAdd, Nat.reduceMul, reduceCtorEq, List.reduceReplicate, go_sem]
    refine ⟨?_, trivial, ?_, ?_⟩
    · simp only [↓bk_bind, ↓bk_map, ↓bk_ite, ↓bk_some, ↓reduceIte, Nat.reduceEqDiff, Nat.reduceLT, Nat.reduceLeDiff, Nat.reduceAdd, Nat.reduceMul, reduceCtorEq, List.reduceReplicate, go_sem, List.take_zero]
      exact ⟨by simp [fnd1], by simp [fnd1]⟩
    · intro k c hc _ h2 h3 hw2
      have hn := len_fnds_at (k := k) hx
      simp only [↓bk_bind, ↓bk_map, ↓bk_ite, ↓bk_some, ↓reduceIte, Nat.reduceEqDiff, Nat.reduceLT, Nat.reduceLeDiff, Nat.reduceAdd, Nat.reduceMul, reduceCtorEq, List.reduceReplicate, go_sem, bk_eq hc, h2, h3, hw2, hw, fnds_step hc]
      exact ⟨by simp only [roomB]; omega, by simp only [roomB]; omega, by simp only [List.length_append, List.length_cons, List.length_nil], by simp [GFound.enc, GAddress.enc]⟩
    · intro _
      simp only [↓bk_bind, ↓bk_map, ↓bk_ite, ↓bk_some, ↓reduceIte, Nat.reduceEqDiff, Nat.reduceLT, Nat.reduceLeDiff, Nat.reduceAdd, Nat.reduceMul, reduceCtorEq, List.reduceReplicate, go_sem, List.take_length, h0, h1, hw]
      exact ⟨by rw [fnds_snoc hx, Nat.zero_add], by rw [fnds_snoc hx, Nat.zero_add]⟩
  · intro _
    simp only [↓bk_bind, ↓bk_map, ↓bk_ite, ↓bk_some, ↓reduceIte, Nat.reduceEqDiff, Nat.reduceLT, Nat.reduceLeDiff, Nat.reduceAdd, Nat.reduceMul, reduceCtorEq, List.reduceReplicate, go_sem, List.take_length]
    apply callIK_of (c_slices_SortStableFunc (fnds 0 l) _ fndCmp c_impl_BuildIndex_1 fndSwo)
    simp only [↓bk_bind, ↓bk_map, ↓bk_ite, ↓bk_some, ↓reduceIte, Nat.reduceEqDiff, Nat.reduceLT, Nat.reduceLeDiff, Nat.reduceAdd, Nat.reduceMul, reduceCtorEq, List.reduceReplicate, go_sem]
    exact ⟨Srt.len_isort.symm, by rw [index, fndLt_eq]⟩
def m_spec_BuildIndex : MC :=
(.seq (pr [.nilo 2 0 6] [0])
(.seq (pr [.lit 8 0 6 48 [], .mv 3 (.s 8)] [0,3])
(.seq (.seq (pr [.mv 4 (.c (.int .i64 0))] [0,3,4])
(.block 0 (.loop ([0,3,4], [1,2,3]) (.seq (.seq (pr [.mv 9 (.s 4), .mv 10 (.s 0), .len 11 false (.s 10), .bin 12 false .lss (.s 9) (.s 11)] [0,3,4,12])
(.cond (.s 12) .skip (.exit 0)))
(.seq (.block 1 (.seq (pr [.mv 5 (.c (.int .i64 0))] [0,3,4,5])
(.block 2 (.loop ([0,3,4,5], [1,2,3]) (.seq (.seq (pr [.mv 15 (.s 5), .mv 16 (.s 0), .mv 17 (.s 4), .idx 18 4 (.s 16) (.s 17), .fld 19 (.s 18) 2, .load 20 false 1 (.s 19), .len 21 false (.s 20), .bin 22 false .lss (.s 15) (.s 21)] [0,3,4,5,22])
(.cond (.s 22) .skip (.exit 2)))
(.seq (.block 3 (.seq (.dreg [{ o := .mv 25 (.s 0), hs := [6,26,30,34,35,36,37,38,39,40,41,42,43,44], ho := [1] }, { o := .mv 26 (.s 4), hs := [6,25,30,34,35,36,37,38,39,40,41,42,43,44], ho := [1] }, { o := .idx 27 4 (.s 25) (.s 26), hs := [6,30,34,35,36,37,38,39,40,41,42,43,44], ho := [1], bf := [0,1] }, { o := .fld 28 (.s 27) 2, hs := [6,30,34,35,36,37,38,39,40,41,42,43,44], ho := [1], bf := [0,1,2] }, { o := .load 29 false 1 (.s 28), hs := [6,30,34,35,36,37,38,39,40,41,42,43,44], ho := [1], bf := [0,1,2,3] }, { o := .mv 30 (.s 5), hs := [6,25,26,27,28,29,34,35,36,37,38,39,40,41,42,43,44], ho := [1] }, { o := .idx 31 9 (.s 29) (.s 30), hs := [6,34,35,36,37,38,39,40,41,42,43,44], ho := [1], bf := [0,1,2,3,4,5] }, { o := .fld 32 (.s 31) 0, hs := [6,34,35,36,37,38,39,40,41,42,43,44], ho := [1], bf := [0,1,2,3,4,5,6] }, { o := .load 33 true 3 (.s 32), hs := [6,34,35,36,37,38,39,40,41,42,43,44], ho := [1], bf := [0,1,2,3,4,5,6,7] }, { o := .mv 34 (.s 0), hs := [6,25,26,27,28,29,30,31,32,33,35,39,43,44], ho := [1] }, { o := .mv 35 (.s 4), hs := [6,25,26,27,28,29,30,31,32,33,34,39,43,44], ho := [1] }, { o := .idx 36 4 (.s 34) (.s 35), hs := [6,25,26,27,28,29,30,31,32,33,39,43,44], ho := [1], bf := [9,10] }, { o := .fld 37 (.s 36) 2, hs := [6,25,26,27,28,29,30,31,32,33,39,43,44], ho := [1], bf := [9,10,11] }, { o := .load 38 false 1 (.s 37), hs := [6,25,26,27,28,29,30,31,32,33,39,43,44], ho := [1], bf := [9,10,11,12] }, { o := .mv 39 (.s 5), hs := [6,25,26,27,28,29,30,31,32,33,34,35,36,37,38,43,44], ho := [1] }, { o := .idx 40 9 (.s 38) (.s 39), hs := [6,25,26,27,28,29,30,31,32,33,43,44], ho := [1], bf := [9,10,11,12,13,14] }, { o := .fld 41 (.s 40) 3, hs := [6,25,26,27,28,29,30,31,32,33,43,44], ho := [1], bf := [9,10,11,12,13,14,15] }, { o := .load 42 false 1 (.s 41), hs := [6,25,26,27,28,29,30,31,32,33,43,44], ho := [1], bf := [9,10,11,12,13,14,15,16] }, { o := .mv 43 (.s 4), hs := [6,25,26,27,28,29,30,31,32,33,34,35,36,37,38,39,40,41,42,44], ho := [1] }, { o := .mv 44 (.s 5), hs := [6,25,26,27,28,29,30,31,32,33,34,35,36,37,38,39,40,41,42,43], ho := [1] }, { o := .build 45 [.pl (.sc (.int .i64 0)), .pl (.sc (.int .i64 0)), .pl (.sc (.int .i64 0)), .pl (.sc (.int .i64 0)), .pl (.sc (.int .i64 0)), .pl (.sc (.int .i64 0))] [(0, 3, .s 33), (3, 1, .s 42), (4, 1, .s 43), (5, 1, .s 44)], hs := [6], ho := [1], bf := [0,1,2,3,4,5,6,7,8,9,10,11,12,13,14,15,16,17,18,19] }, { o := .alloc 6 1 [.pl (.sc (.int .i64 0)), .pl (.sc (.int .i64 0)), .pl (.sc (.int .i64 0)), .pl (.sc (.int .i64 0)), .pl (.sc (.int .i64 0)), .pl (.sc (.int .i64 0))], hs := [25,26,27,28,29,30,31,32,33,34,35,36,37,38,39,40,41,42,43,44,45], ws := [1] }, { o := .store 6 (.s 6) (.s 45), ws := [1], bf := [0,1,2,3,4,5,6,7,8,9,10,11,12,13,14,15,16,17,18,19,20,21] }] [0,3,4,5,6])
(.seq (pr [.mv 46 (.s 3), .len 47 false (.s 46), .mv 7 (.s 47)] [0,3,4,5,6,7])
(.seq (.block 4 (.loop ([0,3,4,5,6,7], [2,3]) (.seq (.seq (.dreg [{ o := .mv 48 (.s 7) }, { o := .bin 49 false .gtr (.s 48) (.c (.int .i64 0)), bf := [0] }, { o := .mv 50 (.s 49), bf := [0,1] }, { o := .load 51 true 6 (.s 6), g := some (50, true), hs := [52,53,54,55,56], bf := [0,1,2] }, { o := .mv 52 (.s 3), g := some (50, true), hs := [51,53,54], bf := [0,1,2] }, { o := .mv 53 (.s 7), g := some (50, true), hs := [51,52], bf := [0,1,2] }, { o := .bin 54 false .sub (.s 53) (.c (.int .i64 1)), g := some (50, true), hs := [51,52], bf := [0,1,2,5] }, { o := .idx 55 6 (.s 52) (.s 54), g := some (50, true), hs := [51], bf := [0,1,2,4,5,6] }, { o := .load 56 true 6 (.s 55), g := some (50, true), hs := [51], bf := [0,1,2,4,5,6,7] }, { o := .call 57 [] (.f n_spec_l31Before) [.s 51, .s 56], g := some (50, true), bf := [0,1,2,3,4,5,6,7,8] }, { o := .pick 58 (.s 50) (.s 57) (.c (.bool false)), bf := [0,1,2,3,4,5,6,7,8,9] }] [0,3,4,5,6,7,58])
(.cond (.s 58) .skip (.exit 4)))
(.block 5 (pr [.mv 59 (.s 7), .bin 60 false .sub (.s 59) (.c (.int .i64 1)), .mv 7 (.s 60)] [0,3,4,5,6,7])))))
(.dreg [{ o := .lit 61 2 6 48 [], hs := [62,63,64,66,67,69,70,71], ho := [3], ws := [2] }, { o := .mv 62 (.s 3), hs := [61,63,66,67,69,70,71], ho := [2,3] }, { o := .mv 63 (.s 7), hs := [61,62,66,67,69,70,71], ho := [2,3] }, { o := .slc 64 6 (.s 62) none (some (.s 63)) none, hs := [61,66,67,69,70,71], ho := [2,3], bf := [1,2] }, { o := .app 65 2 6 48 (.s 61) (.s 64), hs := [66,67,69,70,71], ho := [3], ws := [2], bf := [0,1,2,3] }, { o := .load 66 true 6 (.s 6), hs := [61,62,63,64,65,69,70,71], ho := [2] }, { o := .lit 67 3 6 48 [.s 66], hs := [61,62,63,64,65,69,70,71], ho := [2], ws := [3], bf := [5] }, { o := .app 68 2 6 48 (.s 65) (.s 67), hs := [69,70,71], ws := [2], bf := [0,1,2,3,4,5,6] }, { o := .mv 69 (.s 3), hs := [61,62,63,64,65,66,67,68,70], ho := [2,3] }, { o := .mv 70 (.s 7), hs := [61,62,63,64,65,66,67,68,69], ho := [2,3] }, { o := .slc 71 6 (.s 69) (some (.s 70)) none none, hs := [61,62,63,64,65,66,67,68], ho := [2,3], bf := [8,9] }, { o := .app 72 0 6 48 (.s 68) (.s 71), ws := [0,2], bf := [0,1,2,3,4,5,6,7,8,9,10] }, { o := .mv 3 (.s 72), bf := [0,1,2,3,4,5,6,7,8,9,10,11] }] [0,3,4,5])))))
(pr [.mv 23 (.s 5), .bin 24 false .add (.s 23) (.c (.int .i64 1)), .mv 5 (.s 24)] [0,3,4,5])))))))
(pr [.mv 13 (.s 4), .bin 14 false .add (.s 13) (.c (.int .i64 1)), .mv 4 (.s 14)] [0,3,4]))))))
(.seq (pr [.mv 73 (.s 3), .mv 2 (.s 73)] [2])
.ret))))
theorem c_spec_BuildIndex (l : List GContainer) (hs : l.length + (l.map GContainer.size).sum ≤ 1073741824) : Ctr Tryz.prog n_spec_BuildIndex [aL 4 (l.map GContainer.enc)] [rL 6 ((index l).map GFound.enc)] := by
  refine ctr_at (M := m_spec_BuildIndex) (m := 4) (n := 74) (res := [(.tmp 2, [true])]) hmix Tryz.func58 rfl (by kernel_rfl) rfl (by kernel_rfl) (by kernel_rfl) (Nat.le_of_ble_eq_true rfl) ?_; unfold m_spec_BuildIndex
  intro hb
  clear hb
  simp only [↓bk_bind, ↓bk_map, ↓bk_ite, ↓bk_some, ↓reduceIte, Nat.reduceEqDiff, Nat.reduceLT, Nat.reduceLeDiff, Nat.reduceAdd, Nat.reduceMul, reduceCtorEq, List.reduceReplicate, go_sem]
  refine loopK_rng l (fun i => [(3, .val false [.ref 0 0 6 0 (Srt.isort fndLt (fnds 0 (l.take i))).length]), (4, vI i)]) (fun i => [(0, ⟨0, .row true 6 ((Srt.isort fndLt (fnds 0 (l.take i))).map GFound.enc)⟩)]) (fun _ => True) (by simp only [roomB]; omega) ?_
  simp only [↓bk_bind, ↓bk_map, ↓bk_ite, ↓bk_some, ↓reduceIte, Nat.reduceEqDiff, Nat.reduceLT, Nat.reduceLeDiff, Nat.reduceAdd, Nat.reduceMul, reduceCtorEq, List.reduceReplicate, go_sem]
  refine ⟨?_, trivial, ?_, ?_⟩
  · simp only [↓bk_bind, ↓bk_map, ↓bk_ite, ↓bk_some, ↓reduceIte, Nat.reduceEqDiff, Nat.reduceLT, Nat.reduceLeDiff, Nat.reduceAdd, Nat.reduceMul, reduceCtorEq, List.reduceReplicate, go_sem, List.take_zero]
    exact ⟨rfl, rfl⟩
  · intro i x hx _ h0 h1 hw
    have hx1 := mem_sum (f := GContainer.size) (at_mem hx)
    have hi := len_at hx
    have hxl : x.Captures.length ≤ x.size := by simp only [GContainer.size]; omega
    simp only [↓bk_bind, ↓bk_map, ↓bk_ite, ↓bk_some, ↓reduceIte, Nat.reduceEqDiff, Nat.reduceLT, Nat.reduceLeDiff, Nat.reduceAdd, Nat.reduceMul, reduceCtorEq, List.reduceReplicate, go_sem, bk_eq hx, h0, h1, hw]
    refine loopK_rng x.Captures (fun k => [(3, .val false [.ref 0 0 6 0 (Srt.isort fndLt (fnds 0 (l.take i) ++ fnd1 i 0 (x.Captures.take k))).length]), (5, vI k)]) (fun k => [(0, ⟨0, .row true 6 ((Srt.isort fndLt (fnds 0 (l.take i) ++ fnd1 i 0 (x.Captures.take k))).map GFound.enc)⟩)]) (fun _ => True) (by simp only [roomB]; omega) ?_
    simp only [↓bk_bind, ↓bk_map, ↓bk_ite, ↓bk_some, ↓reduceIte, Nat.reduceEqDiff, Nat.reduceLT, Nat.reduceLeDiff, Nat.reduceAdd, Nat.reduceMul, reduceCtorEq, List.reduceReplicate, go_sem, bk_eq hx]
    refine ⟨?_, trivial, ?_, ?_⟩
    · simp only [↓bk_bind, ↓bk_map, ↓bk_ite, ↓bk_some, ↓reduceIte, Nat.reduceEqDiff, Nat.reduceLT, Nat.reduceLeDiff, Nat.reduceAdd, Nat.reduceMul, reduceCtorEq, List.reduceReplicate, go_sem, List.take_zero]
      exact ⟨by simp [fnd1], by simp [fnd1]⟩
    · intro k c hc _ h2 h3 hw2
      have hn := len_fnds_at (k := k) hx
      obtain ⟨y, hy⟩ : ∃ y : GFound, y = ⟨c.Address, c.Tick, i, k⟩ := ⟨_, rfl⟩
      obtain ⟨out, hout⟩ : ∃ out, out = Srt.isort fndLt (fnds 0 (l.take i) ++ fnd1 i 0 (x.Captures.take k)) := ⟨_, rfl⟩
      have hsr : Srt.srt fndLt out := hout ▸ Srt.srt_isort fndSwo' _
      have hol : out.length ≤ (l.map GContainer.size).sum := by rw [hout, Srt.len_isort]; exact hn
      have hst : Srt.isort fndLt (fnds 0 (l.take i) ++ fnd1 i 0 (x.Captures.take (k + 1))) = Srt.ins fndLt y out := by
        rw [fnds_step hc, Srt.isort_snoc, ← hout, ← hy]
      have hye : ([tI c.Address.Host, tI c.Address.Path, tI c.Address.Query, tI c.Tick, tI (i : Int), tI (k : Int)] : List T) = y.enc := by rw [hy]; rfl
      rw [hst, ← hout]
      simp only [↓bk_bind, ↓bk_map, ↓bk_ite, ↓bk_some, ↓reduceIte, Nat.reduceEqDiff, Nat.reduceLT, Nat.reduceLeDiff, Nat.reduceAdd, Nat.reduceMul, reduceCtorEq, List.reduceReplicate, go_sem, bk_eq hx, bk_eq hc, h0, h1, h2, h3, hw2, hw]
      refine loopK_up (fun n : Nat => [(7, vI n)]) (fun n => []) (fun n => n ≤ out.length ∧ ∀ z ∈ out.drop n, fndLt y z = true) (fun n => n) out.length ?_
      simp only [↓bk_bind, ↓bk_map, ↓bk_ite, ↓bk_some, ↓reduceIte, Nat.reduceEqDiff, Nat.reduceLT, Nat.reduceLeDiff, Nat.reduceAdd, Nat.reduceMul, reduceCtorEq, List.reduceReplicate, go_sem]
      refine ⟨?_, ⟨Nat.le_refl _, by simp⟩, ?_⟩
      · simp only [↓bk_bind, ↓bk_map, ↓bk_ite, ↓bk_some, ↓reduceIte, Nat.reduceEqDiff, Nat.reduceLT, Nat.reduceLeDiff, Nat.reduceAdd, Nat.reduceMul, reduceCtorEq, List.reduceReplicate, go_sem]
      · rintro n ⟨hn1, hn2⟩
        simp only [↓bk_bind, ↓bk_map, ↓bk_ite, ↓bk_some, ↓reduceIte, Nat.reduceEqDiff, Nat.reduceLT, Nat.reduceLeDiff, Nat.reduceAdd, Nat.reduceMul, reduceCtorEq, List.reduceReplicate, go_sem]
        refine ⟨fun hpos => ?_, fun hzero => ?_⟩
        · obtain ⟨m, hm⟩ : ∃ m, m = n - 1 := ⟨_, rfl⟩
          obtain ⟨z, hz⟩ := at_some (show m < out.length by omega)
          have e1 : IntKind.i64.wrap ((n : Int) - 1) = (m : Int) := by rw [wI (by omega) (by omega)]; omega
          rw [e1]
          simp only [↓bk_bind, ↓bk_map, ↓bk_ite, ↓bk_some, ↓reduceIte, Nat.reduceEqDiff, Nat.reduceLT, Nat.reduceLeDiff, Nat.reduceAdd, Nat.reduceMul, reduceCtorEq, List.reduceReplicate, go_sem, bk_eq hz, e1]
          refine ⟨⟨by omega, by omega⟩, ?_⟩
          apply callK_of (c_spec_l31Before ⟨c.Address, c.Tick, (i : Int), (k : Int)⟩ z)
          simp only [↓bk_bind, ↓bk_map, ↓bk_ite, ↓bk_some, ↓reduceIte, Nat.reduceEqDiff, Nat.reduceLT, Nat.reduceLeDiff, Nat.reduceAdd, Nat.reduceMul, reduceCtorEq, List.reduceReplicate, go_sem]
          rw [e1]
          refine ⟨fun ht => ⟨m, rfl, ⟨by omega, ?_⟩, by omega⟩, fun hf => ?_⟩
          · rw [hm]
            exact Srt.drop_step (by omega) (hm ▸ hz) hn2 (hy ▸ ht)
          · have hstop : n = 0 ∨ ∃ y', out[n - 1]? = some y' ∧ fndLt y y' = false := .inr ⟨z, hm ▸ hz, hy ▸ hf⟩
            rw [cutA hn1]
            refine ⟨by omega, by omega, ?_⟩
            have hA : (out.take n).length = n := by rw [List.length_take]; omega
            have hB : out.length = n + (out.drop n).length := by rw [List.length_drop]; omega
            have eC := cutB (f := GFound.enc) hn1
            have e5 : List.map GFound.enc (out.take n) ++ [[T.sc (Value.int IntKind.i64 c.Address.Host), T.sc (Value.int IntKind.i64 c.Address.Path), T.sc (Value.int IntKind.i64 c.Address.Query), T.sc (Value.int IntKind.i64 c.Tick), T.sc (Value.int IntKind.i64 (i : Int)), T.sc (Value.int IntKind.i64 (k : Int))]] = (out.take n ++ [y]).map GFound.enc := by rw [hy]; simp [GFound.enc, GAddress.enc]
            have e6 : ((out.take n ++ [y]).map GFound.enc).length = (out.take n).length + 1 := by simp
            simp only [↓bk_bind, ↓bk_map, ↓bk_ite, ↓bk_some, ↓reduceIte, Nat.reduceEqDiff, Nat.reduceLT, Nat.reduceLeDiff, Nat.reduceAdd, Nat.reduceMul, reduceCtorEq, List.reduceReplicate, go_sem, ↓flat_of (f := GFound.enc) (fun _ => rfl) (out.take n), ↓eC, ↓e5, ↓e6, ↓flat_of (f := GFound.enc) (fun _ => rfl) (out.drop n)]
            rw [Srt.ins_at fndSwo' hsr hn2 hstop]
            simp only [roomB]
            exact ⟨by omega, by omega, by omega, ⟨by omega, by omega, by omega⟩, by omega, by omega, ⟨by simp only [List.length_append, List.length_cons, List.length_nil], hw2⟩, by rw [← List.map_append]⟩
        · have hstop : n = 0 ∨ ∃ y', out[n - 1]? = some y' ∧ fndLt y y' = false := .inl (by omega)
          rw [cutA hn1]
          refine ⟨by omega, by omega, ?_⟩
          have hA : (out.take n).length = n := by rw [List.length_take]; omega
          have hB : out.length = n + (out.drop n).length := by rw [List.length_drop]; omega
          have eC := cutB (f := GFound.enc) hn1
          have e5 : List.map GFound.enc (out.take n) ++ [[T.sc (Value.int IntKind.i64 c.Address.Host), T.sc (Value.int IntKind.i64 c.Address.Path), T.sc (Value.int IntKind.i64 c.Address.Query), T.sc (Value.int IntKind.i64 c.Tick), T.sc (Value.int IntKind.i64 (i : Int)), T.sc (Value.int IntKind.i64 (k : Int))]] = (out.take n ++ [y]).map GFound.enc := by rw [hy]; simp [GFound.enc, GAddress.enc]
          have e6 : ((out.take n ++ [y]).map GFound.enc).length = (out.take n).length + 1 := by simp
          simp only [↓bk_bind, ↓bk_map, ↓bk_ite, ↓bk_some, ↓reduceIte, Nat.reduceEqDiff, Nat.reduceLT, Nat.reduceLeDiff, Nat.reduceAdd, Nat.reduceMul, reduceCtorEq, List.reduceReplicate, go_sem, ↓flat_of (f := GFound.enc) (fun _ => rfl) (out.take n), ↓eC, ↓e5, ↓e6, ↓flat_of (f := GFound.enc) (fun _ => rfl) (out.drop n)]
          rw [Srt.ins_at fndSwo' hsr hn2 hstop]
          simp only [roomB]
          exact ⟨by omega, by omega, by omega, ⟨by omega, by omega, by omega⟩, by omega, by omega, ⟨by simp only [List.length_append, List.length_cons, List.length_nil], hw2⟩, by rw [← List.map_append]⟩
    · intro _
      simp only [↓bk_bind, ↓bk_map, ↓bk_ite, ↓bk_some, ↓reduceIte, Nat.reduceEqDiff, Nat.reduceLT, Nat.reduceLeDiff, Nat.reduceAdd, Nat.reduceMul, reduceCtorEq, List.reduceReplicate, go_sem, List.take_length, bk_eq hx, h0, h1, hw, Int.lt_irrefl]
      exact ⟨by rw [fnds_snoc hx, Nat.zero_add], by rw [fnds_snoc hx, Nat.zero_add]⟩
  · intro _
    simp only [↓bk_bind, ↓bk_map, ↓bk_ite, ↓bk_some, ↓reduceIte, Nat.reduceEqDiff, Nat.reduceLT, Nat.reduceLeDiff, Nat.reduceAdd, Nat.reduceMul, reduceCtorEq, List.reduceReplicate, go_sem, List.take_length]
    rfl
end Go.Proofs.YtbnbgekjjbpljaaGreatR
namespace Go.Proofs.YtbnbgekjjbpljaaGreatR
open Go Go.RowKit Go.Proofs
set_option linter.unusedSimpArgs false
set_option linter.unusedVariables false
theorem any_nots {α : Type} {p : α → Bool} {l : List α} : (l.any fun x => !p x) = !l.all p := by
  induction l with
  | nil => rfl
  | cons x l ih => rw [List.any_cons, List.all_cons, ih]; cases p x <;> rfl
/-- All elements are so, and there are not too many. -/
def fewAll {α : Type} (n : Nat) (p : α → Bool) (l : List α) : Bool := decide (l.length ≤ n) && l.all p
theorem fewAll_no {α : Type} {n : Nat} {p : α → Bool} {l : List α} (h : ¬ l.length ≤ n) : false = fewAll n p l := by
  unfold fewAll; rw [decide_eq_false h]; rfl
theorem fewAll_yes {α : Type} {n : Nat} {p : α → Bool} {l : List α} (h : l.length ≤ n) : (!l.any fun x => !p x) = fewAll n p l := by
  unfold fewAll; rw [decide_eq_true h, any_nots, Bool.not_not]; rfl
theorem fewAll_at {α : Type} {n : Nat} {p : α → Bool} {l : List α} {k : Nat} {x : α} (hx : l[k]? = some x) (h : p x = false) : false = fewAll n p l := by
  unfold fewAll; rw [← all_not hx h, Bool.and_false]
theorem fewAll_end {α : Type} {n : Nat} {p : α → Bool} {l : List α} (h : l.all p = true) : decide (l.length ≤ n) = fewAll n p l := by
  unfold fewAll; rw [h, Bool.and_true]
theorem le_cast {n m : Nat} : decide ((n : Int) ≤ (m : Int)) = decide (n ≤ m) := by
  rw [Bool.eq_iff_iff]; simp only [decide_eq_true_eq]; omega
def opOk (o : GOp) : Bool := decide ((0 ≤ o.A ∧ o.A < 4) ∧ (
  (o.Kind = 1 ∧ (1 ≤ o.B ∧ o.B ≤ 9) ∧ (0 ≤ o.C ∧ o.C ≤ 99)) ∨
  ((o.Kind = 2 ∨ o.Kind = 3 ∨ o.Kind = 4) ∧ o.B = 0 ∧ o.C = 0) ∨
  (o.Kind = 5 ∧ (0 ≤ o.B ∧ o.B < 4) ∧ (0 ≤ o.C ∧ o.C < 4)) ∨
  (o.Kind = 6 ∧ (0 ≤ o.B ∧ o.B < 4) ∧ o.C = 0) ∨
  (o.Kind = 7 ∧ (1 ≤ o.B ∧ o.B ≤ 3) ∧ o.C = 0) ∨
  ((o.Kind = 8 ∨ o.Kind = 9) ∧ (0 ≤ o.B ∧ o.B < 3) ∧ o.C = 0)))
def scriptOk (l : List GOp) : Bool := fewAll 16 opOk l
def m_impl_isOp : MC :=
(.seq (pr [.box 1 0 (.s 0), .mv 2 (.c (.bool false))] [1])
(.seq (.seq (pr [.fld 3 (.s 1) 1, .load 4 false 1 (.s 3), .call 5 [] (.f n_impl_at) [.s 4, .c (.int .i64 4)], .un 6 .not (.s 5)] [1,6])
(.cond (.s 6) (.seq (pr [.mv 2 (.c (.bool false))] [2])
.ret) .skip))
(.seq (.seq (pr [.fld 7 (.s 1) 0, .load 8 false 1 (.s 7)] [1,8])
(.block 0 (.seq (pr [.bin 10 false .eql (.s 8) (.c (.int .i64 1)), .mv 9 (.s 10)] [1,8,9])
(.cond (.s 9) (.seq (.reg [{ o := .fld 11 (.s 1) 2 }, { o := .load 12 false 1 (.s 11) }, { o := .call 13 [] (.f n_impl_InRange) [.s 12, .c (.int .i64 1), .c (.int .i64 9)] }, { o := .mv 14 (.s 13) }, { o := .fld 15 (.s 1) 3, g := some (14, true) }, { o := .load 16 false 1 (.s 15), g := some (14, true) }, { o := .call 17 [] (.f n_impl_InRange) [.s 16, .c (.int .i64 0), .c (.int .i64 99)], g := some (14, true) }, { o := .pick 18 (.s 14) (.s 17) (.c (.bool false)) }, { o := .mv 2 (.s 18) }] [2])
.ret) (.seq (.seq (pr [.bin 20 false .eql (.s 8) (.c (.int .i64 2)), .mv 19 (.s 20)] [1,8,19])
(.cond (.s 19) .skip (.seq (pr [.bin 21 false .eql (.s 8) (.c (.int .i64 3)), .mv 19 (.s 21)] [1,8,19])
(.cond (.s 19) .skip (pr [.bin 22 false .eql (.s 8) (.c (.int .i64 4)), .mv 19 (.s 22)] [1,8,19])))))
(.cond (.s 19) (.seq (.reg [{ o := .fld 23 (.s 1) 2 }, { o := .load 24 false 1 (.s 23) }, { o := .bin 25 false .eql (.s 24) (.c (.int .i64 0)) }, { o := .mv 26 (.s 25) }, { o := .fld 27 (.s 1) 3, g := some (26, true) }, { o := .load 28 false 1 (.s 27), g := some (26, true) }, { o := .bin 29 false .eql (.s 28) (.c (.int .i64 0)), g := some (26, true) }, { o := .pick 30 (.s 26) (.s 29) (.c (.bool false)) }, { o := .mv 2 (.s 30) }] [2])
.ret) (.seq (pr [.bin 32 false .eql (.s 8) (.c (.int .i64 5)), .mv 31 (.s 32)] [1,8,31])
(.cond (.s 31) (.seq (.reg [{ o := .fld 33 (.s 1) 2 }, { o := .load 34 false 1 (.s 33) }, { o := .call 35 [] (.f n_impl_at) [.s 34, .c (.int .i64 4)] }, { o := .mv 36 (.s 35) }, { o := .fld 37 (.s 1) 3, g := some (36, true) }, { o := .load 38 false 1 (.s 37), g := some (36, true) }, { o := .call 39 [] (.f n_impl_at) [.s 38, .c (.int .i64 4)], g := some (36, true) }, { o := .pick 40 (.s 36) (.s 39) (.c (.bool false)) }, { o := .mv 2 (.s 40) }] [2])
.ret) (.seq (pr [.bin 42 false .eql (.s 8) (.c (.int .i64 6)), .mv 41 (.s 42)] [1,8,41])
(.cond (.s 41) (.seq (.reg [{ o := .fld 43 (.s 1) 2 }, { o := .load 44 false 1 (.s 43) }, { o := .call 45 [] (.f n_impl_at) [.s 44, .c (.int .i64 4)] }, { o := .mv 46 (.s 45) }, { o := .fld 47 (.s 1) 3, g := some (46, true) }, { o := .load 48 false 1 (.s 47), g := some (46, true) }, { o := .bin 49 false .eql (.s 48) (.c (.int .i64 0)), g := some (46, true) }, { o := .pick 50 (.s 46) (.s 49) (.c (.bool false)) }, { o := .mv 2 (.s 50) }] [2])
.ret) (.seq (pr [.bin 52 false .eql (.s 8) (.c (.int .i64 7)), .mv 51 (.s 52)] [1,8,51])
(.cond (.s 51) (.seq (.reg [{ o := .fld 53 (.s 1) 2 }, { o := .load 54 false 1 (.s 53) }, { o := .call 55 [] (.f n_impl_InRange) [.s 54, .c (.int .i64 1), .c (.int .i64 3)] }, { o := .mv 56 (.s 55) }, { o := .fld 57 (.s 1) 3, g := some (56, true) }, { o := .load 58 false 1 (.s 57), g := some (56, true) }, { o := .bin 59 false .eql (.s 58) (.c (.int .i64 0)), g := some (56, true) }, { o := .pick 60 (.s 56) (.s 59) (.c (.bool false)) }, { o := .mv 2 (.s 60) }] [2])
.ret) (.seq (.seq (pr [.bin 62 false .eql (.s 8) (.c (.int .i64 8)), .mv 61 (.s 62)] [1,8,61])
(.cond (.s 61) .skip (pr [.bin 63 false .eql (.s 8) (.c (.int .i64 9)), .mv 61 (.s 63)] [1,61])))
(.cond (.s 61) (.seq (.reg [{ o := .fld 64 (.s 1) 2 }, { o := .load 65 false 1 (.s 64) }, { o := .call 66 [] (.f n_impl_at) [.s 65, .c (.int .i64 3)] }, { o := .mv 67 (.s 66) }, { o := .fld 68 (.s 1) 3, g := some (67, true) }, { o := .load 69 false 1 (.s 68), g := some (67, true) }, { o := .bin 70 false .eql (.s 69) (.c (.int .i64 0)), g := some (67, true) }, { o := .pick 71 (.s 67) (.s 70) (.c (.bool false)) }, { o := .mv 2 (.s 71) }] [2])
.ret) .skip))))))))))))))
(.seq (pr [.mv 2 (.c (.bool false))] [2])
.ret))))
theorem c_impl_isOp (o : GOp) : Ctr Tryz.prog n_impl_isOp [aS o.enc] [rB (opOk o)] := by
  refine ctr_at (M := m_impl_isOp) (m := 1) (n := 72) (res := [(.tmp 2, [false])]) hmix Tryz.func208 rfl (by kernel_rfl) rfl (by kernel_rfl) (by kernel_rfl) (Nat.le_of_ble_eq_true rfl) ?_; unfold m_impl_isOp
  intro hb
  clear hb
  simp only [↓bk_bind, ↓bk_map, ↓bk_ite, ↓bk_some, ↓reduceIte, Nat.reduceEqDiff, Nat.reduceLT, Nat.reduceLeDiff, Nat.reduceAdd, Nat.reduceMul, reduceCtorEq, List.reduceReplicate, go_sem]
  repeat' first
    | (refine And.intro ?_ ?_ <;> intro h)
    | (apply callK_of (c_impl_at _ _); simp only [↓bk_bind, ↓bk_map, ↓bk_ite, ↓bk_some, ↓reduceIte, Nat.reduceEqDiff, Nat.reduceLT, Nat.reduceLeDiff, Nat.reduceAdd, Nat.reduceMul, reduceCtorEq, List.reduceReplicate, go_sem])
    | (apply callK_of (c_impl_InRange _ _ _); simp only [↓bk_bind, ↓bk_map, ↓bk_ite, ↓bk_some, ↓reduceIte, Nat.reduceEqDiff, Nat.reduceLT, Nat.reduceLeDiff, Nat.reduceAdd, Nat.reduceMul, reduceCtorEq, List.reduceReplicate, go_sem])
  all_goals (unfold opOk; first | (symm; rw [decide_eq_false_iff_not]; omega) | (symm; rw [decide_eq_true_eq]; omega) | (rw [Bool.eq_iff_iff]; simp only [decide_eq_true_eq, beq_iff_eq]; omega))
def m_spec_l10Ok : MC :=
(.seq (pr [.box 1 0 (.s 0), .mv 2 (.c (.bool false))] [1])
(.seq (pr [.mv 3 (.c (.int .i64 3))] [1,3])
(.seq (.seq (pr [.fld 4 (.s 1) 1, .load 5 false 1 (.s 4), .mv 6 (.s 3), .call 7 [] (.f n_spec_l1In) [.s 5, .c (.int .i64 0), .s 6], .un 8 .not (.s 7)] [1,3,8])
(.cond (.s 8) (.seq (pr [.mv 2 (.c (.bool false))] [2])
.ret) .skip))
(.seq (.seq (pr [.fld 9 (.s 1) 0, .load 10 false 1 (.s 9)] [1,3,10])
(.block 0 (.seq (pr [.bin 12 false .eql (.s 10) (.c (.int .i64 1)), .mv 11 (.s 12)] [1,3,10,11])
(.cond (.s 11) (.seq (.reg [{ o := .fld 13 (.s 1) 2 }, { o := .load 14 false 1 (.s 13) }, { o := .call 15 [] (.f n_spec_l1In) [.s 14, .c (.int .i64 1), .c (.int .i64 9)] }, { o := .mv 16 (.s 15) }, { o := .fld 17 (.s 1) 3, g := some (16, true) }, { o := .load 18 false 1 (.s 17), g := some (16, true) }, { o := .call 19 [] (.f n_spec_l1In) [.s 18, .c (.int .i64 0), .c (.int .i64 99)], g := some (16, true) }, { o := .pick 20 (.s 16) (.s 19) (.c (.bool false)) }, { o := .mv 2 (.s 20) }] [2])
.ret) (.seq (.seq (pr [.bin 22 false .eql (.s 10) (.c (.int .i64 2)), .mv 21 (.s 22)] [1,3,10,21])
(.cond (.s 21) .skip (.seq (pr [.bin 23 false .eql (.s 10) (.c (.int .i64 3)), .mv 21 (.s 23)] [1,3,10,21])
(.cond (.s 21) .skip (pr [.bin 24 false .eql (.s 10) (.c (.int .i64 4)), .mv 21 (.s 24)] [1,3,10,21])))))
(.cond (.s 21) (.seq (.reg [{ o := .fld 25 (.s 1) 2 }, { o := .load 26 false 1 (.s 25) }, { o := .bin 27 false .eql (.s 26) (.c (.int .i64 0)) }, { o := .mv 28 (.s 27) }, { o := .fld 29 (.s 1) 3, g := some (28, true) }, { o := .load 30 false 1 (.s 29), g := some (28, true) }, { o := .bin 31 false .eql (.s 30) (.c (.int .i64 0)), g := some (28, true) }, { o := .pick 32 (.s 28) (.s 31) (.c (.bool false)) }, { o := .mv 2 (.s 32) }] [2])
.ret) (.seq (pr [.bin 34 false .eql (.s 10) (.c (.int .i64 5)), .mv 33 (.s 34)] [1,3,10,33])
(.cond (.s 33) (.seq (.reg [{ o := .fld 35 (.s 1) 2 }, { o := .load 36 false 1 (.s 35) }, { o := .mv 37 (.s 3) }, { o := .call 38 [] (.f n_spec_l1In) [.s 36, .c (.int .i64 0), .s 37] }, { o := .mv 39 (.s 38) }, { o := .fld 40 (.s 1) 3, g := some (39, true) }, { o := .load 41 false 1 (.s 40), g := some (39, true) }, { o := .mv 42 (.s 3), g := some (39, true) }, { o := .call 43 [] (.f n_spec_l1In) [.s 41, .c (.int .i64 0), .s 42], g := some (39, true) }, { o := .pick 44 (.s 39) (.s 43) (.c (.bool false)) }, { o := .mv 2 (.s 44) }] [2])
.ret) (.seq (pr [.bin 46 false .eql (.s 10) (.c (.int .i64 6)), .mv 45 (.s 46)] [1,10,45])
(.cond (.s 45) (.seq (.reg [{ o := .fld 47 (.s 1) 2 }, { o := .load 48 false 1 (.s 47) }, { o := .call 49 [] (.f n_spec_l1In) [.s 48, .c (.int .i64 0), .c (.int .i64 3)] }, { o := .mv 50 (.s 49) }, { o := .fld 51 (.s 1) 3, g := some (50, true) }, { o := .load 52 false 1 (.s 51), g := some (50, true) }, { o := .bin 53 false .eql (.s 52) (.c (.int .i64 0)), g := some (50, true) }, { o := .pick 54 (.s 50) (.s 53) (.c (.bool false)) }, { o := .mv 2 (.s 54) }] [2])
.ret) (.seq (pr [.bin 56 false .eql (.s 10) (.c (.int .i64 7)), .mv 55 (.s 56)] [1,10,55])
(.cond (.s 55) (.seq (.reg [{ o := .fld 57 (.s 1) 2 }, { o := .load 58 false 1 (.s 57) }, { o := .call 59 [] (.f n_spec_l1In) [.s 58, .c (.int .i64 1), .c (.int .i64 3)] }, { o := .mv 60 (.s 59) }, { o := .fld 61 (.s 1) 3, g := some (60, true) }, { o := .load 62 false 1 (.s 61), g := some (60, true) }, { o := .bin 63 false .eql (.s 62) (.c (.int .i64 0)), g := some (60, true) }, { o := .pick 64 (.s 60) (.s 63) (.c (.bool false)) }, { o := .mv 2 (.s 64) }] [2])
.ret) (.seq (.seq (pr [.bin 66 false .eql (.s 10) (.c (.int .i64 8)), .mv 65 (.s 66)] [1,10,65])
(.cond (.s 65) .skip (pr [.bin 67 false .eql (.s 10) (.c (.int .i64 9)), .mv 65 (.s 67)] [1,65])))
(.cond (.s 65) (.seq (.reg [{ o := .fld 68 (.s 1) 2 }, { o := .load 69 false 1 (.s 68) }, { o := .call 70 [] (.f n_spec_l1In) [.s 69, .c (.int .i64 0), .c (.int .i64 2)] }, { o := .mv 71 (.s 70) }, { o := .fld 72 (.s 1) 3, g := some (71, true) }, { o := .load 73 false 1 (.s 72), g := some (71, true) }, { o := .bin 74 false .eql (.s 73) (.c (.int .i64 0)), g := some (71, true) }, { o := .pick 75 (.s 71) (.s 74) (.c (.bool false)) }, { o := .mv 2 (.s 75) }] [2])
.ret) .skip))))))))))))))
(.seq (pr [.mv 2 (.c (.bool false))] [2])
.ret)))))
theorem c_spec_l10Ok (o : GOp) : Ctr Tryz.prog n_spec_l10Ok [aS o.enc] [rB (opOk o)] := by
  refine ctr_at (M := m_spec_l10Ok) (m := 1) (n := 76) (res := [(.tmp 2, [false])]) hmix Tryz.func186 rfl (by kernel_rfl) rfl (by kernel_rfl) (by kernel_rfl) (Nat.le_of_ble_eq_true rfl) ?_; unfold m_spec_l10Ok
  intro hb
  clear hb
  simp only [↓bk_bind, ↓bk_map, ↓bk_ite, ↓bk_some, ↓reduceIte, Nat.reduceEqDiff, Nat.reduceLT, Nat.reduceLeDiff, Nat.reduceAdd, Nat.reduceMul, reduceCtorEq, List.reduceReplicate, go_sem]
  repeat' first
    | (refine And.intro ?_ ?_ <;> intro h)
    | (apply callK_of (c_spec_l1In _ _ _); simp only [↓bk_bind, ↓bk_map, ↓bk_ite, ↓bk_some, ↓reduceIte, Nat.reduceEqDiff, Nat.reduceLT, Nat.reduceLeDiff, Nat.reduceAdd, Nat.reduceMul, reduceCtorEq, List.reduceReplicate, go_sem])
  all_goals (unfold opOk; first | (symm; rw [decide_eq_false_iff_not]; omega) | (symm; rw [decide_eq_true_eq]; omega) | (rw [Bool.eq_iff_iff]; simp only [decide_eq_true_eq, beq_iff_eq]; omega))
def m_impl_IsScript_1 : MC :=
(.seq (pr [.box 1 0 (.s 0), .mv 2 (.c (.bool false))] [1])
(.seq (pr [.load 3 true 4 (.s 1), .call 4 [] (.f n_impl_isOp) [.s 3], .un 5 .not (.s 4), .mv 2 (.s 5)] [2])
.ret))
theorem c_impl_IsScript_1 (o : GOp) : Ctr Tryz.prog n_impl_IsScript_1 [aS o.enc] [rB (!opOk o)] := by
  refine ctr_at (M := m_impl_IsScript_1) (m := 1) (n := 6) (res := [(.tmp 2, [false])]) hmix Tryz.func207 rfl (by kernel_rfl) rfl (by kernel_rfl) (by kernel_rfl) (Nat.le_of_ble_eq_true rfl) ?_; unfold m_impl_IsScript_1
  intro hb
  clear hb
  simp only [↓bk_bind, ↓bk_map, ↓bk_ite, ↓bk_some, ↓reduceIte, Nat.reduceEqDiff, Nat.reduceLT, Nat.reduceLeDiff, Nat.reduceAdd, Nat.reduceMul, reduceCtorEq, List.reduceReplicate, go_sem]
  apply callK_of (c_impl_isOp _)
  simp only [↓bk_bind, ↓bk_map, ↓bk_ite, ↓bk_some, ↓reduceIte, Nat.reduceEqDiff, Nat.reduceLT, Nat.reduceLeDiff, Nat.reduceAdd, Nat.reduceMul, reduceCtorEq, List.reduceReplicate, go_sem]
def m_impl_IsScript : MC :=
(.seq (pr [.mv 2 (.c (.bool false))] [0])
(.seq (.reg [{ o := .mv 3 (.s 0) }, { o := .len 4 false (.s 3) }, { o := .bin 5 false .leq (.s 4) (.c (.int .i64 16)) }, { o := .mv 6 (.s 5) }, { o := .mv 7 (.s 0), g := some (6, true) }, { o := .call 8 [] (.f n_slices_ContainsFunc_impl_Op_impl_Op) [.s 7, .f n_impl_IsScript_1], g := some (6, true) }, { o := .un 9 .not (.s 8), g := some (6, true) }, { o := .pick 10 (.s 6) (.s 9) (.c (.bool false)) }, { o := .mv 2 (.s 10) }] [2])
.ret))
theorem c_impl_IsScript (l : List GOp) : Ctr Tryz.prog n_impl_IsScript [aL 4 (l.map GOp.enc)] [rB (scriptOk l)] := by
  refine ctr_at (M := m_impl_IsScript) (m := 0) (n := 11) (res := [(.tmp 2, [false])]) hmix Tryz.func171 rfl (by kernel_rfl) rfl (by kernel_rfl) (by kernel_rfl) (Nat.le_of_ble_eq_true rfl) ?_; unfold m_impl_IsScript
  intro hb
  clear hb
  simp only [↓bk_bind, ↓bk_map, ↓bk_ite, ↓bk_some, ↓reduceIte, Nat.reduceEqDiff, Nat.reduceLT, Nat.reduceLeDiff, Nat.reduceAdd, Nat.reduceMul, reduceCtorEq, List.reduceReplicate, go_sem]
  refine ⟨fun h => ?_, fun h => fewAll_no (by omega)⟩
  refine callK_of (c_slices_ContainsFunc_Op l _ [] (fun o => !opOk o) fun o _ => c_impl_IsScript_1 o) ?_
  simp only [↓bk_bind, ↓bk_map, ↓bk_ite, ↓bk_some, ↓reduceIte, Nat.reduceEqDiff, Nat.reduceLT, Nat.reduceLeDiff, Nat.reduceAdd, Nat.reduceMul, reduceCtorEq, List.reduceReplicate, go_sem]
  exact fewAll_yes (by omega)
def m_spec_IsScript : MC :=
(.seq (pr [.mv 2 (.c (.bool false))] [0])
(.seq (.seq (pr [.mv 3 (.c (.int .i64 0))] [0,3])
(.block 0 (.loop ([0,3], []) (.seq (.seq (pr [.mv 4 (.s 3), .mv 5 (.s 0), .len 6 false (.s 5), .bin 7 false .lss (.s 4) (.s 6)] [0,3,7])
(.cond (.s 7) .skip (.exit 0)))
(.seq (.block 1 (.seq (pr [.mv 10 (.s 0), .mv 11 (.s 3), .idx 12 4 (.s 10) (.s 11), .load 13 true 4 (.s 12), .call 14 [] (.f n_spec_l10Ok) [.s 13], .un 15 .not (.s 14)] [0,3,15])
(.cond (.s 15) (.seq (pr [.mv 2 (.c (.bool false))] [2])
.ret) .skip)))
(pr [.mv 8 (.s 3), .bin 9 false .add (.s 8) (.c (.int .i64 1)), .mv 3 (.s 9)] [0,3]))))))
(.seq (pr [.mv 16 (.s 0), .len 17 false (.s 16), .bin 18 false .leq (.s 17) (.c (.int .i64 16)), .mv 2 (.s 18)] [2])
.ret)))
theorem c_spec_IsScript (l : List GOp) : Ctr Tryz.prog n_spec_IsScript [aL 4 (l.map GOp.enc)] [rB (scriptOk l)] := by
  refine ctr_at (M := m_spec_IsScript) (m := 0) (n := 19) (res := [(.tmp 2, [false])]) hmix Tryz.func128 rfl (by kernel_rfl) rfl (by kernel_rfl) (by kernel_rfl) (Nat.le_of_ble_eq_true rfl) ?_; unfold m_spec_IsScript
  intro hb
  simp only [bdA, bdL, bdT, bdR, bdR_map, wfB_i64, wfB_bool, wfB_str, roomB, and_true, true_and, List.length_map] at hb
  have hl := hb.1
  clear hb
  simp only [↓bk_bind, ↓bk_map, ↓bk_ite, ↓bk_some, ↓reduceIte, Nat.reduceEqDiff, Nat.reduceLT, Nat.reduceLeDiff, Nat.reduceAdd, Nat.reduceMul, reduceCtorEq, List.reduceReplicate, go_sem]
  refine loopK_rng l (fun k => [(3, vI k)]) (fun k => []) (fun k => (l.take k).all opOk = true) hl ?_
  simp only [↓bk_bind, ↓bk_map, ↓bk_ite, ↓bk_some, ↓reduceIte, Nat.reduceEqDiff, Nat.reduceLT, Nat.reduceLeDiff, Nat.reduceAdd, Nat.reduceMul, reduceCtorEq, List.reduceReplicate, go_sem]
  refine ⟨?_, by simp, ?_, ?_⟩
  · simp only [↓bk_bind, ↓bk_map, ↓bk_ite, ↓bk_some, ↓reduceIte, Nat.reduceEqDiff, Nat.reduceLT, Nat.reduceLeDiff, Nat.reduceAdd, Nat.reduceMul, reduceCtorEq, List.reduceReplicate, go_sem]
  · intro k x hx h h0 h1 hw
    simp only [↓bk_bind, ↓bk_map, ↓bk_ite, ↓bk_some, ↓reduceIte, Nat.reduceEqDiff, Nat.reduceLT, Nat.reduceLeDiff, Nat.reduceAdd, Nat.reduceMul, reduceCtorEq, List.reduceReplicate, go_sem, bk_eq hx, h0, h1, hw]
    apply callK_of (c_spec_l10Ok _)
    simp only [↓bk_bind, ↓bk_map, ↓bk_ite, ↓bk_some, ↓reduceIte, Nat.reduceEqDiff, Nat.reduceLT, Nat.reduceLeDiff, Nat.reduceAdd, Nat.reduceMul, reduceCtorEq, List.reduceReplicate, go_sem, hw]
    exact ⟨fun hn => fewAll_at hx hn, fun hn => all_step hx h hn⟩
  · intro h
    simp only [↓bk_bind, ↓bk_map, ↓bk_ite, ↓bk_some, ↓reduceIte, Nat.reduceEqDiff, Nat.reduceLT, Nat.reduceLeDiff, Nat.reduceAdd, Nat.reduceMul, reduceCtorEq, List.reduceReplicate, go_sem]
    rw [List.take_length] at h
    exact le_cast.trans (fewAll_end h)
def asks (k : Int) : Bool := decide (1 ≤ k ∧ k ≤ 4)
def m_impl_Asks : MC :=
(.seq (pr [.mv 2 (.c (.bool false))] [0])
(.seq (pr [.mv 3 (.s 0), .call 4 [] (.f n_impl_InRange) [.s 3, .c (.int .i64 1), .c (.int .i64 4)], .mv 2 (.s 4)] [2])
.ret))
theorem c_impl_Asks (k : Int) : Ctr Tryz.prog n_impl_Asks [aI k] [rB (asks k)] := by
  refine ctr_at (M := m_impl_Asks) (m := 0) (n := 5) (res := [(.tmp 2, [false])]) hmix Tryz.func213 rfl (by kernel_rfl) rfl (by kernel_rfl) (by kernel_rfl) (Nat.le_of_ble_eq_true rfl) ?_; unfold m_impl_Asks
  intro hb
  clear hb
  simp only [↓bk_bind, ↓bk_map, ↓bk_ite, ↓bk_some, ↓reduceIte, Nat.reduceEqDiff, Nat.reduceLT, Nat.reduceLeDiff, Nat.reduceAdd, Nat.reduceMul, reduceCtorEq, List.reduceReplicate, go_sem]
  apply callK_of (c_impl_InRange _ _ _)
  simp only [↓bk_bind, ↓bk_map, ↓bk_ite, ↓bk_some, ↓reduceIte, Nat.reduceEqDiff, Nat.reduceLT, Nat.reduceLeDiff, Nat.reduceAdd, Nat.reduceMul, reduceCtorEq, List.reduceReplicate, go_sem]
  try rfl
def m_spec_Asks : MC :=
(.seq (pr [.mv 2 (.c (.bool false))] [0])
(.seq (pr [.mv 3 (.s 0), .call 4 [] (.f n_spec_l1In) [.s 3, .c (.int .i64 1), .c (.int .i64 4)], .mv 2 (.s 4)] [2])
.ret))
theorem c_spec_Asks (k : Int) : Ctr Tryz.prog n_spec_Asks [aI k] [rB (asks k)] := by
  refine ctr_at (M := m_spec_Asks) (m := 0) (n := 5) (res := [(.tmp 2, [false])]) hmix Tryz.func187 rfl (by kernel_rfl) rfl (by kernel_rfl) (by kernel_rfl) (Nat.le_of_ble_eq_true rfl) ?_; unfold m_spec_Asks
  intro hb
  clear hb
  simp only [↓bk_bind, ↓bk_map, ↓bk_ite, ↓bk_some, ↓reduceIte, Nat.reduceEqDiff, Nat.reduceLT, Nat.reduceLeDiff, Nat.reduceAdd, Nat.reduceMul, reduceCtorEq, List.reduceReplicate, go_sem]
  apply callK_of (c_spec_l1In _ _ _)
  simp only [↓bk_bind, ↓bk_map, ↓bk_ite, ↓bk_some, ↓reduceIte, Nat.reduceEqDiff, Nat.reduceLT, Nat.reduceLeDiff, Nat.reduceAdd, Nat.reduceMul, reduceCtorEq, List.reduceReplicate, go_sem]
  try rfl
def entOk (e : GEntry) : Bool := asks e.Kind && (decide (0 ≤ e.Value ∧ e.Value ≤ 999) && (if e.Kind = 1 then isAddr e.Address else noAddr e.Address))
def entsOk (l : List GEntry) : Bool := fewAll 16 entOk l
def m_impl_AreEntries_1 : MC :=
(.seq (pr [.box 1 0 (.s 0), .mv 2 (.c (.bool false))] [1])
(.seq (.seq (pr [.fld 3 (.s 1) 0, .load 4 false 1 (.s 3), .bin 5 false .eql (.s 4) (.c (.int .i64 1))] [1,5])
(.cond (.s 5) (.seq (.reg [{ o := .fld 6 (.s 1) 1 }, { o := .load 7 true 3 (.s 6) }, { o := .call 8 [] (.f n_impl_IsAddress) [.s 7] }, { o := .un 9 .not (.s 8) }, { o := .mv 10 (.s 9) }, { o := .fld 11 (.s 1) 4, g := some (10, false) }, { o := .load 12 false 1 (.s 11), g := some (10, false) }, { o := .call 13 [] (.f n_impl_InRange) [.s 12, .c (.int .i64 0), .c (.int .i64 999)], g := some (10, false) }, { o := .un 14 .not (.s 13), g := some (10, false) }, { o := .pick 15 (.s 10) (.c (.bool true)) (.s 14) }, { o := .mv 2 (.s 15) }] [2])
.ret) .skip))
(.seq (.reg [{ o := .fld 16 (.s 1) 0 }, { o := .load 17 false 1 (.s 16) }, { o := .call 18 [] (.f n_impl_Asks) [.s 17] }, { o := .un 19 .not (.s 18) }, { o := .mv 20 (.s 19) }, { o := .fld 21 (.s 1) 1, g := some (20, false) }, { o := .load 22 true 3 (.s 21), g := some (20, false) }, { o := .build 23 [.pl (.sc (.int .i64 0)), .pl (.sc (.int .i64 0)), .pl (.sc (.int .i64 0))] [], g := some (20, false) }, { o := .eqA 24 true [.i .i64, .i .i64, .i .i64] (.s 22) (.s 23), g := some (20, false) }, { o := .pick 25 (.s 20) (.c (.bool true)) (.s 24) }, { o := .mv 26 (.s 25) }, { o := .fld 27 (.s 1) 4, g := some (26, false) }, { o := .load 28 false 1 (.s 27), g := some (26, false) }, { o := .call 29 [] (.f n_impl_InRange) [.s 28, .c (.int .i64 0), .c (.int .i64 999)], g := some (26, false) }, { o := .un 30 .not (.s 29), g := some (26, false) }, { o := .pick 31 (.s 26) (.c (.bool true)) (.s 30) }, { o := .mv 2 (.s 31) }] [2])
.ret)))
theorem c_impl_AreEntries_1 (e : GEntry) : Ctr Tryz.prog n_impl_AreEntries_1 [aS e.enc] [rB (!entOk e)] := by
  refine ctr_at (M := m_impl_AreEntries_1) (m := 1) (n := 32) (res := [(.tmp 2, [false])]) hmix Tryz.func210 rfl (by kernel_rfl) rfl (by kernel_rfl) (by kernel_rfl) (Nat.le_of_ble_eq_true rfl) ?_; unfold m_impl_AreEntries_1
  intro hb
  clear hb
  simp only [↓bk_bind, ↓bk_map, ↓bk_ite, ↓bk_some, ↓reduceIte, Nat.reduceEqDiff, Nat.reduceLT, Nat.reduceLeDiff, Nat.reduceAdd, Nat.reduceMul, reduceCtorEq, List.reduceReplicate, go_sem]
  repeat' first
    | (refine And.intro ?_ ?_ <;> intro h)
    | (apply callK_of (c_impl_IsAddress _); simp only [↓bk_bind, ↓bk_map, ↓bk_ite, ↓bk_some, ↓reduceIte, Nat.reduceEqDiff, Nat.reduceLT, Nat.reduceLeDiff, Nat.reduceAdd, Nat.reduceMul, reduceCtorEq, List.reduceReplicate, go_sem])
    | (apply callK_of (c_impl_Asks _); simp only [↓bk_bind, ↓bk_map, ↓bk_ite, ↓bk_some, ↓reduceIte, Nat.reduceEqDiff, Nat.reduceLT, Nat.reduceLeDiff, Nat.reduceAdd, Nat.reduceMul, reduceCtorEq, List.reduceReplicate, go_sem])
    | (apply callK_of (c_impl_InRange _ _ _); simp only [↓bk_bind, ↓bk_map, ↓bk_ite, ↓bk_some, ↓reduceIte, Nat.reduceEqDiff, Nat.reduceLT, Nat.reduceLeDiff, Nat.reduceAdd, Nat.reduceMul, reduceCtorEq, List.reduceReplicate, go_sem])
  all_goals (simp_all [entOk, asks, noAddr]; try omega)
def m_impl_AreEntries : MC :=
(.seq (pr [.mv 2 (.c (.bool false))] [0])
(.seq (.reg [{ o := .mv 3 (.s 0) }, { o := .len 4 false (.s 3) }, { o := .bin 5 false .leq (.s 4) (.c (.int .i64 16)) }, { o := .mv 6 (.s 5) }, { o := .mv 7 (.s 0), g := some (6, true) }, { o := .call 8 [] (.f n_slices_ContainsFunc_impl_Entry_impl_Entry) [.s 7, .f n_impl_AreEntries_1], g := some (6, true) }, { o := .un 9 .not (.s 8), g := some (6, true) }, { o := .pick 10 (.s 6) (.s 9) (.c (.bool false)) }, { o := .mv 2 (.s 10) }] [2])
.ret))
theorem c_impl_AreEntries (l : List GEntry) : Ctr Tryz.prog n_impl_AreEntries [aL 5 (l.map GEntry.enc)] [rB (entsOk l)] := by
  refine ctr_at (M := m_impl_AreEntries) (m := 0) (n := 11) (res := [(.tmp 2, [false])]) hmix Tryz.func172 rfl (by kernel_rfl) rfl (by kernel_rfl) (by kernel_rfl) (Nat.le_of_ble_eq_true rfl) ?_; unfold m_impl_AreEntries
  intro hb
  clear hb
  simp only [↓bk_bind, ↓bk_map, ↓bk_ite, ↓bk_some, ↓reduceIte, Nat.reduceEqDiff, Nat.reduceLT, Nat.reduceLeDiff, Nat.reduceAdd, Nat.reduceMul, reduceCtorEq, List.reduceReplicate, go_sem]
  refine ⟨fun h => ?_, fun h => fewAll_no (by omega)⟩
  refine callK_of (c_slices_ContainsFunc_Entry l _ [] (fun o => !entOk o) fun o _ => c_impl_AreEntries_1 o) ?_
  simp only [↓bk_bind, ↓bk_map, ↓bk_ite, ↓bk_some, ↓reduceIte, Nat.reduceEqDiff, Nat.reduceLT, Nat.reduceLeDiff, Nat.reduceAdd, Nat.reduceMul, reduceCtorEq, List.reduceReplicate, go_sem]
  exact fewAll_yes (by omega)
def m_spec_AreEntries : MC :=
(.seq (pr [.mv 2 (.c (.bool false))] [0])
(.seq (.seq (pr [.mv 3 (.c (.int .i64 0))] [0,3])
(.block 0 (.loop ([0,3], [0]) (.seq (.seq (pr [.mv 5 (.s 3), .mv 6 (.s 0), .len 7 false (.s 6), .bin 8 false .lss (.s 5) (.s 7)] [0,3,8])
(.cond (.s 8) .skip (.exit 0)))
(.seq (.block 1 (.seq (pr [.mv 11 (.s 0), .mv 12 (.s 3), .idx 13 5 (.s 11) (.s 12), .load 14 true 5 (.s 13), .alloc 4 0 [.pl (.sc (.int .i64 0)), .pl (.sc (.int .i64 0)), .pl (.sc (.int .i64 0)), .pl (.sc (.int .i64 0)), .pl (.sc (.int .i64 0))], .store 5 (.s 4) (.s 14)] [0,3,4])
(.seq (.reg [{ o := .fld 15 (.s 4) 0 }, { o := .load 16 false 1 (.s 15) }, { o := .call 17 [] (.f n_spec_Asks) [.s 16] }, { o := .un 18 .not (.s 17) }, { o := .mv 19 (.s 18) }, { o := .fld 20 (.s 4) 4, g := some (19, false) }, { o := .load 21 false 1 (.s 20), g := some (19, false) }, { o := .call 22 [] (.f n_spec_l1In) [.s 21, .c (.int .i64 0), .c (.int .i64 999)], g := some (19, false) }, { o := .un 23 .not (.s 22), g := some (19, false) }, { o := .pick 24 (.s 19) (.c (.bool true)) (.s 23) }, { o := .mv 25 (.s 24) }, { o := .fld 26 (.s 4) 0, g := some (25, false) }, { o := .load 27 false 1 (.s 26), g := some (25, false) }, { o := .bin 28 false .eql (.s 27) (.c (.int .i64 1)), g := some (25, false) }, { o := .mv 29 (.s 28), g := some (25, false) }, { o := .fld 30 (.s 4) 1, g := some (29, true) }, { o := .load 31 true 3 (.s 30), g := some (29, true) }, { o := .call 32 [] (.f n_spec_IsAddress) [.s 31], g := some (29, true) }, { o := .un 33 .not (.s 32), g := some (29, true) }, { o := .pick 34 (.s 29) (.s 33) (.c (.bool false)), g := some (25, false) }, { o := .pick 35 (.s 25) (.c (.bool true)) (.s 34) }, { o := .mv 36 (.s 35) }, { o := .fld 37 (.s 4) 0, g := some (36, false) }, { o := .load 38 false 1 (.s 37), g := some (36, false) }, { o := .bin 39 false .neq (.s 38) (.c (.int .i64 1)), g := some (36, false) }, { o := .mv 40 (.s 39), g := some (36, false) }, { o := .fld 41 (.s 4) 1, g := some (40, true) }, { o := .load 42 true 3 (.s 41), g := some (40, true) }, { o := .build 43 [.pl (.sc (.int .i64 0)), .pl (.sc (.int .i64 0)), .pl (.sc (.int .i64 0))] [], g := some (40, true) }, { o := .eqA 44 true [.i .i64, .i .i64, .i .i64] (.s 42) (.s 43), g := some (40, true) }, { o := .pick 45 (.s 40) (.s 44) (.c (.bool false)), g := some (36, false) }, { o := .pick 46 (.s 36) (.c (.bool true)) (.s 45) }] [0,3,46])
(.cond (.s 46) (.seq (pr [.mv 2 (.c (.bool false))] [2])
.ret) .skip))))
(pr [.mv 9 (.s 3), .bin 10 false .add (.s 9) (.c (.int .i64 1)), .mv 3 (.s 10)] [0,3]))))))
(.seq (pr [.mv 47 (.s 0), .len 48 false (.s 47), .bin 49 false .leq (.s 48) (.c (.int .i64 16)), .mv 2 (.s 49)] [2])
.ret)))
theorem c_spec_AreEntries (l : List GEntry) : Ctr Tryz.prog n_spec_AreEntries [aL 5 (l.map GEntry.enc)] [rB (entsOk l)] := by
  refine ctr_at (M := m_spec_AreEntries) (m := 1) (n := 50) (res := [(.tmp 2, [false])]) hmix Tryz.func129 rfl (by kernel_rfl) rfl (by kernel_rfl) (by kernel_rfl) (Nat.le_of_ble_eq_true rfl) ?_; unfold m_spec_AreEntries
  intro hb
  simp only [bdA, bdL, bdT, bdR, bdR_map, wfB_i64, wfB_bool, wfB_str, roomB, and_true, true_and, List.length_map] at hb
  have hl := hb.1
  clear hb
  simp only [↓bk_bind, ↓bk_map, ↓bk_ite, ↓bk_some, ↓reduceIte, Nat.reduceEqDiff, Nat.reduceLT, Nat.reduceLeDiff, Nat.reduceAdd, Nat.reduceMul, reduceCtorEq, List.reduceReplicate, go_sem]
  refine loopK_rng l (fun k => [(3, vI k)]) (fun k => []) (fun k => (l.take k).all entOk = true) hl ?_
  simp only [↓bk_bind, ↓bk_map, ↓bk_ite, ↓bk_some, ↓reduceIte, Nat.reduceEqDiff, Nat.reduceLT, Nat.reduceLeDiff, Nat.reduceAdd, Nat.reduceMul, reduceCtorEq, List.reduceReplicate, go_sem]
  refine ⟨?_, by simp, ?_, ?_⟩
  · simp only [↓bk_bind, ↓bk_map, ↓bk_ite, ↓bk_some, ↓reduceIte, Nat.reduceEqDiff, Nat.reduceLT, Nat.reduceLeDiff, Nat.reduceAdd, Nat.reduceMul, reduceCtorEq, List.reduceReplicate, go_sem]
  · intro k x hx hT h0 h1 hw
    have hy : entOk x = true → (l.take (k + 1)).all entOk = true := fun hn => all_step hx hT hn
    have hn : entOk x = false → false = entsOk l := fun hn => fewAll_at hx hn
    clear hT
    simp only [↓bk_bind, ↓bk_map, ↓bk_ite, ↓bk_some, ↓reduceIte, Nat.reduceEqDiff, Nat.reduceLT, Nat.reduceLeDiff, Nat.reduceAdd, Nat.reduceMul, reduceCtorEq, List.reduceReplicate, go_sem, bk_eq hx, h0, h1, hw]
    repeat' first
      | (refine And.intro ?_ ?_ <;> intro h)
      | (apply callK_of (c_spec_IsAddress _); simp only [↓bk_bind, ↓bk_map, ↓bk_ite, ↓bk_some, ↓reduceIte, Nat.reduceEqDiff, Nat.reduceLT, Nat.reduceLeDiff, Nat.reduceAdd, Nat.reduceMul, reduceCtorEq, List.reduceReplicate, go_sem, bk_eq hx, h0, h1, hw])
      | (apply callK_of (c_spec_Asks _); simp only [↓bk_bind, ↓bk_map, ↓bk_ite, ↓bk_some, ↓reduceIte, Nat.reduceEqDiff, Nat.reduceLT, Nat.reduceLeDiff, Nat.reduceAdd, Nat.reduceMul, reduceCtorEq, List.reduceReplicate, go_sem, bk_eq hx, h0, h1, hw])
      | (apply callK_of (c_spec_l1In _ _ _); simp only [↓bk_bind, ↓bk_map, ↓bk_ite, ↓bk_some, ↓reduceIte, Nat.reduceEqDiff, Nat.reduceLT, Nat.reduceLeDiff, Nat.reduceAdd, Nat.reduceMul, reduceCtorEq, List.reduceReplicate, go_sem, bk_eq hx, h0, h1, hw])
    all_goals first | (apply hy; clear hy hn hx hw; simp_all [entOk, noAddr]; done) | (apply hn; clear hy hn hx hw; simp_all [entOk, noAddr]; done) | (apply hn; clear hy hn hx hw; unfold entOk; rw [decide_eq_false (by assumption)]; simp; done)
  · intro h
    simp only [↓bk_bind, ↓bk_map, ↓bk_ite, ↓bk_some, ↓reduceIte, Nat.reduceEqDiff, Nat.reduceLT, Nat.reduceLeDiff, Nat.reduceAdd, Nat.reduceMul, reduceCtorEq, List.reduceReplicate, go_sem]
    rw [List.take_length] at h
    exact le_cast.trans (fewAll_end h)
def capOk (c : GCapture) : Bool := isAddr c.Address && (decide (0 ≤ c.Tick ∧ c.Tick ≤ 2000) && isRes c.Resource)
def capsOk (l : List GCapture) : Bool := fewAll 20 capOk l
def m_impl_AreCaptures_1 : MC :=
(.seq (pr [.box 1 0 (.s 0), .mv 2 (.c (.bool false))] [1])
(.seq (.reg [{ o := .fld 3 (.s 1) 0 }, { o := .load 4 true 3 (.s 3) }, { o := .call 5 [] (.f n_impl_IsAddress) [.s 4] }, { o := .un 6 .not (.s 5) }, { o := .mv 7 (.s 6) }, { o := .fld 8 (.s 1) 3, g := some (7, false) }, { o := .load 9 false 1 (.s 8), g := some (7, false) }, { o := .call 10 [] (.f n_impl_InRange) [.s 9, .c (.int .i64 0), .c (.int .i64 2000)], g := some (7, false) }, { o := .un 11 .not (.s 10), g := some (7, false) }, { o := .pick 12 (.s 7) (.c (.bool true)) (.s 11) }, { o := .mv 13 (.s 12) }, { o := .fld 14 (.s 1) 4, g := some (13, false) }, { o := .load 15 true 5 (.s 14), g := some (13, false) }, { o := .call 16 [] (.f n_impl_IsResource) [.s 15], g := some (13, false) }, { o := .un 17 .not (.s 16), g := some (13, false) }, { o := .pick 18 (.s 13) (.c (.bool true)) (.s 17) }, { o := .mv 2 (.s 18) }] [2])
.ret))
theorem c_impl_AreCaptures_1 (c : GCapture) : Ctr Tryz.prog n_impl_AreCaptures_1 [aS c.enc] [rB (!capOk c)] := by
  refine ctr_at (M := m_impl_AreCaptures_1) (m := 1) (n := 19) (res := [(.tmp 2, [false])]) hmix Tryz.func214 rfl (by kernel_rfl) rfl (by kernel_rfl) (by kernel_rfl) (Nat.le_of_ble_eq_true rfl) ?_; unfold m_impl_AreCaptures_1
  intro hb
  clear hb
  simp only [↓bk_bind, ↓bk_map, ↓bk_ite, ↓bk_some, ↓reduceIte, Nat.reduceEqDiff, Nat.reduceLT, Nat.reduceLeDiff, Nat.reduceAdd, Nat.reduceMul, reduceCtorEq, List.reduceReplicate, go_sem]
  repeat' first
    | (refine And.intro ?_ ?_ <;> intro h)
    | (apply callK_of (c_impl_IsAddress _); simp only [↓bk_bind, ↓bk_map, ↓bk_ite, ↓bk_some, ↓reduceIte, Nat.reduceEqDiff, Nat.reduceLT, Nat.reduceLeDiff, Nat.reduceAdd, Nat.reduceMul, reduceCtorEq, List.reduceReplicate, go_sem])
    | (apply callK_of (c_impl_IsResource _); simp only [↓bk_bind, ↓bk_map, ↓bk_ite, ↓bk_some, ↓reduceIte, Nat.reduceEqDiff, Nat.reduceLT, Nat.reduceLeDiff, Nat.reduceAdd, Nat.reduceMul, reduceCtorEq, List.reduceReplicate, go_sem])
    | (apply callK_of (c_impl_InRange _ _ _); simp only [↓bk_bind, ↓bk_map, ↓bk_ite, ↓bk_some, ↓reduceIte, Nat.reduceEqDiff, Nat.reduceLT, Nat.reduceLeDiff, Nat.reduceAdd, Nat.reduceMul, reduceCtorEq, List.reduceReplicate, go_sem])
  all_goals (simp_all [capOk]; try omega)
def m_impl_AreCaptures : MC :=
(.seq (pr [.mv 2 (.c (.bool false))] [0])
(.seq (.reg [{ o := .mv 3 (.s 0) }, { o := .len 4 false (.s 3) }, { o := .bin 5 false .leq (.s 4) (.c (.int .i64 20)) }, { o := .mv 6 (.s 5) }, { o := .mv 7 (.s 0), g := some (6, true) }, { o := .call 8 [] (.f n_slices_ContainsFunc_impl_Capture_impl_Capture) [.s 7, .f n_impl_AreCaptures_1], g := some (6, true) }, { o := .un 9 .not (.s 8), g := some (6, true) }, { o := .pick 10 (.s 6) (.s 9) (.c (.bool false)) }, { o := .mv 2 (.s 10) }] [2])
.ret))
theorem c_impl_AreCaptures (l : List GCapture) : Ctr Tryz.prog n_impl_AreCaptures [aL 9 (l.map GCapture.enc)] [rB (capsOk l)] := by
  refine ctr_at (M := m_impl_AreCaptures) (m := 0) (n := 11) (res := [(.tmp 2, [false])]) hmix Tryz.func173 rfl (by kernel_rfl) rfl (by kernel_rfl) (by kernel_rfl) (Nat.le_of_ble_eq_true rfl) ?_; unfold m_impl_AreCaptures
  intro hb
  clear hb
  simp only [↓bk_bind, ↓bk_map, ↓bk_ite, ↓bk_some, ↓reduceIte, Nat.reduceEqDiff, Nat.reduceLT, Nat.reduceLeDiff, Nat.reduceAdd, Nat.reduceMul, reduceCtorEq, List.reduceReplicate, go_sem]
  refine ⟨fun h => ?_, fun h => fewAll_no (by omega)⟩
  refine callK_of (c_slices_ContainsFunc_Capture l _ [] (fun o => !capOk o) fun o _ => c_impl_AreCaptures_1 o) ?_
  simp only [↓bk_bind, ↓bk_map, ↓bk_ite, ↓bk_some, ↓reduceIte, Nat.reduceEqDiff, Nat.reduceLT, Nat.reduceLeDiff, Nat.reduceAdd, Nat.reduceMul, reduceCtorEq, List.reduceReplicate, go_sem]
  exact fewAll_yes (by omega)
def m_spec_AreCaptures : MC :=
(.seq (pr [.mv 2 (.c (.bool false))] [0])
(.seq (.seq (pr [.mv 3 (.c (.int .i64 0))] [0,3])
(.block 0 (.loop ([0,3], []) (.seq (.seq (pr [.mv 4 (.s 3), .mv 5 (.s 0), .len 6 false (.s 5), .bin 7 false .lss (.s 4) (.s 6)] [0,3,7])
(.cond (.s 7) .skip (.exit 0)))
(.seq (.block 1 (.seq (.reg [{ o := .mv 10 (.s 0) }, { o := .mv 11 (.s 3) }, { o := .idx 12 9 (.s 10) (.s 11) }, { o := .fld 13 (.s 12) 0 }, { o := .load 14 true 3 (.s 13) }, { o := .call 15 [] (.f n_spec_IsAddress) [.s 14] }, { o := .un 16 .not (.s 15) }, { o := .mv 17 (.s 16) }, { o := .mv 18 (.s 0), g := some (17, false) }, { o := .mv 19 (.s 3), g := some (17, false) }, { o := .idx 20 9 (.s 18) (.s 19), g := some (17, false) }, { o := .fld 21 (.s 20) 3, g := some (17, false) }, { o := .load 22 false 1 (.s 21), g := some (17, false) }, { o := .call 23 [] (.f n_spec_l1In) [.s 22, .c (.int .i64 0), .c (.int .i64 2000)], g := some (17, false) }, { o := .un 24 .not (.s 23), g := some (17, false) }, { o := .pick 25 (.s 17) (.c (.bool true)) (.s 24) }, { o := .mv 26 (.s 25) }, { o := .mv 27 (.s 0), g := some (26, false) }, { o := .mv 28 (.s 3), g := some (26, false) }, { o := .idx 29 9 (.s 27) (.s 28), g := some (26, false) }, { o := .fld 30 (.s 29) 4, g := some (26, false) }, { o := .load 31 true 5 (.s 30), g := some (26, false) }, { o := .call 32 [] (.f n_spec_IsResource) [.s 31], g := some (26, false) }, { o := .un 33 .not (.s 32), g := some (26, false) }, { o := .pick 34 (.s 26) (.c (.bool true)) (.s 33) }] [0,3,34])
(.cond (.s 34) (.seq (pr [.mv 2 (.c (.bool false))] [2])
.ret) .skip)))
(pr [.mv 8 (.s 3), .bin 9 false .add (.s 8) (.c (.int .i64 1)), .mv 3 (.s 9)] [0,3]))))))
(.seq (pr [.mv 35 (.s 0), .len 36 false (.s 35), .bin 37 false .leq (.s 36) (.c (.int .i64 20)), .mv 2 (.s 37)] [2])
.ret)))
theorem c_spec_AreCaptures (l : List GCapture) : Ctr Tryz.prog n_spec_AreCaptures [aL 9 (l.map GCapture.enc)] [rB (capsOk l)] := by
  refine ctr_at (M := m_spec_AreCaptures) (m := 0) (n := 38) (res := [(.tmp 2, [false])]) hmix Tryz.func130 rfl (by kernel_rfl) rfl (by kernel_rfl) (by kernel_rfl) (Nat.le_of_ble_eq_true rfl) ?_; unfold m_spec_AreCaptures
  intro hb
  simp only [bdA, bdL, bdT, bdR, bdR_map, wfB_i64, wfB_bool, wfB_str, roomB, and_true, true_and, List.length_map] at hb
  have hl := hb.1
  clear hb
  simp only [↓bk_bind, ↓bk_map, ↓bk_ite, ↓bk_some, ↓reduceIte, Nat.reduceEqDiff, Nat.reduceLT, Nat.reduceLeDiff, Nat.reduceAdd, Nat.reduceMul, reduceCtorEq, List.reduceReplicate, go_sem]
  refine loopK_rng l (fun k => [(3, vI k)]) (fun k => []) (fun k => (l.take k).all capOk = true) hl ?_
  simp only [↓bk_bind, ↓bk_map, ↓bk_ite, ↓bk_some, ↓reduceIte, Nat.reduceEqDiff, Nat.reduceLT, Nat.reduceLeDiff, Nat.reduceAdd, Nat.reduceMul, reduceCtorEq, List.reduceReplicate, go_sem]
  refine ⟨?_, by simp, ?_, ?_⟩
  · simp only [↓bk_bind, ↓bk_map, ↓bk_ite, ↓bk_some, ↓reduceIte, Nat.reduceEqDiff, Nat.reduceLT, Nat.reduceLeDiff, Nat.reduceAdd, Nat.reduceMul, reduceCtorEq, List.reduceReplicate, go_sem]
  · intro k x hx hT h0 h1 hw
    have hy : capOk x = true → (l.take (k + 1)).all capOk = true := fun hn => all_step hx hT hn
    have hn : capOk x = false → false = capsOk l := fun hn => fewAll_at hx hn
    clear hT
    simp only [↓bk_bind, ↓bk_map, ↓bk_ite, ↓bk_some, ↓reduceIte, Nat.reduceEqDiff, Nat.reduceLT, Nat.reduceLeDiff, Nat.reduceAdd, Nat.reduceMul, reduceCtorEq, List.reduceReplicate, go_sem, bk_eq hx, h0, h1, hw]
    repeat' first
      | (refine And.intro ?_ ?_ <;> intro h)
      | (apply callK_of (c_spec_IsAddress _); simp only [↓bk_bind, ↓bk_map, ↓bk_ite, ↓bk_some, ↓reduceIte, Nat.reduceEqDiff, Nat.reduceLT, Nat.reduceLeDiff, Nat.reduceAdd, Nat.reduceMul, reduceCtorEq, List.reduceReplicate, go_sem, bk_eq hx, h0, h1, hw])
      | (apply callK_of (c_spec_IsResource _); simp only [↓bk_bind, ↓bk_map, ↓bk_ite, ↓bk_some, ↓reduceIte, Nat.reduceEqDiff, Nat.reduceLT, Nat.reduceLeDiff, Nat.reduceAdd, Nat.reduceMul, reduceCtorEq, List.reduceReplicate, go_sem, bk_eq hx, h0, h1, hw])
      | (apply callK_of (c_spec_l1In _ _ _); simp only [↓bk_bind, ↓bk_map, ↓bk_ite, ↓bk_some, ↓reduceIte, Nat.reduceEqDiff, Nat.reduceLT, Nat.reduceLeDiff, Nat.reduceAdd, Nat.reduceMul, reduceCtorEq, List.reduceReplicate, go_sem, bk_eq hx, h0, h1, hw])
    all_goals first | (apply hy; clear hy hn hx hw; simp_all [capOk]; done) | (apply hn; clear hy hn hx hw; simp_all [capOk]; done) | (apply hn; clear hy hn hx hw; unfold capOk; rw [decide_eq_false (by assumption)]; simp; done)
  · intro h
    simp only [↓bk_bind, ↓bk_map, ↓bk_ite, ↓bk_some, ↓reduceIte, Nat.reduceEqDiff, Nat.reduceLT, Nat.reduceLeDiff, Nat.reduceAdd, Nat.reduceMul, reduceCtorEq, List.reduceReplicate, go_sem]
    rw [List.take_length] at h
    exact le_cast.trans (fewAll_end h)
end Go.Proofs.YtbnbgekjjbpljaaGreatR
namespace Go.Proofs.YtbnbgekjjbpljaaGreatR
open Go Go.RowKit Go.Proofs
set_option linter.unusedSimpArgs false
set_option linter.unusedVariables false
def m_impl_ScriptInts : MC :=
(.seq (pr [.nilo 2 0 1] [0])
(.seq (pr [.nilo 3 0 1] [0,3])
(.seq (.seq (pr [.mv 6 (.s 0), .len 7 false (.s 6), .mv 8 (.c (.int .i64 0))] [3,6,7,8])
(.block 0 (.loop ([3,6,7,8], [1,2]) (.seq (pr [.bin 9 false .lss (.s 8) (.s 7)] [3,6,7,8,9])
(.seq (.cond (.s 9) .skip (.exit 0))
(.seq (.block 1 (.seq (pr [.idx 10 4 (.s 6) (.s 8), .load 11 true 4 (.s 10), .alloc 5 1 [.pl (.sc (.int .i64 0)), .pl (.sc (.int .i64 0)), .pl (.sc (.int .i64 0)), .pl (.sc (.int .i64 0))], .store 4 (.s 5) (.s 11)] [3,5,6,7,8])
(pr [.mv 12 (.s 3), .fld 13 (.s 5) 0, .load 14 false 1 (.s 13), .fld 15 (.s 5) 1, .load 16 false 1 (.s 15), .fld 17 (.s 5) 2, .load 18 false 1 (.s 17), .fld 19 (.s 5) 3, .load 20 false 1 (.s 19), .lit 21 2 1 8 [.s 14, .s 16, .s 18, .s 20], .app 22 0 1 8 (.s 12) (.s 21), .mv 3 (.s 22)] [3,6,7,8])))
(pr [.bin 23 false .add (.s 8) (.c (.int .i64 1)), .mv 8 (.s 23)] [3,6,7,8])))))))
(.seq (pr [.mv 24 (.s 3), .mv 2 (.s 24)] [2])
.ret))))
theorem c_impl_ScriptInts (xs : List GOp) (hN : xs.length ≤ 1099511627776) : Ctr Tryz.prog n_impl_ScriptInts [aL 4 (xs.map GOp.enc)] [rL 1 ((scriptInts xs).map encI)] := by
  refine ctr_at (M := m_impl_ScriptInts) (m := 3) (n := 25) (res := [(.tmp 2, [true])]) hmix Tryz.func219 rfl (by kernel_rfl) rfl (by kernel_rfl) (by kernel_rfl) (Nat.le_of_ble_eq_true rfl) ?_; unfold m_impl_ScriptInts
  intro hb
  simp only [bdA, bdL, bdT, bdR, bdR_map, wfB_i64, wfB_bool, wfB_str, roomB, and_true, true_and, List.length_map] at hb
  obtain ⟨hl, -⟩ := hb
  simp only [↓bk_bind, ↓bk_map, ↓bk_ite, ↓bk_some, ↓reduceIte, Nat.reduceEqDiff, Nat.reduceLT, Nat.reduceLeDiff, Nat.reduceAdd, Nat.reduceMul, reduceCtorEq, List.reduceReplicate, go_sem]
  refine loopK_rng xs (fun k => [(3, .val false [.ref 0 0 1 0 (scriptInts (xs.take k)).length]), (8, vI k)]) (fun k => [(0, ⟨0, .row true 1 ((scriptInts (xs.take k)).map encI)⟩)]) (fun _ => True) hl ?_
  simp only [↓bk_bind, ↓bk_map, ↓bk_ite, ↓bk_some, ↓reduceIte, Nat.reduceEqDiff, Nat.reduceLT, Nat.reduceLeDiff, Nat.reduceAdd, Nat.reduceMul, reduceCtorEq, List.reduceReplicate, go_sem]
  refine ⟨?_, trivial, ?_, ?_⟩
  · simp only [↓bk_bind, ↓bk_map, ↓bk_ite, ↓bk_some, ↓reduceIte, Nat.reduceEqDiff, Nat.reduceLT, Nat.reduceLeDiff, Nat.reduceAdd, Nat.reduceMul, reduceCtorEq, List.reduceReplicate, go_sem, List.take_zero]
    exact ⟨rfl, rfl⟩
  · intro k x hx _ h0 h1 hw
    have hlt := List.length_take_le k xs
    simp only [↓bk_bind, ↓bk_map, ↓bk_ite, ↓bk_some, ↓reduceIte, Nat.reduceEqDiff, Nat.reduceLT, Nat.reduceLeDiff, Nat.reduceAdd, Nat.reduceMul, reduceCtorEq, List.reduceReplicate, go_sem, bk_eq hx, h0, h1, hw, scriptInts_snoc hx, List.length_append, scriptInts_len]
    refine ⟨⟨by simp, by decide⟩, by simp only [roomB]; omega, by simp [encI]⟩
  · intro _
    simp only [↓bk_bind, ↓bk_map, ↓bk_ite, ↓bk_some, ↓reduceIte, Nat.reduceEqDiff, Nat.reduceLT, Nat.reduceLeDiff, Nat.reduceAdd, Nat.reduceMul, reduceCtorEq, List.reduceReplicate, go_sem, List.take_length]
def m_impl_SealContainer : MC :=
(.seq (pr [.alloc 6 0 [.emp 4, .emp 5, .emp 9, .pl (.sc (.int .i64 0))]] [0,1,2,6])
(.seq (pr [.nilo 7 1 1, .nilo 8 2 1] [0,1,2,6,7,8])
(.seq (.seq (pr [.mv 13 (.s 1), .len 14 false (.s 13), .mv 15 (.c (.int .i64 0))] [0,1,2,6,7,8,13,14,15])
(.block 0 (.loop ([0,1,2,6,7,8,13,14,15], [3,4,5,6,7,11,12]) (.seq (pr [.bin 16 false .lss (.s 15) (.s 14)] [0,1,2,6,7,8,13,14,15,16])
(.seq (.cond (.s 16) .skip (.exit 0))
(.seq (.block 1 (.seq (pr [.idx 17 5 (.s 13) (.s 15), .load 18 true 5 (.s 17), .alloc 10 3 [.pl (.sc (.int .i64 0)), .pl (.sc (.int .i64 0)), .pl (.sc (.int .i64 0)), .pl (.sc (.int .i64 0)), .pl (.sc (.int .i64 0))], .store 5 (.s 10) (.s 18)] [0,1,2,6,7,8,10,13,14,15])
(pr [.mv 19 (.s 7), .fld 20 (.s 10) 0, .load 21 false 1 (.s 20), .fld 22 (.s 10) 1, .fld 23 (.s 22) 0, .load 24 false 1 (.s 23), .fld 25 (.s 10) 1, .fld 26 (.s 25) 1, .load 27 false 1 (.s 26), .fld 28 (.s 10) 1, .fld 29 (.s 28) 2, .load 30 false 1 (.s 29), .fld 31 (.s 10) 4, .load 32 false 1 (.s 31), .lit 33 4 1 8 [.s 21, .s 24, .s 27, .s 30, .s 32], .app 34 1 1 8 (.s 19) (.s 33), .mv 7 (.s 34)] [0,1,2,6,7,8,13,14,15])))
(pr [.bin 35 false .add (.s 15) (.c (.int .i64 1)), .mv 15 (.s 35)] [0,1,2,6,7,8,13,14,15])))))))
(.seq (.seq (pr [.mv 36 (.s 2), .len 37 false (.s 36), .mv 38 (.c (.int .i64 0))] [0,1,2,6,7,8,36,37,38])
(.block 2 (.loop ([0,1,2,6,7,8,36,37,38], [3,4,5,6,7,11,12]) (.seq (pr [.bin 39 false .lss (.s 38) (.s 37)] [0,1,2,6,7,8,36,37,38,39])
(.seq (.cond (.s 39) .skip (.exit 2))
(.seq (.block 3 (.seq (pr [.idx 40 9 (.s 36) (.s 38), .load 41 true 9 (.s 40), .alloc 12 5 [.pl (.sc (.int .i64 0)), .pl (.sc (.int .i64 0)), .pl (.sc (.int .i64 0)), .pl (.sc (.int .i64 0)), .pl (.sc (.int .i64 0)), .emp 1, .pl (.sc (.int .i64 0)), .pl (.sc (.int .i64 0)), .pl (.sc (.int .i64 0))], .store 9 (.s 12) (.s 41)] [0,1,2,6,7,8,12,36,37,38])
(pr [.mv 42 (.s 8), .load 43 true 9 (.s 12), .call 44 [6] (.f n_impl_CaptureInts) [.s 43], .call 45 [] (.f n_impl_Hash) [.s 44], .lit 46 7 1 8 [.s 45], .app 47 2 1 8 (.s 42) (.s 46), .mv 8 (.s 47)] [0,1,2,6,7,8,36,37,38])))
(pr [.bin 48 false .add (.s 38) (.c (.int .i64 1)), .mv 38 (.s 48)] [0,1,2,6,7,8,36,37,38])))))))
(.seq (pr [.mv 49 (.s 0), .call 50 [8] (.f n_slices_Clone_impl_Op_impl_Op) [.s 49], .mv 51 (.s 1), .call 52 [9] (.f n_slices_Clone_impl_Entry_impl_Entry) [.s 51], .mv 53 (.s 2), .call 54 [10] (.f n_impl_copyCaptures) [.s 53], .mv 55 (.s 0), .call 56 [11] (.f n_impl_ScriptInts) [.s 55], .call 57 [] (.f n_impl_Hash) [.s 56], .mv 58 (.s 7), .call 59 [] (.f n_impl_Hash) [.s 58], .mv 60 (.s 8), .call 61 [] (.f n_impl_RootOf) [.s 60], .lit 62 12 1 8 [.s 57, .s 59, .s 61], .call 63 [] (.f n_impl_RootOf) [.s 62], .build 64 [.emp 4, .emp 5, .emp 9, .pl (.sc (.int .i64 0))] [(0, 1, .s 50), (1, 1, .s 52), (2, 1, .s 54), (3, 1, .s 63)], .store 4 (.s 6) (.s 64)] [6])
.ret)))))
theorem c_impl_SealContainer (l : List GOp) (es : List GEntry) (cs : List GCapture) (h1 : l.length ≤ 1073741824) (h2 : es.length ≤ 1073741824) (hs : cs.length + (cs.map GCapture.size).sum ≤ 1073741824) :
    Ctr Tryz.prog n_impl_SealContainer [aL 4 (l.map GOp.enc), aL 5 (es.map GEntry.enc), aL 9 (cs.map GCapture.enc)] [rS (GContainer.enc ⟨l, es, cs, sealRoot l es cs⟩)] := by
  refine ctr_at (M := m_impl_SealContainer) (m := 13) (n := 65) (res := [(.cell 6 true 4, [true, true, true, false])]) hmix Tryz.func174 rfl (by kernel_rfl) rfl (by kernel_rfl) (by kernel_rfl) (Nat.le_of_ble_eq_true rfl) ?_; unfold m_impl_SealContainer
  intro hb
  clear hb
  simp only [↓bk_bind, ↓bk_map, ↓bk_ite, ↓bk_some, ↓reduceIte, Nat.reduceEqDiff, Nat.reduceLT, Nat.reduceLeDiff, Nat.reduceAdd, Nat.reduceMul, reduceCtorEq, List.reduceReplicate, go_sem]
  refine loopK_rng es (fun k => [(7, .val false [.ref 1 0 1 0 (entInts (es.take k)).length]), (15, vI k)]) (fun k => [(1, ⟨0, .row true 1 ((entInts (es.take k)).map encI)⟩)]) (fun _ => True) (by simp only [roomB]; omega) ?_
  simp only [↓bk_bind, ↓bk_map, ↓bk_ite, ↓bk_some, ↓reduceIte, Nat.reduceEqDiff, Nat.reduceLT, Nat.reduceLeDiff, Nat.reduceAdd, Nat.reduceMul, reduceCtorEq, List.reduceReplicate, go_sem]
  refine ⟨?_, trivial, ?_, ?_⟩
  · simp only [↓bk_bind, ↓bk_map, ↓bk_ite, ↓bk_some, ↓reduceIte, Nat.reduceEqDiff, Nat.reduceLT, Nat.reduceLeDiff, Nat.reduceAdd, Nat.reduceMul, reduceCtorEq, List.reduceReplicate, go_sem, List.take_zero]
    exact ⟨rfl, rfl⟩
  · intro k x hx _ h0 h1 hw
    have hlt := List.length_take_le k es
    simp only [↓bk_bind, ↓bk_map, ↓bk_ite, ↓bk_some, ↓reduceIte, Nat.reduceEqDiff, Nat.reduceLT, Nat.reduceLeDiff, Nat.reduceAdd, Nat.reduceMul, reduceCtorEq, List.reduceReplicate, go_sem, bk_eq hx, h0, h1, hw, entInts_snoc hx, List.length_append, entInts_len]
    refine ⟨⟨by simp, by decide⟩, by simp only [roomB]; omega, by simp [encI]⟩
  · intro _
    simp only [↓bk_bind, ↓bk_map, ↓bk_ite, ↓bk_some, ↓reduceIte, Nat.reduceEqDiff, Nat.reduceLT, Nat.reduceLeDiff, Nat.reduceAdd, Nat.reduceMul, reduceCtorEq, List.reduceReplicate, go_sem, List.take_length]
    refine loopK_rng cs (fun k => [(8, .val false [.ref 2 0 1 0 (capHashes (cs.take k)).length]), (38, vI k)]) (fun k => [(2, ⟨0, .row true 1 ((capHashes (cs.take k)).map encI)⟩)]) (fun _ => True) (by simp only [roomB]; omega) ?_
    simp only [↓bk_bind, ↓bk_map, ↓bk_ite, ↓bk_some, ↓reduceIte, Nat.reduceEqDiff, Nat.reduceLT, Nat.reduceLeDiff, Nat.reduceAdd, Nat.reduceMul, reduceCtorEq, List.reduceReplicate, go_sem]
    refine ⟨?_, trivial, ?_, ?_⟩
    · simp only [↓bk_bind, ↓bk_map, ↓bk_ite, ↓bk_some, ↓reduceIte, Nat.reduceEqDiff, Nat.reduceLT, Nat.reduceLeDiff, Nat.reduceAdd, Nat.reduceMul, reduceCtorEq, List.reduceReplicate, go_sem, List.take_zero]
      exact ⟨rfl, rfl⟩
    · intro k x hx _ h0 h1 hw
      have hlt := List.length_take_le k cs
      simp only [↓bk_bind, ↓bk_map, ↓bk_ite, ↓bk_some, ↓reduceIte, Nat.reduceEqDiff, Nat.reduceLT, Nat.reduceLeDiff, Nat.reduceAdd, Nat.reduceMul, reduceCtorEq, List.reduceReplicate, go_sem, bk_eq hx, h0, h1, hw, capHashes_snoc hx, List.length_append]
      apply callK_of (c_impl_CaptureInts x (body_le hx hs))
      simp only [↓bk_bind, ↓bk_map, ↓bk_ite, ↓bk_some, ↓reduceIte, Nat.reduceEqDiff, Nat.reduceLT, Nat.reduceLeDiff, Nat.reduceAdd, Nat.reduceMul, reduceCtorEq, List.reduceReplicate, go_sem, hw]
      try intro _
      apply callK_of (c_impl_Hash (capInts x))
      simp only [↓bk_bind, ↓bk_map, ↓bk_ite, ↓bk_some, ↓reduceIte, Nat.reduceEqDiff, Nat.reduceLT, Nat.reduceLeDiff, Nat.reduceAdd, Nat.reduceMul, reduceCtorEq, List.reduceReplicate, go_sem, hw]
      simp only [roomB, capHashes_len]
      exact ⟨by omega, by omega, fun _ => by simp [encI]⟩
    · intro _
      simp only [↓bk_bind, ↓bk_map, ↓bk_ite, ↓bk_some, ↓reduceIte, Nat.reduceEqDiff, Nat.reduceLT, Nat.reduceLeDiff, Nat.reduceAdd, Nat.reduceMul, reduceCtorEq, List.reduceReplicate, go_sem, List.take_length]
      apply callK_of (c_slices_Clone_Op l (by omega))
      simp only [↓bk_bind, ↓bk_map, ↓bk_ite, ↓bk_some, ↓reduceIte, Nat.reduceEqDiff, Nat.reduceLT, Nat.reduceLeDiff, Nat.reduceAdd, Nat.reduceMul, reduceCtorEq, List.reduceReplicate, go_sem]
      intros
      apply callK_of (c_slices_Clone_Entry es (by omega))
      simp only [↓bk_bind, ↓bk_map, ↓bk_ite, ↓bk_some, ↓reduceIte, Nat.reduceEqDiff, Nat.reduceLT, Nat.reduceLeDiff, Nat.reduceAdd, Nat.reduceMul, reduceCtorEq, List.reduceReplicate, go_sem]
      intros
      apply callK_of (c_impl_copyCaptures cs hs)
      simp only [↓bk_bind, ↓bk_map, ↓bk_ite, ↓bk_some, ↓reduceIte, Nat.reduceEqDiff, Nat.reduceLT, Nat.reduceLeDiff, Nat.reduceAdd, Nat.reduceMul, reduceCtorEq, List.reduceReplicate, go_sem]
      intros
      apply callK_of (c_impl_ScriptInts l (by omega))
      simp only [↓bk_bind, ↓bk_map, ↓bk_ite, ↓bk_some, ↓reduceIte, Nat.reduceEqDiff, Nat.reduceLT, Nat.reduceLeDiff, Nat.reduceAdd, Nat.reduceMul, reduceCtorEq, List.reduceReplicate, go_sem]
      try intros
      apply callK_of (c_impl_Hash (scriptInts l))
      simp only [↓bk_bind, ↓bk_map, ↓bk_ite, ↓bk_some, ↓reduceIte, Nat.reduceEqDiff, Nat.reduceLT, Nat.reduceLeDiff, Nat.reduceAdd, Nat.reduceMul, reduceCtorEq, List.reduceReplicate, go_sem]
      try intros
      apply callK_of (c_impl_Hash (entInts es))
      simp only [↓bk_bind, ↓bk_map, ↓bk_ite, ↓bk_some, ↓reduceIte, Nat.reduceEqDiff, Nat.reduceLT, Nat.reduceLeDiff, Nat.reduceAdd, Nat.reduceMul, reduceCtorEq, List.reduceReplicate, go_sem]
      try intros
      apply callK_of (c_impl_RootOf _ (capHashes cs) (Nat.le_refl _))
      simp only [↓bk_bind, ↓bk_map, ↓bk_ite, ↓bk_some, ↓reduceIte, Nat.reduceEqDiff, Nat.reduceLT, Nat.reduceLeDiff, Nat.reduceAdd, Nat.reduceMul, reduceCtorEq, List.reduceReplicate, go_sem]
      try intros
      refine ⟨by decide, ?_⟩
      apply callK_of (c_impl_RootOf _ [hashL (scriptInts l), hashL (entInts es), rootL (capHashes cs)] (Nat.le_refl _))
      simp only [↓bk_bind, ↓bk_map, ↓bk_ite, ↓bk_some, ↓reduceIte, Nat.reduceEqDiff, Nat.reduceLT, Nat.reduceLeDiff, Nat.reduceAdd, Nat.reduceMul, reduceCtorEq, List.reduceReplicate, go_sem]
      intros
      rfl
def contOk (x : GContainer) : Bool := scriptOk x.Script && (entsOk x.Entries && (capsOk x.Captures && (sealRoot x.Script x.Entries x.Captures == x.Root)))
def m_impl_IsContainer : MC :=
(.seq (pr [.box 1 0 (.s 0), .mv 2 (.c (.bool false))] [1])
(.seq (.dreg [{ o := .fld 3 (.s 1) 0 }, { o := .load 4 false 1 (.s 3), bf := [0] }, { o := .call 5 [] (.f n_impl_IsScript) [.s 4], bf := [0,1] }, { o := .mv 6 (.s 5), bf := [0,1,2] }, { o := .fld 7 (.s 1) 1, g := some (6, true), bf := [0,1,2,3] }, { o := .load 8 false 1 (.s 7), g := some (6, true), bf := [0,1,2,3,4] }, { o := .call 9 [] (.f n_impl_AreEntries) [.s 8], g := some (6, true), bf := [0,1,2,3,4,5] }, { o := .pick 10 (.s 6) (.s 9) (.c (.bool false)), bf := [0,1,2,3,4,5,6] }, { o := .mv 11 (.s 10), bf := [0,1,2,3,4,5,6,7] }, { o := .fld 12 (.s 1) 2, g := some (11, true), bf := [0,1,2,3,4,5,6,7,8] }, { o := .load 13 false 1 (.s 12), g := some (11, true), bf := [0,1,2,3,4,5,6,7,8,9] }, { o := .call 14 [] (.f n_impl_AreCaptures) [.s 13], g := some (11, true), bf := [0,1,2,3,4,5,6,7,8,9,10] }, { o := .pick 15 (.s 11) (.s 14) (.c (.bool false)), bf := [0,1,2,3,4,5,6,7,8,9,10,11] }, { o := .mv 16 (.s 15), bf := [0,1,2,3,4,5,6,7,8,9,10,11,12] }, { o := .fld 17 (.s 1) 0, g := some (16, true), hs := [19,20,21,22,25,26], bf := [0,1,2,3,4,5,6,7,8,9,10,11,12,13] }, { o := .load 18 false 1 (.s 17), g := some (16, true), hs := [19,20,21,22,25,26], bf := [0,1,2,3,4,5,6,7,8,9,10,11,12,13,14] }, { o := .fld 19 (.s 1) 1, g := some (16, true), hs := [17,18,21,22,25,26], bf := [0,1,2,3,4,5,6,7,8,9,10,11,12,13] }, { o := .load 20 false 1 (.s 19), g := some (16, true), hs := [17,18,21,22,25,26], bf := [0,1,2,3,4,5,6,7,8,9,10,11,12,13,16] }, { o := .fld 21 (.s 1) 2, g := some (16, true), hs := [17,18,19,20,25,26], bf := [0,1,2,3,4,5,6,7,8,9,10,11,12,13] }, { o := .load 22 false 1 (.s 21), g := some (16, true), hs := [17,18,19,20,25,26], bf := [0,1,2,3,4,5,6,7,8,9,10,11,12,13,18] }, { o := .call 23 [1, 2, 3] (.f n_impl_SealContainer) [.s 18, .s 20, .s 22], g := some (16, true), hs := [25,26], ws := [1,2,3], bf := [0,1,2,3,4,5,6,7,8,9,10,11,12,13,14,15,16,17,18,19] }, { o := .fldv 24 (.s 23) 3 1 false, g := some (16, true), hs := [25,26], bf := [0,1,2,3,4,5,6,7,8,9,10,11,12,13,14,15,16,17,18,19,20] }, { o := .fld 25 (.s 1) 3, g := some (16, true), hs := [17,18,19,20,21,22,23,24], ho := [1,2,3], bf := [0,1,2,3,4,5,6,7,8,9,10,11,12,13] }, { o := .load 26 false 1 (.s 25), g := some (16, true), hs := [17,18,19,20,21,22,23,24], ho := [1,2,3], bf := [0,1,2,3,4,5,6,7,8,9,10,11,12,13,22] }, { o := .bin 27 false .eql (.s 24) (.s 26), g := some (16, true), bf := [0,1,2,3,4,5,6,7,8,9,10,11,12,13,14,15,16,17,18,19,20,21,22,23] }, { o := .pick 28 (.s 16) (.s 27) (.c (.bool false)), bf := [0,1,2,3,4,5,6,7,8,9,10,11,12,13,14,15,16,17,18,19,20,21,22,23,24] }, { o := .mv 2 (.s 28), bf := [0,1,2,3,4,5,6,7,8,9,10,11,12,13,14,15,16,17,18,19,20,21,22,23,24,25] }] [2])
.ret))
theorem c_impl_IsContainer (x : GContainer) (hs : x.size ≤ 1073741824) : Ctr Tryz.prog n_impl_IsContainer [aS x.enc] [rB (contOk x)] := by
  refine ctr_at (M := m_impl_IsContainer) (m := 4) (n := 29) (res := [(.tmp 2, [false])]) hmix Tryz.func116 rfl (by kernel_rfl) rfl (by kernel_rfl) (by kernel_rfl) (Nat.le_of_ble_eq_true rfl) ?_; unfold m_impl_IsContainer
  intro hb
  clear hb
  simp only [GContainer.size] at hs
  simp only [↓bk_bind, ↓bk_map, ↓bk_ite, ↓bk_some, ↓reduceIte, Nat.reduceEqDiff, Nat.reduceLT, Nat.reduceLeDiff, Nat.reduceAdd, Nat.reduceMul, reduceCtorEq, List.reduceReplicate, go_sem]
  repeat' first
    | (refine And.intro ?_ ?_ <;> intro h)
    | (apply callK_of (c_impl_IsScript _); simp only [↓bk_bind, ↓bk_map, ↓bk_ite, ↓bk_some, ↓reduceIte, Nat.reduceEqDiff, Nat.reduceLT, Nat.reduceLeDiff, Nat.reduceAdd, Nat.reduceMul, reduceCtorEq, List.reduceReplicate, go_sem])
    | (apply callK_of (c_impl_AreEntries _); simp only [↓bk_bind, ↓bk_map, ↓bk_ite, ↓bk_some, ↓reduceIte, Nat.reduceEqDiff, Nat.reduceLT, Nat.reduceLeDiff, Nat.reduceAdd, Nat.reduceMul, reduceCtorEq, List.reduceReplicate, go_sem])
    | (apply callK_of (c_impl_AreCaptures _); simp only [↓bk_bind, ↓bk_map, ↓bk_ite, ↓bk_some, ↓reduceIte, Nat.reduceEqDiff, Nat.reduceLT, Nat.reduceLeDiff, Nat.reduceAdd, Nat.reduceMul, reduceCtorEq, List.reduceReplicate, go_sem])
    | (apply callK_of (c_impl_SealContainer x.Script x.Entries x.Captures (by omega) (by omega) (by omega)); simp only [↓bk_bind, ↓bk_map, ↓bk_ite, ↓bk_some, ↓reduceIte, Nat.reduceEqDiff, Nat.reduceLT, Nat.reduceLeDiff, Nat.reduceAdd, Nat.reduceMul, reduceCtorEq, List.reduceReplicate, go_sem]; intros)
  all_goals (unfold contOk; simp_all)
def m_spec_IsContainer : MC :=
(.seq (pr [.box 1 0 (.s 0), .mv 2 (.c (.bool false))] [1])
(.seq (.dreg [{ o := .fld 3 (.s 1) 0 }, { o := .load 4 false 1 (.s 3), bf := [0] }, { o := .call 5 [] (.f n_spec_IsScript) [.s 4], bf := [0,1] }, { o := .mv 6 (.s 5), bf := [0,1,2] }, { o := .fld 7 (.s 1) 1, g := some (6, true), bf := [0,1,2,3] }, { o := .load 8 false 1 (.s 7), g := some (6, true), bf := [0,1,2,3,4] }, { o := .call 9 [] (.f n_spec_AreEntries) [.s 8], g := some (6, true), bf := [0,1,2,3,4,5] }, { o := .pick 10 (.s 6) (.s 9) (.c (.bool false)), bf := [0,1,2,3,4,5,6] }, { o := .mv 11 (.s 10), bf := [0,1,2,3,4,5,6,7] }, { o := .fld 12 (.s 1) 2, g := some (11, true), bf := [0,1,2,3,4,5,6,7,8] }, { o := .load 13 false 1 (.s 12), g := some (11, true), bf := [0,1,2,3,4,5,6,7,8,9] }, { o := .call 14 [] (.f n_spec_AreCaptures) [.s 13], g := some (11, true), bf := [0,1,2,3,4,5,6,7,8,9,10] }, { o := .pick 15 (.s 11) (.s 14) (.c (.bool false)), bf := [0,1,2,3,4,5,6,7,8,9,10,11] }, { o := .mv 16 (.s 15), bf := [0,1,2,3,4,5,6,7,8,9,10,11,12] }, { o := .fld 17 (.s 1) 0, g := some (16, true), hs := [19,20,21,22,25,26], bf := [0,1,2,3,4,5,6,7,8,9,10,11,12,13] }, { o := .load 18 false 1 (.s 17), g := some (16, true), hs := [19,20,21,22,25,26], bf := [0,1,2,3,4,5,6,7,8,9,10,11,12,13,14] }, { o := .fld 19 (.s 1) 1, g := some (16, true), hs := [17,18,21,22,25,26], bf := [0,1,2,3,4,5,6,7,8,9,10,11,12,13] }, { o := .load 20 false 1 (.s 19), g := some (16, true), hs := [17,18,21,22,25,26], bf := [0,1,2,3,4,5,6,7,8,9,10,11,12,13,16] }, { o := .fld 21 (.s 1) 2, g := some (16, true), hs := [17,18,19,20,25,26], bf := [0,1,2,3,4,5,6,7,8,9,10,11,12,13] }, { o := .load 22 false 1 (.s 21), g := some (16, true), hs := [17,18,19,20,25,26], bf := [0,1,2,3,4,5,6,7,8,9,10,11,12,13,18] }, { o := .call 23 [1, 2, 3] (.f n_spec_SealContainer) [.s 18, .s 20, .s 22], g := some (16, true), hs := [25,26], ws := [1,2,3], bf := [0,1,2,3,4,5,6,7,8,9,10,11,12,13,14,15,16,17,18,19] }, { o := .fldv 24 (.s 23) 3 1 false, g := some (16, true), hs := [25,26], bf := [0,1,2,3,4,5,6,7,8,9,10,11,12,13,14,15,16,17,18,19,20] }, { o := .fld 25 (.s 1) 3, g := some (16, true), hs := [17,18,19,20,21,22,23,24], ho := [1,2,3], bf := [0,1,2,3,4,5,6,7,8,9,10,11,12,13] }, { o := .load 26 false 1 (.s 25), g := some (16, true), hs := [17,18,19,20,21,22,23,24], ho := [1,2,3], bf := [0,1,2,3,4,5,6,7,8,9,10,11,12,13,22] }, { o := .bin 27 false .eql (.s 24) (.s 26), g := some (16, true), bf := [0,1,2,3,4,5,6,7,8,9,10,11,12,13,14,15,16,17,18,19,20,21,22,23] }, { o := .pick 28 (.s 16) (.s 27) (.c (.bool false)), bf := [0,1,2,3,4,5,6,7,8,9,10,11,12,13,14,15,16,17,18,19,20,21,22,23,24] }, { o := .mv 2 (.s 28), bf := [0,1,2,3,4,5,6,7,8,9,10,11,12,13,14,15,16,17,18,19,20,21,22,23,24,25] }] [2])
.ret))
theorem c_spec_IsContainer (x : GContainer) (hs : x.size ≤ 1073741824) : Ctr Tryz.prog n_spec_IsContainer [aS x.enc] [rB (contOk x)] := by
  refine ctr_at (M := m_spec_IsContainer) (m := 4) (n := 29) (res := [(.tmp 2, [false])]) hmix Tryz.func55 rfl (by kernel_rfl) rfl (by kernel_rfl) (by kernel_rfl) (Nat.le_of_ble_eq_true rfl) ?_; unfold m_spec_IsContainer
  intro hb
  clear hb
  simp only [GContainer.size] at hs
  simp only [↓bk_bind, ↓bk_map, ↓bk_ite, ↓bk_some, ↓reduceIte, Nat.reduceEqDiff, Nat.reduceLT, Nat.reduceLeDiff, Nat.reduceAdd, Nat.reduceMul, reduceCtorEq, List.reduceReplicate, go_sem]
  repeat' first
    | (refine And.intro ?_ ?_ <;> intro h)
    | (apply callK_of (c_spec_IsScript _); simp only [↓bk_bind, ↓bk_map, ↓bk_ite, ↓bk_some, ↓reduceIte, Nat.reduceEqDiff, Nat.reduceLT, Nat.reduceLeDiff, Nat.reduceAdd, Nat.reduceMul, reduceCtorEq, List.reduceReplicate, go_sem])
    | (apply callK_of (c_spec_AreEntries _); simp only [↓bk_bind, ↓bk_map, ↓bk_ite, ↓bk_some, ↓reduceIte, Nat.reduceEqDiff, Nat.reduceLT, Nat.reduceLeDiff, Nat.reduceAdd, Nat.reduceMul, reduceCtorEq, List.reduceReplicate, go_sem])
    | (apply callK_of (c_spec_AreCaptures _); simp only [↓bk_bind, ↓bk_map, ↓bk_ite, ↓bk_some, ↓reduceIte, Nat.reduceEqDiff, Nat.reduceLT, Nat.reduceLeDiff, Nat.reduceAdd, Nat.reduceMul, reduceCtorEq, List.reduceReplicate, go_sem])
    | (apply callK_of (c_spec_SealContainer x.Script x.Entries x.Captures (by omega) (by omega) (by omega)); simp only [↓bk_bind, ↓bk_map, ↓bk_ite, ↓bk_some, ↓reduceIte, Nat.reduceEqDiff, Nat.reduceLT, Nat.reduceLeDiff, Nat.reduceAdd, Nat.reduceMul, reduceCtorEq, List.reduceReplicate, go_sem]; intros)
  all_goals (unfold contOk; simp_all)
def m_impl_badContainer : MC :=
(.seq (pr [.box 1 0 (.s 0), .mv 2 (.c (.bool false))] [1])
(.seq (pr [.load 3 true 4 (.s 1), .call 4 [] (.f n_impl_IsContainer) [.s 3], .un 5 .not (.s 4), .mv 2 (.s 5)] [2])
.ret))
theorem c_impl_badContainer (x : GContainer) (hs : x.size ≤ 1073741824) : Ctr Tryz.prog n_impl_badContainer [aS x.enc] [rB (!contOk x)] := by
  refine ctr_at (M := m_impl_badContainer) (m := 1) (n := 6) (res := [(.tmp 2, [false])]) hmix Tryz.func62 rfl (by kernel_rfl) rfl (by kernel_rfl) (by kernel_rfl) (Nat.le_of_ble_eq_true rfl) ?_; unfold m_impl_badContainer
  intro hb
  clear hb
  simp only [↓bk_bind, ↓bk_map, ↓bk_ite, ↓bk_some, ↓reduceIte, Nat.reduceEqDiff, Nat.reduceLT, Nat.reduceLeDiff, Nat.reduceAdd, Nat.reduceMul, reduceCtorEq, List.reduceReplicate, go_sem]
  apply callK_of (c_impl_IsContainer x hs)
  simp only [↓bk_bind, ↓bk_map, ↓bk_ite, ↓bk_some, ↓reduceIte, Nat.reduceEqDiff, Nat.reduceLT, Nat.reduceLeDiff, Nat.reduceAdd, Nat.reduceMul, reduceCtorEq, List.reduceReplicate, go_sem]
/-- The index is that of all containers. -/
def whole (d : GDisk) : Bool := decide (d.Index = index d.Containers)
def diskOk (d : GDisk) : Bool := fewAll 6 contOk d.Containers && (fewAll 1 contOk d.Wanted && (whole d || (decide (0 < d.Containers.length) && decide (d.Index = index d.Containers.dropLast))))
theorem diskOk_no1 {d : GDisk} {k : Nat} {x : GContainer} (hx : d.Containers[k]? = some x) (h : contOk x = false) : false = diskOk d := by
  unfold diskOk; rw [← fewAll_at (n := 6) hx h, Bool.false_and]
theorem diskOk_no2 {d : GDisk} {k : Nat} {x : GContainer} (hx : d.Wanted[k]? = some x) (h : contOk x = false) : false = diskOk d := by
  unfold diskOk; rw [← fewAll_at (n := 1) hx h, Bool.false_and, Bool.and_false]
def m_impl_Disk_follows : MC :=
(.seq (pr [.box 1 0 (.s 0), .mv 2 (.c (.bool false))] [1])
(.seq (.dreg [{ o := .fld 3 (.s 1) 1, hs := [5,6,7], ho := [1] }, { o := .load 4 false 1 (.s 3), hs := [5,6,7], ho := [1], bf := [0] }, { o := .fld 5 (.s 1) 0, hs := [3,4] }, { o := .load 6 false 1 (.s 5), hs := [3,4], bf := [2] }, { o := .call 7 [1] (.f n_impl_BuildIndex) [.s 6], hs := [3,4], ws := [1], bf := [2,3] }, { o := .call 8 [] (.f n_slices_Equal_impl_Found_impl_Found) [.s 4, .s 7], bf := [0,1,2,3,4] }, { o := .mv 2 (.s 8), bf := [0,1,2,3,4,5] }] [2])
.ret))
theorem c_impl_follows (d : GDisk) (hs : d.size ≤ 1073741824) : Ctr Tryz.prog n_impl_Disk_follows [aS d.enc] [rB (whole d)] := by
  refine ctr_at (M := m_impl_Disk_follows) (m := 2) (n := 9) (res := [(.tmp 2, [false])]) hmix Tryz.func63 rfl (by kernel_rfl) rfl (by kernel_rfl) (by kernel_rfl) (Nat.le_of_ble_eq_true rfl) ?_; unfold m_impl_Disk_follows
  intro hb
  clear hb
  simp only [GDisk.size] at hs
  simp only [↓bk_bind, ↓bk_map, ↓bk_ite, ↓bk_some, ↓reduceIte, Nat.reduceEqDiff, Nat.reduceLT, Nat.reduceLeDiff, Nat.reduceAdd, Nat.reduceMul, reduceCtorEq, List.reduceReplicate, go_sem]
  apply callK_of (c_impl_BuildIndex d.Containers (by omega))
  simp only [↓bk_bind, ↓bk_map, ↓bk_ite, ↓bk_some, ↓reduceIte, Nat.reduceEqDiff, Nat.reduceLT, Nat.reduceLeDiff, Nat.reduceAdd, Nat.reduceMul, reduceCtorEq, List.reduceReplicate, go_sem]
  intros
  apply callK_of (c_slices_Equal_Found _ _)
  simp only [↓bk_bind, ↓bk_map, ↓bk_ite, ↓bk_some, ↓reduceIte, Nat.reduceEqDiff, Nat.reduceLT, Nat.reduceLeDiff, Nat.reduceAdd, Nat.reduceMul, reduceCtorEq, List.reduceReplicate, go_sem]
  intros
  rfl
def m_spec_l31Whole : MC :=
(.seq (pr [.box 1 0 (.s 0), .mv 2 (.c (.bool false))] [1])
(.seq (.dreg [{ o := .fld 3 (.s 1) 1, hs := [5,6,7], ho := [1] }, { o := .load 4 false 1 (.s 3), hs := [5,6,7], ho := [1], bf := [0] }, { o := .fld 5 (.s 1) 0, hs := [3,4] }, { o := .load 6 false 1 (.s 5), hs := [3,4], bf := [2] }, { o := .call 7 [1] (.f n_spec_BuildIndex) [.s 6], hs := [3,4], ws := [1], bf := [2,3] }, { o := .call 8 [] (.f n_spec_l31Same) [.s 4, .s 7], bf := [0,1,2,3,4] }, { o := .mv 2 (.s 8), bf := [0,1,2,3,4,5] }] [2])
.ret))
theorem c_spec_l31Whole (d : GDisk) (hs : d.size ≤ 1073741824) : Ctr Tryz.prog n_spec_l31Whole [aS d.enc] [rB (whole d)] := by
  refine ctr_at (M := m_spec_l31Whole) (m := 2) (n := 9) (res := [(.tmp 2, [false])]) hmix Tryz.func56 rfl (by kernel_rfl) rfl (by kernel_rfl) (by kernel_rfl) (Nat.le_of_ble_eq_true rfl) ?_; unfold m_spec_l31Whole
  intro hb
  clear hb
  simp only [GDisk.size] at hs
  simp only [↓bk_bind, ↓bk_map, ↓bk_ite, ↓bk_some, ↓reduceIte, Nat.reduceEqDiff, Nat.reduceLT, Nat.reduceLeDiff, Nat.reduceAdd, Nat.reduceMul, reduceCtorEq, List.reduceReplicate, go_sem]
  apply callK_of (c_spec_BuildIndex d.Containers (by omega))
  simp only [↓bk_bind, ↓bk_map, ↓bk_ite, ↓bk_some, ↓reduceIte, Nat.reduceEqDiff, Nat.reduceLT, Nat.reduceLeDiff, Nat.reduceAdd, Nat.reduceMul, reduceCtorEq, List.reduceReplicate, go_sem]
  intros
  apply callK_of (c_spec_l31Same _ _)
  simp only [↓bk_bind, ↓bk_map, ↓bk_ite, ↓bk_some, ↓reduceIte, Nat.reduceEqDiff, Nat.reduceLT, Nat.reduceLeDiff, Nat.reduceAdd, Nat.reduceMul, reduceCtorEq, List.reduceReplicate, go_sem]
  intros
  rfl
theorem take_sz {l : List GContainer} {n N : Nat} (h : l.length + (l.map GContainer.size).sum ≤ N) : (l.take n).length + ((l.take n).map GContainer.size).sum ≤ N := by
  have h1 := List.length_take_le n l
  have h2 := sum_take_le (f := GContainer.size) l n
  have h3 : (l.take n).length ≤ l.length := by rw [List.length_take]; omega
  omega
def m_impl_IsDisk : MC :=
(.seq (pr [.box 1 0 (.s 0), .mv 2 (.c (.bool false))] [1])
(.seq (pr [.fld 4 (.s 1) 0, .load 5 false 1 (.s 4), .len 6 false (.s 5), .mv 3 (.s 6)] [1,3])
(.seq (.dreg [{ o := .mv 7 (.s 3) }, { o := .bin 8 false .leq (.s 7) (.c (.int .i64 6)), bf := [0] }, { o := .mv 9 (.s 8), bf := [0,1] }, { o := .fld 10 (.s 1) 0, g := some (9, true), bf := [0,1,2] }, { o := .load 11 false 1 (.s 10), g := some (9, true), bf := [0,1,2,3] }, { o := .call 12 [] (.f n_slices_ContainsFunc_impl_Container_impl_Container) [.s 11, .f n_impl_badContainer], g := some (9, true), bf := [0,1,2,3,4] }, { o := .un 13 .not (.s 12), g := some (9, true), bf := [0,1,2,3,4,5] }, { o := .pick 14 (.s 9) (.s 13) (.c (.bool false)), bf := [0,1,2,3,4,5,6] }, { o := .mv 15 (.s 14), bf := [0,1,2,3,4,5,6,7] }, { o := .fld 16 (.s 1) 2, g := some (15, true), bf := [0,1,2,3,4,5,6,7,8] }, { o := .load 17 false 1 (.s 16), g := some (15, true), bf := [0,1,2,3,4,5,6,7,8,9] }, { o := .len 18 false (.s 17), g := some (15, true), bf := [0,1,2,3,4,5,6,7,8,9,10] }, { o := .bin 19 false .leq (.s 18) (.c (.int .i64 1)), g := some (15, true), bf := [0,1,2,3,4,5,6,7,8,9,10,11] }, { o := .pick 20 (.s 15) (.s 19) (.c (.bool false)), bf := [0,1,2,3,4,5,6,7,8,9,10,11,12] }, { o := .mv 21 (.s 20), bf := [0,1,2,3,4,5,6,7,8,9,10,11,12,13] }, { o := .fld 22 (.s 1) 2, g := some (21, true), bf := [0,1,2,3,4,5,6,7,8,9,10,11,12,13,14] }, { o := .load 23 false 1 (.s 22), g := some (21, true), bf := [0,1,2,3,4,5,6,7,8,9,10,11,12,13,14,15] }, { o := .call 24 [] (.f n_slices_ContainsFunc_impl_Container_impl_Container) [.s 23, .f n_impl_badContainer], g := some (21, true), bf := [0,1,2,3,4,5,6,7,8,9,10,11,12,13,14,15,16] }, { o := .un 25 .not (.s 24), g := some (21, true), bf := [0,1,2,3,4,5,6,7,8,9,10,11,12,13,14,15,16,17] }, { o := .pick 26 (.s 21) (.s 25) (.c (.bool false)), bf := [0,1,2,3,4,5,6,7,8,9,10,11,12,13,14,15,16,17,18] }, { o := .mv 27 (.s 26), bf := [0,1,2,3,4,5,6,7,8,9,10,11,12,13,14,15,16,17,18,19] }, { o := .load 28 true 3 (.s 1), g := some (27, true), bf := [0,1,2,3,4,5,6,7,8,9,10,11,12,13,14,15,16,17,18,19,20] }, { o := .call 29 [] (.f n_impl_Disk_follows) [.s 28], g := some (27, true), bf := [0,1,2,3,4,5,6,7,8,9,10,11,12,13,14,15,16,17,18,19,20,21] }, { o := .mv 30 (.s 29), g := some (27, true), bf := [0,1,2,3,4,5,6,7,8,9,10,11,12,13,14,15,16,17,18,19,20,21,22] }, { o := .mv 31 (.s 3), g := some (30, false), bf := [0,1,2,3,4,5,6,7,8,9,10,11,12,13,14,15,16,17,18,19,20,21,22,23] }, { o := .bin 32 false .gtr (.s 31) (.c (.int .i64 0)), g := some (30, false), bf := [0,1,2,3,4,5,6,7,8,9,10,11,12,13,14,15,16,17,18,19,20,21,22,23,24] }, { o := .mv 33 (.s 32), g := some (30, false), bf := [0,1,2,3,4,5,6,7,8,9,10,11,12,13,14,15,16,17,18,19,20,21,22,23,24,25] }, { o := .fld 34 (.s 1) 1, g := some (33, true), hs := [36,37,38,39,40,41], ho := [1], bf := [0,1,2,3,4,5,6,7,8,9,10,11,12,13,14,15,16,17,18,19,20,21,22,23,24,25,26] }, { o := .load 35 false 1 (.s 34), g := some (33, true), hs := [36,37,38,39,40,41], ho := [1], bf := [0,1,2,3,4,5,6,7,8,9,10,11,12,13,14,15,16,17,18,19,20,21,22,23,24,25,26,27] }, { o := .fld 36 (.s 1) 0, g := some (33, true), hs := [34,35,38,39], bf := [0,1,2,3,4,5,6,7,8,9,10,11,12,13,14,15,16,17,18,19,20,21,22,23,24,25,26] }, { o := .load 37 false 1 (.s 36), g := some (33, true), hs := [34,35,38,39], bf := [0,1,2,3,4,5,6,7,8,9,10,11,12,13,14,15,16,17,18,19,20,21,22,23,24,25,26,29] }, { o := .mv 38 (.s 3), g := some (33, true), hs := [34,35,36,37], bf := [0,1,2,3,4,5,6,7,8,9,10,11,12,13,14,15,16,17,18,19,20,21,22,23,24,25,26] }, { o := .bin 39 false .sub (.s 38) (.c (.int .i64 1)), g := some (33, true), hs := [34,35,36,37], bf := [0,1,2,3,4,5,6,7,8,9,10,11,12,13,14,15,16,17,18,19,20,21,22,23,24,25,26,31] }, { o := .slc 40 4 (.s 37) none (some (.s 39)) none, g := some (33, true), hs := [34,35], bf := [0,1,2,3,4,5,6,7,8,9,10,11,12,13,14,15,16,17,18,19,20,21,22,23,24,25,26,29,30,31,32] }, { o := .call 41 [1] (.f n_impl_BuildIndex) [.s 40], g := some (33, true), hs := [34,35], ws := [1], bf := [0,1,2,3,4,5,6,7,8,9,10,11,12,13,14,15,16,17,18,19,20,21,22,23,24,25,26,29,30,31,32,33] }, { o := .call 42 [] (.f n_slices_Equal_impl_Found_impl_Found) [.s 35, .s 41], g := some (33, true), bf := [0,1,2,3,4,5,6,7,8,9,10,11,12,13,14,15,16,17,18,19,20,21,22,23,24,25,26,27,28,29,30,31,32,33,34] }, { o := .pick 43 (.s 33) (.s 42) (.c (.bool false)), g := some (30, false), bf := [0,1,2,3,4,5,6,7,8,9,10,11,12,13,14,15,16,17,18,19,20,21,22,23,24,25,26,27,28,29,30,31,32,33,34,35] }, { o := .pick 44 (.s 30) (.c (.bool true)) (.s 43), g := some (27, true), bf := [0,1,2,3,4,5,6,7,8,9,10,11,12,13,14,15,16,17,18,19,20,21,22,23,24,25,26,27,28,29,30,31,32,33,34,35,36] }, { o := .pick 45 (.s 27) (.s 44) (.c (.bool false)), bf := [0,1,2,3,4,5,6,7,8,9,10,11,12,13,14,15,16,17,18,19,20,21,22,23,24,25,26,27,28,29,30,31,32,33,34,35,36,37] }, { o := .mv 2 (.s 45), bf := [0,1,2,3,4,5,6,7,8,9,10,11,12,13,14,15,16,17,18,19,20,21,22,23,24,25,26,27,28,29,30,31,32,33,34,35,36,37,38] }] [2])
.ret)))
set_option maxHeartbeats 1000000 in
theorem c_impl_IsDisk (d : GDisk) (hs : d.size ≤ 1073741824) : Ctr Tryz.prog n_impl_IsDisk [aS d.enc] [rB (diskOk d)] := by
  refine ctr_at (M := m_impl_IsDisk) (m := 2) (n := 46) (res := [(.tmp 2, [false])]) hmix Tryz.func16 rfl (by kernel_rfl) rfl (by kernel_rfl) (by kernel_rfl) (Nat.le_of_ble_eq_true rfl) ?_; unfold m_impl_IsDisk
  intro hb
  clear hb
  have hs' := hs
  simp only [GDisk.size] at hs
  have hx1 : ∀ x ∈ d.Containers, x.size ≤ 1073741824 := fun x hx => by have := mem_sum (f := GContainer.size) hx; omega
  have hx2 : ∀ x ∈ d.Wanted, x.size ≤ 1073741824 := fun x hx => by have := mem_sum (f := GContainer.size) hx; omega
  have hsz : d.Containers.length + (d.Containers.map GContainer.size).sum ≤ 1073741824 := by omega
  have hw1 : (d.Containers.length : Int) > 0 → IntKind.i64.wrap ((d.Containers.length : Int) - 1) = ((d.Containers.length - 1 : Nat) : Int) := fun h => by rw [wI (by omega) (by omega)]; omega
  obtain ⟨A, hA⟩ : ∃ A, A = d.Containers.all contOk := ⟨_, rfl⟩
  obtain ⟨B, hB⟩ : ∃ B, B = d.Wanted.all contOk := ⟨_, rfl⟩
  have hC : (d.Containers.any fun x => !contOk x) = !A := by rw [any_nots, hA]
  have hW : (d.Wanted.any fun x => !contOk x) = !B := by rw [any_nots, hB]
  simp only [↓bk_bind, ↓bk_map, ↓bk_ite, ↓bk_some, ↓reduceIte, Nat.reduceEqDiff, Nat.reduceLT, Nat.reduceLeDiff, Nat.reduceAdd, Nat.reduceMul, reduceCtorEq, List.reduceReplicate, go_sem]
  repeat' first
    | (refine And.intro ?_ ?_ <;> intro h)
    | (apply callK_of (c_slices_ContainsFunc_Container d.Containers _ [] (fun x => !contOk x) fun x hx => c_impl_badContainer x (hx1 x hx)); simp only [↓bk_bind, ↓bk_map, ↓bk_ite, ↓bk_some, ↓reduceIte, Nat.reduceEqDiff, Nat.reduceLT, Nat.reduceLeDiff, Nat.reduceAdd, Nat.reduceMul, reduceCtorEq, List.reduceReplicate, go_sem, hC])
    | (apply callK_of (c_slices_ContainsFunc_Container d.Wanted _ [] (fun x => !contOk x) fun x hx => c_impl_badContainer x (hx2 x hx)); simp only [↓bk_bind, ↓bk_map, ↓bk_ite, ↓bk_some, ↓reduceIte, Nat.reduceEqDiff, Nat.reduceLT, Nat.reduceLeDiff, Nat.reduceAdd, Nat.reduceMul, reduceCtorEq, List.reduceReplicate, go_sem, hW])
    | (apply callK_of (c_impl_follows d hs'); simp only [↓bk_bind, ↓bk_map, ↓bk_ite, ↓bk_some, ↓reduceIte, Nat.reduceEqDiff, Nat.reduceLT, Nat.reduceLeDiff, Nat.reduceAdd, Nat.reduceMul, reduceCtorEq, List.reduceReplicate, go_sem])
    | (rw [hw1 (by assumption), cutA (by omega)]; refine ⟨⟨by omega, by omega, by omega⟩, ?_⟩; apply callK_of (c_impl_BuildIndex _ (take_sz hsz)); simp only [↓bk_bind, ↓bk_map, ↓bk_ite, ↓bk_some, ↓reduceIte, Nat.reduceEqDiff, Nat.reduceLT, Nat.reduceLeDiff, Nat.reduceAdd, Nat.reduceMul, reduceCtorEq, List.reduceReplicate, go_sem]; intros; apply callK_of (c_slices_Equal_Found _ _); simp only [↓bk_bind, ↓bk_map, ↓bk_ite, ↓bk_some, ↓reduceIte, Nat.reduceEqDiff, Nat.reduceLT, Nat.reduceLeDiff, Nat.reduceAdd, Nat.reduceMul, reduceCtorEq, List.reduceReplicate, go_sem]; intros)
  all_goals (rw [diskOk, fewAll, fewAll, ← hA, ← hB, List.dropLast_eq_take]; clear hC hW hA hB hx1 hx2 hw1 hsz hs hs'; by_cases c1 : d.Containers.length ≤ 6 <;> by_cases c2 : d.Wanted.length ≤ 1 <;> by_cases c3 : 0 < d.Containers.length <;> simp_all <;> omega)
def m_spec_IsDisk : MC :=
(.seq (pr [.box 1 0 (.s 0), .mv 2 (.c (.bool false))] [1])
(.seq (.seq (pr [.mv 3 (.c (.int .i64 0))] [1,3])
(.block 0 (.loop ([1,3], [1]) (.seq (.seq (pr [.mv 6 (.s 3), .fld 7 (.s 1) 0, .load 8 false 1 (.s 7), .len 9 false (.s 8), .bin 10 false .lss (.s 6) (.s 9)] [1,3,10])
(.cond (.s 10) .skip (.exit 0)))
(.seq (.block 1 (.seq (pr [.fld 13 (.s 1) 0, .load 14 false 1 (.s 13), .mv 15 (.s 3), .idx 16 4 (.s 14) (.s 15), .load 17 true 4 (.s 16), .call 18 [] (.f n_spec_IsContainer) [.s 17], .un 19 .not (.s 18)] [1,3,19])
(.cond (.s 19) (.seq (pr [.mv 2 (.c (.bool false))] [2])
.ret) .skip)))
(pr [.mv 11 (.s 3), .bin 12 false .add (.s 11) (.c (.int .i64 1)), .mv 3 (.s 12)] [1,3]))))))
(.seq (.seq (pr [.mv 4 (.c (.int .i64 0))] [1,4])
(.block 2 (.loop ([1,4], [1]) (.seq (.seq (pr [.mv 20 (.s 4), .fld 21 (.s 1) 2, .load 22 false 1 (.s 21), .len 23 false (.s 22), .bin 24 false .lss (.s 20) (.s 23)] [1,4,24])
(.cond (.s 24) .skip (.exit 2)))
(.seq (.block 3 (.seq (pr [.fld 27 (.s 1) 2, .load 28 false 1 (.s 27), .mv 29 (.s 4), .idx 30 4 (.s 28) (.s 29), .load 31 true 4 (.s 30), .call 32 [] (.f n_spec_IsContainer) [.s 31], .un 33 .not (.s 32)] [1,4,33])
(.cond (.s 33) (.seq (pr [.mv 2 (.c (.bool false))] [2])
.ret) .skip)))
(pr [.mv 25 (.s 4), .bin 26 false .add (.s 25) (.c (.int .i64 1)), .mv 4 (.s 26)] [1,4]))))))
(.seq (pr [.fld 34 (.s 1) 0, .load 35 false 1 (.s 34), .len 36 false (.s 35), .mv 5 (.s 36)] [1,5])
(.seq (.dreg [{ o := .mv 37 (.s 5) }, { o := .bin 38 false .leq (.s 37) (.c (.int .i64 6)), bf := [0] }, { o := .mv 39 (.s 38), bf := [0,1] }, { o := .fld 40 (.s 1) 2, g := some (39, true), bf := [0,1,2] }, { o := .load 41 false 1 (.s 40), g := some (39, true), bf := [0,1,2,3] }, { o := .len 42 false (.s 41), g := some (39, true), bf := [0,1,2,3,4] }, { o := .bin 43 false .leq (.s 42) (.c (.int .i64 1)), g := some (39, true), bf := [0,1,2,3,4,5] }, { o := .pick 44 (.s 39) (.s 43) (.c (.bool false)), bf := [0,1,2,3,4,5,6] }, { o := .mv 45 (.s 44), bf := [0,1,2,3,4,5,6,7] }, { o := .load 46 true 3 (.s 1), g := some (45, true), bf := [0,1,2,3,4,5,6,7,8] }, { o := .call 47 [] (.f n_spec_l31Whole) [.s 46], g := some (45, true), bf := [0,1,2,3,4,5,6,7,8,9] }, { o := .mv 48 (.s 47), g := some (45, true), bf := [0,1,2,3,4,5,6,7,8,9,10] }, { o := .mv 49 (.s 5), g := some (48, false), bf := [0,1,2,3,4,5,6,7,8,9,10,11] }, { o := .bin 50 false .gtr (.s 49) (.c (.int .i64 0)), g := some (48, false), bf := [0,1,2,3,4,5,6,7,8,9,10,11,12] }, { o := .mv 51 (.s 50), g := some (48, false), bf := [0,1,2,3,4,5,6,7,8,9,10,11,12,13] }, { o := .fld 52 (.s 1) 1, g := some (51, true), hs := [54,55,56,57,58,59], ho := [1], bf := [0,1,2,3,4,5,6,7,8,9,10,11,12,13,14] }, { o := .load 53 false 1 (.s 52), g := some (51, true), hs := [54,55,56,57,58,59], ho := [1], bf := [0,1,2,3,4,5,6,7,8,9,10,11,12,13,14,15] }, { o := .fld 54 (.s 1) 0, g := some (51, true), hs := [52,53,56,57], bf := [0,1,2,3,4,5,6,7,8,9,10,11,12,13,14] }, { o := .load 55 false 1 (.s 54), g := some (51, true), hs := [52,53,56,57], bf := [0,1,2,3,4,5,6,7,8,9,10,11,12,13,14,17] }, { o := .mv 56 (.s 5), g := some (51, true), hs := [52,53,54,55], bf := [0,1,2,3,4,5,6,7,8,9,10,11,12,13,14] }, { o := .bin 57 false .sub (.s 56) (.c (.int .i64 1)), g := some (51, true), hs := [52,53,54,55], bf := [0,1,2,3,4,5,6,7,8,9,10,11,12,13,14,19] }, { o := .slc 58 4 (.s 55) none (some (.s 57)) none, g := some (51, true), hs := [52,53], bf := [0,1,2,3,4,5,6,7,8,9,10,11,12,13,14,17,18,19,20] }, { o := .call 59 [1] (.f n_spec_BuildIndex) [.s 58], g := some (51, true), hs := [52,53], ws := [1], bf := [0,1,2,3,4,5,6,7,8,9,10,11,12,13,14,17,18,19,20,21] }, { o := .call 60 [] (.f n_spec_l31Same) [.s 53, .s 59], g := some (51, true), bf := [0,1,2,3,4,5,6,7,8,9,10,11,12,13,14,15,16,17,18,19,20,21,22] }, { o := .pick 61 (.s 51) (.s 60) (.c (.bool false)), g := some (48, false), bf := [0,1,2,3,4,5,6,7,8,9,10,11,12,13,14,15,16,17,18,19,20,21,22,23] }, { o := .pick 62 (.s 48) (.c (.bool true)) (.s 61), g := some (45, true), bf := [0,1,2,3,4,5,6,7,8,9,10,11,12,13,14,15,16,17,18,19,20,21,22,23,24] }, { o := .pick 63 (.s 45) (.s 62) (.c (.bool false)), bf := [0,1,2,3,4,5,6,7,8,9,10,11,12,13,14,15,16,17,18,19,20,21,22,23,24,25] }, { o := .mv 2 (.s 63), bf := [0,1,2,3,4,5,6,7,8,9,10,11,12,13,14,15,16,17,18,19,20,21,22,23,24,25,26] }] [2])
.ret)))))
set_option maxHeartbeats 1000000 in
theorem c_spec_IsDisk (d : GDisk) (hs : d.size ≤ 1073741824) : Ctr Tryz.prog n_spec_IsDisk [aS d.enc] [rB (diskOk d)] := by
  refine ctr_at (M := m_spec_IsDisk) (m := 2) (n := 64) (res := [(.tmp 2, [false])]) hmix Tryz.func14 rfl (by kernel_rfl) rfl (by kernel_rfl) (by kernel_rfl) (Nat.le_of_ble_eq_true rfl) ?_; unfold m_spec_IsDisk
  intro hb
  clear hb
  have hs' := hs
  simp only [GDisk.size] at hs
  have hx1 : ∀ x ∈ d.Containers, x.size ≤ 1073741824 := fun x hx => by have := mem_sum (f := GContainer.size) hx; omega
  have hx2 : ∀ x ∈ d.Wanted, x.size ≤ 1073741824 := fun x hx => by have := mem_sum (f := GContainer.size) hx; omega
  have hsz : d.Containers.length + (d.Containers.map GContainer.size).sum ≤ 1073741824 := by omega
  have hw1 : (d.Containers.length : Int) > 0 → IntKind.i64.wrap ((d.Containers.length : Int) - 1) = ((d.Containers.length - 1 : Nat) : Int) := fun h => by rw [wI (by omega) (by omega)]; omega
  obtain ⟨A, hA⟩ : ∃ A, A = d.Containers.all contOk := ⟨_, rfl⟩
  obtain ⟨B, hB⟩ : ∃ B, B = d.Wanted.all contOk := ⟨_, rfl⟩
  have hC : (d.Containers.any fun x => !contOk x) = !A := by rw [any_nots, hA]
  have hW : (d.Wanted.any fun x => !contOk x) = !B := by rw [any_nots, hB]
  simp only [↓bk_bind, ↓bk_map, ↓bk_ite, ↓bk_some, ↓reduceIte, Nat.reduceEqDiff, Nat.reduceLT, Nat.reduceLeDiff, Nat.reduceAdd, Nat.reduceMul, reduceCtorEq, List.reduceReplicate, go_sem]
  refine loopK_rng d.Containers (fun k => [(3, vI k)]) (fun k => []) (fun k => (d.Containers.take k).all contOk = true) (by simp only [roomB]; omega) ?_
  simp only [↓bk_bind, ↓bk_map, ↓bk_ite, ↓bk_some, ↓reduceIte, Nat.reduceEqDiff, Nat.reduceLT, Nat.reduceLeDiff, Nat.reduceAdd, Nat.reduceMul, reduceCtorEq, List.reduceReplicate, go_sem]
  refine ⟨?_, by simp, ?_, ?_⟩
  · simp only [↓bk_bind, ↓bk_map, ↓bk_ite, ↓bk_some, ↓reduceIte, Nat.reduceEqDiff, Nat.reduceLT, Nat.reduceLeDiff, Nat.reduceAdd, Nat.reduceMul, reduceCtorEq, List.reduceReplicate, go_sem]
  · intro k x hx h h0 h1 hw
    simp only [↓bk_bind, ↓bk_map, ↓bk_ite, ↓bk_some, ↓reduceIte, Nat.reduceEqDiff, Nat.reduceLT, Nat.reduceLeDiff, Nat.reduceAdd, Nat.reduceMul, reduceCtorEq, List.reduceReplicate, go_sem, bk_eq hx, h0, h1, hw]
    apply callK_of (c_spec_IsContainer x (hx1 x (at_mem hx)))
    simp only [↓bk_bind, ↓bk_map, ↓bk_ite, ↓bk_some, ↓reduceIte, Nat.reduceEqDiff, Nat.reduceLT, Nat.reduceLeDiff, Nat.reduceAdd, Nat.reduceMul, reduceCtorEq, List.reduceReplicate, go_sem, hw]
    exact ⟨fun hn => diskOk_no1 hx hn, fun hn => all_step hx h hn⟩
  · intro hA'
    rw [List.take_length, ← hA] at hA'
    simp only [↓bk_bind, ↓bk_map, ↓bk_ite, ↓bk_some, ↓reduceIte, Nat.reduceEqDiff, Nat.reduceLT, Nat.reduceLeDiff, Nat.reduceAdd, Nat.reduceMul, reduceCtorEq, List.reduceReplicate, go_sem]
    refine loopK_rng d.Wanted (fun k => [(4, vI k)]) (fun k => []) (fun k => (d.Wanted.take k).all contOk = true) (by simp only [roomB]; omega) ?_
    simp only [↓bk_bind, ↓bk_map, ↓bk_ite, ↓bk_some, ↓reduceIte, Nat.reduceEqDiff, Nat.reduceLT, Nat.reduceLeDiff, Nat.reduceAdd, Nat.reduceMul, reduceCtorEq, List.reduceReplicate, go_sem]
    refine ⟨?_, by simp, ?_, ?_⟩
    · simp only [↓bk_bind, ↓bk_map, ↓bk_ite, ↓bk_some, ↓reduceIte, Nat.reduceEqDiff, Nat.reduceLT, Nat.reduceLeDiff, Nat.reduceAdd, Nat.reduceMul, reduceCtorEq, List.reduceReplicate, go_sem]
    · intro k x hx h h0 h1 hw
      simp only [↓bk_bind, ↓bk_map, ↓bk_ite, ↓bk_some, ↓reduceIte, Nat.reduceEqDiff, Nat.reduceLT, Nat.reduceLeDiff, Nat.reduceAdd, Nat.reduceMul, reduceCtorEq, List.reduceReplicate, go_sem, bk_eq hx, h0, h1, hw]
      apply callK_of (c_spec_IsContainer x (hx2 x (at_mem hx)))
      simp only [↓bk_bind, ↓bk_map, ↓bk_ite, ↓bk_some, ↓reduceIte, Nat.reduceEqDiff, Nat.reduceLT, Nat.reduceLeDiff, Nat.reduceAdd, Nat.reduceMul, reduceCtorEq, List.reduceReplicate, go_sem, hw]
      exact ⟨fun hn => diskOk_no2 hx hn, fun hn => all_step hx h hn⟩
    · intro hB'
      rw [List.take_length, ← hB] at hB'
      simp only [↓bk_bind, ↓bk_map, ↓bk_ite, ↓bk_some, ↓reduceIte, Nat.reduceEqDiff, Nat.reduceLT, Nat.reduceLeDiff, Nat.reduceAdd, Nat.reduceMul, reduceCtorEq, List.reduceReplicate, go_sem]
      repeat' first
        | (refine And.intro ?_ ?_ <;> intro h)
        | (apply callK_of (c_spec_l31Whole d hs'); simp only [↓bk_bind, ↓bk_map, ↓bk_ite, ↓bk_some, ↓reduceIte, Nat.reduceEqDiff, Nat.reduceLT, Nat.reduceLeDiff, Nat.reduceAdd, Nat.reduceMul, reduceCtorEq, List.reduceReplicate, go_sem])
        | (rw [hw1 (by assumption), cutA (by omega)]; refine ⟨⟨by omega, by omega, by omega⟩, ?_⟩; apply callK_of (c_spec_BuildIndex _ (take_sz hsz)); simp only [↓bk_bind, ↓bk_map, ↓bk_ite, ↓bk_some, ↓reduceIte, Nat.reduceEqDiff, Nat.reduceLT, Nat.reduceLeDiff, Nat.reduceAdd, Nat.reduceMul, reduceCtorEq, List.reduceReplicate, go_sem]; intros; apply callK_of (c_spec_l31Same _ _); simp only [↓bk_bind, ↓bk_map, ↓bk_ite, ↓bk_some, ↓reduceIte, Nat.reduceEqDiff, Nat.reduceLT, Nat.reduceLeDiff, Nat.reduceAdd, Nat.reduceMul, reduceCtorEq, List.reduceReplicate, go_sem]; intros)
      all_goals (rw [diskOk, fewAll, fewAll, ← hA, ← hB, List.dropLast_eq_take]; clear hC hW hA hB hx1 hx2 hw1 hsz hs hs'; by_cases c1 : d.Containers.length ≤ 6 <;> by_cases c2 : d.Wanted.length ≤ 1 <;> by_cases c3 : 0 < d.Containers.length <;> simp_all <;> omega)
end Go.Proofs.YtbnbgekjjbpljaaGreatR
namespace Go.Proofs.YtbnbgekjjbpljaaGreatR
open Go Go.RowKit Go.Proofs
set_option linter.unusedSimpArgs false
set_option linter.unusedVariables false
def m_laws_FnExactIsDisk : MC :=
(.seq (pr [.box 1 0 (.s 0), .mv 2 (.c (.bool false))] [1])
(.seq (pr [.mv 3 (.c (.int .i64 1048576))] [1,3])
(.seq (pr [.load 7 true 3 (.s 1), .mv 8 (.s 3), .call 9 [] (.f n_laws_szDisk) [.s 7, .s 8], .mv 3 (.s 9)] [1,3])
(.seq (.seq (pr [.mv 10 (.s 3), .bin 11 false .lss (.s 10) (.c (.int .i64 0))] [1,11])
(.cond (.s 11) (.seq (pr [.mv 2 (.c (.bool true))] [2])
.ret) .skip))
(.seq (pr [.load 12 true 3 (.s 1), .call 13 [1, 2, 3] (.f n_laws_toDisk) [.s 12], .call 14 [] (.f n_spec_IsDisk) [.s 13], .mv 4 (.s 14)] [1,4])
(.seq (pr [.load 15 true 3 (.s 1), .call 16 [4, 5, 6] (.f n_laws_toDisk) [.s 15], .alloc 5 7 [.emp 4, .emp 6, .emp 4], .store 3 (.s 5) (.s 16)] [1,4,5])
(.seq (pr [.load 17 true 3 (.s 5), .call 18 [] (.f n_impl_IsDisk) [.s 17], .mv 6 (.s 18)] [1,4,5,6])
(.seq (.seq (pr [.mv 19 (.s 6), .mv 20 (.s 4), .bin 21 true .neq (.s 19) (.s 20)] [1,5,21])
(.cond (.s 21) (.seq (pr [.mv 2 (.c (.bool false))] [2])
.ret) .skip))
(.seq (.seq (.dreg [{ o := .load 22 true 3 (.s 5), hs := [23,24], ho := [8,9,10] }, { o := .load 23 true 3 (.s 1), hs := [22] }, { o := .call 24 [8, 9, 10] (.f n_laws_toDisk) [.s 23], hs := [22], ws := [8,9,10], bf := [1] }, { o := .call 25 [] (.f n_laws_eqDisk) [.s 22, .s 24], bf := [0,1,2] }, { o := .un 26 .not (.s 25), bf := [0,1,2,3] }] [26])
(.cond (.s 26) (.seq (pr [.mv 2 (.c (.bool false))] [2])
.ret) .skip))
(.seq (pr [.mv 2 (.c (.bool true))] [2])
.ret))))))))))
theorem c_laws_FnExactIsDisk (d : GDisk) : Ctr Tryz.prog n_laws_FnExactIsDisk [aS d.enc] [rB true] := by
  refine ctr_at (M := m_laws_FnExactIsDisk) (m := 11) (n := 27) (res := [(.tmp 2, [false])]) hmix Tryz.func3 rfl (by kernel_rfl) rfl (by kernel_rfl) (by kernel_rfl) (Nat.le_of_ble_eq_true rfl) ?_; unfold m_laws_FnExactIsDisk
  intro hb
  clear hb
  simp only [↓bk_bind, ↓bk_map, ↓bk_ite, ↓bk_some, ↓reduceIte, Nat.reduceEqDiff, Nat.reduceLT, Nat.reduceLeDiff, Nat.reduceAdd, Nat.reduceMul, reduceCtorEq, List.reduceReplicate, go_sem]
  apply callK_of (c_laws_szDisk d _ (by omega))
  simp only [↓bk_bind, ↓bk_map, ↓bk_ite, ↓bk_some, ↓reduceIte, Nat.reduceEqDiff, Nat.reduceLT, Nat.reduceLeDiff, Nat.reduceAdd, Nat.reduceMul, reduceCtorEq, List.reduceReplicate, go_sem]
  intro _ hz
  have hs := szr_ok hz
  have hc_d := GDisk.cts_le d
  apply callK_of (c_laws_toDisk d (by omega))
  simp only [↓bk_bind, ↓bk_map, ↓bk_ite, ↓bk_some, ↓reduceIte, Nat.reduceEqDiff, Nat.reduceLT, Nat.reduceLeDiff, Nat.reduceAdd, Nat.reduceMul, reduceCtorEq, List.reduceReplicate, go_sem]
  try intros
  apply callK_of (c_spec_IsDisk d (by omega))
  simp only [↓bk_bind, ↓bk_map, ↓bk_ite, ↓bk_some, ↓reduceIte, Nat.reduceEqDiff, Nat.reduceLT, Nat.reduceLeDiff, Nat.reduceAdd, Nat.reduceMul, reduceCtorEq, List.reduceReplicate, go_sem]
  try intros
  apply callK_of (c_laws_toDisk d (by omega))
  simp only [↓bk_bind, ↓bk_map, ↓bk_ite, ↓bk_some, ↓reduceIte, Nat.reduceEqDiff, Nat.reduceLT, Nat.reduceLeDiff, Nat.reduceAdd, Nat.reduceMul, reduceCtorEq, List.reduceReplicate, go_sem]
  try intros
  apply callK_of (c_impl_IsDisk d (by omega))
  simp only [↓bk_bind, ↓bk_map, ↓bk_ite, ↓bk_some, ↓reduceIte, Nat.reduceEqDiff, Nat.reduceLT, Nat.reduceLeDiff, Nat.reduceAdd, Nat.reduceMul, reduceCtorEq, List.reduceReplicate, go_sem]
  try intros
  apply callK_of (c_laws_toDisk d (by omega))
  simp only [↓bk_bind, ↓bk_map, ↓bk_ite, ↓bk_some, ↓reduceIte, Nat.reduceEqDiff, Nat.reduceLT, Nat.reduceLeDiff, Nat.reduceAdd, Nat.reduceMul, reduceCtorEq, List.reduceReplicate, go_sem]
  try intros
  apply callK_of (c_laws_eqDisk d d)
  simp only [↓bk_bind, ↓bk_map, ↓bk_ite, ↓bk_some, ↓reduceIte, Nat.reduceEqDiff, Nat.reduceLT, Nat.reduceLeDiff, Nat.reduceAdd, Nat.reduceMul, reduceCtorEq, List.reduceReplicate, go_sem]
  try intros
end Go.Proofs.YtbnbgekjjbpljaaGreatR
