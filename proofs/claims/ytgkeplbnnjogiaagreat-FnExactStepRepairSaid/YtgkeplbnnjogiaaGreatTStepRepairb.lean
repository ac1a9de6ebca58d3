/- What the functions compute that the laws of StepRepair reach: contracts. Conditions stand in each theorem. -/
import Derived.Test.YtgkeplbnnjogiaaGreatProg
import Derived.KernelRfl
import Derived.Shelf.Sort.Plain
import Derived.Ground.Names2Prog
import Derived.Shelf.Slices.CompactI
import Derived.Shelf.Slices.In.SortNone
import Derived.Shelf.Spec.SlicesInsertGrow
import Derived.Test.YtgkeplbnnjogiaaGreatTStepRepaira
set_option linter.unusedVariables false
set_option linter.unusedSimpArgs false
namespace Go.Proofs.YtgkeplbnnjogiaaGreatR
open Go Go.RowKit Go.Proofs
open Nat (reduceEqDiff reduceLT reduceLeDiff reduceAdd reduceMul)
open List (reduceReplicate)
def K46 (r : GResource) : List Int := [r.Kind, r.To.Host, r.To.Path, r.To.Query, r.Body.length] ++ r.Body
def K4x (c : GCapture) : List Int := [c.Address.Host, c.Address.Path, c.Address.Query, c.Tick] ++ K46 c.Resource
theorem Kah (r : GResource) : (K46 r).length = 5 + r.Body.length := by simp [K46]; omega
def M3k : MC :=
(Zs [.box 1 0 (.s 0), .nilo 2 1 1] [1] (Zs [fS 3 1 0, lF 4 1 3, fS 5 1 2, fS 6 5 0, lF 7 1 6, fS 8 1 2, fS 9 8 1, lF 10 1 9, fS 11 1 2, fS 12 11 2, lF 13 1 12, fS 14 1 1, lF 15 1 14, nS 16 15, .lit 17 1 1 8 [.s 4, .s 7, .s 10, .s 13, .s 16], fS 18 1 1, lF 19 1 18, .app 20 1 1 8 (.s 17) (.s 19), mS 2 20] [2] .ret))
theorem Caw (r : GResource) (hs : r.Body.length ≤ 1073741824) : Ctr Tryz.prog N43 [aS r.enc] [rL 1 ((K46 r).map encI)] := by
 refine cA M3k 2 21 [(.tmp 2, [true])] Tryz.func312 rfl rfl ?_; unfold M3k
 intro hb
 clear hb
 simp only [go_sem, ↓Ks (f := encI) (fun _ => rfl) r.Body]
 simp only [roomB]
 refine ⟨by decide, by omega, ?_⟩
 simp [K46, encI]
 omega
def M4o : MC :=
(Zs [.box 1 0 (.s 0), .nilo 2 1 1] [1] (.seq (.dreg [Zf [6,7,8,9,10,11,12,13,15,16,17] [2] (fS 3 1 0), Zg [6,7,8,9,10,11,12,13,15,16,17] [2] [0] (fS 4 3 0), Zg [6,7,8,9,10,11,12,13,15,16,17] [2] [0,1] (lF 5 1 4), Zf [3,4,5,9,10,11,12,13,15,16,17] [2] (fS 6 1 0), Zg [3,4,5,9,10,11,12,13,15,16,17] [2] [3] (fS 7 6 1), Zg [3,4,5,9,10,11,12,13,15,16,17] [2] [3,4] (lF 8 1 7), Zf [3,4,5,6,7,8,12,13,15,16,17] [2] (fS 9 1 0), Zg [3,4,5,6,7,8,12,13,15,16,17] [2] [6] (fS 10 9 2), Zg [3,4,5,6,7,8,12,13,15,16,17] [2] [6,7] (lF 11 1 10), Zf [3,4,5,6,7,8,9,10,11,15,16,17] [2] (fS 12 1 3), Zg [3,4,5,6,7,8,9,10,11,15,16,17] [2] [9] (lF 13 1 12), { o := .lit 14 1 1 8 [.s 5, .s 8, .s 11, .s 13], hs := [15,16,17], ho := [2], ws := [1], bf := (.range 11) }, Zf [3,4,5,6,7,8,9,10,11,12,13,14] [1] (fS 15 1 4), Zg [3,4,5,6,7,8,9,10,11,12,13,14] [1] [12] (lT 16 5 15), { o := .call 17 [2] (.f N43) [.s 16], hs := [3,4,5,6,7,8,9,10,11,12,13,14], ho := [1], ws := [2], bf := [12,13] }, { o := .app 18 1 1 8 (.s 14) (.s 17), ws := [1], bf := (.range 15) }, Ze (.range 16) (mS 2 18)] [2])
.ret))
theorem Cb9 (c : GCapture) (hs : c.Resource.Body.length ≤ 1073741824) : Ctr Tryz.prog N4y [aS c.enc] [rL 1 ((K4x c).map encI)] := by
 refine cA M4o 3 19 [(.tmp 2, [true])] Tryz.func402 rfl rfl ?_; unfold M4o
 intro hb
 clear hb
 simp only [go_sem]
 refine ⟨by decide, ?_⟩
 apply K0 (Caw c.Resource hs)
 simp only [go_sem, ↓Ks (f := encI) (fun _ => rfl) (K46 c.Resource), Kah]
 simp only [roomB]
 exact ⟨by omega, fun _ => ⟨by omega, by simp [K4x, encI]⟩⟩
def K2g (l : List GEntry) : List Int := l.flatMap fun e => [e.Kind, e.Address.Host, e.Address.Path, e.Address.Query, e.Value]
theorem K9i {l : List GEntry} {k : Nat} {x : GEntry} (h : l[k]? = some x) : K2g (l.take (k + 1)) = K2g (l.take k) ++ [x.Kind, x.Address.Host, x.Address.Path, x.Address.Query, x.Value] := by
 rw [Kb h, K2g, List.flatMap_append]; rfl
theorem Kad {l : List GEntry} : (K2g l).length = 5 * l.length := by
 induction l with
 | nil => rfl
 | cons x l ih => simp only [K2g, List.flatMap_cons, List.length_append, List.length_cons, List.length_nil] at ih ⊢; omega
def M62 : MC :=
(Zs [.nilo 2 0 1] [0] (Zs [.lit 6 0 1 8 [], mS 3 6] [0,3] (.seq (Zs [.mv 4 (ci 0)] [0,3,4] (.block 0 (.loop ([0,3,4], [1,2]) (.seq (Zs [mS 7 4, mS 8 0, nS 9 8, bS 10 .lss 7 9] [0,3,4,10] (cX 10 0))
(.seq (.block 1 (Zs [mS 13 0, mS 14 4, xS 15 5 13 14, lT 16 5 15, .alloc 5 1 [pz, pz, pz, pz, pz], sS 5 5 16] [0,3,4,5] (pr [mS 17 3, fS 18 5 0, lF 19 1 18, fS 20 5 1, fS 21 20 0, lF 22 1 21, fS 23 5 1, fS 24 23 1, lF 25 1 24, fS 26 5 1, fS 27 26 2, lF 28 1 27, fS 29 5 4, lF 30 1 29, .lit 31 2 1 8 [.s 19, .s 22, .s 25, .s 28, .s 30], .app 32 0 1 8 (.s 17) (.s 31), mS 3 32] [0,3,4])))
(pr [mS 11 4, bC 12 .add 11 1, mS 4 12] [0,3,4]))))))
(Zs [mS 33 3, mS 2 33] [2] .ret))))
theorem Cc0 (xs : List GEntry) (hN : xs.length ≤ 1073741824) : Ctr Tryz.prog N6q [aL 5 (xs.map GEntry.enc)] [rL 1 ((K2g xs).map encI)] := by
 refine cA M62 3 34 [(.tmp 2, [true])] Tryz.func344 rfl rfl ?_; unfold M62
 intro hb
 simp only [bdA, bdL, bdT, Ke, roomB, and_true, List.length_map] at hb
 obtain ⟨hl, -⟩ := hb
 simp only [go_sem]
 refine K6 xs (fun k => [(3, .val false [.ref 0 0 1 0 (K2g (xs.take k)).length]), (4, vI k)]) (fun k => [(0, ⟨0, .row true 1 ((K2g (xs.take k)).map encI)⟩)]) (fun _ => True) hl ?_
 simp only [go_sem]
 refine ⟨?_, trivial, ?_, ?_⟩
 ·simp only [go_sem, List.take_zero]
  exact ⟨rfl, rfl⟩
 ·intro k x hx _ h0 h1 hw
  have hlt := List.length_take_le k xs
  simp only [go_sem, K5 hx, h0, h1, hw, K9i hx, List.length_append, Kad]
  refine ⟨⟨by simp, by decide⟩, by simp only [roomB]; omega, by simp [encI]⟩
 ·intro _
  simp only [go_sem, List.take_length]
def K1p (l : List GCapture) : List Int := l.map fun c => hashL (K4x c)
theorem K7y {l : List GCapture} {k : Nat} {x : GCapture} (h : l[k]? = some x) : K1p (l.take (k + 1)) = K1p (l.take k) ++ [hashL (K4x x)] := by
 rw [Kb h, K1p, List.map_append]; rfl
theorem K96 {l : List GCapture} : (K1p l).length = l.length := by simp [K1p]
theorem body_le {xs : List GCapture} {x : GCapture} {k : Nat} {n : Nat} (hx : xs[k]? = some x) (hs : xs.length + (xs.map GCapture.size).sum ≤ n) : x.Resource.Body.length ≤ n := by
 have hx1 := K1d (f := GCapture.size) (K10 hx)
 simp only [GCapture.size, GResource.size] at hx1 hs
 omega
def M4p : MC :=
(Zs [.nilo 2 0 1] [0] (Zs [.lit 5 0 1 8 [], mS 3 5] [0,3] (.seq (Zs [.mv 4 (ci 0)] [0,3,4] (.block 0 (.loop ([0,3,4], [1,2]) (.seq (Zs [mS 6 4, mS 7 0, nS 8 7, bS 9 .lss 6 8] [0,3,4,9] (cX 9 0))
(.seq (.block 1 (pr [mS 12 3, mS 13 0, mS 14 4, xS 15 9 13 14, lT 16 9 15, .call 17 [1] (.f N4y) [.s 16], .call 18 [] (.f N1b) [.s 17], .lit 19 2 1 8 [.s 18], .app 20 0 1 8 (.s 12) (.s 19), mS 3 20] [0,3,4]))
(pr [mS 10 4, bC 11 .add 10 1, mS 4 11] [0,3,4]))))))
(Zs [mS 21 3, mS 2 21] [2] .ret))))
theorem Cba (xs : List GCapture) (hs : xs.length + (xs.map GCapture.size).sum ≤ 1073741824) : Ctr Tryz.prog N4z [aL 9 (xs.map GCapture.enc)] [rL 1 ((K1p xs).map encI)] := by
 refine cA M4p 3 22 [(.tmp 2, [true])] Tryz.func345 rfl rfl ?_; unfold M4p
 intro hb
 clear hb
 simp only [go_sem]
 refine K6 xs (fun k => [(3, .val false [.ref 0 0 1 0 (K1p (xs.take k)).length]), (4, vI k)]) (fun k => [(0, ⟨0, .row true 1 ((K1p (xs.take k)).map encI)⟩)]) (fun _ => True) (by simp only [roomB]; omega) ?_
 simp only [go_sem]
 refine ⟨?_, trivial, ?_, ?_⟩
 ·simp only [go_sem, List.take_zero]
  exact ⟨rfl, rfl⟩
 ·intro k x hx _ h0 h1 hw
  have hlt := List.length_take_le k xs
  simp only [go_sem, K5 hx, h0, h1, K7y hx, List.length_append]
  apply K0 (Cb9 x (body_le hx hs))
  simp only [go_sem]
  try intro _
  apply K0 (C1v (K4x x))
  simp only [go_sem, hw]
  simp only [roomB, K96]
  exact ⟨by omega, by omega, fun _ => by simp [encI]⟩
 ·intro _
  simp only [go_sem, List.take_length]
def sealRoot (l : List GOp) (es : List GEntry) (cs : List GCapture) : Int := rootL [hashL (K1h l), hashL (K2g es), rootL (K1p cs)]
def M2r : MC :=
(Zs [.alloc 6 0 [.emp 4, .emp 5, .emp 9, pz]] [0,1,2,6] (Zs [.lit 8 1 4 32 [], mS 9 0, .app 10 1 4 32 (.s 8) (.s 9), .lit 11 2 5 40 [], mS 12 1, .app 13 2 5 40 (.s 11) (.s 12), mS 14 2, .call 15 [3] (.f N9m) [.s 14], .build 16 [.emp 4, .emp 5, .emp 9, pz] [(0, 1, .s 10), (1, 1, .s 13), (2, 1, .s 15)], .alloc 7 4 [.emp 4, .emp 5, .emp 9, pz], sS 4 7 16] [0,1,2,6,7] (Zs [mS 17 0, .call 18 [5] (.f N6o) [.s 17], .call 19 [] (.f N1b) [.s 18], mS 20 1, .call 21 [6] (.f N6q) [.s 20], .call 22 [] (.f N1b) [.s 21], mS 23 2, .call 24 [7] (.f N4z) [.s 23], .call 25 [] (.f N19) [.s 24], .lit 26 8 1 8 [.s 19, .s 22, .s 25], .call 27 [] (.f N19) [.s 26], fS 28 7 3, sS 1 28 27] [6,7] (Zs [lT 29 4 7, sS 4 6 29] [6] .ret))))
theorem C9u (l : List GOp) (es : List GEntry) (cs : List GCapture) (h1 : l.length ≤ 1073741824) (h2 : es.length ≤ 1073741824) (hs : cs.length + (cs.map GCapture.size).sum ≤ 1073741824) :
  Ctr Tryz.prog N2t [aL 4 (l.map GOp.enc), aL 5 (es.map GEntry.enc), aL 9 (cs.map GCapture.enc)] [rS (GContainer.enc ⟨l, es, cs, sealRoot l es cs⟩)] := by
 refine cA M2r 9 30 [(.cell 6 true 4, [true, true, true, false])] Tryz.func248 rfl rfl ?_; unfold M2r
 intro hb
 clear hb
 simp only [go_sem, ↓Ks (f := GOp.enc) (fun _ => rfl) l, ↓Ks (f := GEntry.enc) (fun _ => rfl) es]
 simp only [roomB]
 refine ⟨by omega, by omega, ?_⟩
 apply K0 (Cd5 cs hs)
 simp only [go_sem]
 intros
 apply K0 (Cby l (by omega))
 simp only [go_sem]
 apply K0 (C1v (K1h l))
 simp only [go_sem]
 apply K0 (Cc0 es h2)
 simp only [go_sem]
 apply K0 (C1v (K2g es))
 simp only [go_sem]
 apply K0 (Cba cs hs)
 simp only [go_sem]
 apply K0 (C9y _ (K1p cs) (Nat.le_refl _))
 simp only [go_sem]
 refine ⟨by decide, ?_⟩
 apply K0 (C9y _ [hashL (K1h l), hashL (K2g es), rootL (K1p cs)] (Nat.le_refl _))
 simp only [go_sem]
 intros
 rfl
def M9d : MC :=
(Zs [.box 1 0 (.s 0), .alloc 2 1 [.emp 4, .emp 5, .emp 9, pz]] [1,2] (Zs [fS 4 1 0, lF 5 1 4, fS 6 1 1, lF 7 1 6, fS 8 1 2, lF 9 1 8, .call 10 [2, 3, 4] (.f N2t) [.s 5, .s 7, .s 9], .alloc 3 5 [.emp 4, .emp 5, .emp 9, pz], sS 4 3 10] [1,2,3] (Zs [fS 11 1 3, lF 12 1 11, fS 13 3 3, sS 1 13 12] [2,3] (Zs [lT 14 4 3, sS 4 2 14] [2] .ret))))
theorem C92 (x : GContainer) (hs : x.size ≤ 1073741824) : Ctr Tryz.prog N49 [aS x.enc] [rS x.enc] := by
 refine cA M9d 6 15 [(.cell 2 true 4, [true, true, true, false])] Tryz.func251 rfl rfl ?_; unfold M9d
 intro hb
 clear hb
 simp only [GContainer.size] at hs
 simp only [go_sem]
 apply K0 (C9u x.Script x.Entries x.Captures (by omega) (by omega) (by omega))
 simp only [go_sem]
 try intros
 try trivial
def M29 : MC :=
(Zs [.nilo 2 0 4] [0] (Zs [.nilo 3 0 4] [0,3] (.seq (Zs [mS 6 0, nS 7 6, .mv 8 (ci 0)] [3,6,7,8] (.block 0 (.loop ([3,6,7,8], [1,2,3,4,5]) (Zs [bS 9 .lss 8 7] [3,6,7,8,9] (.seq (cX 9 0)
(.seq (.block 1 (Zs [xS 10 4 6 8, lT 11 4 10, .alloc 5 1 [.emp 4, .emp 5, .emp 9, pz], sS 4 5 11] [3,5,6,7,8] (.dreg [Zf [13,14,15,16,17,18,19,20,21,22,23,24,25] [2,3,4,5] (mS 12 3), Zc [12,16,17,19,20,22,23] (fS 13 5 0), Zd [12,16,17,19,20,22,23] [1] (lF 14 1 13), { o := .call 15 [2] (.f Ng) [.s 14], hs := [12,16,17,19,20,22,23], ws := [2], bf := [1,2] }, Zf [12,13,14,15,19,20,22,23] [2] (fS 16 5 1), Zg [12,13,14,15,19,20,22,23] [2] [4] (lF 17 1 16), { o := .call 18 [3] (.f Nj) [.s 17], hs := [12,19,20,22,23], ws := [3], bf := [1,2,3,4,5] }, Zf [12,13,14,15,16,17,18,22,23] [2,3] (fS 19 5 2), Zg [12,13,14,15,16,17,18,22,23] [2,3] [7] (lF 20 1 19), { o := .call 21 [4] (.f N3n) [.s 20], hs := [12,22,23], ws := [4], bf := [1,2,3,4,5,6,7,8] }, Zf [12,13,14,15,16,17,18,19,20,21] [2,3,4] (fS 22 5 3), Zg [12,13,14,15,16,17,18,19,20,21] [2,3,4] [10] (lF 23 1 22), Zd [12] [1,2,3,4,5,6,7,8,9,10,11] (.build 24 [.emp 4, .emp 5, .emp 9, pz] [(0, 1, .s 15), (1, 1, .s 18), (2, 1, .s 21), (3, 1, .s 23)]), { o := .lit 25 5 4 80 [.s 24], hs := [12], ws := [2,3,4,5], bf := [1,2,3,4,5,6,7,8,9,10,11,12] }, { o := .app 26 0 4 80 (.s 12) (.s 25), ws := [0,5], bf := (.range 14) }, Ze (.range 15) (mS 3 26)] [3,6,7,8])))
(pr [bC 27 .add 8 1, mS 8 27] [3,6,7,8])))))))
(Zs [mS 28 3, mS 2 28] [2] .ret))))
theorem C24 (xs : List GContainer) (hs : xs.length + (xs.map GContainer.size).sum ≤ 1073741824) : Ctr Tryz.prog Nz [aL 4 (xs.map GContainer.enc)] [rL 4 (xs.map GContainer.enc)] := by
 refine cA M29 6 29 [(.tmp 2, [true])] Tryz.func260 rfl rfl ?_; unfold M29
 intro hb
 clear hb
 simp only [go_sem]
 refine K6 xs (fun k => [(3, .val false [.ref 0 0 4 0 (xs.take k).length]), (8, vI k)]) (fun k => [(0, ⟨0, .row true 4 ((xs.take k).map GContainer.enc)⟩)]) (fun _ => True) (by simp only [roomB]; omega) ?_
 simp only [go_sem]
 refine ⟨?_, trivial, ?_, ?_⟩
 ·simp only [go_sem, List.take_zero]
 ·intro k x hx _ h0 h1 hw
  have hk : k < xs.length := by omega
  have hlt := List.length_take_le k xs
  have hx1 := K1d (f := GContainer.size) (K10 hx)
  simp only [GContainer.size] at hx1
  simp only [go_sem, K5 hx, h0, h1]
  apply K0 (C5d x.Script (by omega))
  simp only [go_sem]
  try intro _
  apply K0 (C9q x.Entries (by omega))
  simp only [go_sem]
  try intro _
  apply K0 (Cah x.Captures (by omega))
  simp only [go_sem, hw]
  simp only [roomB]
  exact ⟨by omega, by omega, fun _ => ⟨K2n hx, K2o hx⟩⟩
 ·intro _
  simp only [go_sem, List.take_length]
def M81 : MC := Y20
theorem Ccq (xs : List GVersion) (hs : xs.length + (xs.map GVersion.size).sum ≤ 1073741824) : Ctr Tryz.prog N8f [aL 9 (xs.map GVersion.enc)] [rL 9 (xs.map GVersion.enc)] := by
 refine cA M81 4 25 [(.tmp 2, [true])] Tryz.func180 rfl rfl ?_; unfold M81
 intro hb
 clear hb
 simp only [go_sem]
 refine K6 xs (fun k => [(3, .val false [.ref 0 0 9 0 (xs.take k).length]), (8, vI k)]) (fun k => [(0, ⟨0, .row true 9 ((xs.take k).map GVersion.enc)⟩)]) (fun _ => True) (by simp only [roomB]; omega) ?_
 simp only [go_sem]
 refine ⟨?_, trivial, ?_, ?_⟩
 ·simp only [go_sem, List.take_zero]
 ·intro k x hx _ h0 h1 hw
  have hk : k < xs.length := by omega
  have hlt := List.length_take_le k xs
  have hx1 := K1d (f := GVersion.size) (K10 hx)
  simp only [go_sem, K5 hx, h0, h1]
  apply K0 (C2u x.Resource (by simp only [GVersion.size, GResource.size] at hx1; omega))
  simp only [go_sem, hw]
  simp only [roomB]
  exact ⟨by omega, by omega, fun _ => ⟨K2n hx, K2o hx⟩⟩
 ·intro _
  simp only [go_sem, List.take_length]
def M9g : MC := Y21
theorem Cd8 (xs : List GVersion) (hs : xs.length + (xs.map GVersion.size).sum ≤ 1073741824) : Ctr Tryz.prog N9p [aL 9 (xs.map GVersion.enc)] [rL 9 (xs.map GVersion.enc)] := by
 refine cA M9g 3 33 [(.tmp 2, [true])] Tryz.func173 rfl rfl ?_; unfold M9g
 intro hb
 clear hb
 simp only [go_sem]
 refine K6 xs (fun k => [(3, .val false [.ref 0 0 9 0 (xs.take k).length]), (4, vI k)]) (fun k => [(0, ⟨0, .row true 9 ((xs.take k).map GVersion.enc)⟩)]) (fun _ => True) (by simp only [roomB]; omega) ?_
 simp only [go_sem]
 refine ⟨?_, trivial, ?_, ?_⟩
 ·simp only [go_sem, List.take_zero]
 ·intro k x hx _ h0 h1 hw
  have hk : k < xs.length := by omega
  have hlt := List.length_take_le k xs
  have hx1 := K1d (f := GVersion.size) (K10 hx)
  simp only [go_sem, K5 hx, h0, h1]
  apply K0 (C9z x.Resource (by simp only [GVersion.size, GResource.size] at hx1; omega))
  simp only [go_sem, hw]
  simp only [roomB]
  exact ⟨by omega, by omega, fun _ => ⟨K2n hx, K2o hx⟩⟩
 ·intro _
  simp only [go_sem, List.take_length]
def M2q : MC :=
(Zs [.nilo 2 0 4] [0] (Zs [.nilo 3 0 4] [0,3] (.seq (Zs [mS 6 0, nS 7 6, .mv 8 (ci 0)] [3,6,7,8] (.block 0 (.loop ([3,6,7,8], [1,2,3]) (Zs [bS 9 .lss 8 7] [3,6,7,8,9] (.seq (cX 9 0)
(.seq (.block 1 (Zs [xS 10 4 6 8, lT 11 4 10, .alloc 5 1 [pz, .emp 1, .pl (.sc (.bool false)), .pl (.sc (.bool false))], sS 4 5 11] [3,5,6,7,8] (Zs [fS 12 5 1, lF 13 1 12, .call 14 [2] (.f N2) [.s 13], fS 15 5 1, sS 1 15 14] [3,5,6,7,8] (pr [mS 16 3, lT 17 4 5, .lit 18 3 4 40 [.s 17], .app 19 0 4 40 (.s 16) (.s 18), mS 3 19] [3,6,7,8]))))
(pr [bC 20 .add 8 1, mS 8 20] [3,6,7,8])))))))
(Zs [mS 21 3, mS 2 21] [2] .ret))))
theorem C2p (xs : List GLibrary) (hs : xs.length + (xs.map GLibrary.size).sum ≤ 1073741824) : Ctr Tryz.prog N14 [aL 4 (xs.map GLibrary.enc)] [rL 4 (xs.map GLibrary.enc)] := by
 refine cA M2q 4 22 [(.tmp 2, [true])] Tryz.func184 rfl rfl ?_; unfold M2q
 intro hb
 clear hb
 simp only [go_sem]
 refine K6 xs (fun k => [(3, .val false [.ref 0 0 4 0 (xs.take k).length]), (8, vI k)]) (fun k => [(0, ⟨0, .row true 4 ((xs.take k).map GLibrary.enc)⟩)]) (fun _ => True) (by simp only [roomB]; omega) ?_
 simp only [go_sem]
 refine ⟨?_, trivial, ?_, ?_⟩
 ·simp only [go_sem, List.take_zero]
 ·intro k x hx _ h0 h1 hw
  have hk : k < xs.length := by omega
  have hlt := List.length_take_le k xs
  have hx1 := K1d (f := GLibrary.size) (K10 hx)
  simp only [go_sem, K5 hx, h0, h1]
  apply K0 (C6 x.Digests (by simp only [GLibrary.size] at hx1; omega))
  simp only [go_sem, hw]
  intro _
  simp only [roomB]
  exact ⟨by omega, by omega, K2n hx, K2o hx⟩
 ·intro _
  simp only [go_sem, List.take_length]
def M9c : MC :=
(Zs [.nilo 2 0 4] [0] (Zs [.lit 5 0 4 40 [], mS 3 5] [0,3] (.seq (Zs [.mv 4 (ci 0)] [0,3,4] (.block 0 (.loop ([0,3,4], [1,2]) (.seq (Zs [mS 6 4, mS 7 0, nS 8 7, bS 9 .lss 6 8] [0,3,4,9] (cX 9 0))
(.seq (.block 1 (.dreg [Zf [13,14,15,16,17,18,19,20,21,22,23,24,25,26,27,28,29,30,31,32,33,34,35,36] [1,2] (mS 12 3), Zf [12,14,18,19,20,21,22,23,24,25,26,27,28,29,30,31,32,33,34] [1] (mS 13 0), Zf [12,13,18,19,20,21,22,23,24,25,26,27,28,29,30,31,32,33,34] [1] (mS 14 4), Zg [12,18,19,20,21,22,23,24,25,26,27,28,29,30,31,32,33,34] [1] [1,2] (xS 15 4 13 14), Zg [12,18,19,20,21,22,23,24,25,26,27,28,29,30,31,32,33,34] [1] [1,2,3] (fS 16 15 0), Zg [12,18,19,20,21,22,23,24,25,26,27,28,29,30,31,32,33,34] [1] [1,2,3,4] (lF 17 1 16), { o := .lit 18 1 1 8 [], hs := [12,13,14,15,16,17,19,20,21,22,23,25,26,27,28,29,30,31,32,33,34], ws := [1] }, Zf [12,13,14,15,16,17,18,20,25,26,27,28,29,30,31,32,33,34] [1] (mS 19 0), Zf [12,13,14,15,16,17,18,19,25,26,27,28,29,30,31,32,33,34] [1] (mS 20 4), Zg [12,13,14,15,16,17,18,25,26,27,28,29,30,31,32,33,34] [1] [7,8] (xS 21 4 19 20), Zg [12,13,14,15,16,17,18,25,26,27,28,29,30,31,32,33,34] [1] [7,8,9] (fS 22 21 1), Zg [12,13,14,15,16,17,18,25,26,27,28,29,30,31,32,33,34] [1] [7,8,9,10] (lF 23 1 22), { o := .app 24 1 1 8 (.s 18) (.s 23), hs := [12,13,14,15,16,17,25,26,27,28,29,30,31,32,33,34], ws := [1], bf := [6,7,8,9,10,11] }, Zf [12,13,14,15,16,17,18,19,20,21,22,23,24,26,30,31,32,33,34] [1] (mS 25 0), Zf [12,13,14,15,16,17,18,19,20,21,22,23,24,25,30,31,32,33,34] [1] (mS 26 4), Zg [12,13,14,15,16,17,18,19,20,21,22,23,24,30,31,32,33,34] [1] [13,14] (xS 27 4 25 26), Zg [12,13,14,15,16,17,18,19,20,21,22,23,24,30,31,32,33,34] [1] [13,14,15] (fS 28 27 2), Zg [12,13,14,15,16,17,18,19,20,21,22,23,24,30,31,32,33,34] [1] [13,14,15,16] (lF 29 1 28), Zf [12,13,14,15,16,17,18,19,20,21,22,23,24,25,26,27,28,29,31] [1] (mS 30 0), Zf [12,13,14,15,16,17,18,19,20,21,22,23,24,25,26,27,28,29,30] [1] (mS 31 4), Zg [12,13,14,15,16,17,18,19,20,21,22,23,24,25,26,27,28,29] [1] [18,19] (xS 32 4 30 31), Zg [12,13,14,15,16,17,18,19,20,21,22,23,24,25,26,27,28,29] [1] [18,19,20] (fS 33 32 3), Zg [12,13,14,15,16,17,18,19,20,21,22,23,24,25,26,27,28,29] [1] [18,19,20,21] (lF 34 1 33), Zd [12] [1,2,3,4,5,6,7,8,9,10,11,12,13,14,15,16,17,18,19,20,21,22] (.build 35 [pz, .emp 1, .pl (.sc (.bool false)), .pl (.sc (.bool false))] [(0, 1, .s 17), (1, 1, .s 24), (2, 1, .s 29), (3, 1, .s 34)]), { o := .lit 36 2 4 40 [.s 35], hs := [12], ws := [1,2], bf := [1,2,3,4,5,6,7,8,9,10,11,12,13,14,15,16,17,18,19,20,21,22,23] }, { o := .app 37 0 4 40 (.s 12) (.s 36), ws := [0,2], bf := (.range 25) }, Ze (.range 26) (mS 3 37)] [0,3,4]))
(pr [mS 10 4, bC 11 .add 10 1, mS 4 11] [0,3,4]))))))
(Zs [mS 38 3, mS 2 38] [2] .ret))))
theorem C91 (xs : List GLibrary) (hs : xs.length + (xs.map GLibrary.size).sum ≤ 1073741824) : Ctr Tryz.prog N48 [aL 4 (xs.map GLibrary.enc)] [rL 4 (xs.map GLibrary.enc)] := by
 refine cA M9c 3 39 [(.tmp 2, [true])] Tryz.func175 rfl rfl ?_; unfold M9c
 intro hb
 clear hb
 simp only [go_sem]
 refine K6 xs (fun k => [(3, .val false [.ref 0 0 4 0 (xs.take k).length]), (4, vI k)]) (fun k => [(0, ⟨0, .row true 4 ((xs.take k).map GLibrary.enc)⟩)]) (fun _ => True) (by simp only [roomB]; omega) ?_
 simp only [go_sem]
 refine ⟨?_, trivial, ?_, ?_⟩
 ·simp only [go_sem, List.take_zero]
 ·intro k x hx _ h0 h1 hw
  have hk : k < xs.length := by omega
  have hlt := List.length_take_le k xs
  have hx1 := K1d (f := GLibrary.size) (K10 hx)
  simp only [GLibrary.size] at hx1
  simp only [go_sem, K5 hx, h0, h1, hw, ↓Ks (f := encI) (fun _ => rfl) x.Digests]
  simp only [roomB]
  exact ⟨by omega, by omega, by omega, K2n hx, K2o hx⟩
 ·intro _
  simp only [go_sem, List.take_length]
end Go.Proofs.YtgkeplbnnjogiaaGreatR
namespace Go.Proofs.YtgkeplbnnjogiaaGreatR
open Go Go.RowKit Go.Proofs
open Nat (reduceEqDiff reduceLT reduceLeDiff reduceAdd reduceMul)
open List (reduceReplicate)
def M80 : MC :=
(Zs [.box 1 0 (.s 0), .alloc 2 1 [.emp 4, .emp 6, .emp 4]] [1,2] (.seq (.dreg [Zc [6,7,9,10] (fS 3 1 0), Zd [6,7,9,10] [0] (lF 4 1 3), { o := .call 5 [2] (.f Nz) [.s 4], hs := [6,7,9,10], ws := [2], bf := [0,1] }, Zf [3,4,5,9,10] [2] (fS 6 1 1), Zg [3,4,5,9,10] [2] [3] (lF 7 1 6), { o := .call 8 [3] (.f Nk) [.s 7], hs := [9,10], ws := [3], bf := (.range 5) }, Zf [3,4,5,6,7,8] [2,3] (fS 9 1 2), Zg [3,4,5,6,7,8] [2,3] [6] (lF 10 1 9), { o := .call 11 [4] (.f Nz) [.s 10], ws := [4], bf := (.range 8) }, Ze (.range 9) (.build 12 [.emp 4, .emp 6, .emp 4] [(0, 1, .s 5), (1, 1, .s 8), (2, 1, .s 11)]), { o := sS 3 2 12, ws := [1,2,3,4], bf := (.range 10) }] [2])
.ret))
theorem Ccp (d : GDisk) (hs : d.size ≤ 1073741824) : Ctr Tryz.prog N8e [aS d.enc] [rS d.enc] := by
 refine cA M80 5 13 [(.cell 2 true 3, [true, true, true])] Tryz.func182 rfl rfl ?_; unfold M80
 intro hb
 clear hb
 simp only [GDisk.size] at hs
 simp only [go_sem]
 apply K0 (C24 d.Containers (by omega))
 simp only [go_sem]
 apply K0 (C9r d.Index (by omega))
 simp only [go_sem]
 apply K0 (C24 d.Wanted (by omega))
 simp only [go_sem]
 try intros
 try trivial
def M9e : MC :=
(Zs [.box 1 0 (.s 0), .alloc 2 1 [.emp 4, .emp 6, .emp 4]] [1,2] (Zs [.lit 6 2 6 48 [], fS 7 1 1, lF 8 1 7, .app 9 2 6 48 (.s 6) (.s 8), .buildO 10 [.emp 4, .emp 6, .emp 4] [(1, 1, .s 9)] [some 3, none, some 4], .alloc 3 5 [.emp 4, .emp 6, .emp 4], sS 3 3 10] [1,2,3] (.seq (Zs [.mv 4 (ci 0)] [1,2,3,4] (.block 0 (.loop ([1,2,3,4], [6,7,8,9,10,11,12,13]) (.seq (Zs [mS 11 4, fS 12 1 0, lF 13 1 12, nS 14 13, bS 15 .lss 11 14] [1,2,3,4,15] (cX 15 0))
(.seq (.block 1 (.dreg [Zf [20,21,22,23,24,25,26] [6,7,8,9] (fS 18 3 0), Zg [20,21,22,23,24,25,26] [6,7,8,9] [0] (lF 19 1 18), Zc [18,19,22] (fS 20 1 0), Zd [18,19,22] [2] (lF 21 1 20), Zc [18,19,20,21] (mS 22 4), Zd [18,19] [2,3,4] (xS 23 4 21 22), Zd [18,19] [2,3,4,5] (lT 24 4 23), { o := .call 25 [6, 7, 8] (.f N49) [.s 24], hs := [18,19], ws := [6,7,8], bf := [2,3,4,5,6] }, { o := .lit 26 9 4 80 [.s 25], hs := [18,19], ws := [6,7,8,9], bf := [2,3,4,5,6,7] }, { o := .app 27 3 4 80 (.s 19) (.s 26), ws := [3,9], bf := (.range 9) }, Ze (.range 10) (fS 28 3 0), { o := sS 1 28 27, ws := [3,5], bf := (.range 11) }] [1,2,3,4]))
(pr [mS 16 4, bC 17 .add 16 1, mS 4 17] [1,2,3,4]))))))
(.seq (Zs [.mv 5 (ci 0)] [1,2,3,5] (.block 2 (.loop ([1,2,3,5], [6,7,8,9,10,11,12,13]) (.seq (Zs [mS 29 5, fS 30 1 2, lF 31 1 30, nS 32 31, bS 33 .lss 29 32] [1,2,3,5,33] (cX 33 2))
(.seq (.block 3 (.dreg [Zf [38,39,40,41,42,43,44] [10,11,12,13] (fS 36 3 2), Zg [38,39,40,41,42,43,44] [10,11,12,13] [0] (lF 37 1 36), Zc [36,37,40] (fS 38 1 2), Zd [36,37,40] [2] (lF 39 1 38), Zc [36,37,38,39] (mS 40 5), Zd [36,37] [2,3,4] (xS 41 4 39 40), Zd [36,37] [2,3,4,5] (lT 42 4 41), { o := .call 43 [10, 11, 12] (.f N49) [.s 42], hs := [36,37], ws := [10,11,12], bf := [2,3,4,5,6] }, { o := .lit 44 13 4 80 [.s 43], hs := [36,37], ws := [10,11,12,13], bf := [2,3,4,5,6,7] }, { o := .app 45 4 4 80 (.s 37) (.s 44), ws := [4,13], bf := (.range 9) }, Ze (.range 10) (fS 46 3 2), { o := sS 1 46 45, ws := [4,5], bf := (.range 11) }] [1,2,3,5]))
(pr [mS 34 5, bC 35 .add 34 1, mS 5 35] [1,2,3,5]))))))
(Zs [lT 47 3 3, sS 3 2 47] [2] .ret)))))
theorem Cd6 (d : GDisk) (hs : d.size ≤ 1073741824) : Ctr Tryz.prog N9n [aS d.enc] [rS d.enc] := by
 refine cA M9e 14 48 [(.cell 2 true 3, [true, true, true])] Tryz.func174 rfl rfl ?_; unfold M9e
 intro hb
 clear hb
 simp only [GDisk.size] at hs
 simp only [go_sem, ↓Ks (f := GFound.enc) (fun _ => rfl) d.Index]
 simp only [roomB]
 refine ⟨by omega, ?_⟩
 refine K6 d.Containers (fun k => [(4, vI k)]) (fun k => [(3, ⟨0, .row true 4 ((d.Containers.take k).map GContainer.enc)⟩), (5, ⟨0, .box [.ref 3 0 4 0 (d.Containers.take k).length, .ref 2 0 6 0 d.Index.length, .ref 4 0 4 0 0]⟩)]) (fun _ => True) (by simp only [roomB]; omega) ?_
 simp only [go_sem]
 refine ⟨?_, trivial, ?_, ?_⟩
 ·simp only [go_sem, List.take_zero]
 ·intro k x hx _ h0 h1 hw
  have hlt := List.length_take_le k d.Containers
  have hk : k < d.Containers.length := by omega
  have hx1 := K1d (f := GContainer.size) (K10 hx)
  simp only [go_sem, K5 hx, h0, h1]
  apply K0 (C92 x (by omega))
  simp only [go_sem, hw]
  simp only [roomB]
  exact ⟨by omega, by omega, fun _ => ⟨K2o hx, K2n hx⟩⟩
 ·intro _
  simp only [go_sem, List.take_length]
  refine K6 d.Wanted (fun k => [(5, vI k)]) (fun k => [(4, ⟨0, .row true 4 ((d.Wanted.take k).map GContainer.enc)⟩), (5, ⟨0, .box [.ref 3 0 4 0 d.Containers.length, .ref 2 0 6 0 d.Index.length, .ref 4 0 4 0 (d.Wanted.take k).length]⟩)]) (fun _ => True) (by simp only [roomB]; omega) ?_
  simp only [go_sem]
  refine ⟨?_, trivial, ?_, ?_⟩
  ·simp only [go_sem, List.take_zero]
  ·intro k x hx _ h0 h1 hw
   have hlt := List.length_take_le k d.Wanted
   have hk : k < d.Wanted.length := by omega
   have hx1 := K1d (f := GContainer.size) (K10 hx)
   simp only [go_sem, K5 hx, h0, h1]
   apply K0 (C92 x (by omega))
   simp only [go_sem, hw]
   simp only [roomB]
   exact ⟨by omega, by omega, fun _ => ⟨K2o hx, K2n hx⟩⟩
  ·intro _
   simp only [go_sem, List.take_length]
def M4e : MC :=
(Zs [.box 1 0 (.s 0), .alloc 2 1 [.emp 9, .emp 4, .emp 4, .emp 6, .emp 4, .emp 5, .emp 4, .emp 1, .emp 4, pz]] [1,2] (.seq (.dreg [Zc [6,7,9,10,12,13,15,16,18,19,21,22,24,25] (fS 3 1 0), Zd [6,7,9,10,12,13,15,16,18,19,21,22,24,25] [0] (lF 4 1 3), { o := .call 5 [2] (.f N8f) [.s 4], hs := [6,7,9,10,12,13,15,16,18,19,21,22,24,25], ws := [2], bf := [0,1] }, Zf [3,4,5,9,10,12,13,15,16,18,19,21,22,24,25] [2] (fS 6 1 1), Zg [3,4,5,9,10,12,13,15,16,18,19,21,22,24,25] [2] [3] (lF 7 1 6), { o := .call 8 [3] (.f Ng) [.s 7], hs := [9,10,12,13,15,16,18,19,21,22,24,25], ws := [3], bf := (.range 5) }, Zf [3,4,5,6,7,8,12,13,15,16,18,19,21,22,24,25] [2,3] (fS 9 1 2), Zg [3,4,5,6,7,8,12,13,15,16,18,19,21,22,24,25] [2,3] [6] (lT 10 3 9), { o := .call 11 [4, 5, 6] (.f N8e) [.s 10], hs := [12,13,15,16,18,19,21,22,24,25], ws := [4,5,6], bf := (.range 8) }, Zf [3,4,5,6,7,8,9,10,11,15,16,18,19,21,22,24,25] [2,3,4,5,6] (fS 12 1 5), Zg [3,4,5,6,7,8,9,10,11,15,16,18,19,21,22,24,25] [2,3,4,5,6] [9] (lF 13 1 12), { o := .call 14 [7] (.f Nb) [.s 13], hs := [15,16,18,19,21,22,24,25], ws := [7], bf := (.range 11) }, Zf [3,4,5,6,7,8,9,10,11,12,13,14,18,19,21,22,24,25] [2,3,4,5,6,7] (fS 15 1 6), Zg [3,4,5,6,7,8,9,10,11,12,13,14,18,19,21,22,24,25] [2,3,4,5,6,7] [12] (lF 16 1 15), { o := .call 17 [8] (.f N14) [.s 16], hs := [18,19,21,22,24,25], ws := [8], bf := (.range 14) }, Zf [3,4,5,6,7,8,9,10,11,12,13,14,15,16,17,21,22,24,25] [2,3,4,5,6,7,8] (fS 18 1 7), Zg [3,4,5,6,7,8,9,10,11,12,13,14,15,16,17,21,22,24,25] [2,3,4,5,6,7,8] [15] (lF 19 1 18), { o := .call 20 [9] (.f N2) [.s 19], hs := [21,22,24,25], ws := [9], bf := (.range 17) }, Zf [3,4,5,6,7,8,9,10,11,12,13,14,15,16,17,18,19,20,24,25] [2,3,4,5,6,7,8,9] (fS 21 1 8), Zg [3,4,5,6,7,8,9,10,11,12,13,14,15,16,17,18,19,20,24,25] [2,3,4,5,6,7,8,9] [18] (lF 22 1 21), { o := .call 23 [10] (.f Nc) [.s 22], hs := [24,25], ws := [10], bf := (.range 20) }, Zf [3,4,5,6,7,8,9,10,11,12,13,14,15,16,17,18,19,20,21,22,23] [2,3,4,5,6,7,8,9,10] (fS 24 1 9), Zg [3,4,5,6,7,8,9,10,11,12,13,14,15,16,17,18,19,20,21,22,23] [2,3,4,5,6,7,8,9,10] [21] (lF 25 1 24), Ze (.range 23) (.build 26 [.emp 9, .emp 4, .emp 4, .emp 6, .emp 4, .emp 5, .emp 4, .emp 1, .emp 4, pz] [(0, 1, .s 5), (1, 1, .s 8), (2, 3, .s 11), (5, 1, .s 14), (6, 1, .s 17), (7, 1, .s 20), (8, 1, .s 23), (9, 1, .s 25)]), { o := sS 10 2 26, ws := [1,2,3,4,5,6,7,8,9,10], bf := (.range 24) }] [2])
.ret))
theorem Cax (a : GArchive) (hs : a.size ≤ 1073741824) : Ctr Tryz.prog N4q [aS a.enc] [rS a.enc] := by
 refine cA M4e 11 27 [(.cell 2 true 10, [true, true, true, true, true, true, true, true, true, false])] Tryz.func98 rfl rfl ?_; unfold M4e
 intro hb
 clear hb
 simp only [GArchive.size] at hs
 simp only [go_sem]
 apply K0 (Ccq a.Site (by omega))
 simp only [go_sem]
 apply K0 (C5d a.Script (by omega))
 simp only [go_sem]
 apply K0 (Ccp a.Disk (by omega))
 simp only [go_sem]
 apply K0 (C6v a.Exclusions (by omega))
 simp only [go_sem]
 apply K0 (C2p a.Libraries (by omega))
 simp only [go_sem]
 apply K0 (C6 a.Keys (by omega))
 simp only [go_sem]
 apply K0 (C6w a.Statements (by omega))
 simp only [go_sem]
 try intros
 try trivial
def M9f : MC :=
(Zs [.box 1 0 (.s 0), .alloc 2 1 [.emp 9, .emp 4, .emp 4, .emp 6, .emp 4, .emp 5, .emp 4, .emp 1, .emp 4, pz]] [1,2] (.seq (.dreg [Zf [6,7,8,10,11,13,14,15,17,18,20,21,22,24,25,26,28,29] [3,7,9,10] (fS 3 1 0), Zg [6,7,8,10,11,13,14,15,17,18,20,21,22,24,25,26,28,29] [3,7,9,10] [0] (lF 4 1 3), { o := .call 5 [2] (.f N9p) [.s 4], hs := [6,7,8,10,11,13,14,15,17,18,20,21,22,24,25,26,28,29], ho := [3,7,9,10], ws := [2], bf := [0,1] }, { o := .lit 6 3 4 32 [], hs := [3,4,5,7,8,10,11,13,14,15,17,18,20,21,22,24,25,26,28,29], ho := [2,7,9,10], ws := [3] }, Zf [3,4,5,6,10,11,13,14,15,17,18,20,21,22,24,25,26,28,29] [2,3,7,9,10] (fS 7 1 1), Zg [3,4,5,6,10,11,13,14,15,17,18,20,21,22,24,25,26,28,29] [2,3,7,9,10] [4] (lF 8 1 7), { o := .app 9 3 4 32 (.s 6) (.s 8), hs := [10,11,13,14,15,17,18,20,21,22,24,25,26,28,29], ho := [7,9,10], ws := [3], bf := (.range 6) }, Zf [3,4,5,6,7,8,9,13,14,15,17,18,20,21,22,24,25,26,28,29] [2,3,7,9,10] (fS 10 1 2), Zg [3,4,5,6,7,8,9,13,14,15,17,18,20,21,22,24,25,26,28,29] [2,3,7,9,10] [7] (lT 11 3 10), { o := .call 12 [4, 5, 6] (.f N9n) [.s 11], hs := [13,14,15,17,18,20,21,22,24,25,26,28,29], ho := [7,9,10], ws := [4,5,6], bf := (.range 9) }, { o := .lit 13 7 5 40 [], hs := [3,4,5,6,7,8,9,10,11,12,14,15,17,18,20,21,22,24,25,26,28,29], ho := [2,3,4,5,6,9,10], ws := [7] }, Zf [3,4,5,6,7,8,9,10,11,12,13,17,18,20,21,22,24,25,26,28,29] [2,3,4,5,6,7,9,10] (fS 14 1 5), Zg [3,4,5,6,7,8,9,10,11,12,13,17,18,20,21,22,24,25,26,28,29] [2,3,4,5,6,7,9,10] [11] (lF 15 1 14), { o := .app 16 7 5 40 (.s 13) (.s 15), hs := [17,18,20,21,22,24,25,26,28,29], ho := [9,10], ws := [7], bf := (.range 13) }, Zf [3,4,5,6,7,8,9,10,11,12,13,14,15,16,20,21,22,24,25,26,28,29] [2,3,4,5,6,7,9,10] (fS 17 1 6), Zg [3,4,5,6,7,8,9,10,11,12,13,14,15,16,20,21,22,24,25,26,28,29] [2,3,4,5,6,7,9,10] [14] (lF 18 1 17), { o := .call 19 [8] (.f N48) [.s 18], hs := [20,21,22,24,25,26,28,29], ho := [9,10], ws := [8], bf := (.range 16) }, { o := .lit 20 9 1 8 [], hs := [3,4,5,6,7,8,9,10,11,12,13,14,15,16,17,18,19,21,22,24,25,26,28,29], ho := [2,3,4,5,6,7,8,10], ws := [9] }, Zf [3,4,5,6,7,8,9,10,11,12,13,14,15,16,17,18,19,20,24,25,26,28,29] [2,3,4,5,6,7,8,9,10] (fS 21 1 7), Zg [3,4,5,6,7,8,9,10,11,12,13,14,15,16,17,18,19,20,24,25,26,28,29] [2,3,4,5,6,7,8,9,10] [18] (lF 22 1 21), { o := .app 23 9 1 8 (.s 20) (.s 22), hs := [24,25,26,28,29], ho := [10], ws := [9], bf := (.range 20) }, { o := .lit 24 10 4 32 [], hs := [3,4,5,6,7,8,9,10,11,12,13,14,15,16,17,18,19,20,21,22,23,25,26,28,29], ho := [2,3,4,5,6,7,8,9], ws := [10] }, Zf [3,4,5,6,7,8,9,10,11,12,13,14,15,16,17,18,19,20,21,22,23,24,28,29] [2,3,4,5,6,7,8,9,10] (fS 25 1 8), Zg [3,4,5,6,7,8,9,10,11,12,13,14,15,16,17,18,19,20,21,22,23,24,28,29] [2,3,4,5,6,7,8,9,10] [22] (lF 26 1 25), { o := .app 27 10 4 32 (.s 24) (.s 26), hs := [28,29], ws := [10], bf := (.range 24) }, Zf [3,4,5,6,7,8,9,10,11,12,13,14,15,16,17,18,19,20,21,22,23,24,25,26,27] [2,3,4,5,6,7,8,9,10] (fS 28 1 9), Zg [3,4,5,6,7,8,9,10,11,12,13,14,15,16,17,18,19,20,21,22,23,24,25,26,27] [2,3,4,5,6,7,8,9,10] [25] (lF 29 1 28), Ze (.range 27) (.build 30 [.emp 9, .emp 4, .emp 4, .emp 6, .emp 4, .emp 5, .emp 4, .emp 1, .emp 4, pz] [(0, 1, .s 5), (1, 1, .s 9), (2, 3, .s 12), (5, 1, .s 16), (6, 1, .s 19), (7, 1, .s 23), (8, 1, .s 27), (9, 1, .s 29)]), { o := sS 10 2 30, ws := [1,2,3,4,5,6,7,8,9,10], bf := (.range 28) }] [2])
.ret))
theorem Cd7 (a : GArchive) (hs : a.size ≤ 1073741824) : Ctr Tryz.prog N9o [aS a.enc] [rS a.enc] := by
 refine cA M9f 11 31 [(.cell 2 true 10, [true, true, true, true, true, true, true, true, true, false])] Tryz.func92 rfl rfl ?_; unfold M9f
 intro hb
 clear hb
 simp only [GArchive.size] at hs
 simp only [go_sem]
 apply K0 (Cd8 a.Site (by omega))
 simp only [go_sem, ↓Ks (f := GOp.enc) (fun _ => rfl) a.Script]
 refine ⟨by simp only [roomB]; omega, ?_⟩
 apply K0 (Cd6 a.Disk (by omega))
 simp only [go_sem, ↓Ks (f := GExclusion.enc) (fun _ => rfl) a.Exclusions]
 refine ⟨by simp only [roomB]; omega, ?_⟩
 apply K0 (C91 a.Libraries (by omega))
 simp only [go_sem, ↓Ks (f := encI) (fun _ => rfl) a.Keys, ↓Ks (f := GStatement.enc) (fun _ => rfl) a.Statements]
 simp only [roomB]
 exact ⟨by omega, by omega⟩
end Go.Proofs.YtgkeplbnnjogiaaGreatR
namespace Go.Proofs.YtgkeplbnnjogiaaGreatR
namespace Srt
structure Swo {α : Type} (lt : α → α → Bool) : Prop where
 asy : ∀ x y, lt x y = true → lt y x = false
 neg : ∀ x y z, lt x z = true → lt x y = true ∨ lt y z = true
variable {α : Type} {lt : α → α → Bool}
theorem Swo.tr (h : Swo lt) {x y z : α} (h1 : lt x y = true) (h2 : lt y z = true) : lt x z = true := by
 rcases h.neg x z y h1 with k | k
 ·exact k
 ·rw [h.asy y z h2] at k; cases k
theorem Swo.ntr (h : Swo lt) {x y z : α} (h1 : lt x y = false) (h2 : lt y z = false) : lt x z = false := by
 cases k : lt x z
 ·rfl
 ·rcases h.neg x y z k with k | k <;> simp_all
theorem Swo.irr (h : Swo lt) (x : α) : lt x x = false := by
 cases k : lt x x
 ·rfl
 ·have := h.asy x x k; simp_all
theorem Swo.lf (h : Swo lt) {x y z : α} (h1 : lt x y = true) (h2 : lt z y = false) : lt x z = true := by
 rcases h.neg x z y h1 with k | k <;> simp_all
theorem Swo.fl (h : Swo lt) {x y z : α} (h1 : lt y x = false) (h2 : lt y z = true) : lt x z = true := by
 rcases h.neg y x z h2 with k | k <;> simp_all
variable (lt)
def ins (x : α) : List α → List α
 | [] => [x]
 | z :: zs => if lt x z then x :: z :: zs else z :: ins x zs
def mrg (A B : List α) : List α := B.foldl (fun acc x => ins lt x acc) A
def isort (l : List α) : List α := mrg lt [] l
def srt (l : List α) : Prop := l.Pairwise fun x y => lt y x = false
variable {lt}
theorem mem_ins {x y : α} : ∀ {l : List α}, y ∈ ins lt x l ↔ y = x ∨ y ∈ l
 | [] => by simp [ins]
 | z :: zs => by
  simp only [ins]
  split
  ·simp
  ·rw [List.mem_cons, mem_ins, List.mem_cons]
   constructor <;> rintro (h | h | h) <;> simp [h]
theorem len_ins {x : α} : ∀ {l : List α}, (ins lt x l).length = l.length + 1
 | [] => rfl
 | z :: zs => by
  simp only [ins]
  split
  ·rfl
  ·simp [len_ins]
theorem mrg_nil {A : List α} : mrg lt A [] = A := rfl
theorem mrg_cons {A B : List α} {x : α} : mrg lt A (x :: B) = mrg lt (ins lt x A) B := rfl
theorem K30 {A B C : List α} : mrg lt A (B ++ C) = mrg lt (mrg lt A B) C := List.foldl_append
theorem mem_mrg {y : α} : ∀ {B A : List α}, y ∈ mrg lt A B ↔ y ∈ A ∨ y ∈ B
 | [], A => by simp [mrg_nil]
 | x :: B, A => by
  rw [mrg_cons, mem_mrg, mem_ins, List.mem_cons]
  exact ⟨fun h => h.elim (fun h => h.elim (fun h => .inr (.inl h)) .inl) (fun h => .inr (.inr h)), fun h => h.elim (fun h => .inl (.inr h)) (fun h => h.elim (fun h => .inl (.inl h)) .inr)⟩
theorem len_mrg : ∀ {B A : List α}, (mrg lt A B).length = A.length + B.length
 | [], A => rfl
 | x :: B, A => by
  rw [mrg_cons, len_mrg, len_ins, List.length_cons]; omega
theorem len_isort {l : List α} : (isort lt l).length = l.length := by
 unfold isort; rw [len_mrg]; simp
theorem K9s (h : Swo lt) {x y : α} (hxy : lt x y = true) : ∀ (A : List α), ins lt y (ins lt x A) = ins lt x (ins lt y A)
 | [] => by simp [ins, hxy, h.asy x y hxy]
 | z :: zs => by
  cases k1 : lt x z <;> cases k2 : lt y z
  ·simp [ins, k1, k2, K9s h hxy zs]
  ·rw [h.tr hxy k2] at k1; cases k1
  ·simp [ins, k1, k2, h.asy x y hxy]
  ·simp [ins, k1, k2, hxy, h.asy x y hxy]
theorem K9x (h : Swo lt) {x : α} : ∀ {s A : List α}, (∀ y ∈ s, lt x y = true) → mrg lt (ins lt x A) s = ins lt x (mrg lt A s)
 | [], A, _ => rfl
 | y :: s, A, hs => by
  rw [mrg_cons, K9s h (hs y (by simp)), K9x h (fun z hz => hs z (by simp [hz])), mrg_cons]
theorem K5n {x : α} {l : List α} : srt lt (x :: l) ↔ (∀ y ∈ l, lt y x = false) ∧ srt lt l := List.pairwise_cons
theorem srt_append {A B : List α} : srt lt (A ++ B) ↔ srt lt A ∧ srt lt B ∧ ∀ a ∈ A, ∀ b ∈ B, lt b a = false := List.pairwise_append
theorem srt_ins (h : Swo lt) {x : α} : ∀ {l : List α}, srt lt l → srt lt (ins lt x l)
 | [], _ => by simp [ins, srt]
 | z :: zs, hs => by
  obtain ⟨h1, h2⟩ := K5n.1 hs
  simp only [ins]
  split
  ·rename_i k
   refine K5n.2 ⟨fun y hy => ?_, hs⟩
   rcases List.mem_cons.1 hy with rfl | hy
   ·exact h.asy _ _ k
   ·exact h.ntr (h1 y hy) (h.asy _ _ k)
  ·rename_i k
   refine K5n.2 ⟨fun y hy => ?_, srt_ins h h2⟩
   rcases mem_ins.1 hy with rfl | hy
   ·simpa using k
   ·exact h1 y hy
theorem srt_mrg (h : Swo lt) : ∀ {B A : List α}, srt lt A → srt lt (mrg lt A B)
 | [], A, hA => hA
 | x :: B, A, hA => srt_mrg h (B := B) (srt_ins h hA)
theorem srt_isort (h : Swo lt) (l : List α) : srt lt (isort lt l) := srt_mrg h List.Pairwise.nil
theorem K8s (h : Swo lt) {x : α} : ∀ {l : List α}, srt lt l → ∃ s t, l = s ++ t ∧ ins lt x l = s ++ x :: t ∧ ∀ y ∈ t, lt x y = true
 | [], _ => ⟨[], [], rfl, rfl, by simp⟩
 | z :: zs, hs => by
  obtain ⟨h1, h2⟩ := K5n.1 hs
  cases k : lt x z
  ·obtain ⟨s, t, e, e2, h3⟩ := K8s h (x := x) h2
   exact ⟨z :: s, t, by simp [e], by simp [ins, k, e2], h3⟩
  ·refine ⟨[], z :: zs, rfl, by simp [ins, k], fun y hy => ?_⟩
   rcases List.mem_cons.1 hy with rfl | hy
   ·exact k
   ·exact h.lf k (h1 y hy)
theorem mrg_ins (h : Swo lt) {x : α} {A s : List α} (hs : srt lt s) : mrg lt A (ins lt x s) = ins lt x (mrg lt A s) := by
 obtain ⟨s1, s2, rfl, e, h2⟩ := K8s h (x := x) hs
 rw [e, K30, mrg_cons, K9x h h2, K30]
theorem isort_snoc {l : List α} {x : α} : isort lt (l ++ [x]) = ins lt x (isort lt l) := by
 unfold isort; rw [K30]; rfl
theorem mrg_isort (h : Swo lt) {A : List α} (r : List α) : mrg lt A (isort lt r) = mrg lt A r := by
 suffices H : ∀ (n : Nat) (r : List α), r.length = n → mrg lt A (isort lt r) = mrg lt A r from H _ r rfl
 intro n
 induction n with
 | zero => intro r hr; obtain rfl := List.length_eq_zero_iff.1 hr; rfl
 | succ n ih =>
  intro r hr
  rcases List.eq_nil_or_concat r with rfl | ⟨s, x, rfl⟩
  ·rfl
  ·rw [List.concat_eq_append] at *
   rw [isort_snoc, mrg_ins h (srt_isort h s), ih s (by simpa using hr), K30]; rfl
theorem K66 (h : Swo lt) (l r : List α) : isort lt (l ++ r) = mrg lt (isort lt l) (isort lt r) := by
 rw [mrg_isort h]; unfold isort; rw [K30]
theorem K9t {b : α} {A2 : List α} (h : ∀ a ∈ A2.head?, lt b a = true) : ∀ (A1 : List α), ins lt b (A1 ++ A2) = ins lt b A1 ++ A2
 | [] => by
  cases A2 with
  | nil => rfl
  | cons z zs => simp [ins, h z (by simp)]
 | z :: zs => by
  simp only [List.cons_append, ins]
  split
  ·rfl
  ·rw [K9t h zs, List.cons_append]
theorem K65 {b : α} {A2 : List α} : ∀ {A1 : List α}, (∀ a ∈ A1, lt b a = false) → ins lt b (A1 ++ A2) = A1 ++ ins lt b A2
 | [], _ => rfl
 | z :: zs, h => by
  simp only [List.cons_append, ins, h z (by simp), K65 (A1 := zs) (fun a ha => h a (by simp [ha]))]
  rfl
theorem ins_mid {x : α} {s t : List α} (h1 : ∀ a ∈ s, lt x a = false) (h2 : ∀ a ∈ t.head?, lt x a = true) : ins lt x (s ++ t) = s ++ x :: t := by
 rw [K65 h1]
 cases t with
 | nil => rfl
 | cons z zs => simp [ins, h2 z (by simp)]
theorem K9w {A2 : List α} : ∀ {B A1 : List α}, (∀ b ∈ B, ∀ a ∈ A2.head?, lt b a = true) → mrg lt (A1 ++ A2) B = mrg lt A1 B ++ A2
 | [], _, _ => rfl
 | b :: B, A1, h => by
  rw [mrg_cons, K9t (h b (by simp)), K9w (fun b hb => h b (by simp [hb])), mrg_cons]
theorem K68 {A1 : List α} : ∀ {B A2 : List α}, (∀ b ∈ B, ∀ a ∈ A1, lt b a = false) → mrg lt (A1 ++ A2) B = A1 ++ mrg lt A2 B
 | [], _, _ => rfl
 | b :: B, A2, h => by
  rw [mrg_cons, K65 (h b (by simp)), K68 (fun b hb => h b (by simp [hb])), mrg_cons]
theorem mrg_nil_srt (h : Swo lt) {l : List α} (hs : srt lt l) : mrg lt [] l = l := by
 suffices H : ∀ (l A : List α), srt lt (A ++ l) → mrg lt A l = A ++ l from H l [] (by simpa using hs)
 intro l
 induction l with
 | nil => intro A _; simp [mrg_nil]
 | cons x l ih =>
  intro A hA
  have := srt_append.1 hA
  rw [mrg_cons, show ins lt x A = A ++ [x] from by
   have := ins_mid (lt := lt) (x := x) (s := A) (t := []) (fun a ha => (srt_append.1 hA).2.2 a ha x (by simp)) (by simp)
   simpa using this, ih (A ++ [x]) (by simpa using hA)]
  simp
theorem K8v {A1 A2 B1 B2 : List α} (h1 : ∀ b ∈ B1, ∀ a ∈ A2.head?, lt b a = true) (h2 : ∀ b ∈ B2, ∀ a ∈ A1, lt b a = false) (h3 : ∀ b ∈ B2, ∀ a ∈ B1, lt b a = false) : mrg lt (A1 ++ A2) (B1 ++ B2) = mrg lt A1 B1 ++ mrg lt A2 B2 := by
 rw [K30, K9w h1, K68]
 intro b hb a ha
 rcases mem_mrg.1 ha with k | k
 ·exact h2 b hb a k
 ·exact h3 b hb a k
def blk (lt : α → α → Bool) (s : Nat) (l : List α) : List α :=
 if h : s = 0 ∨ l.length ≤ s then isort lt l else isort lt (l.take s) ++ blk lt s (l.drop s)
termination_by l.length
decreasing_by
 simp only [List.length_drop]
 omega
end Srt
end Go.Proofs.YtgkeplbnnjogiaaGreatR
namespace Go.Proofs.YtgkeplbnnjogiaaGreatR
open Go Go.RowKit Go.Proofs
open Nat (reduceEqDiff reduceLT reduceLeDiff reduceAdd reduceMul)
open List (reduceReplicate)
abbrev fI (f : FuncId) : RV := ⟨false, [(false, .fn f [])]⟩
attribute [go_sem] fI
def two (A : List (List T)) (e : List T) (B : List (List T)) (e' : List T) (C : List (List T)) : List (List T) := A ++ e :: (B ++ e' :: C)
theorem K7x {A B C : List (List T)} {p q : Nat} (hp : A.length = p) (hq : p + 1 + B.length = q) :
  (∀ e e', (two A e B e' C)[p]? = some e) ∧ (∀ e e', (two A e B e' C)[q]? = some e') ∧
  (∀ e e' u, (two A e B e' C).set p u = two A u B e' C) ∧ (∀ e e' u, (two A e B e' C).set q u = two A e B u C) ∧
  (∀ e e', (two A e B e' C).length = A.length + B.length + C.length + 2) ∧
  (∀ e e', (two A e B e' C).getD p [] = e) ∧ (∀ e e', (two A e B e' C).getD q [] = e') := by
 subst hp hq
 have h1 : ∀ e e', (two A e B e' C)[A.length]? = some e := fun e e' => by simp [two]
 have h2 : ∀ e e', (two A e B e' C)[A.length + 1 + B.length]? = some e' := fun e e' => by
  unfold two
  rw [List.getElem?_append_right (by omega), show A.length + 1 + B.length - A.length = B.length + 1 by omega, List.getElem?_cons_succ, List.getElem?_append_right (by omega), Nat.sub_self]
  rfl
 refine ⟨h1, h2, fun e e' u => by simp [two], fun e e' u => ?_, fun e e' => by simp [two]; omega, fun e e' => by rw [List.getD_eq_getElem?_getD, h1]; rfl, fun e e' => by rw [List.getD_eq_getElem?_getD, h2]; rfl⟩
 unfold two
 rw [List.set_append_right _ _ (by omega), show A.length + 1 + B.length - A.length = B.length + 1 by omega, List.set_cons_succ, List.set_append_right _ _ (by omega), Nat.sub_self]
 rfl
def swp {α : Type} (P X M Y Q : List α) (i : Nat) : List α := (P ++ Y.take i) ++ (X.drop i ++ M ++ X.take i) ++ (Y.drop i ++ Q)
theorem swp_len {α : Type} {P X M Y Q : List α} {i : Nat} (h : X.length = Y.length) : (swp P X M Y Q i).length = (P ++ X ++ M ++ Y ++ Q).length := by
 simp [swp, List.length_take, List.length_drop]; omega
theorem swp_two {α : Type} {P X M Y Q : List α} {i : Nat} {x y : α} {f : α → List T} (hx : X[i]? = some x) (hy : Y[i]? = some y) :
  (swp P X M Y Q i).map f = two ((P ++ Y.take i).map f) (f x) ((X.drop (i + 1) ++ M ++ X.take i).map f) (f y) ((Y.drop (i + 1) ++ Q).map f) ∧
  (swp P X M Y Q (i + 1)).map f = two ((P ++ Y.take i).map f) (f y) ((X.drop (i + 1) ++ M ++ X.take i).map f) (f x) ((Y.drop (i + 1) ++ Q).map f) := by
 constructor
 ·simp [swp, two, Km hx, Km hy]
 ·simp [swp, two, Kb hx, Kb hy]
theorem wN {a b : Nat} (h : a + b ≤ 9223372036854775807) : IntKind.i64.wrap ((a : Int) + (b : Int)) = ((a + b : Nat) : Int) := by
 rw [wI (by omega) (by omega)]; omega
theorem wN1 {a : Nat} (h : a + 1 ≤ 9223372036854775807) : IntKind.i64.wrap ((a : Int) + 1) = ((a + 1 : Nat) : Int) := by
 rw [wI (by omega) (by omega)]; omega
theorem wS {a b : Nat} (h : b ≤ a) (h2 : a ≤ 9223372036854775807) : IntKind.i64.wrap ((a : Int) - (b : Int)) = ((a - b : Nat) : Int) := by
 rw [wI (by omega) (by omega)]; omega
theorem wS1 {a : Nat} (h : 1 ≤ a) (h2 : a ≤ 9223372036854775807) : IntKind.i64.wrap ((a : Int) - 1) = ((a - 1 : Nat) : Int) := by
 rw [wI (by omega) (by omega)]; omega
end Go.Proofs.YtgkeplbnnjogiaaGreatR
namespace Go.Proofs.YtgkeplbnnjogiaaGreatR
open Go Go.RowKit Go.Proofs
open Nat (reduceEqDiff reduceLT reduceLeDiff reduceAdd reduceMul)
open List (reduceReplicate)
namespace Srt
variable {α : Type} {lt : α → α → Bool}
theorem srt_at {l : List α} (h : srt lt l) {i j : Nat} {x y : α} (hi : l[i]? = some x) (hj : l[j]? = some y) (hij : i < j) : lt y x = false := by
 obtain ⟨h1, rfl⟩ := List.getElem?_eq_some_iff.1 hi
 obtain ⟨h2, rfl⟩ := List.getElem?_eq_some_iff.1 hj
 exact (List.pairwise_iff_getElem.1 h) i j h1 h2 hij
theorem K2x (hw : Swo lt) {l : List α} (h : srt lt l) {i j : Nat} {x y : α} (hi : l[i]? = some x) (hj : l[j]? = some y) (hij : i ≤ j) : lt y x = false := by
 rcases Nat.lt_or_eq_of_le hij with k | rfl
 ·exact srt_at h hi hj k
 ·obtain rfl := Option.some.inj (hi.symm.trans hj)
  exact hw.irr x
theorem K2s {l : List α} {u : Nat} {x : α} (h : x ∈ l.take u) : ∃ i, i < u ∧ l[i]? = some x := by
 obtain ⟨i, hi⟩ := List.mem_iff_getElem?.1 h
 rw [List.getElem?_take] at hi
 split at hi
 ·exact ⟨i, by assumption, hi⟩
 ·cases hi
theorem K33 {l : List α} {u : Nat} {x : α} (h : x ∈ l.drop u) : ∃ i, u ≤ i ∧ l[i]? = some x := by
 obtain ⟨i, hi⟩ := List.mem_iff_getElem?.1 h
 rw [List.getElem?_drop] at hi
 exact ⟨u + i, by omega, hi⟩
theorem K9p {l : List α} {u : Nat} {x : α} (h : x ∈ (l.drop u).head?) : l[u]? = some x := by
 rw [List.head?_drop] at h
 exact h
theorem mrg_sym (hw : Swo lt) {X Y : List α} (hX : srt lt X) (hY : srt lt Y) {u M : Nat} (huX : u ≤ X.length) (huM : u ≤ M)
  (h1 : u = 0 ∨ Y.length ≤ M - u ∨ ∃ y x, Y[M - u]? = some y ∧ X[u - 1]? = some x ∧ lt y x = false)
  (h2 : u = M ∨ u = X.length ∨ ∃ y x, Y[M - 1 - u]? = some y ∧ X[u]? = some x ∧ lt y x = true) :
  mrg lt X Y = mrg lt (X.take u) (Y.take (M - u)) ++ mrg lt (X.drop u) (Y.drop (M - u)) := by
 conv => lhs; rw [← List.take_append_drop u X, ← List.take_append_drop (M - u) Y]
 refine K8v ?_ ?_ ?_
 ·intro b hb a ha
  obtain ⟨i, hi, eb⟩ := K2s hb
  have ea := K9p ha
  have hlt := Kj ea
  rcases h2 with h2 | h2 | ⟨y, x, e1, e2, h2⟩
  ·omega
  ·omega
  ·obtain rfl := Option.some.inj (e2.symm.trans ea)
   exact hw.fl (K2x hw hY eb e1 (by omega)) h2
 ·intro b hb a ha
  obtain ⟨i, hi, eb⟩ := K33 hb
  obtain ⟨k, hk, ea⟩ := K2s ha
  have hlt := Kj eb
  rcases h1 with h1 | h1 | ⟨y, x, e1, e2, h1⟩
  ·omega
  ·omega
  ·have p1 := K2x hw hY e1 eb (by omega)
   have p2 := K2x hw hX ea e2 (by omega)
   exact hw.ntr (hw.ntr p1 h1) p2
 ·intro b hb a ha
  obtain ⟨i, hi, eb⟩ := K33 hb
  obtain ⟨k, hk, ea⟩ := K2s ha
  exact srt_at hY ea eb (by omega)
theorem mrg_one (hw : Swo lt) {x : α} {Y : List α} (hY : srt lt Y) {u : Nat} (h1 : ∀ y ∈ Y.take u, lt y x = true) (h2 : ∀ y ∈ Y.drop u, lt y x = false) : mrg lt [x] Y = Y.take u ++ x :: Y.drop u := by
 have e := K8v (lt := lt) (A1 := []) (A2 := [x]) (B1 := Y.take u) (B2 := Y.drop u) (by simpa using h1) (by simp) (by
  intro b hb a ha
  obtain ⟨i, hi, eb⟩ := K33 hb
  obtain ⟨k, hk, ea⟩ := K2s ha
  exact srt_at hY ea eb (by omega))
 rw [List.take_append_drop, List.nil_append] at e
 rw [e, mrg_nil_srt hw (srt_append.1 ((List.take_append_drop u Y).symm ▸ hY)).1]
 have e2 := K68 (lt := lt) (A1 := [x]) (A2 := []) (B := Y.drop u) (by simpa using h2)
 rw [List.append_nil] at e2
 rw [e2, mrg_nil_srt hw (srt_append.1 ((List.take_append_drop u Y).symm ▸ hY)).2.1]
 rfl
theorem mrg_last {y : α} {X : List α} {u : Nat} (h1 : ∀ z ∈ X.take u, lt y z = false) (h2 : ∀ z ∈ X.drop u, lt y z = true) : mrg lt X [y] = X.take u ++ y :: X.drop u := by
 have := ins_mid (lt := lt) (x := y) h1 (fun z hz => h2 z (List.mem_of_mem_head? hz))
 rw [List.take_append_drop] at this
 exact this
theorem lo_of (hw : Swo lt) {Y : List α} (hY : srt lt Y) {w : Nat} {x y : α} (e : Y[w]? = some y) (h : lt y x = true) : ∀ z ∈ Y.take (w + 1), lt z x = true := fun z hz => by
 obtain ⟨i, hi, ez⟩ := K2s hz
 exact hw.fl (K2x hw hY ez e (by omega)) h
theorem hi_of (hw : Swo lt) {Y : List α} (hY : srt lt Y) {w : Nat} {x y : α} (e : Y[w]? = some y) (h : lt y x = false) : ∀ z ∈ Y.drop w, lt z x = false := fun z hz => by
 obtain ⟨i, hi, ez⟩ := K33 hz
 exact hw.ntr (K2x hw hY e ez hi) h
theorem lo_of' (hw : Swo lt) {X : List α} (hX : srt lt X) {w : Nat} {x y : α} (e : X[w]? = some x) (h : lt y x = false) : ∀ z ∈ X.take (w + 1), lt y z = false := fun z hz => by
 obtain ⟨i, hi, ez⟩ := K2s hz
 exact hw.ntr h (K2x hw hX ez e (by omega))
theorem hi_of' (hw : Swo lt) {X : List α} (hX : srt lt X) {w : Nat} {x y : α} (e : X[w]? = some x) (h : lt y x = true) : ∀ z ∈ X.drop w, lt y z = true := fun z hz => by
 obtain ⟨i, hi, ez⟩ := K33 hz
 exact hw.lf h (K2x hw hX e ez hi)
end Srt
theorem shr1 {k : Int} : (if (1 : Int) < 0 then none else some (Value.int IntKind.u64 (k.fdiv (2 ^ min (Int.toNat 1) 64)))) = some (Value.int IntKind.u64 (k.fdiv 2)) := by rw [if_neg (by decide)]; rfl
theorem u64_wrap {n : Int} (h1 : 0 ≤ n) (h2 : n ≤ 9223372036854775807) : IntKind.u64.wrap n = n := by
 simp only [IntKind.wrap, IntKind.signed, IntKind.bits, Bool.false_and, Bool.false_eq_true, if_false]
 omega
theorem K53 {i j : Nat} (h : i + j ≤ 9223372036854775807) : (IntKind.u64.wrap (IntKind.i64.wrap ((i : Int) + (j : Int)))).fdiv 2 = (((i + j) / 2 : Nat) : Int) := by
 rw [wN h, u64_wrap (by omega) (by omega), Int.fdiv_eq_ediv_of_nonneg _ (by omega)]
 omega
theorem wK {k : Nat} (h : k ≤ 9223372036854775807) : IntKind.i64.wrap (k : Int) = (k : Int) := wI (by omega) (by omega)
theorem sym7 {u l2 k l4 M : Nat} (hk : k = M - u) (huM : u ≤ M) (hM : M = (u + l2 + (k + l4)) / 2) (hX : 2 ≤ u + l2) (hY : 2 ≤ k + l4) :
  (0 < u ∧ 0 < l2 ∧ 0 < k ∧ 0 < l4) ∨ (u = 0 ∧ 0 < l2 ∧ 0 < k ∧ 0 < l4) ∨ (0 < u ∧ l2 = 0 ∧ 0 < k ∧ 0 < l4) ∨ (0 < u ∧ 0 < l2 ∧ k = 0 ∧ 0 < l4) ∨ (0 < u ∧ 0 < l2 ∧ 0 < k ∧ l4 = 0) ∨ (u = 0 ∧ 0 < l2 ∧ 0 < k ∧ l4 = 0) ∨ (0 < u ∧ l2 = 0 ∧ k = 0 ∧ 0 < l4) := by omega
theorem Ka {i j : Nat} (k : Nat) (h : j = i + k) (hk : 0 < k) : (i : Int) < (j : Int) := by omega
theorem K1e {i j : Nat} (k : Nat) (h : j = i + k) (hk : k = 0) : ¬ (i : Int) < (j : Int) := by omega
end Go.Proofs.YtgkeplbnnjogiaaGreatR
namespace Go.Proofs.YtgkeplbnnjogiaaGreatR
open Go Go.RowKit Go.Proofs
open Nat (reduceEqDiff reduceLT reduceLeDiff reduceAdd reduceMul)
open List (reduceReplicate)
namespace Srt
variable {α : Type} {lt : α → α → Bool}
def blks (lt : α → α → Bool) (s : Nat) : Nat → List α → List α
 | 0, l => l
 | k + 1, l => isort lt (l.take s) ++ blks lt s k (l.drop s)
theorem len_blks {s : Nat} : ∀ {k : Nat} {l : List α}, (blks lt s k l).length = l.length
 | 0, l => rfl
 | k + 1, l => by
  simp only [blks, List.length_append, len_isort, len_blks, List.length_take, List.length_drop]; omega
theorem blks_snoc {s : Nat} : ∀ {k : Nat} {l : List α}, (k + 1) * s ≤ l.length → ∃ A, A.length = k * s ∧ blks lt s k l = A ++ ((l.drop (k * s)).take s ++ l.drop ((k + 1) * s)) ∧ blks lt s (k + 1) l = A ++ (isort lt ((l.drop (k * s)).take s) ++ l.drop ((k + 1) * s))
 | 0, l, h => ⟨[], by simp, by simp [blks], by simp [blks]⟩
 | k + 1, l, h => by
  have h' : (k + 1) * s ≤ (l.drop s).length := by
   rw [Nat.succ_mul] at h
   simp only [List.length_drop]; omega
  obtain ⟨A, hA, e1, e2⟩ := blks_snoc (k := k) (l := l.drop s) h'
  have d1 : s + k * s = (k + 1) * s := by rw [Nat.succ_mul]; omega
  have d2 : s + (k + 1) * s = (k + 1 + 1) * s := by rw [Nat.succ_mul (k + 1)]; omega
  have hs : s ≤ l.length := by rw [Nat.succ_mul] at h; omega
  refine ⟨isort lt (l.take s) ++ A, ?_, ?_, ?_⟩
  ·rw [List.length_append, len_isort, List.length_take, Nat.min_eq_left hs, hA, d1]
  ·rw [blks, e1, List.drop_drop, List.drop_drop, d1, d2, List.append_assoc]
  ·rw [blks, e2, List.drop_drop, List.drop_drop, d1, d2, List.append_assoc]
theorem blks_last {s : Nat} : ∀ {k : Nat} {l : List α}, k * s ≤ l.length → l.length < (k + 1) * s → ∃ A, A.length = k * s ∧ blks lt s k l = A ++ l.drop (k * s) ∧ blks lt s (k + 1) l = A ++ isort lt (l.drop (k * s))
 | 0, l, _, h => by
  have h' : l.length ≤ s := by omega
  exact ⟨[], by simp, by simp [blks], by simp [blks, List.take_of_length_le h', List.drop_of_length_le h']⟩
 | k + 1, l, h0, h => by
  have d1 : s + k * s = (k + 1) * s := by rw [Nat.succ_mul]; omega
  have d2 : s + (k + 1) * s = (k + 1 + 1) * s := by rw [Nat.succ_mul (k + 1)]; omega
  have h1 : k * s + s ≤ l.length := by rw [← Nat.succ_mul]; exact h0
  have h2 : l.length < k * s + s + s := by rw [← Nat.succ_mul, ← Nat.succ_mul]; exact h
  obtain ⟨A, hA, e1, e2⟩ := blks_last (k := k) (l := l.drop s) (Nat.le_trans (Nat.le_sub_of_add_le h1) (by rw [List.length_drop]; exact Nat.le_refl _)) (by rw [List.length_drop, Nat.succ_mul]; exact Nat.sub_lt_right_of_lt_add (Nat.le_trans (Nat.le_add_left _ _) h1) h2)
  have hs : s ≤ l.length := Nat.le_trans (Nat.le_add_left _ _) h1
  refine ⟨isort lt (l.take s) ++ A, ?_, ?_, ?_⟩
  ·rw [List.length_append, len_isort, List.length_take, Nat.min_eq_left hs, hA, d1]
  ·rw [blks, e1, List.drop_drop, d1, List.append_assoc]
  ·rw [blks, e2, List.drop_drop, d1, List.append_assoc]
theorem blk_le {s : Nat} {l : List α} (h : l.length ≤ s) : blk lt s l = isort lt l := by
 rw [blk, dif_pos (.inr h)]
theorem K4a {s : Nat} {l : List α} : blk lt s l = isort lt (l.take s) ++ blk lt s (l.drop s) := by
 by_cases h : s = 0 ∨ l.length ≤ s
 ·rcases h with rfl | h
  ·simp [isort, mrg]
  ·rw [blk_le h, List.take_of_length_le h, List.drop_of_length_le h, blk_le (by simp)]
   simp [isort, mrg]
 ·rw [blk, dif_neg h]
theorem len_blk {s : Nat} : ∀ {n : Nat} {l : List α}, l.length ≤ n → (blk lt s l).length = l.length
 | 0, l, h => by rw [blk_le (by omega), len_isort]
 | n + 1, l, h => by
  by_cases h2 : s = 0 ∨ l.length ≤ s
  ·rw [blk, dif_pos h2, len_isort]
  ·rw [K4a, List.length_append, len_isort, len_blk (n := n) (by simp only [List.length_drop]; omega), List.length_take, List.length_drop]
   omega
theorem blks_blk {s : Nat} : ∀ {k : Nat} {l : List α}, k * s ≤ l.length → l.length < (k + 1) * s → blks lt s (k + 1) l = blk lt s l
 | 0, l, _, h => by
  have h' : l.length ≤ s := by omega
  rw [blk_le h']
  simp [blks, List.take_of_length_le h', List.drop_of_length_le h']
 | k + 1, l, h0, h => by
  rw [Nat.succ_mul] at h0 h
  rw [blks, K4a, blks_blk (k := k) (l := l.drop s) (by rw [List.length_drop]; omega) (by rw [List.length_drop]; omega)]
def mix (lt : α → α → Bool) (s : Nat) : Nat → List α → List α
 | 0, l => blk lt s l
 | k + 1, l => isort lt (l.take (2 * s)) ++ mix lt s k (l.drop (2 * s))
theorem len_mix {s : Nat} : ∀ {k : Nat} {l : List α}, (mix lt s k l).length = l.length
 | 0, l => len_blk (Nat.le_refl _)
 | k + 1, l => by
  rw [mix, List.length_append, len_isort, len_mix, List.length_take, List.length_drop]; omega
theorem mix_step (hw : Swo lt) {s : Nat} : ∀ {k : Nat} {l : List α}, k * (2 * s) + 2 * s ≤ l.length → ∃ P X Y Q, P.length = k * (2 * s) ∧ X.length = s ∧ Y.length = s ∧ srt lt X ∧ srt lt Y ∧ mix lt s k l = P ++ X ++ Y ++ Q ∧ mix lt s (k + 1) l = P ++ mrg lt X Y ++ Q
 | 0, l, h => by
  refine ⟨[], isort lt (l.take s), isort lt ((l.drop s).take s), blk lt s (l.drop (2 * s)), by simp, ?_, ?_, srt_isort hw _, srt_isort hw _, ?_, ?_⟩
  ·rw [len_isort, List.length_take]; omega
  ·rw [len_isort, List.length_take, List.length_drop]; omega
  ·rw [mix, K4a, K4a (l := l.drop s), List.drop_drop, show s + s = 2 * s by omega]
   simp
  ·rw [← K66 hw, mix, mix, List.nil_append, ← List.take_add, show s + s = 2 * s by omega]
 | k + 1, l, h => by
  have e : (k + 1) * (2 * s) = k * (2 * s) + 2 * s := Nat.succ_mul ..
  rw [e] at h
  obtain ⟨P, X, Y, Q, h1, h2, h3, h4, h5, h6, h7⟩ := mix_step hw (s := s) (k := k) (l := l.drop (2 * s)) (by rw [List.length_drop]; omega)
  refine ⟨isort lt (l.take (2 * s)) ++ P, X, Y, Q, ?_, h2, h3, h4, h5, ?_, ?_⟩
  ·rw [List.length_append, len_isort, h1, List.length_take, e]; omega
  ·rw [mix, h6]; simp
  ·rw [mix, h7]; simp
theorem mix_end (hw : Swo lt) {s : Nat} : ∀ {k : Nat} {l : List α}, k * (2 * s) ≤ l.length → l.length < k * (2 * s) + 2 * s →
  (k * (2 * s) + s < l.length → ∃ P X Y, P.length = k * (2 * s) ∧ X.length = s ∧ k * (2 * s) + s + Y.length = l.length ∧ srt lt X ∧ srt lt Y ∧ mix lt s k l = P ++ X ++ Y ∧ blk lt (2 * s) l = P ++ mrg lt X Y) ∧
  (l.length ≤ k * (2 * s) + s → mix lt s k l = blk lt (2 * s) l)
 | 0, l, h0, h => by
  refine ⟨fun h1 => ⟨[], isort lt (l.take s), isort lt (l.drop s), by simp, ?_, ?_, srt_isort hw _, srt_isort hw _, ?_, ?_⟩, fun h1 => ?_⟩
  ·rw [len_isort, List.length_take]; omega
  ·rw [len_isort, List.length_drop]; omega
  ·rw [mix, K4a, blk_le (l := l.drop s) (by rw [List.length_drop]; omega), List.nil_append]
  ·rw [← K66 hw, List.take_append_drop, blk_le (by omega), List.nil_append]
  ·rw [mix, blk_le (by omega), blk_le (by omega)]
 | k + 1, l, h0, h => by
  have e : (k + 1) * (2 * s) = k * (2 * s) + 2 * s := Nat.succ_mul ..
  rw [e] at h h0
  obtain ⟨i1, i2⟩ := mix_end hw (s := s) (k := k) (l := l.drop (2 * s)) (by rw [List.length_drop]; omega) (by rw [List.length_drop]; omega)
  rw [List.length_drop] at i1 i2
  rw [e]
  refine ⟨fun h1 => ?_, fun h1 => ?_⟩
  ·obtain ⟨P, X, Y, h1, h2, h3, h4, h5, h6, h7⟩ := i1 (by omega)
   refine ⟨isort lt (l.take (2 * s)) ++ P, X, Y, ?_, h2, by omega, h4, h5, ?_, ?_⟩
   ·rw [List.length_append, len_isort, h1, List.length_take]; omega
   ·rw [mix, h6]; simp
   ·rw [K4a, h7]; simp
  ·rw [mix, i2 (by omega), ← K4a]
end Srt
end Go.Proofs.YtgkeplbnnjogiaaGreatR
namespace Go.Proofs.YtgkeplbnnjogiaaGreatR
open Go Go.RowKit Go.Proofs
open Nat (reduceEqDiff reduceLT reduceLeDiff reduceAdd reduceMul)
open List (reduceReplicate)
end Go.Proofs.YtgkeplbnnjogiaaGreatR
namespace Go.Proofs.YtgkeplbnnjogiaaGreatR
open Go Go.RowKit Go.Proofs
open Nat (reduceEqDiff reduceLT reduceLeDiff reduceAdd reduceMul)
open List (reduceReplicate)
attribute [go_sem] eqB
def cmpI (x y : Int) : Int := if x < y then -1 else if y < x then 1 else 0
def fndLt (a b : GFound) : Bool := decide (a.Address.Host < b.Address.Host ∨ a.Address.Host = b.Address.Host ∧ (a.Address.Path < b.Address.Path ∨ a.Address.Path = b.Address.Path ∧ (a.Address.Query < b.Address.Query ∨ a.Address.Query = b.Address.Query ∧ a.Tick < b.Tick)))
def fnd1 (i : Nat) : Nat → List GCapture → List GFound
 | _, [] => []
 | k, c :: cs => ⟨c.Address, c.Tick, i, k⟩ :: fnd1 i (k + 1) cs
def fnds : Nat → List GContainer → List GFound
 | _, [] => []
 | i, x :: xs => fnd1 i 0 x.Captures ++ fnds (i + 1) xs
def index (l : List GContainer) : List GFound := Srt.isort fndLt (fnds 0 l)
theorem cutA {α : Type} {f : α → List T} {l : List α} {m : Nat} (h : m ≤ l.length) : (if ((m : Int) - 0).toNat = l.length then l.map f else List.take ((m : Int) - 0).toNat (l.map f)) = (l.take m).map f := by
 rw [show ((m : Int) - 0).toNat = m by omega]
 split
 ·rename_i e; rw [List.take_of_length_le (by omega)]
 ·rw [List.map_take]
theorem cutB {α : Type} {f : α → List T} {l : List α} {m : Nat} (h : m ≤ l.length) : (if m = 0 ∧ ((l.length : Int) - (m : Int)).toNat = l.length then l.map f else List.take ((l.length : Int) - (m : Int)).toNat (List.drop m (l.map f))) = (l.drop m).map f := by
 rw [show ((l.length : Int) - (m : Int)).toNat = l.length - m by omega]
 split
 ·rename_i e; rw [e.1]; rfl
 ·rw [List.take_of_length_le (by simp), List.map_drop]
namespace Srt
variable {α : Type} {lt : α → α → Bool}
theorem ins_at {l : List α} (hw : Swo lt) (hs : srt lt l) {x : α} {n : Nat} (h1 : ∀ z ∈ l.drop n, lt x z = true) (h2 : n = 0 ∨ ∃ y, l[n - 1]? = some y ∧ lt x y = false) : ins lt x l = l.take n ++ [x] ++ l.drop n := by
 have e : ins lt x (l.take n ++ l.drop n) = l.take n ++ x :: l.drop n := by
  refine ins_mid ?_ (fun a ha => h1 a (List.mem_of_mem_head? ha))
  intro a ha
  rcases h2 with rfl | ⟨y, hy, h⟩
  ·simp at ha
  ·obtain ⟨i, hi⟩ := List.mem_iff_getElem?.1 ha
   rw [List.getElem?_take] at hi
   split at hi
   ·rename_i hlt
    by_cases hin : i = n - 1
    ·subst hin
     obtain rfl := Option.some.inj (hi.symm.trans hy)
     exact h
    ·obtain ⟨h1, rfl⟩ := List.getElem?_eq_some_iff.1 hi
     obtain ⟨h2, rfl⟩ := List.getElem?_eq_some_iff.1 hy
     exact hw.ntr h ((List.pairwise_iff_getElem.1 hs) i (n - 1) h1 h2 (by omega))
   ·cases hi
 rw [List.take_append_drop] at e
 rw [e]; simp
theorem drop_step {l : List α} {x : α} {n : Nat} {y : α} (hn : 0 < n) (hy : l[n - 1]? = some y) (h : ∀ z ∈ l.drop n, lt x z = true) (hx : lt x y = true) : ∀ z ∈ l.drop (n - 1), lt x z = true := by
 obtain ⟨h1, rfl⟩ := List.getElem?_eq_some_iff.1 hy
 rw [List.drop_eq_getElem_cons h1, show n - 1 + 1 = n by omega]
 intro z hz
 rcases List.mem_cons.1 hz with rfl | hz
 ·exact hx
 ·exact h z hz
end Srt
def M7y : MC :=
(Zs [.mv 2 cF] [0] (Zs [mS 3 0, mS 4 0, bS 5 .neq 3 4, mS 2 5] [2] .ret))
theorem Cde (x : Int) : Ctr Tryz.prog N2s [aI x] [rB false] := by
 refine cA M7y 0 6 [(.tmp 2, [false])] Tryz.func384 rfl rfl ?_; unfold M7y
 intro hb
 clear hb
 simp only [go_sem]
def M5e : MC :=
(Zs [.mv 4 (ci 0)] [0,1] (Zs [mS 7 0, .call 8 [] (.f N2s) [.s 7], mS 5 8] [0,1,5] (Zs [mS 9 1, .call 10 [] (.f N2s) [.s 9], mS 6 10] [0,1,5,6] (.seq (Zs [mS 11 5] [0,1,6,11] (.cond (.s 11) (.seq (Zs [mS 12 6] [12] (.cond (.s 12) (Zs [.mv 4 (ci 0)] [4] .ret) .skip))
(Zs [.mv 4 (.c (.int .i64 (-1)))] [4] .ret)) .skip))
(.seq (Zs [mS 13 6] [0,1,13] (.cond (.s 13) (Zs [.mv 4 (ci 1)] [4] .ret) .skip))
(.seq (Zs [mS 14 0, mS 15 1, bS 16 .lss 14 15] [0,1,16] (.cond (.s 16) (Zs [.mv 4 (.c (.int .i64 (-1)))] [4] .ret) .skip))
(.seq (Zs [mS 17 0, mS 18 1, bS 19 .gtr 17 18] [19] (.cond (.s 19) (Zs [.mv 4 (ci 1)] [4] .ret) .skip))
(Zs [.mv 4 (ci 0)] [4] .ret))))))))
theorem Cd9 (x y : Int) : Ctr Tryz.prog N63 [aI x, aI y] [rI (cmpI x y)] := by
 refine cA M5e 0 20 [(.tmp 4, [false])] Tryz.func300 rfl rfl ?_; unfold M5e
 intro hb
 clear hb
 simp only [go_sem]
 repeat' first
  | (refine And.intro ?_ ?_ <;> intro h)
  | (apply K0 (Cde _); simp only [go_sem])
 all_goals (unfold cmpI; first | rfl | (repeat' split) <;> first | rfl | omega)
end Go.Proofs.YtgkeplbnnjogiaaGreatR
namespace Go.Proofs.YtgkeplbnnjogiaaGreatR
open Go Go.RowKit Go.Proofs
open Nat (reduceEqDiff reduceLT reduceLeDiff reduceAdd reduceMul)
open List (reduceReplicate)
theorem le_cast {n m : Nat} : decide ((n : Int) ≤ (m : Int)) = decide (n ≤ m) := by
 rw [Bool.eq_iff_iff]; simp only [decide_eq_true_eq]; omega
end Go.Proofs.YtgkeplbnnjogiaaGreatR
namespace Go.Proofs.YtgkeplbnnjogiaaGreatR
open Go Go.RowKit Go.Proofs
open Nat (reduceEqDiff reduceLT reduceLeDiff reduceAdd reduceMul)
open List (reduceReplicate)
def whole (d : GDisk) : Bool := decide (d.Index = index d.Containers)
end Go.Proofs.YtgkeplbnnjogiaaGreatR
namespace Go.Proofs.YtgkeplbnnjogiaaGreatR
open Go Go.RowKit Go.Proofs
open Nat (reduceEqDiff reduceLT reduceLeDiff reduceAdd reduceMul)
open List (reduceReplicate)
end Go.Proofs.YtgkeplbnnjogiaaGreatR
namespace Go.Proofs.YtgkeplbnnjogiaaGreatR
open Go Go.RowKit Go.Proofs
open Nat (reduceEqDiff reduceLT reduceLeDiff reduceAdd reduceMul)
open List (reduceReplicate)
end Go.Proofs.YtgkeplbnnjogiaaGreatR
namespace Go.Proofs.YtgkeplbnnjogiaaGreatR
open Go Go.RowKit Go.Proofs
open Nat (reduceEqDiff reduceLT reduceLeDiff reduceAdd reduceMul)
open List (reduceReplicate)
def capsOf (l : List GContainer) : List GCapture := l.flatMap fun x => x.Captures
def told (d : GDisk) : List GContainer := if whole d then d.Containers else d.Containers.dropLast
def allCaps (a : GArchive) : List GCapture := capsOf (told a.Disk)
def seen (a : GArchive) : List GCapture := visible (allCaps a) a.Exclusions a.Now
def served (a : GArchive) : List GCapture := (seen a).drop ((seen a).length - 20)
end Go.Proofs.YtgkeplbnnjogiaaGreatR
namespace Go.Proofs.YtgkeplbnnjogiaaGreatR
open Go Go.RowKit Go.Proofs
open Nat (reduceEqDiff reduceLT reduceLeDiff reduceAdd reduceMul)
open List (reduceReplicate)
end Go.Proofs.YtgkeplbnnjogiaaGreatR
namespace Go.Proofs.YtgkeplbnnjogiaaGreatR
open Go Go.RowKit Go.Proofs
open Nat (reduceEqDiff reduceLT reduceLeDiff reduceAdd reduceMul)
open List (reduceReplicate)
@[go_sem] theorem ownT_sl {z : Nat} {es : List (List T)} : ownT (.sl z es) = true := rfl
@[go_sem] theorem ownT_sc {v : Value} : ownT (.sc v) = false := rfl
end Go.Proofs.YtgkeplbnnjogiaaGreatR
namespace Go.Proofs
open Go.Shelf
def Tryz.lays189_ren : Go.Shelf.Ren := ⟨fun | 189 => 152 | 125 => 170 | 257 => 273 | 128 => 288 | 129 => 289 | 294 => 363 | 295 => 364 | 296 => 365 | 297 => 366 | 298 => 367 | 299 => 368 | 216 => 369 | 300 => 370 | 301 => 371 | 328 => 414 | 329 => 378 | 330 => 379 | 331 => 415 | 332 => 416 | 215 => 384 | 343 => 430 | n => n, fun | 28 => 30 | 3 => 3 | 46 => 200 | 0 => 0 | 51 => 289 | 53 => 291 | 4 => 4 | 183 => 282 | 182 => 281 | 131 => 286 | 5 => 5 | 9 => 9 | 218 => 345 | 222 => 314 | 228 => 377 | 229 => 104 | n => n, fun | n => n⟩
theorem Tryz.lays189 : Go.Proofs.Lays.n189 Tryz.prog Tryz.lays189_ren := {
 mixed := by kernel_rfl
 f125 := Tryz.func170.trans (congrArg some (by kernel_rfl))
 f128 := Tryz.func288.trans (congrArg some (by kernel_rfl))
 f129 := Tryz.func289.trans (congrArg some (by kernel_rfl))
 f189 := Tryz.func152.trans (congrArg some (by kernel_rfl))
 f215 := Tryz.func384.trans (congrArg some (by kernel_rfl))
 f216 := Tryz.func369.trans (congrArg some (by kernel_rfl))
 f257 := Tryz.func273.trans (congrArg some (by kernel_rfl))
 f294 := Tryz.func363.trans (congrArg some (by kernel_rfl))
 f295 := Tryz.func364.trans (congrArg some (by kernel_rfl))
 f296 := Tryz.func365.trans (congrArg some (by kernel_rfl))
 f297 := Tryz.func366.trans (congrArg some (by kernel_rfl))
 f298 := Tryz.func367.trans (congrArg some (by kernel_rfl))
 f299 := Tryz.func368.trans (congrArg some (by kernel_rfl))
 f300 := Tryz.func370.trans (congrArg some (by kernel_rfl))
 f301 := Tryz.func371.trans (congrArg some (by kernel_rfl))
 f328 := Tryz.func414.trans (congrArg some (by kernel_rfl))
 f329 := Tryz.func378.trans (congrArg some (by kernel_rfl))
 f330 := Tryz.func379.trans (congrArg some (by kernel_rfl))
 f331 := Tryz.func415.trans (congrArg some (by kernel_rfl))
 f332 := Tryz.func416.trans (congrArg some (by kernel_rfl))
 f343 := Tryz.func430.trans (congrArg some (by kernel_rfl))
 t0 := Tryz.underlying0
 a0 := Tryz.isAgg0
 z0 := Tryz.sizeOf0
 v0 := Tryz.zeroValue0
 t3 := Tryz.underlying3
 a3 := Tryz.isAgg3
 z3 := Tryz.sizeOf3
 v3 := Tryz.zeroValue3
 t4 := Tryz.underlying4
 a4 := Tryz.isAgg4
 z4 := Tryz.sizeOf4
 v4 := Tryz.zeroValue4
 t5 := Tryz.underlying5
 a5 := Tryz.isAgg5
 z5 := Tryz.sizeOf5
 v5 := Tryz.zeroValue5
 t9 := Tryz.underlying9
 a9 := Tryz.isAgg9
 z9 := Tryz.sizeOf9
 v9 := Tryz.zeroValue9
 t28 := Tryz.underlying30
 a28 := Tryz.isAgg30
 z28 := Tryz.sizeOf30
 v28 := Tryz.zeroValue30
 t46 := Tryz.underlying200
 a46 := Tryz.isAgg200
 z46 := Tryz.sizeOf200
 v46 := Tryz.zeroValue200
 t51 := Tryz.underlying289
 a51 := Tryz.isAgg289
 z51 := Tryz.sizeOf289
 v51 := Tryz.zeroValue289
 t53 := Tryz.underlying291
 a53 := Tryz.isAgg291
 z53 := Tryz.sizeOf291
 v53 := Tryz.zeroValue291
 t131 := Tryz.underlying286
 a131 := Tryz.isAgg286
 z131 := Tryz.sizeOf286
 v131 := Tryz.zeroValue286
 t182 := Tryz.underlying281
 a182 := Tryz.isAgg281
 z182 := Tryz.sizeOf281
 v182 := Tryz.zeroValue281
 t183 := Tryz.underlying282
 a183 := Tryz.isAgg282
 z183 := Tryz.sizeOf282
 v183 := Tryz.zeroValue282
 t218 := Tryz.underlying345
 a218 := Tryz.isAgg345
 z218 := Tryz.sizeOf345
 v218 := Tryz.zeroValue345
 t222 := Tryz.underlying314
 a222 := Tryz.isAgg314
 z222 := Tryz.sizeOf314
 v222 := Tryz.zeroValue314
 t228 := Tryz.underlying377
 a228 := Tryz.isAgg377
 z228 := Tryz.sizeOf377
 v228 := Tryz.zeroValue377
 t229 := Tryz.underlying104
 a229 := Tryz.isAgg104
 z229 := Tryz.sizeOf104
 v229 := Tryz.zeroValue104 }
open Go.Sort Go.RowKit in
theorem Tryz.slices_Sort_int (blk off cap : Nat) (zs : List Int) (w : World) (hH : Holds (Value.int .i64) w blk off zs.toArray) (hblk : blk < w.heap.size) (hsz : zs.length < 4611686018427387904) :
  Calls Tryz.prog 152 #[.slice (some ⟨blk, off, none⟩) zs.length cap] w fun e w' =>
   e = .returned (.tuple #[]) ∧ ∃ n os, w' = grow (putRow (Value.int .i64) (Sort.ahead w n) blk off (zs.mergeSort fun x y => decide (x ≤ y)).toArray) os := Any.slices_Sort_int Tryz.lays189 blk off cap zs w hH hblk hsz
def Tryz.laysNm220_ren : Go.Shelf.Ren := ⟨fun | 20 => 385 | n => n, fun | 22 => 30 | 3 => 3 | 4 => 4 | 0 => 0 | n => n, fun | n => n⟩
theorem Tryz.laysNm220 : Go.Proofs.Lays2.n20 Tryz.prog Tryz.laysNm220_ren := {
 mixed := by kernel_rfl
 f20 := Tryz.func385.trans (congrArg some (by kernel_rfl))
 t0 := Tryz.underlying0
 a0 := Tryz.isAgg0
 z0 := Tryz.sizeOf0
 v0 := Tryz.zeroValue0
 t3 := Tryz.underlying3
 a3 := Tryz.isAgg3
 z3 := Tryz.sizeOf3
 v3 := Tryz.zeroValue3
 t4 := Tryz.underlying4
 a4 := Tryz.isAgg4
 z4 := Tryz.sizeOf4
 v4 := Tryz.zeroValue4
 t22 := Tryz.underlying30
 a22 := Tryz.isAgg30
 z22 := Tryz.sizeOf30
 v22 := Tryz.zeroValue30
 i3 := by kernel_rfl }
open Go.RowKit Go.Lib Go.Sort in
theorem Tryz.slices_Compact_int (blk off cap : Nat) (zs : List Int) (w : World) (hH : Holds (Value.int .i64) w blk off zs.toArray) (hsz : zs.length ≤ 9223372036854775807) (hcap : zs.length ≤ cap) :
  Calls Tryz.prog 385 #[.slice (some ⟨blk, off, none⟩) zs.length cap] w fun e w' => e = .returned (.slice (some ⟨blk, off, none⟩) (Lib.compact zs).length cap) ∧ ∃ q, w' = putRow (Value.int .i64) (Sort.ahead w q) blk off (Lib.compact zs ++ List.replicate (zs.length - (Lib.compact zs).length) 0).toArray := Any.slices_Compact_int Tryz.laysNm220 blk off cap zs w hH hsz hcap
open Go.RowKit Go.Lib Go.Sort in
theorem Tryz.slices_Compact_int_empty (a : Option Addr) (cap : Nat) (w : World) :
  Calls Tryz.prog 385 #[.slice a 0 cap] w fun e w' => e = .returned (.slice a 0 cap) ∧ w' = w := Any.slices_Compact_int_empty Tryz.laysNm220 a cap w
open Go.RowKit Go.Sort in
theorem Tryz.slices_Sort_int_none (p : Option Addr) (cap : Nat) (w : World) :
  Calls Tryz.prog 152 #[.slice p 0 cap] w fun e w' => e = .returned (.tuple #[]) ∧ w' = w := Any.slices_Sort_int_none Tryz.lays189 p cap w
end Go.Proofs
namespace Go.Proofs.YtgkeplbnnjogiaaGreatR
open Go Go.RowKit Go.Proofs
open Nat (reduceEqDiff reduceLT reduceLeDiff reduceAdd reduceMul)
open List (reduceReplicate)
theorem K3u {w : World} {b : Nat} : ∀ {zs : List Int} {off : Nat} {G : List Nat}, OwRow w 1 b off (zs.map encI) G → G = [] ∧ ∀ (j : Nat) (x : Int), zs[j]? = some x → w.cell? ⟨b, off + j, none⟩ = some (.int .i64 x) ∧ oneW (.int .i64 x) = true
 | [], off, G, h => ⟨h, fun j x hx => by simp at hx⟩
 | z :: zs, off, G, h => by
  obtain ⟨_, G1, G2, h1, h2, rfl⟩ := h
  obtain ⟨v, Ga, Gb, hc, ⟨rfl, hw, rfl⟩, rfl, rfl⟩ := h1
  obtain ⟨rfl, ih⟩ := K3u h2
  refine ⟨rfl, fun j x hx => ?_⟩
  cases j with
  | zero =>
   simp only [List.getElem?_cons_zero, Option.some.injEq] at hx
   subst hx
   exact ⟨hc, hw⟩
  | succ j =>
   have := ih j x (by simpa using hx)
   rw [Nat.add_assoc, Nat.add_comm 1 j] at this
   exact this
theorem owRow_int' {w : World} {b : Nat} : ∀ {zs : List Int} {off : Nat}, (∀ (j : Nat) (x : Int), zs[j]? = some x → w.cell? ⟨b, off + j, none⟩ = some (.int .i64 x) ∧ oneW (.int .i64 x) = true) → OwRow w 1 b off (zs.map encI) []
 | [], off, h => rfl
 | z :: zs, off, h => by
  have h0 := h 0 z rfl
  refine ⟨rfl, [], [], ⟨_, [], [], h0.1, ⟨rfl, h0.2, rfl⟩, rfl, rfl⟩, owRow_int' fun j x hx => ?_, rfl⟩
  have := h (j + 1) x (by simpa using hx)
  rw [Nat.add_assoc, Nat.add_comm 1 j]
  exact this
def sortI (zs : List Int) : List Int := zs.mergeSort fun x y => decide (x ≤ y)
def uniqI (zs : List Int) : List Int := Lib.compact zs
def sortU (zs : List Int) : List Int := uniqI (sortI zs)
theorem K4p (zs : List Int) : (sortI zs).length = zs.length := (List.mergeSort_perm _ _).length_eq
theorem sortI_mem {zs : List Int} {x : Int} (h : x ∈ sortI zs) : x ∈ zs := (List.mergeSort_perm _ _).mem_iff.1 h
theorem K63 {w : World} {b off : Nat} {zs : List Int} {row : Array Value} {ty : TypeId} (hh : w.heap[b]? = some (.cells row ty (0, 0))) (h : ∀ (j : Nat) (x : Int), zs[j]? = some x → w.cell? ⟨b, off + j, none⟩ = some (.int .i64 x) ∧ oneW (.int .i64 x) = true) : Go.Sort.Holds (Value.int .i64) w b off zs.toArray := by
 intro j hj
 obtain ⟨x, hx⟩ := Kh (l := zs) (k := j) (by simpa using hj)
 have e : zs.toArray[j]! = x := by
  rw [getElem!_pos _ j hj]
  simpa using (List.getElem?_eq_some_iff.1 hx).2
 rw [e]
 exact ⟨(h j x hx).1, by simp [World.frozen?, hh]⟩
theorem bel_put {w : World} {b off : Nat} {zs : List Int} {G : List Nat} (n : Nat) (os : Array Obj) (hb : b ∈ G) (hlt : b < w.heap.size) : Bel (fun k => k < w.heap.size ∧ k ∉ G) w (Go.Sort.grow (Go.Sort.putRow (Value.int .i64) (Go.Sort.ahead w n) b off zs.toArray) os) := by
 have hsz : (Go.Sort.putRow (Value.int .i64) (Go.Sort.ahead w n) b off zs.toArray).heap.size = w.heap.size := by simp [Go.Sort.putRow, Go.Sort.mapBlock, Go.Sort.ahead]
 refine ⟨rfl, rfl, rfl, ?_, fun k hk => ?_⟩
 ·show _ ≤ ((Go.Sort.putRow (Value.int .i64) (Go.Sort.ahead w n) b off zs.toArray).heap ++ os).size
  rw [Array.size_append, hsz]; omega
 ·show ((Go.Sort.putRow (Value.int .i64) (Go.Sort.ahead w n) b off zs.toArray).heap ++ os)[k]? = _
  rw [Array.getElem?_append_left (by rw [hsz]; exact hk.1)]
  have hne : k ≠ b := fun hh => hk.2 (hh ▸ hb)
  simp [Go.Sort.putRow, Go.Sort.mapBlock, Go.Sort.ahead, Array.getElem?_modify, hne.symm]
theorem ow_put {w : World} {b off cap m n : Nat} {zs ds : List Int} {row : Array Value} {ty : TypeId} {os : Array Obj} (hb : b < w.heap.size) (hh : w.heap[b]? = some (.cells row ty (0, 0))) (hc : off + cap * 1 ≤ row.size) (hln : Ln zs.length cap)
  (hz : ∀ (j : Nat) (x : Int), zs[j]? = some x → w.cell? ⟨b, off + j, none⟩ = some (.int .i64 x) ∧ oneW (.int .i64 x) = true) (hd : ds.length = zs.length) (hin : ∀ x ∈ ds, oneW (.int .i64 x) = true) (hm : m ≤ ds.length) :
  Ow (Go.Sort.grow (Go.Sort.putRow (Value.int .i64) (Go.Sort.ahead w n) b off ds.toArray) os) (.sl 1 ((ds.take m).map encI)) (.slice (some ⟨b, off, none⟩) m cap) [b] := by
 have hml : ((ds.take m).map encI).length = m := by rw [List.length_map, List.length_take]; omega
 have hH := K63 hh hz
 have hsz : (Go.Sort.putRow (Value.int .i64) (Go.Sort.ahead w n) b off ds.toArray).heap.size = w.heap.size := by simp [Go.Sort.putRow, Go.Sort.mapBlock, Go.Sort.ahead]
 have hheap : (Go.Sort.grow (Go.Sort.putRow (Value.int .i64) (Go.Sort.ahead w n) b off ds.toArray) os).heap[b]? = some (.cells (Go.Sort.putCells (Value.int .i64) off ds.toArray row) ty (0, 0)) := by
  show ((Go.Sort.putRow (Value.int .i64) (Go.Sort.ahead w n) b off ds.toArray).heap ++ os)[b]? = _
  rw [Array.getElem?_append_left (by rw [hsz]; exact hb)]
  simp [Go.Sort.putRow, Go.Sort.mapBlock, Go.Sort.ahead, Array.getElem?_modify, hh, Go.Sort.onCells]
 refine ⟨some ⟨b, off, none⟩, cap, by rw [hml], by rw [hml]; exact hln.mono (by omega), .inr ⟨b, off, Go.Sort.putCells (Value.int .i64) off ds.toArray row, ty, [], rfl, hheap, by simpa [Go.Sort.putCells] using hc, ?_, rfl⟩⟩
 refine owRow_int' fun j x hx => ?_
 rw [List.getElem?_take] at hx
 split at hx
 ·rename_i hjm
  have hj : j < ds.toArray.size := by simpa using (List.getElem?_eq_some_iff.1 hx).1
  have e : ds.toArray[j]! = x := by
   rw [getElem!_pos _ j hj]
   simpa using (List.getElem?_eq_some_iff.1 hx).2
  have h1 := Go.Sort.cell?_putRow (Value.int .i64) (Go.Sort.ahead w n) b off zs.toArray ds.toArray (Go.Sort.holds_ahead _ _ _ _ _ _ hH) (by simpa using hd) j hj
  rw [e] at h1
  refine ⟨?_, hin x (K10 hx)⟩
  rw [← h1]
  exact Go.Sort.cell?_grow _ _ _ (by rw [hsz]; exact hb)
 ·cases hx
theorem K8j {w : World} {X : Nat → Prop} {es : List (List T)} {sz : Nat} {vs : List Value} {G : List Nat} (h : ResVs w X [oL sz es] vs G) : ∃ v, vs = [v] ∧ Ow w (.sl sz es) v G := by
 match vs, h with
 | [v], ⟨G1, G2, h1, h2, e⟩ =>
  obtain ⟨_, Ga, Gb, h3, h4, e2⟩ := h1
  simp only [ResVs] at h2
  simp only [ResC] at h4
  subst h2 h4 e2 e
  exact ⟨v, rfl, by simpa using h3⟩
 | [], h => exact h.elim
theorem Cbw (zs : List Int) : CtrI Tryz.prog N2n [oL 1 (zs.map encI)] [some (1, (sortI zs).map encI)] [] := by
 refine ⟨⟨Tryz.f152, Tryz.func152, by kernel_rfl, by kernel_rfl⟩, fun w X vs G ht h hG hGb => ?_⟩
 obtain ⟨v, rfl, hr⟩ := K8j h
 obtain ⟨A, cap, rfl, hln, hr⟩ := hr
 rw [List.length_map] at hln ⊢
 rcases hr with ⟨rfl, hz, rfl⟩ | ⟨b, off, row, ty, G1, rfl, hh, hc, hrow, rfl⟩
 ·obtain rfl : zs = [] := by simpa using hz
  refine (Tryz.slices_Sort_int_none A 0 w).mono ?_
  rintro e w' ⟨rfl, rfl⟩
  exact ⟨Bel.refl _ _, [], [], [], rfl, ⟨[], [], by simp [sortI]; exact ⟨A, 0, rfl, hln, .inl ⟨rfl, rfl, rfl⟩⟩, rfl, rfl⟩, rfl, by simp, by simp⟩
 ·obtain ⟨rfl, hz⟩ := K3u hrow
  have hb : b < w.heap.size := (hGb b (by simp)).1
  have hin : ∀ x ∈ sortI zs, oneW (.int .i64 x) = true := fun x hx => by
   obtain ⟨j, hj⟩ := List.getElem?_of_mem (sortI_mem hx)
   exact (hz j x hj).2
  refine (Tryz.slices_Sort_int b off cap zs w (K63 hh hz) hb (by have := hln.2; simp only [roomB] at this; omega)).mono ?_
  rintro e w' ⟨rfl, n, os, rfl⟩
  have hB := bel_put (zs := sortI zs) (b := b) (off := off) (G := [b]) n os (by simp) hb
  have hO := ow_put (m := zs.length) (n := n) (os := os) (ds := sortI zs) hb hh hc hln hz (K4p zs) hin (by rw [K4p]; exact Nat.le_refl _)
  rw [List.take_of_length_le (by rw [K4p]; exact Nat.le_refl _)] at hO
  refine ⟨hB, [], [b], [], rfl, ⟨[b], [], hO, rfl, rfl⟩, rfl, by simp, fun b' hb' => ⟨.inl (by simpa using hb'), ?_⟩⟩
  rw [show b' = b by simpa using hb']
  exact Nat.lt_of_lt_of_le hb hB.size
theorem getD_mem {zs : List Int} {j : Nat} (h : j < zs.length) : zs.toArray[j]! ∈ zs := by
 rw [getElem!_pos zs.toArray j (by simpa using h)]
 simp
theorem Kac {zs : List Int} {x : Int} (h : x ∈ Lib.compact zs) : x ∈ zs := by
 simp only [Lib.compact, Lib.compactUpTo, List.mem_map, List.mem_filter, List.mem_range] at h
 obtain ⟨j, ⟨hj, _⟩, rfl⟩ := h
 exact getD_mem hj
theorem Kab (zs : List Int) : (Lib.compact zs).length ≤ zs.length := by
 unfold Lib.compact Lib.compactUpTo
 rw [List.length_map]
 exact Nat.le_trans (List.length_filter_le _ _) (by simp)
theorem C9s (zs : List Int) : CtrI Tryz.prog N1o [oL 1 (zs.map encI)] [none] [rL 1 ((uniqI zs).map encI)] := by
 refine ⟨⟨Tryz.f385, Tryz.func385, by kernel_rfl, by kernel_rfl⟩, fun w X vs G ht h hG hGb => ?_⟩
 obtain ⟨v, rfl, hr⟩ := K8j h
 obtain ⟨A, cap, rfl, hln, hr⟩ := hr
 rw [List.length_map] at hln ⊢
 rcases hr with ⟨rfl, hz, rfl⟩ | ⟨b, off, row, ty, G1, rfl, hh, hc, hrow, rfl⟩
 ·obtain rfl : zs = [] := by simpa using hz
  refine (Tryz.slices_Compact_int_empty A 0 w).mono ?_
  rintro e w' ⟨rfl, rfl⟩
  exact ⟨Bel.refl _ _, [_], [], [], rfl, rfl, ⟨[], [], by simp [ResV, ResC, uniqI, Lib.compact]; exact ⟨A, 0, rfl, hln, .inl ⟨rfl, rfl, rfl⟩⟩, rfl, rfl⟩, by simp, by simp⟩
 ·obtain ⟨rfl, hz⟩ := K3u hrow
  have hb : b < w.heap.size := (hGb b (by simp)).1
  have hlc := Kab zs
  have hin : ∀ x ∈ Lib.compact zs ++ List.replicate (zs.length - (Lib.compact zs).length) 0, oneW (.int .i64 x) = true := fun x hx => by
   rcases List.mem_append.1 hx with hx | hx
   ·obtain ⟨j, hj⟩ := List.getElem?_of_mem (Kac hx)
    exact (hz j x hj).2
   ·rw [(List.mem_replicate.1 hx).2]; rfl
  refine (Tryz.slices_Compact_int b off cap zs w (K63 hh hz) (by have := hln.2; simp only [roomB] at this; omega) hln.1).mono ?_
  rintro e w' ⟨rfl, n, rfl⟩
  have hB := bel_put (zs := Lib.compact zs ++ List.replicate (zs.length - (Lib.compact zs).length) 0) (b := b) (off := off) (G := [b]) n #[] (by simp) hb
  have hO := ow_put (m := (Lib.compact zs).length) (n := n) (os := #[]) (ds := Lib.compact zs ++ List.replicate (zs.length - (Lib.compact zs).length) 0) hb hh hc hln hz (by simp; omega) hin (by simp)
  rw [List.take_left] at hO
  rw [Go.Sort.grow_empty] at hB hO
  refine ⟨hB, [_], [], [b], rfl, rfl, ⟨[b], [], ?_, rfl, rfl⟩, by simp, fun b' hb' => ⟨.inl (by simpa using hb'), ?_⟩⟩
  ·exact ⟨⟨_, rfl⟩, [b], [], hO, rfl, rfl⟩
  ·rw [show b' = b by simpa using hb']
   exact Nat.lt_of_lt_of_le hb hB.size
end Go.Proofs.YtgkeplbnnjogiaaGreatR
namespace Go.Proofs.YtgkeplbnnjogiaaGreatR
open Go Go.RowKit Go.Proofs
open Nat (reduceEqDiff reduceLT reduceLeDiff reduceAdd reduceMul)
open List (reduceReplicate)
def put : List Int → Int → List Int
 | [], n => [n]
 | x :: l, n => if x < n then x :: put l n else if x = n then x :: l else n :: x :: l
theorem K6h : ∀ {l : List Int} {n x : Int}, x ∈ put l n ↔ x = n ∨ x ∈ l
 | [], n, x => by simp [put]
 | y :: l, n, x => by
  rw [put]
  split
  ·rw [List.mem_cons, K6h, List.mem_cons]
   constructor
   ·rintro (h | h | h) <;> simp [h]
   ·rintro (h | h | h) <;> simp [h]
  ·split
   ·rename_i h1 h2
    subst h2
    simp
   ·simp
theorem put_up : ∀ {l : List Int} {n : Int}, l.Pairwise (· < ·) → (put l n).Pairwise (· < ·)
 | [], n, _ => by simp [put]
 | y :: l, n, h => by
  rw [List.pairwise_cons] at h
  rw [put]
  split
  ·rw [List.pairwise_cons]
   refine ⟨fun x hx => ?_, put_up h.2⟩
   rcases K6h.1 hx with rfl | hx
   ·assumption
   ·exact h.1 x hx
  ·split
   ·rw [List.pairwise_cons]; exact h
   ·rw [List.pairwise_cons, List.pairwise_cons]
    refine ⟨fun x hx => ?_, h⟩
    rcases List.mem_cons.1 hx with rfl | hx
    ·omega
    ·have := h.1 x hx; omega
theorem up_eq : ∀ {l m : List Int}, l.Pairwise (· < ·) → m.Pairwise (· < ·) → (∀ x, x ∈ l ↔ x ∈ m) → l = m
 | [], [], _, _, _ => rfl
 | [], b :: m, _, _, h => by have := (h b).2 (by simp); simp at this
 | a :: l, [], _, _, h => by have := (h a).1 (by simp); simp at this
 | a :: l, b :: m, h1, h2, h => by
  rw [List.pairwise_cons] at h1 h2
  have hab : a = b := by
   rcases List.mem_cons.1 ((h a).1 (by simp)) with e | e
   ·exact e
   ·rcases List.mem_cons.1 ((h b).2 (by simp)) with e2 | e2
    ·exact e2.symm
    ·have := h1.1 b e2; have := h2.1 a e; omega
  subst hab
  congr 1
  refine up_eq h1.2 h2.2 fun x => ⟨fun hx => ?_, fun hx => ?_⟩
  ·rcases List.mem_cons.1 ((h x).1 (by simp [hx])) with e | e
   ·have := h1.1 x hx; omega
   ·exact e
  ·rcases List.mem_cons.1 ((h x).2 (by simp [hx])) with e | e
   ·have := h2.1 x hx; omega
   ·exact e
theorem sortI_up (zs : List Int) : (sortI zs).Pairwise (· ≤ ·) := by
 have := List.pairwise_mergeSort (le := fun x y : Int => decide (x ≤ y)) (fun a b c h1 h2 => by simp only [decide_eq_true_eq] at *; omega) (fun a b => by simp only [Bool.or_eq_true, decide_eq_true_eq]; omega) zs
 exact this.imp (by simp)
theorem uniq_up {zs : List Int} (h : zs.Pairwise (· ≤ ·)) : ∀ m, m ≤ zs.length → (Lib.compactUpTo zs.toArray m).Pairwise (· < ·) ∧ ∀ x, x ∈ Lib.compactUpTo zs.toArray m ↔ x ∈ zs.take m
 | 0, _ => by simp [Lib.compactUpTo]
 | m + 1, hm => by
  obtain ⟨ih1, ih2⟩ := uniq_up h m (by omega)
  obtain ⟨x, hx⟩ := Kh (l := zs) (k := m) (by omega)
  have e0 : zs.toArray[m]! = x := by
   rw [getElem!_pos _ m (by simpa using (by omega : m < zs.length))]
   simpa using (List.getElem?_eq_some_iff.1 hx).2
  rw [Lib.compactUpTo_succ, Kb hx, e0]
  cases m with
  | zero =>
   have hk : Lib.keeps zs.toArray 0 = true := by simp [Lib.keeps]
   rw [hk]
   simp [Lib.compactUpTo]
  | succ m =>
   obtain ⟨y, hy⟩ := Kh (l := zs) (k := m) (by omega)
   have e1 : zs.toArray[m + 1 - 1]! = y := by
    rw [Nat.add_sub_cancel, getElem!_pos _ m (by simpa using (by omega : m < zs.length))]
    simpa using (List.getElem?_eq_some_iff.1 hy).2
   have hyx : y ≤ x := by
    have := List.pairwise_iff_getElem.1 h m (m + 1) (by omega) (by omega) (by omega)
    rw [(List.getElem?_eq_some_iff.1 hy).2, (List.getElem?_eq_some_iff.1 hx).2] at this
    exact this
   have hyt : y ∈ zs.take (m + 1) := by rw [Kb hy]; simp
   have hle : ∀ z ∈ zs.take (m + 1), z ≤ y := fun z hz => by
    rw [Kb hy] at hz
    rcases List.mem_append.1 hz with hz | hz
    ·have hp := h.sublist (List.take_sublist (m + 1) zs)
     rw [Kb hy, List.pairwise_append] at hp
     exact hp.2.2 z hz y (by simp)
    ·rw [List.mem_singleton.1 hz]; exact Int.le_refl _
   by_cases hxy : x = y
   ·have hk : Lib.keeps zs.toArray (m + 1) = false := Lib.keeps_neg (by omega) (by rw [e0, e1, hxy])
    rw [hk]
    simp only [Bool.false_eq_true, if_false, List.append_nil]
    refine ⟨ih1, fun z => ?_⟩
    rw [ih2, List.mem_append, List.mem_singleton]
    constructor
    ·exact .inl
    ·rintro (hz | rfl)
     ·exact hz
     ·rw [hxy]; exact hyt
   ·have hk : Lib.keeps zs.toArray (m + 1) = true := Lib.keeps_pos (by rw [e0, e1]; exact hxy)
    rw [hk, if_pos rfl]
    refine ⟨?_, fun z => ?_⟩
    ·rw [List.pairwise_append]
     refine ⟨ih1, by simp, fun z hz w hw => ?_⟩
     rw [List.mem_singleton.1 hw]
     have := hle z ((ih2 z).1 hz)
     omega
    ·rw [List.mem_append, List.mem_append, ih2]
theorem K5m (zs : List Int) : (sortU zs).Pairwise (· < ·) ∧ ∀ x, x ∈ sortU zs ↔ x ∈ zs := by
 have h := uniq_up (sortI_up zs) (sortI zs).length (Nat.le_refl _)
 refine ⟨h.1, fun x => ?_⟩
 rw [sortU, uniqI, Lib.compact, h.2 x, List.take_length, sortI]
 exact (List.mergeSort_perm _ _).mem_iff
def puts (zs : List Int) : List Int := zs.foldl put []
theorem K61 : ∀ (zs l : List Int), l.Pairwise (· < ·) → (zs.foldl put l).Pairwise (· < ·) ∧ ∀ x, x ∈ zs.foldl put l ↔ x ∈ l ∨ x ∈ zs
 | [], l, h => ⟨h, by simp⟩
 | z :: zs, l, h => by
  obtain ⟨h1, h2⟩ := K61 zs (put l z) (put_up h)
  refine ⟨h1, fun x => ?_⟩
  rw [List.foldl_cons, h2, K6h, List.mem_cons]
  constructor
  ·rintro ((h | h) | h) <;> simp [h]
  ·rintro (h | h | h) <;> simp [h]
theorem sortU_puts (zs : List Int) : sortU zs = puts zs := by
 obtain ⟨h1, h2⟩ := K5m zs
 obtain ⟨h3, h4⟩ := K61 zs [] List.Pairwise.nil
 exact up_eq h1 h3 fun x => by rw [h2, puts, h4]; simp
theorem K8c : ∀ {l : List Int} {n : Int}, (put l n).length ≤ l.length + 1
 | [], n => by simp [put]
 | y :: l, n => by
  have := K8c (l := l) (n := n)
  rw [put]
  split
  ·simp only [List.length_cons]; omega
  ·split <;> simp
end Go.Proofs.YtgkeplbnnjogiaaGreatR
namespace Go.Proofs.YtgkeplbnnjogiaaGreatR
open Go Go.RowKit Go.Proofs
open Nat (reduceEqDiff reduceLT reduceLeDiff reduceAdd reduceMul)
open List (reduceReplicate)
end Go.Proofs.YtgkeplbnnjogiaaGreatR
namespace Go.Proofs.YtgkeplbnnjogiaaGreatR
open Go Go.RowKit Go.Proofs
open Nat (reduceEqDiff reduceLT reduceLeDiff reduceAdd reduceMul)
open List (reduceReplicate)
end Go.Proofs.YtgkeplbnnjogiaaGreatR
namespace Go.Proofs.YtgkeplbnnjogiaaGreatR
open Go Go.RowKit Go.Proofs
open Nat (reduceEqDiff reduceLT reduceLeDiff reduceAdd reduceMul)
open List (reduceReplicate)
theorem c2 : ¬ (2 : Int) = 0 := by decide
end Go.Proofs.YtgkeplbnnjogiaaGreatR
namespace Go.Proofs.YtgkeplbnnjogiaaGreatR
open Go Go.RowKit Go.Proofs
open Nat (reduceEqDiff reduceLT reduceLeDiff reduceAdd reduceMul)
open List (reduceReplicate)
def rP (p : GPlayed) : RV := ⟨true, [(false, tI p.Code), (false, tI p.At), (false, tI p.State.Pc), (false, .sl 1 (p.State.Regs.map encI)), (false, .sl 1 (p.State.Slots.map encI)), (false, .sl 1 (p.State.Nodes.map encI))]⟩
def rT (tr : List GState) : RV := ⟨false, [(false, .sl 4 (tr.map GState.enc))]⟩
attribute [go_sem] rP rT
end Go.Proofs.YtgkeplbnnjogiaaGreatR
namespace Go.Proofs.YtgkeplbnnjogiaaGreatR
open Go Go.RowKit Go.Proofs
open Nat (reduceEqDiff reduceLT reduceLeDiff reduceAdd reduceMul)
open List (reduceReplicate)
end Go.Proofs.YtgkeplbnnjogiaaGreatR
namespace Go.Proofs.YtgkeplbnnjogiaaGreatR
open Go Go.RowKit Go.Proofs
open Nat (reduceEqDiff reduceLT reduceLeDiff reduceAdd reduceMul)
open List (reduceReplicate)
end Go.Proofs.YtgkeplbnnjogiaaGreatR
namespace Go.Proofs.YtgkeplbnnjogiaaGreatR
open Go Go.RowKit Go.Proofs
open Nat (reduceEqDiff reduceLT reduceLeDiff reduceAdd reduceMul)
open List (reduceReplicate)
def Ma1 : MC :=
(Zs [.nilo 2 0 1] [0] (Zs [mS 4 0, .call 5 [1] (.f N2) [.s 4], mS 3 5] [3] (Zs [mS 6 3, .callI 7 [] (.f N2n) [.s 6] [1] []] [3] (Zs [mS 8 3, .callI 9 [0] (.f N1o) [.s 8] [1] [], mS 2 9] [2] .ret))))
theorem C9w (l : List Int) (hl : l.length ≤ 1073741824) : Ctr Tryz.prog N56 [aL 1 (l.map encI)] [rL 1 ((sortU l).map encI)] := by
 refine cA Ma1 2 10 [(.tmp 2, [true])] Tryz.func301 rfl rfl ?_; unfold Ma1
 intro hb
 clear hb
 simp only [go_sem]
 apply K0 (C6 l hl)
 simp only [go_sem]
 try intros
 apply K9 (Cbw l)
 simp only [go_sem]
 try intros
 refine ⟨(K4p l).symm, ?_⟩
 apply K9 (C9s (sortI l))
 simp only [go_sem]
 try intros
 rfl
theorem K6g {n : Int} : ∀ {l : List Int} {k : Nat}, (∀ x ∈ l.take k, x < n) → put l n = l.take k ++ put (l.drop k) n
 | l, 0, _ => by simp
 | [], k + 1, _ => by simp
 | x :: l, k + 1, h => by
  have hx : x < n := h x (by simp)
  rw [put, if_pos hx, List.take_succ_cons, List.drop_succ_cons, List.cons_append, ← K6g (fun y hy => h y (by simp [hy]))]
def Mbe : MC :=
(Zs [.nilo 4 0 1] [0,1] (Zs [.mv 5 (ci 0)] [0,1,5] (.seq (.block 0 (.loop ([0,1,5], [0,1]) (.seq (.seq (.reg [Za (mS 6 5), Za (mS 7 0), Za (nS 8 7), Za (bS 9 .lss 6 8), Za (mS 10 9), Zb 10 true (mS 11 0), Zb 10 true (mS 12 5), Zb 10 true (xS 13 1 11 12), Zb 10 true (lF 14 1 13), Zb 10 true (mS 15 1), Zb 10 true (bS 16 .lss 14 15), Za (.pick 17 (.s 10) (.s 16) cF)] [0,1,5,17])
(cX 17 0))
(.block 1 (pr [mS 18 5, bC 19 .add 18 1, mS 5 19] [0,1,5])))))
(.seq (.seq (.reg [Za (mS 20 5), Za (mS 21 0), Za (nS 22 21), Za (bS 23 .lss 20 22), Za (mS 24 23), Zb 24 true (mS 25 0), Zb 24 true (mS 26 5), Zb 24 true (xS 27 1 25 26), Zb 24 true (lF 28 1 27), Zb 24 true (mS 29 1), Zb 24 true (bS 30 .eql 28 29), Za (.pick 31 (.s 24) (.s 30) cF)] [0,1,5,31])
(.cond (.s 31) (Zs [.lit 32 0 1 8 [], mS 33 0, .app 34 0 1 8 (.s 32) (.s 33), mS 4 34] [4] .ret) .skip))
(.seq (.dreg [{ o := .lit 35 0 1 8 [], hs := [36,37,38,40,41,43,44,45], ho := [1], ws := [0] }, Zf [35,37,40,41,43,44,45] [0,1] (mS 36 0), Zf [35,36,40,41,43,44,45] [0,1] (mS 37 5), Zg [35,40,41,43,44,45] [0,1] [1,2] (.slc 38 1 (.s 36) none (some (.s 37)) none), { o := .app 39 0 1 8 (.s 35) (.s 38), hs := [40,41,43,44,45], ho := [1], ws := [0], bf := (.range 4) }, Zf [35,36,37,38,39,43,44,45] [0] (mS 40 1), { o := .lit 41 1 1 8 [.s 40], hs := [35,36,37,38,39,43,44,45], ho := [0], ws := [1], bf := [5] }, { o := .app 42 0 1 8 (.s 39) (.s 41), hs := [43,44,45], ws := [0], bf := (.range 7) }, Zf [35,36,37,38,39,40,41,42,44] [0,1] (mS 43 0), Zf [35,36,37,38,39,40,41,42,43] [0,1] (mS 44 5), Zg [35,36,37,38,39,40,41,42] [0,1] [8,9] (.slc 45 1 (.s 43) (some (.s 44)) none none), { o := .app 46 0 1 8 (.s 42) (.s 45), ws := [0], bf := (.range 11) }, Ze (.range 12) (mS 4 46)] [4])
.ret)))))
theorem Cdd (l : List Int) (n : Int) (hs : l.length ≤ 1073741824) : Ctr Tryz.prog Nbf [aL 1 (l.map encI), aI n] [rL 1 ((put l n).map encI)] := by
 refine cA Mbe 2 47 [(.tmp 4, [true])] Tryz.func97 rfl rfl ?_; unfold Mbe
 intro hb
 clear hb
 simp only [go_sem]
 refine K16 (fun k : Nat => [(5, vI k)]) (fun k => []) (fun k => k ≤ l.length ∧ ∀ x ∈ l.take k, x < n) (fun k => l.length - k) 0 ?_
 simp only [go_sem]
 refine ⟨?_, ⟨by omega, by simp⟩, ?_⟩
 ·simp only [go_sem]
 ·rintro k ⟨hk, hlt⟩
  by_cases hkl : k < l.length
  ·obtain ⟨x, hx⟩ := Kh hkl
   have h1 : (k : Int) < (l.length : Int) := by omega
   have h0 : (0 : Int) ≤ (k : Int) := by omega
   simp only [go_sem, h1, h0, K5 hx, ↓cut_lo (f := encI) (l := l) hk, ↓cut_hi (f := encI) (l := l) hk, ↓Ks (f := encI) (fun _ => rfl) l, ↓Ks (f := encI) (fun _ => rfl) (l.take k), ↓Ks (f := encI) (fun _ => rfl) (l.drop k), List.length_append, List.length_map, List.length_cons, List.length_nil, Nat.zero_add]
   refine ⟨fun hxn => ?_, fun hxn => ?_⟩
   ·refine ⟨k + 1, by rw [wI (by omega) (by omega)]; omega, ⟨by omega, fun y hy => ?_⟩, by omega⟩
    rw [Kb hx] at hy
    rcases List.mem_append.1 hy with hy | hy
    ·exact hlt y hy
    ·rw [List.mem_singleton.1 hy]; exact hxn
   ·have hp := K6g hlt
    rw [Km hx, put, if_neg hxn] at hp
    have ht := List.length_take_le k l
    have hd : (l.drop k).length ≤ l.length := by simp
    refine ⟨fun he => ⟨by simp only [roomB]; omega, ?_⟩, fun he => ⟨⟨by omega, by omega⟩, by simp only [roomB]; omega, by decide, by simp only [roomB]; omega, ⟨by omega, by omega⟩, by simp only [roomB]; omega, ?_⟩⟩
    ·rw [if_pos he, ← Km hx, List.take_append_drop] at hp
     rw [hp]
    ·rw [if_neg he, ← Km hx] at hp
     rw [hp]
     simp [encI]
  ·have h1 : ¬ (k : Int) < (l.length : Int) := by omega
   simp only [go_sem, h1, ↓cut_lo (f := encI) (l := l) hk, ↓cut_hi (f := encI) (l := l) hk, ↓Ks (f := encI) (fun _ => rfl) (l.take k), ↓Ks (f := encI) (fun _ => rfl) (l.drop k), List.length_append, List.length_map, List.length_cons, List.length_nil, Nat.zero_add]
   obtain rfl : k = l.length := by omega
   have hp := K6g hlt
   rw [List.drop_length, List.take_length, put] at hp
   refine ⟨⟨by omega, by omega, by omega⟩, ?_⟩
   rw [hp, List.take_length, List.drop_length]
   exact ⟨by simp only [roomB]; omega, by decide, by simp only [roomB]; omega, ⟨by omega, by omega, by omega⟩, by simp only [roomB, List.length_nil]; omega, by simp [encI]⟩
def ticks (l : List GCapture) (a : GAddress) : List Int := (l.filter fun c => decide (c.Address = a)).map (·.Tick)
theorem puts_len : ∀ (zs : List Int) , (puts zs).length ≤ zs.length := by
 intro zs
 suffices H : ∀ (zs l : List Int), (zs.foldl put l).length ≤ l.length + zs.length by simpa [puts] using H zs []
 intro zs
 induction zs with
 | nil => intro l; simp
 | cons z zs ih =>
  intro l
  have h1 := ih (put l z)
  have h2 := K8c (l := l) (n := z)
  rw [List.foldl_cons, List.length_cons]; omega
def lo (a : GArchive) (x : GAddress) : List Int := puts (ticks (served a) x)
end Go.Proofs.YtgkeplbnnjogiaaGreatR
namespace Go.Proofs.YtgkeplbnnjogiaaGreatR
open Go Go.RowKit Go.Proofs
open Nat (reduceEqDiff reduceLT reduceLeDiff reduceAdd reduceMul)
open List (reduceReplicate)
def ascB (l : List Int) : Bool := decide (l.Pairwise (· < ·))
def M94 : MC :=
(Zs [.mv 2 cF] [0] (Zs [mS 3 0, .call 4 [0] (.f N56) [.s 3], mS 5 0, .call 6 [] (.f Nw) [.s 4, .s 5], mS 2 6] [2] .ret))
theorem Cd0 (l : List Int) (hl : l.length ≤ 1073741824) : Ctr Tryz.prog N9h [aL 1 (l.map encI)] [rB (ascB l)] := by
 refine cA M94 1 7 [(.tmp 2, [false])] Tryz.func309 rfl rfl ?_; unfold M94
 intro hb
 clear hb
 simp only [go_sem]
 apply K0 (C9w l hl)
 simp only [go_sem]
 intros
 apply K0 (C4c (sortU l) l)
 simp only [go_sem]
 intro _
 obtain ⟨h1, h2⟩ := K5m l
 rw [ascB, decide_eq_decide]
 exact ⟨fun h => h ▸ h1, fun h => up_eq h1 h h2⟩
def K1s : Int → List GLibrary → Bool
 | _, [] => true
 | b, x :: l => decide (b + 1 ≤ x.Id ∧ x.Id ≤ 99) && (ascB x.Digests && K1s x.Id l)
def K27 (l : List GLibrary) : Bool := decide (l.length ≤ 6) && K1s (-1) l
def bef (l : List GLibrary) : Nat → Int
 | 0 => -1
 | k + 1 => ((l[k]?).map (·.Id)).getD 0
theorem K7c {l : List GLibrary} {k : Nat} {x : GLibrary} (h : l[k]? = some x) : bef l (k + 1) = x.Id := by simp [bef, h]
theorem dig_le {l : List GLibrary} {k n : Nat} {x : GLibrary} (h : l[k]? = some x) (hs : l.length + (l.map GLibrary.size).sum ≤ n) : x.Digests.length ≤ n := by
 have := K1d (f := GLibrary.size) (K10 h)
 simp only [GLibrary.size] at this hs
 omega
def M2z : MC :=
(Zs [.mv 2 cF] [0] (.seq (Zs [mS 6 0, nS 7 6, bC 8 .gtr 7 6] [0,8] (.cond (.s 8) (Zs [.mv 2 cF] [2] .ret) .skip))
(Zs [.mv 3 (.c (.int .i64 (-1)))] [0,3] (.seq (Zs [mS 9 0, nS 10 9, .mv 11 (ci 0)] [3,9,10,11] (.block 0 (.loop ([3,9,10,11], [0]) (Zs [bS 12 .lss 11 10] [3,9,10,11,12] (.seq (cX 12 0)
(.seq (.block 1 (Zs [xS 13 4 9 11, lT 14 4 13, .alloc 5 0 [pz, .emp 1, .pl (.sc (.bool false)), .pl (.sc (.bool false))], sS 4 5 14] [3,5,9,10,11] (.seq (.seq (.reg [Za (fS 15 5 0), Za (lF 16 1 15), Za (mS 17 3), Za (bC 18 .add 17 1), Za (.call 19 [] (.f N45) [.s 16, .s 18, .c (.int .i64 99)]), Za (.un 20 .not (.s 19)), Za (mS 21 20), Zb 21 false (fS 22 5 1), Zb 21 false (lF 23 1 22), Zb 21 false (.call 24 [] (.f N9h) [.s 23]), Zb 21 false (.un 25 .not (.s 24)), Za (.pick 26 (.s 21) cT (.s 25))] [5,9,10,11,26])
(.cond (.s 26) (Zs [.mv 2 cF] [2] .ret) .skip))
(pr [fS 27 5 0, lF 28 1 27, mS 3 28] [3,9,10,11]))))
(pr [bC 29 .add 11 1, mS 11 29] [3,9,10,11])))))))
(Zs [.mv 2 cT] [2] .ret)))))
theorem Caf (l : List GLibrary) (hs : l.length + (l.map GLibrary.size).sum ≤ 1073741824) : Ctr Tryz.prog N3l [aL 4 (l.map GLibrary.enc)] [rB (K27 l)] := by
 refine cA M2z 1 30 [(.tmp 2, [false])] Tryz.func199 rfl rfl ?_; unfold M2z
 intro hb
 clear hb
 simp only [go_sem]
 refine ⟨fun h => ?_, fun h => ?_⟩
 ·have : ¬ l.length ≤ 6 := by omega
  simp [K27, this]
 ·refine K6 l (fun k => [(3, vI (bef l k)), (11, vI k)]) (fun k => []) (fun k => (-1 ≤ bef l k ∧ bef l k ≤ 99) ∧ K1s (-1) l = K1s (bef l k) (l.drop k)) (by simp only [roomB]; omega) ?_
  simp only [go_sem]
  refine ⟨?_, ⟨by simp [bef], rfl⟩, ?_, ?_⟩
  ·simp only [go_sem]
   try rfl
  ·intro k x hx hP h0 h1 hw
   obtain ⟨hb, hP⟩ := hP
   rw [Km hx, K1s] at hP
   have hw2 : IntKind.i64.wrap (bef l k + 1) = bef l k + 1 := wI (by omega) (by omega)
   simp only [go_sem, K5 hx, h0, h1, hw2]
   apply K0 (C44 x.Id (bef l k + 1) 99)
   by_cases c : bef l k + 1 ≤ x.Id ∧ x.Id ≤ 99
   ·have hd := decide_eq_true c
    simp only [go_sem, hd]
    apply K0 (Cd0 x.Digests (dig_le hx hs))
    cases hA : ascB x.Digests
    ·simp only [go_sem]
     rw [K27, hP, hA]
     simp
    ·simp only [go_sem, hw, K7c hx]
     rw [hA, hd, Bool.true_and, Bool.true_and] at hP
     exact ⟨by omega, hP⟩
   ·have hd := decide_eq_false c
    simp only [go_sem, hd]
    rw [K27, hP, hd]
    simp
  ·intro hP
   rw [List.drop_length] at hP
   simp only [go_sem]
   rw [K27, hP.2, K1s]
   simp
   omega
theorem K8x {l : List Int} {k : Nat} {x y : Int} (hx : l[k]? = some x) (hy : l[k + 1]? = some y) (h : (l.take (k + 1)).Pairwise (· < ·)) (hxy : x < y) : (l.take (k + 1 + 1)).Pairwise (· < ·) := by
 rw [Kb hy, List.pairwise_append]
 refine ⟨h, by simp, fun a ha b hb => ?_⟩
 rw [List.mem_singleton.1 hb]
 rw [Kb hx, List.pairwise_append] at h
 rw [Kb hx] at ha
 rcases List.mem_append.1 ha with ha | ha
 ·have := h.2.2 a ha x (by simp); omega
 ·rw [List.mem_singleton.1 ha]; exact hxy
theorem pair_no {l : List Int} {k : Nat} {x y : Int} (hx : l[k]? = some x) (hy : l[k + 1]? = some y) (hxy : ¬ x < y) : ascB l = false := by
 rw [ascB, decide_eq_false_iff_not]
 intro h
 have := List.pairwise_iff_getElem.1 h k (k + 1) (List.getElem?_eq_some_iff.1 hx).1 (List.getElem?_eq_some_iff.1 hy).1 (by omega)
 rw [(List.getElem?_eq_some_iff.1 hx).2, (List.getElem?_eq_some_iff.1 hy).2] at this
 exact hxy this
def M3i : MC :=
(Zs [.mv 2 cF] [0] (.seq (Zs [.mv 3 (ci 0)] [0,3] (.block 0 (.loop ([0,3], []) (.seq (Zs [mS 5 3, mS 6 0, nS 7 6, bS 8 .lss 5 7] [0,3,8] (cX 8 0))
(.seq (.block 1 (.seq (.seq (.dreg [Zc [12] (mS 11 0), Zc [11] (mS 12 3), Ze [0,1] (xS 13 4 11 12), Ze [0,1,2] (fS 14 13 0), Ze (.range 4) (lF 15 1 14), Ze (.range 5) (.call 16 [] (.f N8q) [.s 15, .c (.int .i64 0), .c (.int .i64 99)]), Ze (.range 6) (.un 17 .not (.s 16)), Ze (.range 7) (mS 18 17), { o := mS 19 3, g := some (18, false), bf := (.range 8) }, { o := bC 20 .gtr 19 0, g := some (18, false), bf := (.range 9) }, { o := mS 21 20, g := some (18, false), bf := (.range 10) }, { o := mS 22 0, g := some (21, true), hs := [23,24,28,29,30,31,32], bf := (.range 11) }, { o := mS 23 3, g := some (21, true), hs := [22,28,29,30,31,32], bf := (.range 11) }, { o := bC 24 .sub 23 1, g := some (21, true), hs := [22,28,29,30,31,32], bf := [0,1,2,3,4,5,6,7,8,9,10,12] }, { o := xS 25 4 22 24, g := some (21, true), hs := [28,29,30,31,32], bf := (.range 14) }, { o := fS 26 25 0, g := some (21, true), hs := [28,29,30,31,32], bf := (.range 15) }, { o := lF 27 1 26, g := some (21, true), hs := [28,29,30,31,32], bf := (.range 16) }, { o := mS 28 0, g := some (21, true), hs := [22,23,24,25,26,27,29], bf := (.range 11) }, { o := mS 29 3, g := some (21, true), hs := [22,23,24,25,26,27,28], bf := (.range 11) }, { o := xS 30 4 28 29, g := some (21, true), hs := [22,23,24,25,26,27], bf := [0,1,2,3,4,5,6,7,8,9,10,17,18] }, { o := fS 31 30 0, g := some (21, true), hs := [22,23,24,25,26,27], bf := [0,1,2,3,4,5,6,7,8,9,10,17,18,19] }, { o := lF 32 1 31, g := some (21, true), hs := [22,23,24,25,26,27], bf := [0,1,2,3,4,5,6,7,8,9,10,17,18,19,20] }, { o := bS 33 .geq 27 32, g := some (21, true), bf := (.range 22) }, { o := .pick 34 (.s 21) (.s 33) cF, g := some (18, false), bf := (.range 23) }, Ze (.range 24) (.pick 35 (.s 18) cT (.s 34))] [0,3,35])
(.cond (.s 35) (Zs [.mv 2 cF] [2] .ret) .skip))
(Zs [.mv 4 (ci 1)] [0,3,4] (.block 2 (.loop ([0,3,4], []) (.seq (Zs [mS 36 4, mS 37 0, mS 38 3, xS 39 4 37 38, fS 40 39 1, lF 41 1 40, nS 42 41, bS 43 .lss 36 42] [0,3,4,43] (cX 43 2))
(.seq (.block 3 (.seq (.dreg [Zc [47,51,52,55,56,57,58,59,60,61,62] (mS 46 0), Zc [46,51,52,55,56,57,58,59,60,61,62] (mS 47 3), Zd [51,52,55,56,57,58,59,60,61,62] [0,1] (xS 48 4 46 47), Zd [51,52,55,56,57,58,59,60,61,62] [0,1,2] (fS 49 48 1), Zd [51,52,55,56,57,58,59,60,61,62] (.range 4) (lF 50 1 49), Zc [46,47,48,49,50,55,56,57,58,59,60,61,62] (mS 51 4), Zd [46,47,48,49,50,55,56,57,58,59,60,61,62] [5] (bC 52 .sub 51 1), Zd [55,56,57,58,59,60,61,62] (.range 7) (xS 53 1 50 52), Zd [55,56,57,58,59,60,61,62] (.range 8) (lF 54 1 53), Zc [46,47,48,49,50,51,52,53,54,56,60] (mS 55 0), Zc [46,47,48,49,50,51,52,53,54,55,60] (mS 56 3), Zd [46,47,48,49,50,51,52,53,54,60] [9,10] (xS 57 4 55 56), Zd [46,47,48,49,50,51,52,53,54,60] [9,10,11] (fS 58 57 1), Zd [46,47,48,49,50,51,52,53,54,60] [9,10,11,12] (lF 59 1 58), Zc [46,47,48,49,50,51,52,53,54,55,56,57,58,59] (mS 60 4), Zd [46,47,48,49,50,51,52,53,54] [9,10,11,12,13,14] (xS 61 1 59 60), Zd [46,47,48,49,50,51,52,53,54] [9,10,11,12,13,14,15] (lF 62 1 61), Ze (.range 17) (bS 63 .geq 54 62)] [0,3,4,63])
(.cond (.s 63) (Zs [.mv 2 cF] [2] .ret) .skip)))
(pr [mS 44 4, bC 45 .add 44 1, mS 4 45] [0,3,4]))))))))
(pr [mS 9 3, bC 10 .add 9 1, mS 3 10] [0,3]))))))
(Zs [mS 64 0, nS 65 64, bC 66 .leq 65 6, mS 2 66] [2] .ret)))
set_option maxHeartbeats 2000000 in
theorem Cau (l : List GLibrary) (hs : l.length + (l.map GLibrary.size).sum ≤ 1073741824) : Ctr Tryz.prog N41 [aL 4 (l.map GLibrary.enc)] [rB (K27 l)] := by
 refine cA M3i 0 67 [(.tmp 2, [false])] Tryz.func195 rfl rfl ?_; unfold M3i
 intro hb
 clear hb
 simp only [go_sem]
 refine K6 l (fun k => [(3, vI k)]) (fun k => []) (fun k => (-1 ≤ bef l k ∧ bef l k ≤ 99) ∧ (0 < k → 0 ≤ bef l k) ∧ K1s (-1) l = K1s (bef l k) (l.drop k)) (by simp only [roomB]; omega) ?_
 simp only [go_sem]
 refine ⟨?_, ⟨by simp [bef], by omega, rfl⟩, ?_, ?_⟩
 ·simp only [go_sem]
 ·intro k x hx hP h0 h1 hw
  obtain ⟨hb, hb2, hP⟩ := hP
  rw [Km hx, K1s] at hP
  simp only [go_sem, K5 hx, h0, h1]
  apply K0 (C8p x.Id 0 99)
  simp only [go_sem, K5 hx, h0, h1]
  refine ⟨fun c => ?_, fun c => ⟨fun hk => ?_, fun hk => ?_⟩⟩
  ·have hn : ¬ (bef l k + 1 ≤ x.Id ∧ x.Id ≤ 99) := by omega
   rw [K27, hP, decide_eq_false hn]
   simp
  ·obtain ⟨q, rfl⟩ : ∃ q, k = q + 1 := ⟨k - 1, by omega⟩
   obtain ⟨w, hwq⟩ := Kh (l := l) (k := q) (by have := Kj hx; omega)
   have eb := K7c hwq
   have hkl := Kj hx
   have hb3 := hb2 (by omega)
   rw [show IntKind.i64.wrap (((q + 1 : Nat) : Int) - 1) = (q : Int) by rw [wI (by omega) (by omega)]; omega]
   refine ⟨⟨by omega, by omega⟩, ?_⟩
   rw [Int.toNat_natCast, hwq]
   simp only [go_sem]
   refine ⟨fun c2 => ?_, fun c2 => ?_⟩
   ·have hn : ¬ (bef l (q + 1) + 1 ≤ x.Id ∧ x.Id ≤ 99) := by omega
    rw [K27, hP, decide_eq_false hn]
    simp
   ·have hc : bef l (q + 1) + 1 ≤ x.Id ∧ x.Id ≤ 99 := by omega
    refine K16 (fun j : Nat => [(4, vI j)]) (fun j => []) (fun j => 1 ≤ j ∧ (x.Digests.take j).Pairwise (· < ·)) (fun j => x.Digests.length - j) 1 ?_
    simp only [go_sem]
    refine ⟨?_, ⟨by omega, by rcases x.Digests with _ | ⟨y, l⟩ <;> simp⟩, ?_⟩
    ·simp only [go_sem]
     try rfl
    ·rintro j ⟨j1, j2⟩
     by_cases hj : j < x.Digests.length
     ·obtain ⟨i, rfl⟩ : ∃ i, j = i + 1 := ⟨j - 1, by omega⟩
      obtain ⟨z, hz⟩ := Kh (l := x.Digests) (k := i) (by omega)
      obtain ⟨y, hy⟩ := Kh hj
      have hdl := dig_le hx hs
      have g1 : ((i + 1 : Nat) : Int) < (x.Digests.length : Int) := by omega
      have g2 : IntKind.i64.wrap (((i + 1 : Nat) : Int) - 1) = (i : Int) := by rw [wI (by omega) (by omega)]; omega
      have g3 : (0 : Int) ≤ (i : Int) := by omega
      have g4 : (i : Int) < (x.Digests.length : Int) := by omega
      have g5 : (0 : Int) ≤ ((i + 1 : Nat) : Int) := by omega
      simp only [go_sem, K5 hx, h0, h1, hw, g1, g2, g3, g4, g5, K5 hz, K5 hy]
      refine ⟨fun c3 => ?_, fun c3 => ?_⟩
      ·rw [K27, hP, pair_no hz hy (by omega)]
       simp
      ·exact ⟨i + 1 + 1, by rw [wI (by omega) (by omega)]; omega, ⟨by omega, K8x hz hy j2 (by omega)⟩, by omega⟩
     ·have g1 : ¬ (j : Int) < (x.Digests.length : Int) := by omega
      rw [List.take_of_length_le (by omega)] at j2
      have hA : ascB x.Digests = true := decide_eq_true j2
      simp only [go_sem, K5 hx, h0, h1, hw, g1, K7c hx]
      rw [hA, decide_eq_true hc, Bool.true_and, Bool.true_and] at hP
      try exact ⟨by omega, fun _ => by omega, hP⟩
  ·have ek : k = 0 := by omega
   have hc : bef l k + 1 ≤ x.Id ∧ x.Id ≤ 99 := by rw [ek]; simp only [bef]; omega
   refine K16 (fun j : Nat => [(4, vI j)]) (fun j => []) (fun j => 1 ≤ j ∧ (x.Digests.take j).Pairwise (· < ·)) (fun j => x.Digests.length - j) 1 ?_
   simp only [go_sem]
   refine ⟨?_, ⟨by omega, by rcases x.Digests with _ | ⟨y, l⟩ <;> simp⟩, ?_⟩
   ·simp only [go_sem]
    try rfl
   ·rintro j ⟨j1, j2⟩
    by_cases hj : j < x.Digests.length
    ·obtain ⟨i, rfl⟩ : ∃ i, j = i + 1 := ⟨j - 1, by omega⟩
     obtain ⟨z, hz⟩ := Kh (l := x.Digests) (k := i) (by omega)
     obtain ⟨y, hy⟩ := Kh hj
     have hdl := dig_le hx hs
     have g1 : ((i + 1 : Nat) : Int) < (x.Digests.length : Int) := by omega
     have g2 : IntKind.i64.wrap (((i + 1 : Nat) : Int) - 1) = (i : Int) := by rw [wI (by omega) (by omega)]; omega
     have g3 : (0 : Int) ≤ (i : Int) := by omega
     have g4 : (i : Int) < (x.Digests.length : Int) := by omega
     have g5 : (0 : Int) ≤ ((i + 1 : Nat) : Int) := by omega
     simp only [go_sem, K5 hx, h0, h1, hw, g1, g2, g3, g4, g5, K5 hz, K5 hy]
     refine ⟨fun c3 => ?_, fun c3 => ?_⟩
     ·rw [K27, hP, pair_no hz hy (by omega)]
      simp
     ·exact ⟨i + 1 + 1, by rw [wI (by omega) (by omega)]; omega, ⟨by omega, K8x hz hy j2 (by omega)⟩, by omega⟩
    ·have g1 : ¬ (j : Int) < (x.Digests.length : Int) := by omega
     rw [List.take_of_length_le (by omega)] at j2
     have hA : ascB x.Digests = true := decide_eq_true j2
     simp only [go_sem, K5 hx, h0, h1, hw, g1, K7c hx]
     rw [hA, decide_eq_true hc, Bool.true_and, Bool.true_and] at hP
     try exact ⟨by omega, fun _ => by omega, hP⟩
 ·intro hP
  rw [List.drop_length] at hP
  simp only [go_sem]
  rw [K27, hP.2.2, K1s, Bool.and_true]
  exact le_cast
end Go.Proofs.YtgkeplbnnjogiaaGreatR
namespace Go.Proofs.YtgkeplbnnjogiaaGreatR
open Go Go.RowKit Go.Proofs
open Nat (reduceEqDiff reduceLT reduceLeDiff reduceAdd reduceMul)
open List (reduceReplicate)
abbrev fC (f : FuncId) (cs : List T) : RV := ⟨false, [(false, .fn f cs)]⟩
attribute [go_sem] fC
def Mx : MC :=
(Zs [.mv 10 (ci 0)] [0,1,2,3,10] (.block 0 (.loop ([0,1,2,3,10], []) (.seq (Zs [mS 11 10, mS 12 3, bS 13 .lss 11 12] [0,1,2,3,10,13] (cX 13 0))
(.seq (.block 1 (.dreg [Zc [17,18,19,20,21,22,23,24,25,26,27,28,29,30,31,32,33,34,35] (mS 16 0), Zc [16,18,20,21,22,23,24,25,26,27,28,29,30,31,32,33,34,35] (mS 17 1), Zc [16,17,20,21,22,23,24,25,26,27,28,29,30,31,32,33,34,35] (mS 18 10), Zd [16,20,21,22,23,24,25,26,27,28,29,30,31,32,33,34,35] [1,2] (bS 19 .add 17 18), Zf [16,17,18,19,21,22,23,24,25,26,27,28,29,30,31,32,33,34,35,36] [0] (mS 20 0), Zf [16,17,18,19,20,22,24,25,26,27,28,29,30,31,32,33,34,35,36] [0] (mS 21 2), Zf [16,17,18,19,20,21,24,25,26,27,28,29,30,31,32,33,34,35,36] [0] (mS 22 10), Zg [16,17,18,19,20,24,25,26,27,28,29,30,31,32,33,34,35,36] [0] [5,6] (bS 23 .add 21 22), Zc [16,17,18,19,20,21,22,23,25,26,27,30,31,32,33,34,35] (mS 24 0), Zc [16,17,18,19,20,21,22,23,24,26,30,31,32,33,34,35] (mS 25 2), Zc [16,17,18,19,20,21,22,23,24,25,30,31,32,33,34,35] (mS 26 10), Zd [16,17,18,19,20,21,22,23,24,30,31,32,33,34,35] [9,10] (bS 27 .add 25 26), Zd [16,17,18,19,20,21,22,23,30,31,32,33,34,35] [8,9,10,11] (xS 28 1 24 27), Zd [16,17,18,19,20,21,22,23,30,31,32,33,34,35] [8,9,10,11,12] (lF 29 1 28), Zc [16,17,18,19,20,21,22,23,24,25,26,27,28,29,31,32,33] (mS 30 0), Zc [16,17,18,19,20,21,22,23,24,25,26,27,28,29,30,32] (mS 31 1), Zc [16,17,18,19,20,21,22,23,24,25,26,27,28,29,30,31] (mS 32 10), Zd [16,17,18,19,20,21,22,23,24,25,26,27,28,29,30] [15,16] (bS 33 .add 31 32), Zd [16,17,18,19,20,21,22,23,24,25,26,27,28,29] [14,15,16,17] (xS 34 1 30 33), Zd [16,17,18,19,20,21,22,23,24,25,26,27,28,29] [14,15,16,17,18] (lF 35 1 34), Zd [20,21,22,23] [0,1,2,3,8,9,10,11,12,13,14,15,16,17,18,19] (xS 36 1 16 19), { o := sS 1 36 29, hs := [20,21,22,23], ws := [0], bf := [0,1,2,3,8,9,10,11,12,13,14,15,16,17,18,19,20] }, Ze (.range 22) (xS 37 1 20 23), { o := sS 1 37 35, ws := [0], bf := (.range 23) }] [0,1,2,3,10]))
(pr [mS 14 10, bC 15 .add 14 1, mS 10 15] [0,1,2,3,10]))))))
theorem C1c (P X M Y Q : List Int) (f : FuncId) {cs : List T} {a b n : Nat} (ha : P.length = a) (hb : (P ++ X ++ M).length = b) (hX : X.length = n) (hY : Y.length = n) : CtrI Tryz.prog N5 [oL 1 ((P ++ X ++ M ++ Y ++ Q).map encI), iI a, iI b, iI n, fC f cs] [some (1, (P ++ Y ++ M ++ X ++ Q).map encI)] [] := by
 have hL0 : (P ++ X ++ M ++ Y ++ Q).length = b + n + Q.length := by rw [List.length_append, List.length_append, hb, hY]
 have hL1 : (P ++ Y ++ M ++ X ++ Q).length = (P ++ X ++ M ++ Y ++ Q).length := by simp; omega
 have hb' : b = a + n + M.length := by rw [← hb]; simp; omega
 have hsw0 : swp P X M Y Q 0 = P ++ X ++ M ++ Y ++ Q := by simp [swp]
 have hswn : swp P X M Y Q n = P ++ Y ++ M ++ X ++ Q := by simp [swp, ← hX, List.take_of_length_le (show Y.length ≤ X.length by omega), List.drop_of_length_le (show Y.length ≤ X.length by omega)]
 refine K19 (M := Mx) (m := 0) (n := 38) (res := []) hmix Tryz.func435 rfl (by kernel_rfl) rfl (by kernel_rfl) (by kernel_rfl) (Nat.le_of_ble_eq_true rfl) rfl rfl ?_; unfold Mx
 intro hbd
 have hl := K11 hbd
 clear hbd
 simp only [roomB] at hl
 rw [← hsw0, ← hswn]
 rw [← hsw0, ← hswn] at hL1
 rw [← hsw0] at hl hL0
 subst hX
 generalize hN : (swp P X M Y Q 0).length = N at *
 simp only [go_sem, hN]
 refine K6 X (fun i => [(10, vI i)]) (fun i => [(0, ⟨1, .row true 1 ((swp P X M Y Q i).map encI)⟩)]) (fun _ => True) (by simp only [roomB]; omega) ?_
 simp only [go_sem]
 refine ⟨?_, trivial, ?_, ?_⟩
 ·simp only [go_sem]
 ·intro i x hx _ h0 h1 hw
  have hi := Kj hx
  obtain ⟨y, hy⟩ := Kh (show i < Y.length by omega)
  obtain ⟨e1, e2⟩ := swp_two (P := P) (M := M) (Q := Q) (f := encI) hx hy
  have hlen := swp_len (P := P) (X := X) (M := M) (Y := Y) (Q := Q) (i := i) hY.symm
  rw [e1, e2]
  generalize hAe : (P ++ Y.take i).map encI = A at e1 e2
  generalize hBe : (X.drop (i + 1) ++ M ++ X.take i).map encI = B at e1 e2
  generalize hCe : (Y.drop (i + 1) ++ Q).map encI = C at e1 e2
  have hA : A.length = a + i := by subst hAe; simp; omega
  have hB : (a + i) + 1 + B.length = b + i := by subst hBe; simp; omega
  have hC : C.length = Y.length - (i + 1) + Q.length := by subst hCe; simp
  obtain ⟨g1, g2, s1, s2, hL, d1, d2⟩ := K7x (C := C) hA hB
  have hL' : ∀ e e', (two A e B e' C).length = N := fun e e' => by rw [hL]; omega
  have k1 : (0 : Int) ≤ ((a + i : Nat) : Int) := by omega
  have k2 : ((a + i : Nat) : Int) < (N : Int) := by omega
  have k3 : (0 : Int) ≤ ((b + i : Nat) : Int) := by omega
  have k4 : ((b + i : Nat) : Int) < (N : Int) := by omega
  have k5 : ¬ b + i = a + i := by omega
  simp only [go_sem, g1, g2, s1, s2, hL', hw, h1, wN (a := a) (b := i) (by omega), wN (a := b) (b := i) (by omega), k1, k2, k3, k4]
 ·intro _
  simp only [go_sem]
def RotZ (P X Y Q : List Int) (m : Nat) (d : List Int) (i j : Nat) : Prop :=
 ∃ C X' Y' D, d = P ++ C ++ X' ++ Y' ++ D ++ Q ∧ X'.length = i ∧ Y'.length = j ∧ P.length + C.length + i = m ∧ C ++ Y' ++ X' ++ D = Y ++ X ∧ 0 < i ∧ 0 < j
theorem RotZ.gt {P X Y Q : List Int} {m : Nat} {d : List Int} {i j : Nat} (h : RotZ P X Y Q m d i j) (hij : j < i) :
  ∃ P' X1 M Y' Q', d = P' ++ X1 ++ M ++ Y' ++ Q' ∧ P'.length = m - i ∧ (P' ++ X1 ++ M).length = m ∧ X1.length = j ∧ Y'.length = j ∧ RotZ P X Y Q m (P' ++ Y' ++ M ++ X1 ++ Q') (i - j) j := by
 obtain ⟨C, X', Y', D, rfl, rfl, rfl, h3, h4, h5, h6⟩ := h
 obtain ⟨X1, X2, rfl, hX1⟩ : ∃ X1 X2, X' = X1 ++ X2 ∧ X1.length = Y'.length := ⟨X'.take Y'.length, X'.drop Y'.length, (List.take_append_drop _ _).symm, by simp; omega⟩
 simp only [List.length_append] at *
 exact ⟨P ++ C, X1, X2, Y', D ++ Q, by simp, by simp; omega, by simp; omega, hX1, rfl, C ++ Y', X2, X1, D, by simp, by omega, by omega, by simp; omega, by rw [← h4]; simp, by omega, by omega⟩
theorem RotZ.le {P X Y Q : List Int} {m : Nat} {d : List Int} {i j : Nat} (h : RotZ P X Y Q m d i j) (hij : i < j) :
  ∃ P' X' M Y2 Q', d = P' ++ X' ++ M ++ Y2 ++ Q' ∧ P'.length = m - i ∧ (P' ++ X' ++ M).length = m + j - i ∧ X'.length = i ∧ Y2.length = i ∧ RotZ P X Y Q m (P' ++ Y2 ++ M ++ X' ++ Q') i (j - i) := by
 obtain ⟨C, X', Y', D, rfl, rfl, rfl, h3, h4, h5, h6⟩ := h
 obtain ⟨Y1, Y2, rfl, hY2⟩ : ∃ Y1 Y2, Y' = Y1 ++ Y2 ∧ Y2.length = X'.length := ⟨Y'.take (Y'.length - X'.length), Y'.drop (Y'.length - X'.length), (List.take_append_drop _ _).symm, by simp; omega⟩
 simp only [List.length_append] at *
 exact ⟨P ++ C, X', Y1, Y2, D ++ Q, by simp, by simp; omega, by simp; omega, rfl, hY2, C, Y2, Y1, X' ++ D, by simp, by omega, by omega, by omega, by rw [← h4]; simp, by omega, by omega⟩
theorem RotZ.eq {P X Y Q : List Int} {m : Nat} {d : List Int} {i : Nat} (h : RotZ P X Y Q m d i i) :
  ∃ P' X' Y' Q', d = P' ++ X' ++ [] ++ Y' ++ Q' ∧ P'.length = m - i ∧ (P' ++ X' ++ []).length = m ∧ X'.length = i ∧ Y'.length = i ∧ P' ++ Y' ++ [] ++ X' ++ Q' = P ++ Y ++ X ++ Q := by
 obtain ⟨C, X', Y', D, rfl, rfl, h2, h3, h4, h5, h6⟩ := h
 refine ⟨P ++ C, X', Y', D ++ Q, by simp, by simp; omega, by simp; omega, rfl, h2, ?_⟩
 have := congrArg (fun l => P ++ (l ++ Q)) h4
 simpa using this
theorem RotZ.len {P X Y Q : List Int} {m : Nat} {d : List Int} {i j : Nat} (h : RotZ P X Y Q m d i j) : d.length = (P ++ X ++ Y ++ Q).length ∧ i ≤ m ∧ m + j ≤ d.length ∧ 0 < i ∧ 0 < j := by
 obtain ⟨C, X', Y', D, rfl, rfl, rfl, h3, h4, h5, h6⟩ := h
 have := congrArg List.length h4
 simp at this ⊢
 omega
theorem RotZ.start {P X Y Q : List Int} {m i j : Nat} (hm : P.length + X.length = m) (hi : X.length = i) (hj : Y.length = j) (hX : 0 < X.length) (hY : 0 < Y.length) : RotZ P X Y Q m (P ++ X ++ Y ++ Q) i j :=
 ⟨[], X, Y, [], by simp, hi, hj, by simp; omega, by simp, by omega, by omega⟩
def M15 : MC :=
(Zs [mS 12 2, mS 13 1, bS 14 .sub 12 13, mS 10 14] [0,2,3,4,10] (Zs [mS 15 3, mS 16 2, bS 17 .sub 15 16, mS 11 17] [0,2,4,10,11] (.seq (.block 0 (.loop ([0,2,4,10,11], []) (.seq (Zs [mS 18 10, mS 19 11, bS 20 .neq 18 19] [0,2,4,10,11,20] (cX 20 0))
(.block 1 (Zs [mS 21 10, mS 22 11, bS 23 .gtr 21 22] [0,2,4,10,11,23] (.cond (.s 23) (Zs [mS 24 0, mS 25 2, mS 26 10, bS 27 .sub 25 26, mS 28 2, mS 29 11, mS 30 4, .callI 31 [] (.f N5) [.s 24, .s 27, .s 28, .s 29, .s 30] [0] []] [0,2,4,10,11] (pr [mS 32 10, mS 33 11, bS 34 .sub 32 33, mS 10 34] [0,2,4,10,11])) (Zs [mS 35 0, mS 36 2, mS 37 10, bS 38 .sub 36 37, mS 39 2, mS 40 11, bS 41 .add 39 40, mS 42 10, bS 43 .sub 41 42, mS 44 10, mS 45 4, .callI 46 [] (.f N5) [.s 35, .s 38, .s 43, .s 44, .s 45] [0] []] [0,2,4,10,11] (pr [mS 47 11, mS 48 10, bS 49 .sub 47 48, mS 11 49] [0,2,4,10,11]))))))))
(pr [mS 50 0, mS 51 2, mS 52 10, bS 53 .sub 51 52, mS 54 2, mS 55 10, mS 56 4, .callI 57 [] (.f N5) [.s 50, .s 53, .s 54, .s 55, .s 56] [0] []] []))))
theorem C7 (P X Y Q : List Int) (f : FuncId) {cs : List T} {a m b : Nat} (ha : P.length = a) (hm : (P ++ X).length = m) (hb : (P ++ X ++ Y).length = b) (hX : 0 < X.length) (hY : 0 < Y.length) : CtrI Tryz.prog N17 [oL 1 ((P ++ X ++ Y ++ Q).map encI), iI a, iI m, iI b, fC f cs] [some (1, (P ++ Y ++ X ++ Q).map encI)] [] := by
 refine K19 (M := M15) (m := 0) (n := 58) (res := []) hmix Tryz.func433 rfl (by kernel_rfl) rfl (by kernel_rfl) (by kernel_rfl) (Nat.le_of_ble_eq_true rfl) rfl rfl ?_; unfold M15
 intro hbd
 have hl := K11 hbd
 clear hbd
 have hN2 : (P ++ Y ++ X ++ Q).length = (P ++ X ++ Y ++ Q).length := by simp; omega
 have hm' : m = a + X.length := by rw [← hm, ← ha]; simp
 have hb' : b = m + Y.length := by rw [← hb, ← hm]; simp; omega
 have hbN : b ≤ (P ++ X ++ Y ++ Q).length := by rw [List.length_append, hb]; omega
 generalize hN : (P ++ X ++ Y ++ Q).length = N at *
 simp only [roomB] at hl
 simp only [go_sem, hN, wS (a := m) (b := a) (by omega) (by omega), wS (a := b) (b := m) (by omega) (by omega)]
 refine K16 (ι := List Int × Nat × Nat) (fun s => [(10, vI s.2.1), (11, vI s.2.2)]) (fun s => [(0, ⟨1, .row true 1 (s.1.map encI)⟩)]) (fun s => RotZ P X Y Q m s.1 s.2.1 s.2.2) (fun s => s.2.1 + s.2.2) (P ++ X ++ Y ++ Q, m - a, b - m) ?_
 simp only [go_sem]
 refine ⟨?_, RotZ.start (by omega) (show X.length = m - a by omega) (show Y.length = b - m by omega) hX hY, ?_⟩
 ·simp only [go_sem]
 ·rintro ⟨d, i, j⟩ hI
  simp only at hI
  obtain ⟨hd, h1, h2, h3, h4⟩ := hI.len
  rw [hN] at hd
  simp only [go_sem, hd]
  refine ⟨fun hne => ⟨fun hgt => ?_, fun hle => ?_⟩, fun heq => ?_⟩
  ·obtain ⟨P', X1, M, Y', Q', rfl, k1, k2, k3, k4, hR⟩ := hI.gt (by omega)
   have hd2 := hR.len.1
   rw [hN] at hd2
   rw [wS h1 (by omega)]
   apply K9 (C1c P' X1 M Y' Q' f k1 k2 k3 k4)
   simp only [go_sem, wS (a := i) (b := j) (by omega) (by omega)]
   exact ⟨(_, i - j, j), ⟨⟨rfl, rfl⟩, rfl⟩, hR, by show i - j + j < i + j; omega⟩
  ·obtain ⟨P', X1, M, Y', Q', rfl, k1, k2, k3, k4, hR⟩ := hI.le (by omega)
   have hd2 := hR.len.1
   rw [hN] at hd2
   rw [wS h1 (by omega), wN (by omega), wS (a := m + j) (b := i) (by omega) (by omega)]
   apply K9 (C1c P' X1 M Y' Q' f k1 k2 k3 k4)
   simp only [go_sem, wS (a := j) (b := i) (by omega) (by omega)]
   exact ⟨(_, i, j - i), ⟨⟨rfl, rfl⟩, rfl⟩, hR, by show i + (j - i) < i + j; omega⟩
  ·obtain rfl : i = j := by omega
   obtain ⟨P', X1, Y', Q', rfl, k1, k2, k3, k4, hR⟩ := hI.eq
   rw [wS h1 (by omega)]
   apply K9 (C1c P' X1 [] Y' Q' f k1 k2 k3 k4)
   rw [hR]
   simp only [go_sem]
def ltz (c : Int → Int → Int) (x y : Int) : Bool := decide (c x y < 0)
def InsZ (lt : Int → Int → Bool) (P S R : List Int) (x : Int) (d : List Int) (j : Nat) : Prop :=
 ∃ s1 s2, d = P ++ s1 ++ x :: s2 ++ R ∧ P.length + s1.length = j ∧ s1 ++ s2 = S ∧ ∀ y ∈ s2, lt x y = true
theorem InsZ.len {lt : Int → Int → Bool} {P S R : List Int} {x : Int} {d : List Int} {j : Nat} (h : InsZ lt P S R x d j) : d.length = P.length + S.length + 1 + R.length ∧ P.length ≤ j ∧ j ≤ P.length + S.length := by
 obtain ⟨s1, s2, rfl, rfl, rfl, h⟩ := h
 simp; omega
theorem InsZ.done {lt : Int → Int → Bool} (hw : Srt.Swo lt) {P S R : List Int} {x : Int} {d : List Int} {j : Nat} (h : InsZ lt P S R x d j) (hs : Srt.srt lt S) (hj : j = P.length ∨ ∀ z ∈ d[j - 1]?, lt x z = false) : d = P ++ Srt.ins lt x S ++ R := by
 obtain ⟨s1, s2, rfl, rfl, rfl, h⟩ := h
 rw [Srt.ins_mid]
 ·simp
 ·intro y hy
  rcases List.eq_nil_or_concat s1 with rfl | ⟨s, z, rfl⟩
  ·simp at hy
  ·rcases hj with hj | hj
   ·simp at hj
   ·rw [List.concat_eq_append] at *
    have hz : lt x z = false := hj z (by simp [])
    rcases List.mem_append.1 hy with k | k
    ·have := (Srt.srt_append.1 (Srt.srt_append.1 hs).1).2.2 y k z (by simp)
     exact hw.ntr hz this
    ·obtain rfl := List.mem_singleton.1 k
     exact hz
 ·intro y hy
  exact h y (List.mem_of_mem_head? hy)
theorem InsZ.step {lt : Int → Int → Bool} {P S R : List Int} {x : Int} {d : List Int} {j : Nat} (h : InsZ lt P S R x d j) (hj : P.length < j) :
  ∃ A z C, d = A ++ z :: ([] ++ x :: C) ∧ A.length = j - 1 ∧ d[j - 1]? = some z ∧ (lt x z = true → InsZ lt P S R x (A ++ x :: ([] ++ z :: C)) (j - 1)) := by
 obtain ⟨s1, s2, rfl, rfl, rfl, h⟩ := h
 rcases List.eq_nil_or_concat s1 with rfl | ⟨s, z, rfl⟩
 ·simp at hj
 ·rw [List.concat_eq_append] at *
  refine ⟨P ++ s, z, s2 ++ R, by simp, by simp, by simp [], fun hl => ⟨s, z :: s2, by simp, by simp, by simp, ?_⟩⟩
  intro y hy
  rcases List.mem_cons.1 hy with rfl | k
  ·exact hl
  ·exact h y k
def Ml : MC :=
(Zs [mS 10 1, bC 11 .add 10 1, mS 8 11] [0,1,2,3,8] (.block 0 (.loop ([0,1,2,3,8], []) (.seq (Zs [mS 12 8, mS 13 2, bS 14 .lss 12 13] [0,1,2,3,8,14] (cX 14 0))
(.seq (.block 1 (Zs [mS 17 8, mS 9 17] [0,1,2,3,8,9] (.block 2 (.loop ([0,1,2,3,8,9], []) (.seq (.seq (.dreg [Zc [19] (mS 18 9), Zc [18] (mS 19 1), Ze [0,1] (bS 20 .gtr 18 19), Ze [0,1,2] (mS 21 20), { o := mS 22 3, g := some (21, true), hs := [23,24,25,26,27,28,29,30,31], bf := (.range 4) }, { o := mS 23 0, g := some (21, true), hs := [22,24,27,28,29,30,31], bf := (.range 4) }, { o := mS 24 9, g := some (21, true), hs := [22,23,27,28,29,30,31], bf := (.range 4) }, { o := xS 25 1 23 24, g := some (21, true), hs := [22,27,28,29,30,31], bf := [0,1,2,3,5,6] }, { o := lF 26 1 25, g := some (21, true), hs := [22,27,28,29,30,31], bf := [0,1,2,3,5,6,7] }, { o := mS 27 0, g := some (21, true), hs := [22,23,24,25,26,28,29], bf := (.range 4) }, { o := mS 28 9, g := some (21, true), hs := [22,23,24,25,26,27], bf := (.range 4) }, { o := bC 29 .sub 28 1, g := some (21, true), hs := [22,23,24,25,26,27], bf := [0,1,2,3,10] }, { o := xS 30 1 27 29, g := some (21, true), hs := [22,23,24,25,26], bf := [0,1,2,3,9,10,11] }, { o := lF 31 1 30, g := some (21, true), hs := [22,23,24,25,26], bf := [0,1,2,3,9,10,11,12] }, { o := .call 32 [] (.s 22) [.s 26, .s 31], g := some (21, true), bf := (.range 14) }, { o := bC 33 .lss 32 0, g := some (21, true), bf := (.range 15) }, Ze (.range 16) (.pick 34 (.s 21) (.s 33) cF)] [0,1,2,3,8,9,34])
(cX 34 2))
(.seq (.block 3 (.dreg [Zc [38,39,40,41,42,43,44,45,46,47,48,49,50] (mS 37 0), Zc [37,39,40,41,42,43,44,45,46,47,48,49,50] (mS 38 9), Zf [37,38,40,41,42,43,44,45,46,47,48,49,50,51] [0] (mS 39 0), Zf [37,38,39,42,43,44,45,46,47,48,49,50,51] [0] (mS 40 9), Zg [37,38,39,42,43,44,45,46,47,48,49,50,51] [0] [3] (bC 41 .sub 40 1), Zc [37,38,39,40,41,43,44,47,48,49,50] (mS 42 0), Zc [37,38,39,40,41,42,47,48,49,50] (mS 43 9), Zd [37,38,39,40,41,42,47,48,49,50] [6] (bC 44 .sub 43 1), Zd [37,38,39,40,41,47,48,49,50] [5,6,7] (xS 45 1 42 44), Zd [37,38,39,40,41,47,48,49,50] [5,6,7,8] (lF 46 1 45), Zc [37,38,39,40,41,42,43,44,45,46,48] (mS 47 0), Zc [37,38,39,40,41,42,43,44,45,46,47] (mS 48 9), Zd [37,38,39,40,41,42,43,44,45,46] [10,11] (xS 49 1 47 48), Zd [37,38,39,40,41,42,43,44,45,46] [10,11,12] (lF 50 1 49), Zd [39,40,41] [0,1,5,6,7,8,9,10,11,12,13] (xS 51 1 37 38), { o := sS 1 51 46, hs := [39,40,41], ws := [0], bf := [0,1,5,6,7,8,9,10,11,12,13,14] }, Ze (.range 16) (xS 52 1 39 41), { o := sS 1 52 50, ws := [0], bf := (.range 17) }] [0,1,2,3,8,9]))
(pr [mS 35 9, bC 36 .sub 35 1, mS 9 36] [0,1,2,3,8,9])))))))
(pr [mS 15 8, bC 16 .add 15 1, mS 8 16] [0,1,2,3,8]))))))
theorem C1p (P X Q : List Int) (f : FuncId) {cs : List T} (c : Int → Int → Int) (hc : ∀ x y, Ctr Tryz.prog f (aI x :: aI y :: cs.map (fun t => (false, [t]))) [rI (c x y)]) (hw : Srt.Swo (ltz c)) {a b : Nat} (ha : P.length = a) (hb : (P ++ X).length = b) : CtrI Tryz.prog Nf [oL 1 ((P ++ X ++ Q).map encI), iI a, iI b, fC f cs] [some (1, (P ++ Srt.isort (ltz c) X ++ Q).map encI)] [] := by
 have hlk : ∀ k, (P ++ Srt.isort (ltz c) (X.take k) ++ (X.drop k ++ Q)).length = (P ++ X ++ Q).length := fun k => by simp [Srt.len_isort]; omega
 refine K19 (M := Ml) (m := 0) (n := 53) (res := []) hmix Tryz.func424 rfl (by kernel_rfl) rfl (by kernel_rfl) (by kernel_rfl) (Nat.le_of_ble_eq_true rfl) rfl rfl ?_; unfold Ml
 intro hbd
 have hl := K11 hbd
 clear hbd
 have hb' : b = a + X.length := by rw [← hb, ← ha]; simp
 have hbN : b ≤ (P ++ X ++ Q).length := by rw [List.length_append, hb]; omega
 generalize hN : (P ++ X ++ Q).length = N at *
 simp only [roomB] at hl
 simp only [go_sem, hN, wN1 (a := a) (by omega)]
 refine K16 (fun k : Nat => [(8, vI ((a + k : Nat) : Int))]) (fun k => [(0, ⟨1, .row true 1 ((P ++ Srt.isort (ltz c) (X.take k) ++ (X.drop k ++ Q)).map encI)⟩)]) (fun k => 1 ≤ k ∧ (k ≤ X.length ∨ k = 1)) (fun k => X.length - k) 1 ?_
 simp only [go_sem]
 refine ⟨?_, ⟨by omega, by omega⟩, ?_⟩
 ·simp only [go_sem]
  cases X with
  | nil => simp [Srt.isort, Srt.mrg]
  | cons x X => simp [Srt.isort, Srt.mrg, Srt.ins]
 ·rintro k ⟨h1, h2⟩
  simp only [go_sem]
  refine ⟨fun hlt => ?_, fun hge => ?_⟩
  ·obtain ⟨x, hx⟩ := Kh (show k < X.length by omega)
   refine K16 (ι := List Int × Nat) (fun s => [(9, vI s.2)]) (fun s => [(0, ⟨1, .row true 1 (s.1.map encI)⟩)]) (fun s => InsZ (ltz c) P (Srt.isort (ltz c) (X.take k)) (X.drop (k + 1) ++ Q) x s.1 s.2) (fun s => s.2) (P ++ Srt.isort (ltz c) (X.take k) ++ (X.drop k ++ Q), a + k) ?_
   simp only [go_sem]
   refine ⟨?_, ⟨Srt.isort (ltz c) (X.take k), [], by simp [Km hx], by simp [Srt.len_isort]; omega, by simp, by simp⟩, ?_⟩
   ·simp only [go_sem]
   ·rintro ⟨d, j⟩ hI
    simp only at hI
    obtain ⟨hd, h3, h4⟩ := hI.len
    have hdN : d.length = N := by
     have := hlk k
     simp [Km hx] at this hd
     omega
    have hdone : (j = P.length ∨ ∀ z ∈ d[j - 1]?, ltz c x z = false) → d.map encI = (P ++ Srt.isort (ltz c) (X.take (k + 1)) ++ (X.drop (k + 1) ++ Q)).map encI := fun h => by
     rw [hI.done hw (Srt.srt_isort hw _) h, Kb hx, Srt.isort_snoc]
    by_cases hj : P.length < j
    ·obtain ⟨A, z, C, e, k1, k2, k3⟩ := hI.step hj
     have e' : d.map encI = two (A.map encI) (encI z) [] (encI x) (C.map encI) := by subst e; simp [two]
     have e2 : (A ++ x :: ([] ++ z :: C)).map encI = two (A.map encI) (encI x) [] (encI z) (C.map encI) := by simp [two]
     obtain ⟨g1, g2, s1, s2, hL, d1, d2⟩ := K7x (A := A.map encI) (B := []) (C := C.map encI) (p := j - 1) (q := j) (by simpa using k1) (by simp; omega)
     have hL' : ∀ u v, (two (A.map encI) u [] v (C.map encI)).length = N := fun u v => by
      rw [← hdN, hL, e]; simp; omega
     rw [e']
     have j0 : (j : Int) > (a : Int) := by omega
     have j1 : (0 : Int) ≤ (j : Int) := by omega
     have j2 : (j : Int) < (N : Int) := by omega
     have j3 : (0 : Int) ≤ ((j - 1 : Nat) : Int) := by omega
     have j4 : ((j - 1 : Nat) : Int) < (N : Int) := by omega
     simp only [go_sem, hL', g1, g2, j0, j1, j2, j3, j4, wS1 (a := j) (by omega) (by omega)]
     apply K0 (hc x z)
     simp only [go_sem, hL', g1, g2, s1, s2, j1, j2, j3, j4, wS1 (a := j) (by omega) (by omega), wN1 (a := a + k) (by omega)]
     intro _
     refine ⟨fun hn => ⟨(A ++ x :: ([] ++ z :: C), j - 1), ⟨rfl, e2.symm⟩, k3 (by simpa [ltz] using hn), by show j - 1 < j; omega⟩, fun hn => ?_⟩
     have hz : ltz c x z = false := by simpa [ltz] using hn
     have := hdone (.inr (by rw [k2]; intro y hy; obtain rfl := Option.some.inj hy; exact hz))
     rw [e'] at this
     exact ⟨k + 1, ⟨rfl, this⟩, ⟨by omega, by omega⟩, by omega⟩
    ·have j0 : ¬ (j : Int) > (a : Int) := by omega
     simp only [go_sem, j0, wN1 (a := a + k) (by omega)]
     have := hdone (.inl (by omega))
     exact ⟨k + 1, ⟨rfl, this⟩, ⟨by omega, by omega⟩, by omega⟩
  ·have hk : X.length ≤ k := by omega
   rw [List.take_of_length_le hk, List.drop_of_length_le hk, List.nil_append]
def SymZ (lt : Int → Int → Bool) (X Y : List Int) (M u0 v0 u v : Nat) : Prop :=
 u0 ≤ u ∧ u ≤ v ∧ v ≤ v0 ∧ (u = 0 ∨ Y.length ≤ M - u ∨ ∃ y x, Y[M - u]? = some y ∧ X[u - 1]? = some x ∧ lt y x = false) ∧
  (v = M ∨ v = X.length ∨ ∃ y x, Y[M - 1 - v]? = some y ∧ X[v]? = some x ∧ lt y x = true)
theorem SymZ.fin {lt : Int → Int → Bool} (hw : Srt.Swo lt) {X Y : List Int} {M u0 v0 u : Nat} (h : SymZ lt X Y M u0 v0 u u) (hX : Srt.srt lt X) (hY : Srt.srt lt Y) (q2 : v0 ≤ M) (q3 : v0 ≤ X.length) (q4 : M ≤ u0 + Y.length) :
  ∃ A1 A2 B1 B2, X = A1 ++ A2 ∧ Y = B1 ++ B2 ∧ A1.length = u ∧ B1.length = M - u ∧ u ≤ M ∧ Srt.mrg lt X Y = Srt.mrg lt A1 B1 ++ Srt.mrg lt A2 B2 ∧ Srt.srt lt A1 ∧ Srt.srt lt A2 ∧ Srt.srt lt B1 ∧ Srt.srt lt B2 := by
 obtain ⟨h1, h2, h3, h4, h5⟩ := h
 have e := Srt.mrg_sym hw hX hY (by omega) (by omega) h4 h5
 have sX := Srt.srt_append.1 ((List.take_append_drop u X).symm ▸ hX)
 have sY := Srt.srt_append.1 ((List.take_append_drop (M - u) Y).symm ▸ hY)
 exact ⟨X.take u, X.drop u, Y.take (M - u), Y.drop (M - u), (List.take_append_drop _ _).symm, (List.take_append_drop _ _).symm, by simp; omega, by simp; omega, by omega, e, sX.1, sX.2.1, sY.1, sY.2.1⟩
theorem symZL (lt : Int → Int → Bool) {P A1 A2 B1 B2 Q : List Int} {a m b M u N n : Nat} (ha : P.length = a) (hA1 : A1.length = u) (hB1 : B1.length = M - u) (huM : u ≤ M) (hm : m = a + (A1 ++ A2).length) (hb : b = m + (B1 ++ B2).length)
  (hN : (P ++ (A1 ++ A2) ++ (B1 ++ B2) ++ Q).length = N) (hM : M = ((A1 ++ A2).length + (B1 ++ B2).length) / 2) (hn : (A1 ++ A2).length + (B1 ++ B2).length ≤ n + 1) (h1 : ¬ ((m - a : Nat) : Int) = 1) (h2 : ¬ ((b - m : Nat) : Int) = 1) (hX : 0 < (A1 ++ A2).length) (hY : 0 < (B1 ++ B2).length) :
  ((P ++ A1 ++ B1 ++ A2 ++ (B2 ++ Q)).length = N ∧ (P ++ A1 ++ A2 ++ B1 ++ (B2 ++ Q)).length = N ∧ (P ++ A1 ++ B1 ++ (A2 ++ (B2 ++ Q))).length = N ∧ (P ++ Srt.mrg lt A1 B1 ++ A2 ++ B2 ++ Q).length = N ∧ (P ++ Srt.mrg lt A1 B1 ++ (A2 ++ (B2 ++ Q))).length = N ∧ (P ++ Srt.mrg lt A1 B1 ++ Srt.mrg lt A2 B2 ++ Q).length = N) ∧
  ((P ++ A1).length = a + u ∧ (P ++ A1 ++ A2).length = m ∧ (P ++ A1 ++ A2 ++ B1).length = m + (M - u) ∧ (P ++ A1 ++ B1).length = a + M ∧ (P ++ Srt.mrg lt A1 B1).length = a + M ∧ (P ++ Srt.mrg lt A1 B1 ++ A2).length = m + (M - u) ∧ (P ++ Srt.mrg lt A1 B1 ++ A2 ++ B2).length = b) ∧
  A1.length + B1.length ≤ n ∧ A2.length + B2.length ≤ n ∧
  (m = a + u + A2.length ∧ m + (M - u) = m + B1.length ∧ a + u = a + A1.length ∧ a + M = a + u + B1.length ∧ m + (M - u) = a + M + A2.length ∧ b = m + (M - u) + B2.length) ∧
  ((0 < A1.length ∧ 0 < A2.length ∧ 0 < B1.length ∧ 0 < B2.length) ∨ (A1.length = 0 ∧ 0 < A2.length ∧ 0 < B1.length ∧ 0 < B2.length) ∨ (0 < A1.length ∧ A2.length = 0 ∧ 0 < B1.length ∧ 0 < B2.length) ∨ (0 < A1.length ∧ 0 < A2.length ∧ B1.length = 0 ∧ 0 < B2.length) ∨ (0 < A1.length ∧ 0 < A2.length ∧ 0 < B1.length ∧ B2.length = 0) ∨ (A1.length = 0 ∧ 0 < A2.length ∧ 0 < B1.length ∧ B2.length = 0) ∨ (0 < A1.length ∧ A2.length = 0 ∧ B1.length = 0 ∧ 0 < B2.length)) := by
 simp only [List.length_append, Srt.len_mrg] at *
 have h7 := sym7 (u := A1.length) (l2 := A2.length) (k := B1.length) (l4 := B2.length) (M := M) (by omega) (by omega) (by omega) (by omega) (by omega)
 refine ⟨⟨?_, ?_, ?_, ?_, ?_, ?_⟩, ⟨?_, ?_, ?_, ?_, ?_, ?_, ?_⟩, ?_, ?_, ⟨?_, ?_, ?_, ?_, ?_, ?_⟩, h7⟩ <;> clear h7 <;> omega
def My : MC :=
(.seq (Zs [mS 25 2, mS 26 1, bS 27 .sub 25 26, bC 28 .eql 27 1] [0,1,2,3,4,28] (.cond (.s 28) (Zs [mS 29 2, mS 10 29] [0,1,3,4,10] (Zs [mS 30 3, mS 11 30] [0,1,4,10,11] (.seq (.block 0 (.loop ([0,1,4,10,11], []) (.seq (Zs [mS 31 10, mS 32 11, bS 33 .lss 31 32] [0,1,4,10,11,33] (cX 33 0))
(.block 1 (Zs [mS 34 10, mS 35 11, bS 36 .add 34 35, .convI 37 .u64 (.s 36), .bin 38 false .shr (.s 37) (.c (.int .u64 1)), .convI 39 .i64 (.s 38), mS 12 39] [0,1,4,10,11,12] (.seq (.dreg [Zc [41,42,43,44,45,46,47,48] (mS 40 4), Zc [40,42,45,46,47,48] (mS 41 0), Zc [40,41,45,46,47,48] (mS 42 12), Zd [40,45,46,47,48] [1,2] (xS 43 1 41 42), Zd [40,45,46,47,48] [1,2,3] (lF 44 1 43), Zc [40,41,42,43,44,46] (mS 45 0), Zc [40,41,42,43,44,45] (mS 46 1), Zd [40,41,42,43,44] [5,6] (xS 47 1 45 46), Zd [40,41,42,43,44] [5,6,7] (lF 48 1 47), Ze (.range 9) (.call 49 [] (.s 40) [.s 44, .s 48]), Ze (.range 10) (bC 50 .lss 49 0)] [0,1,4,10,11,12,50])
(.cond (.s 50) (pr [mS 51 12, bC 52 .add 51 1, mS 10 52] [0,1,4,10,11]) (pr [mS 53 12, mS 11 53] [0,1,4,10,11]))))))))
(.seq (Zs [mS 54 1, mS 13 54] [0,10,13] (.block 2 (.loop ([0,10,13], []) (.seq (Zs [mS 55 13, mS 56 10, bC 57 .sub 56 1, bS 58 .lss 55 57] [0,10,13,58] (cX 58 2))
(.seq (.block 3 (.dreg [Zc [62,63,64,65,66,67,68,69,70,71,72,73,74] (mS 61 0), Zc [61,63,64,65,66,67,68,69,70,71,72,73,74] (mS 62 13), Zf [61,62,64,65,66,67,68,69,70,71,72,73,74,75] [0] (mS 63 0), Zf [61,62,63,66,67,68,69,70,71,72,73,74,75] [0] (mS 64 13), Zg [61,62,63,66,67,68,69,70,71,72,73,74,75] [0] [3] (bC 65 .add 64 1), Zc [61,62,63,64,65,67,68,71,72,73,74] (mS 66 0), Zc [61,62,63,64,65,66,71,72,73,74] (mS 67 13), Zd [61,62,63,64,65,66,71,72,73,74] [6] (bC 68 .add 67 1), Zd [61,62,63,64,65,71,72,73,74] [5,6,7] (xS 69 1 66 68), Zd [61,62,63,64,65,71,72,73,74] [5,6,7,8] (lF 70 1 69), Zc [61,62,63,64,65,66,67,68,69,70,72] (mS 71 0), Zc [61,62,63,64,65,66,67,68,69,70,71] (mS 72 13), Zd [61,62,63,64,65,66,67,68,69,70] [10,11] (xS 73 1 71 72), Zd [61,62,63,64,65,66,67,68,69,70] [10,11,12] (lF 74 1 73), Zd [63,64,65] [0,1,5,6,7,8,9,10,11,12,13] (xS 75 1 61 62), { o := sS 1 75 70, hs := [63,64,65], ws := [0], bf := [0,1,5,6,7,8,9,10,11,12,13,14] }, Ze (.range 16) (xS 76 1 63 65), { o := sS 1 76 74, ws := [0], bf := (.range 17) }] [0,10,13]))
(pr [mS 59 13, bC 60 .add 59 1, mS 13 60] [0,10,13]))))))
.ret)))) .skip))
(.seq (Zs [mS 77 3, mS 78 2, bS 79 .sub 77 78, bC 80 .eql 79 1] [0,1,2,3,4,80] (.cond (.s 80) (Zs [mS 81 1, mS 14 81] [0,2,4,14] (Zs [mS 82 2, mS 15 82] [0,2,4,14,15] (.seq (.block 4 (.loop ([0,2,4,14,15], []) (.seq (Zs [mS 83 14, mS 84 15, bS 85 .lss 83 84] [0,2,4,14,15,85] (cX 85 4))
(.block 5 (Zs [mS 86 14, mS 87 15, bS 88 .add 86 87, .convI 89 .u64 (.s 88), .bin 90 false .shr (.s 89) (.c (.int .u64 1)), .convI 91 .i64 (.s 90), mS 16 91] [0,2,4,14,15,16] (.seq (.dreg [Zc [93,94,95,96,97,98,99,100] (mS 92 4), Zc [92,94,97,98,99,100] (mS 93 0), Zc [92,93,97,98,99,100] (mS 94 2), Zd [92,97,98,99,100] [1,2] (xS 95 1 93 94), Zd [92,97,98,99,100] [1,2,3] (lF 96 1 95), Zc [92,93,94,95,96,98] (mS 97 0), Zc [92,93,94,95,96,97] (mS 98 16), Zd [92,93,94,95,96] [5,6] (xS 99 1 97 98), Zd [92,93,94,95,96] [5,6,7] (lF 100 1 99), Ze (.range 9) (.call 101 [] (.s 92) [.s 96, .s 100]), Ze (.range 10) (bC 102 .lss 101 0), Ze (.range 11) (.un 103 .not (.s 102))] [0,2,4,14,15,16,103])
(.cond (.s 103) (pr [mS 104 16, bC 105 .add 104 1, mS 14 105] [0,2,4,14,15]) (pr [mS 106 16, mS 15 106] [0,2,4,14,15]))))))))
(.seq (Zs [mS 107 2, mS 17 107] [0,14,17] (.block 6 (.loop ([0,14,17], []) (.seq (Zs [mS 108 17, mS 109 14, bS 110 .gtr 108 109] [0,14,17,110] (cX 110 6))
(.seq (.block 7 (.dreg [Zc [114,115,116,117,118,119,120,121,122,123,124,125,126] (mS 113 0), Zc [113,115,116,117,118,119,120,121,122,123,124,125,126] (mS 114 17), Zf [113,114,116,117,118,119,120,121,122,123,124,125,126,127] [0] (mS 115 0), Zf [113,114,115,118,119,120,121,122,123,124,125,126,127] [0] (mS 116 17), Zg [113,114,115,118,119,120,121,122,123,124,125,126,127] [0] [3] (bC 117 .sub 116 1), Zc [113,114,115,116,117,119,120,123,124,125,126] (mS 118 0), Zc [113,114,115,116,117,118,123,124,125,126] (mS 119 17), Zd [113,114,115,116,117,118,123,124,125,126] [6] (bC 120 .sub 119 1), Zd [113,114,115,116,117,123,124,125,126] [5,6,7] (xS 121 1 118 120), Zd [113,114,115,116,117,123,124,125,126] [5,6,7,8] (lF 122 1 121), Zc [113,114,115,116,117,118,119,120,121,122,124] (mS 123 0), Zc [113,114,115,116,117,118,119,120,121,122,123] (mS 124 17), Zd [113,114,115,116,117,118,119,120,121,122] [10,11] (xS 125 1 123 124), Zd [113,114,115,116,117,118,119,120,121,122] [10,11,12] (lF 126 1 125), Zd [115,116,117] [0,1,5,6,7,8,9,10,11,12,13] (xS 127 1 113 114), { o := sS 1 127 122, hs := [115,116,117], ws := [0], bf := [0,1,5,6,7,8,9,10,11,12,13,14] }, Ze (.range 16) (xS 128 1 115 117), { o := sS 1 128 126, ws := [0], bf := (.range 17) }] [0,14,17]))
(pr [mS 111 17, bC 112 .sub 111 1, mS 17 112] [0,14,17]))))))
.ret)))) .skip))
(Zs [mS 129 1, mS 130 3, bS 131 .add 129 130, .convI 132 .u64 (.s 131), .bin 133 false .shr (.s 132) (.c (.int .u64 1)), .convI 134 .i64 (.s 133), mS 18 134] [0,1,2,3,4,18] (Zs [mS 135 18, mS 136 2, bS 137 .add 135 136, mS 19 137] [0,1,2,3,4,18,19] (Zs [.mv 20 (ci 0), .mv 21 (ci 0)] [0,1,2,3,4,18,19] (.seq (Zs [mS 138 2, mS 139 18, bS 140 .gtr 138 139] [0,1,2,3,4,18,19,140] (.cond (.s 140) (Zs [mS 141 19, mS 142 3, bS 143 .sub 141 142, mS 20 143] [0,1,2,3,4,18,19,20] (pr [mS 144 18, mS 21 144] [0,1,2,3,4,18,19,20,21])) (Zs [mS 145 1, mS 20 145] [0,1,2,3,4,18,19,20] (pr [mS 146 2, mS 21 146] [0,1,2,3,4,18,19,20,21]))))
(Zs [mS 147 19, bC 148 .sub 147 1, mS 22 148] [0,1,2,3,4,18,19,20,21,22] (.seq (.block 8 (.loop ([0,1,2,3,4,18,19,20,21,22], []) (.seq (Zs [mS 149 20, mS 150 21, bS 151 .lss 149 150] [0,1,2,3,4,18,19,20,21,22,151] (cX 151 8))
(.block 9 (Zs [mS 152 20, mS 153 21, bS 154 .add 152 153, .convI 155 .u64 (.s 154), .bin 156 false .shr (.s 155) (.c (.int .u64 1)), .convI 157 .i64 (.s 156), mS 23 157] [0,1,2,3,4,18,19,20,21,22,23] (.seq (.dreg [Zc [159,160,161,162,163,164,165,166,167,168] (mS 158 4), Zc [158,160,161,162,165,166,167,168] (mS 159 0), Zc [158,159,161,165,166,167,168] (mS 160 22), Zc [158,159,160,165,166,167,168] (mS 161 23), Zd [158,159,165,166,167,168] [2,3] (bS 162 .sub 160 161), Zd [158,165,166,167,168] [1,2,3,4] (xS 163 1 159 162), Zd [158,165,166,167,168] [1,2,3,4,5] (lF 164 1 163), Zc [158,159,160,161,162,163,164,166] (mS 165 0), Zc [158,159,160,161,162,163,164,165] (mS 166 23), Zd [158,159,160,161,162,163,164] [7,8] (xS 167 1 165 166), Zd [158,159,160,161,162,163,164] [7,8,9] (lF 168 1 167), Ze (.range 11) (.call 169 [] (.s 158) [.s 164, .s 168]), Ze (.range 12) (bC 170 .lss 169 0), Ze (.range 13) (.un 171 .not (.s 170))] [0,1,2,3,4,18,19,20,21,22,23,171])
(.cond (.s 171) (pr [mS 172 23, bC 173 .add 172 1, mS 20 173] [0,1,2,3,4,18,19,20,21,22]) (pr [mS 174 23, mS 21 174] [0,1,2,3,4,18,19,20,21,22]))))))))
(Zs [mS 175 19, mS 176 20, bS 177 .sub 175 176, mS 24 177] [0,1,2,3,4,18,20,24] (.seq (.seq (.reg [Za (mS 178 20), Za (mS 179 2), Za (bS 180 .lss 178 179), Za (mS 181 180), Zb 181 true (mS 182 2), Zb 181 true (mS 183 24), Zb 181 true (bS 184 .lss 182 183), Za (.pick 185 (.s 181) (.s 184) cF)] [0,1,2,3,4,18,20,24,185])
(.cond (.s 185) (pr [mS 186 0, mS 187 20, mS 188 2, mS 189 24, mS 190 4, .callI 191 [] (.f N17) [.s 186, .s 187, .s 188, .s 189, .s 190] [0] []] [0,1,3,4,18,20,24]) .skip))
(.seq (.seq (.reg [Za (mS 192 1), Za (mS 193 20), Za (bS 194 .lss 192 193), Za (mS 195 194), Zb 195 true (mS 196 20), Zb 195 true (mS 197 18), Zb 195 true (bS 198 .lss 196 197), Za (.pick 199 (.s 195) (.s 198) cF)] [0,1,3,4,18,20,24,199])
(.cond (.s 199) (pr [mS 200 0, mS 201 1, mS 202 20, mS 203 18, mS 204 4, .callI 205 [] (.f N3) [.s 200, .s 201, .s 202, .s 203, .s 204] [0] []] [0,3,4,18,24]) .skip))
(.seq (.reg [Za (mS 206 18), Za (mS 207 24), Za (bS 208 .lss 206 207), Za (mS 209 208), Zb 209 true (mS 210 24), Zb 209 true (mS 211 3), Zb 209 true (bS 212 .lss 210 211), Za (.pick 213 (.s 209) (.s 212) cF)] [0,3,4,18,24,213])
(.cond (.s 213) (pr [mS 214 0, mS 215 18, mS 216 24, mS 217 3, mS 218 4, .callI 219 [] (.f N3) [.s 214, .s 215, .s 216, .s 217, .s 218] [0] []] []) .skip)))))))))))))
set_option maxHeartbeats 4000000 in
theorem C4d (f : FuncId) {cs : List T} (c : Int → Int → Int) (hc : ∀ x y, Ctr Tryz.prog f (aI x :: aI y :: cs.map (fun t => (false, [t]))) [rI (c x y)]) (hw : Srt.Swo (ltz c)) (n : Nat) : ∀ (P X Y Q : List Int) {a m b : Nat}, X.length + Y.length ≤ n → P.length = a → (P ++ X).length = m → (P ++ X ++ Y).length = b → 0 < X.length → 0 < Y.length → Srt.srt (ltz c) X → Srt.srt (ltz c) Y →
  CtrI Tryz.prog N3 [oL 1 ((P ++ X ++ Y ++ Q).map encI), iI a, iI m, iI b, fC f cs] [some (1, (P ++ Srt.mrg (ltz c) X Y ++ Q).map encI)] [] := by
 induction n with
 | zero => intro P X Y Q a m b hn _ _ _ hX; omega
 | succ n ih =>
  intro P X Y Q a m b hn ha hm hb hX hY sX sY
  have hN2 : (P ++ Srt.mrg (ltz c) X Y ++ Q).length = (P ++ X ++ Y ++ Q).length := by simp [Srt.len_mrg]; omega
  refine K19 (M := My) (m := 0) (n := 220) (res := []) hmix Tryz.func425 rfl (by kernel_rfl) rfl (by kernel_rfl) (by kernel_rfl) (Nat.le_of_ble_eq_true rfl) rfl rfl ?_; unfold My
  intro hbd
  have hl := K11 hbd
  clear hbd
  have hm' : m = a + X.length := by rw [← hm, ← ha]; simp
  have hb' : b = m + Y.length := by rw [← hb, ← hm]; simp; omega
  have hbN : b ≤ (P ++ X ++ Y ++ Q).length := by rw [List.length_append, hb]; omega
  generalize hN : (P ++ X ++ Y ++ Q).length = N at *
  simp only [roomB] at hl
  simp only [go_sem, hN, wS (a := m) (b := a) (by omega) (by omega)]
  refine ⟨fun h1 => ?_, fun h1 => ?_⟩
  ·obtain ⟨x, rfl⟩ : ∃ x, X = [x] := List.length_eq_one_iff.1 (by omega)
   simp only [List.length_cons, List.length_nil] at hm' hn
   have hxa : (P ++ [x] ++ Y ++ Q)[a]? = some x := by rw [← ha]; simp
   have hya : ∀ w, w < Y.length → (P ++ [x] ++ Y ++ Q)[m + w]? = Y[w]? := fun w hw => by
    rw [List.append_assoc, List.getElem?_append_right (by simp; omega), List.getElem?_append_left (by simp; omega)]
    congr 1; simp; omega
   refine K16 (ι := Nat × Nat) (fun s => [(10, vI ((m + s.1 : Nat) : Int)), (11, vI ((m + s.2 : Nat) : Int))]) (fun s => []) (fun s => s.1 ≤ s.2 ∧ s.2 ≤ Y.length ∧ (∀ y ∈ Y.take s.1, ltz c y x = true) ∧ (∀ y ∈ Y.drop s.2, ltz c y x = false)) (fun s => s.2 - s.1) (0, Y.length) ?_
   simp only [go_sem]
   refine ⟨?_, ⟨by omega, by omega, by simp, by simp⟩, ?_⟩
   ·simp only [go_sem]
    exact ⟨by omega, by omega⟩
   ·rintro ⟨u, v⟩ ⟨i1, i2, i3, i4⟩
    simp only at i1 i2 i3 i4
    simp only [go_sem, hN, shr1, K53 (i := m + u) (j := m + v) (by omega)]
    refine ⟨fun hlt => ?_, fun hge => ?_⟩
    ·have hwx : (m + u + (m + v)) / 2 = m + (u + v) / 2 := by omega
     have w1 : u ≤ (u + v) / 2 := by omega
     have w2 : (u + v) / 2 < v := by omega
     rw [hwx]
     generalize (u + v) / 2 = w at w1 w2
     obtain ⟨y, hy⟩ := Kh (show w < Y.length by omega)
     have hyw := (hya w (by omega)).trans hy
     have k1 : (0 : Int) ≤ ((m + w : Nat) : Int) := by omega
     have k2 : ((m + w : Nat) : Int) < (N : Int) := by omega
     have k3 : (0 : Int) ≤ (a : Int) := by omega
     have k4 : (a : Int) < (N : Int) := by omega
     simp only [go_sem, wK (k := m + w) (by omega), k1, k2, k3, k4, K5 hyw, K5 hxa]
     apply K0 (hc y x)
     simp only [go_sem, wN1 (a := m + w) (by omega)]
     intro _
     refine ⟨fun hn => ⟨(w + 1, v), ⟨rfl, rfl⟩, ⟨by omega, i2, Srt.lo_of hw sY hy (by simpa [ltz] using hn), i4⟩, by omega⟩, fun hn => ⟨(u, w), ⟨rfl, rfl⟩, ⟨w1, by omega, i3, Srt.hi_of hw sY hy (by simpa [ltz] using hn)⟩, by omega⟩⟩
    ·obtain rfl : u = v := by omega
     have hres := Srt.mrg_one hw sY i3 i4
     have hlt : ∀ t, (P ++ (Y.take t ++ x :: Y.drop t) ++ Q).length = N := fun t => by rw [← hN]; simp; omega
     refine K16 (fun t : Nat => [(13, vI ((a + t : Nat) : Int))]) (fun t => [(0, ⟨1, .row true 1 ((P ++ (Y.take t ++ x :: Y.drop t) ++ Q).map encI)⟩)]) (fun t => t ≤ u) (fun t => u - t) 0 ?_
     simp only [go_sem]
     refine ⟨?_, by omega, ?_⟩
     ·simp only [go_sem]
      simp
     ·intro t ht
      have hs1 : IntKind.i64.wrap (((m + u : Nat) : Int) - 1) = ((a + u : Nat) : Int) := by
       rw [wI (by omega) (by omega)]; omega
      by_cases htu : t < u
      ·obtain ⟨y, hy⟩ := Kh (show t < Y.length by omega)
       have e1 : (P ++ (Y.take t ++ x :: Y.drop t) ++ Q).map encI = two ((P ++ Y.take t).map encI) (encI x) [] (encI y) ((Y.drop (t + 1) ++ Q).map encI) := by simp [two, Km hy]
       have e2 : (P ++ (Y.take (t + 1) ++ x :: Y.drop (t + 1)) ++ Q).map encI = two ((P ++ Y.take t).map encI) (encI y) [] (encI x) ((Y.drop (t + 1) ++ Q).map encI) := by simp [two, Kb hy]
       have hA : ((P ++ Y.take t).map encI).length = a + t := by simp; omega
       have hL0 : ∀ p q, (two ((P ++ Y.take t).map encI) p [] q ((Y.drop (t + 1) ++ Q).map encI)).length = N := fun p q => by
        rw [← hlt t]; simp [two, Km hy]
       generalize (P ++ Y.take t).map encI = A at *
       generalize (Y.drop (t + 1) ++ Q).map encI = C at *
       obtain ⟨g1, g2, s1, s2, hL, d1, d2⟩ := K7x (A := A) (B := []) (C := C) (p := a + t) (q := a + t + 1) hA (by simp)
       have k1 : (0 : Int) ≤ ((a + t : Nat) : Int) := by omega
       have k2 : ((a + t : Nat) : Int) < (N : Int) := by omega
       have k3 : (0 : Int) ≤ ((a + t + 1 : Nat) : Int) := by omega
       have k4 : ((a + t + 1 : Nat) : Int) < (N : Int) := by omega
       have k5 : ((a + t : Nat) : Int) < ((a + u : Nat) : Int) := by omega
       rw [e1]
       simp only [go_sem, hs1, hL0, g1, g2, s1, s2, k1, k2, k3, k4, k5, wN1 (a := a + t) (by omega)]
       exact ⟨t + 1, ⟨rfl, e2.symm⟩, by omega, by omega⟩
      ·obtain rfl : t = u := by omega
       simp only [go_sem, hs1]
       rw [hres]
  ·simp only [go_sem, wS (a := b) (b := m) (by omega) (by omega)]
   refine ⟨fun h2 => ?_, fun h2 => ?_⟩
   ·obtain ⟨y, rfl⟩ : ∃ y, Y = [y] := List.length_eq_one_iff.1 (by omega)
    simp only [List.length_cons, List.length_nil] at hb' hn
    have hym : (P ++ X ++ [y] ++ Q)[m]? = some y := by rw [← hm]; simp
    have hxa : ∀ w, w < X.length → (P ++ X ++ [y] ++ Q)[a + w]? = X[w]? := fun w hw => by
     rw [List.append_assoc, List.append_assoc, List.getElem?_append_right (by omega), List.getElem?_append_left (by omega)]
     congr 1; omega
    refine K16 (ι := Nat × Nat) (fun s => [(14, vI ((a + s.1 : Nat) : Int)), (15, vI ((a + s.2 : Nat) : Int))]) (fun s => []) (fun s => s.1 ≤ s.2 ∧ s.2 ≤ X.length ∧ (∀ z ∈ X.take s.1, ltz c y z = false) ∧ (∀ z ∈ X.drop s.2, ltz c y z = true)) (fun s => s.2 - s.1) (0, X.length) ?_
    simp only [go_sem]
    refine ⟨?_, ⟨by omega, by omega, by simp, by simp⟩, ?_⟩
    ·simp only [go_sem]
     exact ⟨by omega, by omega⟩
    ·rintro ⟨u, v⟩ ⟨i1, i2, i3, i4⟩
     simp only at i1 i2 i3 i4
     simp only [go_sem, hN, shr1, K53 (i := a + u) (j := a + v) (by omega)]
     refine ⟨fun hlt => ?_, fun hge => ?_⟩
     ·have hwx : (a + u + (a + v)) / 2 = a + (u + v) / 2 := by omega
      have w1 : u ≤ (u + v) / 2 := by omega
      have w2 : (u + v) / 2 < v := by omega
      rw [hwx]
      generalize (u + v) / 2 = w at w1 w2
      obtain ⟨x, hx⟩ := Kh (show w < X.length by omega)
      have hxw := (hxa w (by omega)).trans hx
      have k1 : (0 : Int) ≤ ((a + w : Nat) : Int) := by omega
      have k2 : ((a + w : Nat) : Int) < (N : Int) := by omega
      have k3 : (0 : Int) ≤ (m : Int) := by omega
      have k4 : (m : Int) < (N : Int) := by omega
      simp only [go_sem, wK (k := a + w) (by omega), k1, k2, k3, k4, K5 hxw, K5 hym]
      apply K0 (hc y x)
      simp only [go_sem, wN1 (a := a + w) (by omega)]
      intro _
      refine ⟨fun hn => ⟨(w + 1, v), ⟨rfl, rfl⟩, ⟨by omega, i2, Srt.lo_of' hw sX hx (by simpa [ltz] using hn), i4⟩, by omega⟩, fun hn => ⟨(u, w), ⟨rfl, rfl⟩, ⟨w1, by omega, i3, Srt.hi_of' hw sX hx (by simpa [ltz] using hn)⟩, by omega⟩⟩
     ·obtain rfl : u = v := by omega
      have hres := Srt.mrg_last i3 i4
      have hlt : ∀ t, (P ++ (X.take t ++ y :: X.drop t) ++ Q).length = N := fun t => by rw [← hN]; simp; omega
      refine K16 (fun t : Nat => [(17, vI ((a + t : Nat) : Int))]) (fun t => [(0, ⟨1, .row true 1 ((P ++ (X.take t ++ y :: X.drop t) ++ Q).map encI)⟩)]) (fun t => u ≤ t ∧ t ≤ X.length) (fun t => t - u) X.length ?_
      simp only [go_sem]
      refine ⟨?_, ⟨i2, by omega⟩, ?_⟩
      ·simp only [go_sem, hm']
       simp
      ·rintro t ⟨ht, ht2⟩
       by_cases htu : u < t
       ·obtain ⟨t, rfl⟩ : ∃ s, t = s + 1 := ⟨t - 1, by omega⟩
        obtain ⟨x, hx⟩ := Kh (show t < X.length by omega)
        have e1 : (P ++ (X.take (t + 1) ++ y :: X.drop (t + 1)) ++ Q).map encI = two ((P ++ X.take t).map encI) (encI x) [] (encI y) ((X.drop (t + 1) ++ Q).map encI) := by simp [two, Kb hx]
        have e2 : (P ++ (X.take t ++ y :: X.drop t) ++ Q).map encI = two ((P ++ X.take t).map encI) (encI y) [] (encI x) ((X.drop (t + 1) ++ Q).map encI) := by simp [two, Km hx]
        have hA : ((P ++ X.take t).map encI).length = a + t := by simp; omega
        have hL0 : ∀ p q, (two ((P ++ X.take t).map encI) p [] q ((X.drop (t + 1) ++ Q).map encI)).length = N := fun p q => by
         rw [← hlt t]; simp [two, Km hx]
        generalize (P ++ X.take t).map encI = A at *
        generalize (X.drop (t + 1) ++ Q).map encI = C at *
        obtain ⟨g1, g2, s1, s2, hL, d1, d2⟩ := K7x (A := A) (B := []) (C := C) (p := a + t) (q := a + t + 1) hA (by simp)
        have k1 : (0 : Int) ≤ ((a + t : Nat) : Int) := by omega
        have k2 : ((a + t : Nat) : Int) < (N : Int) := by omega
        have k3 : (0 : Int) ≤ ((a + t + 1 : Nat) : Int) := by omega
        have k4 : ((a + t + 1 : Nat) : Int) < (N : Int) := by omega
        have k5 : ((a + t + 1 : Nat) : Int) > ((a + u : Nat) : Int) := by omega
        have k6 : IntKind.i64.wrap (((a + t + 1 : Nat) : Int) - 1) = ((a + t : Nat) : Int) := by
         rw [wI (by omega) (by omega)]; omega
        rw [e1, show a + (t + 1) = a + t + 1 from rfl]
        simp only [go_sem, hL0, g1, g2, s1, s2, k1, k2, k3, k4, k5, k6]
        exact ⟨t, ⟨rfl, e2.symm⟩, ⟨by omega, by omega⟩, by omega⟩
       ·obtain rfl : t = u := by omega
        simp only [go_sem]
        rw [hres]
   ·obtain ⟨M, hM⟩ : ∃ M, M = (X.length + Y.length) / 2 := ⟨_, rfl⟩
    have hmid : (a + b) / 2 = a + M := by omega
    have hxa : ∀ w, w < X.length → (P ++ X ++ Y ++ Q)[a + w]? = X[w]? := fun w hw => by
     rw [List.append_assoc, List.append_assoc, List.getElem?_append_right (by omega), List.getElem?_append_left (by omega)]
     congr 1; omega
    have hya : ∀ w, w < Y.length → (P ++ X ++ Y ++ Q)[m + w]? = Y[w]? := fun w hw => by
     rw [List.append_assoc, List.getElem?_append_right (by omega), List.getElem?_append_left (by omega)]
     congr 1; omega
    simp only [go_sem, shr1, K53 (i := a) (j := b) (by omega), hmid, wK (k := a + M) (by omega), wN (a := a + M) (b := m) (by omega)]
    refine ⟨fun h3 => ?_, fun h3 => ?_⟩
    ·have hs : IntKind.i64.wrap (((a + M + m : Nat) : Int) - (b : Int)) = ((a + (M - Y.length) : Nat) : Int) := by
      rw [wI (by omega) (by omega)]; omega
     simp only [go_sem, hs, wS1 (a := a + M + m) (by omega) (by omega)]
     obtain ⟨u0, hu0⟩ : ∃ u, u = M - Y.length := ⟨_, rfl⟩
     obtain ⟨v0, hv0⟩ : ∃ v, v = M := ⟨_, rfl⟩
     rw [← hu0]
     have q1 : u0 ≤ v0 := by omega
     have q2 : v0 ≤ M := by omega
     have q3 : v0 ≤ X.length := by omega
     have q4 : M ≤ u0 + Y.length := by omega
     have q5 : u0 = 0 ∨ Y.length ≤ M - u0 := by omega
     have q6 : v0 = M ∨ v0 = X.length := by omega
     have q7 : a + M = a + v0 := by omega
     refine K16 (ι := Nat × Nat) (fun s => [(20, vI ((a + s.1 : Nat) : Int)), (21, vI ((a + s.2 : Nat) : Int))]) (fun s => []) (fun s => SymZ (ltz c) X Y M u0 v0 s.1 s.2) (fun s => s.2 - s.1) (u0, v0) ?_
     simp only [go_sem]
     refine ⟨?_, ⟨by omega, q1, by omega, q5.imp_right .inl, q6.imp_right .inl⟩, ?_⟩
     ·simp only [go_sem]
      first | exact ⟨by omega, by omega⟩ | omega
     ·rintro ⟨u, v⟩ hI
      obtain ⟨i1, i2, i3, i4, i5⟩ := hI
      simp only at i1 i2 i3 i4 i5
      simp only [go_sem, hN, shr1, K53 (i := a + u) (j := a + v) (by omega)]
      refine ⟨fun hlt => ?_, fun hge => ?_⟩
      ·have hwx : (a + u + (a + v)) / 2 = a + (u + v) / 2 := by omega
       have w1 : u ≤ (u + v) / 2 := by omega
       have w2 : (u + v) / 2 < v := by omega
       rw [hwx]
       generalize (u + v) / 2 = w at w1 w2
       have hpc : IntKind.i64.wrap (((a + M + m - 1 : Nat) : Int) - ((a + w : Nat) : Int)) = ((m + (M - 1 - w) : Nat) : Int) := by
        rw [wI (by omega) (by omega)]; omega
       obtain ⟨x, hx⟩ := Kh (show w < X.length by omega)
       obtain ⟨y, hy⟩ := Kh (show M - 1 - w < Y.length by omega)
       have hxw := (hxa w (by omega)).trans hx
       have hyw := (hya (M - 1 - w) (by omega)).trans hy
       have k1 : (0 : Int) ≤ ((a + w : Nat) : Int) := by omega
       have k2 : ((a + w : Nat) : Int) < (N : Int) := by omega
       have k3 : (0 : Int) ≤ ((m + (M - 1 - w) : Nat) : Int) := by omega
       have k4 : ((m + (M - 1 - w) : Nat) : Int) < (N : Int) := by omega
       simp only [go_sem, wK (k := a + w) (by omega), hpc, k1, k2, k3, k4, K5 hxw, K5 hyw]
       apply K0 (hc y x)
       simp only [go_sem, wN1 (a := a + w) (by omega)]
       intro _
       refine ⟨fun hn => ⟨(w + 1, v), ⟨rfl, rfl⟩, ⟨by omega, by omega, i3, .inr (.inr ⟨y, x, by rw [show M - (w + 1) = M - 1 - w by omega]; exact hy, hx, by simpa [ltz] using hn⟩), i5⟩, by show v - (w + 1) < v - u; omega⟩, fun hn => ⟨(u, w), ⟨rfl, rfl⟩, ⟨i1, w1, by omega, i4, .inr (.inr ⟨y, x, hy, hx, by simpa [ltz] using hn⟩)⟩, by show w - u < v - u; omega⟩⟩
      ·obtain rfl : u = v := by omega
       obtain ⟨A1, A2, B1, B2, rfl, rfl, hA1, hB1, huM, hres, t1, t2, t3, t4⟩ := SymZ.fin hw ⟨i1, i2, i3, i4, i5⟩ sX sY q2 q3 q4
       have hend : IntKind.i64.wrap (((a + M + m : Nat) : Int) - ((a + u : Nat) : Int)) = ((m + (M - u) : Nat) : Int) := by
        rw [wI (by omega) (by omega)]; omega
       have r0 : P ++ (A1 ++ A2) ++ (B1 ++ B2) ++ Q = (P ++ A1) ++ A2 ++ B1 ++ (B2 ++ Q) := by simp
       have r1 : (P ++ A1) ++ B1 ++ A2 ++ (B2 ++ Q) = P ++ A1 ++ B1 ++ (A2 ++ (B2 ++ Q)) := by simp
       have r2 : A2.length = 0 ∨ B1.length = 0 → P ++ (A1 ++ A2) ++ (B1 ++ B2) ++ Q = P ++ A1 ++ B1 ++ (A2 ++ (B2 ++ Q)) := fun h => by
        rcases h with h | h
        ·rw [List.length_eq_zero_iff.1 h]; simp
        ·rw [List.length_eq_zero_iff.1 h]; simp
       have r3 : A1.length = 0 ∨ B1.length = 0 → P ++ A1 ++ B1 ++ (A2 ++ (B2 ++ Q)) = (P ++ Srt.mrg (ltz c) A1 B1) ++ A2 ++ B2 ++ Q := fun h => by
        rcases h with h | h
        ·rw [List.length_eq_zero_iff.1 h, Srt.mrg_nil_srt hw t3]; simp
        ·rw [List.length_eq_zero_iff.1 h, Srt.mrg_nil]; simp
       have r4 : P ++ Srt.mrg (ltz c) A1 B1 ++ (A2 ++ (B2 ++ Q)) = (P ++ Srt.mrg (ltz c) A1 B1) ++ A2 ++ B2 ++ Q := by simp
       have r5 : A2.length = 0 ∨ B2.length = 0 → (P ++ Srt.mrg (ltz c) A1 B1) ++ A2 ++ B2 ++ Q = (P ++ Srt.mrg (ltz c) A1 B1) ++ Srt.mrg (ltz c) A2 B2 ++ Q := fun h => by
        rcases h with h | h
        ·rw [List.length_eq_zero_iff.1 h, Srt.mrg_nil_srt hw t4]; simp
        ·rw [List.length_eq_zero_iff.1 h, Srt.mrg_nil]; simp
       have r6 : P ++ Srt.mrg (ltz c) (A1 ++ A2) (B1 ++ B2) ++ Q = (P ++ Srt.mrg (ltz c) A1 B1) ++ Srt.mrg (ltz c) A2 B2 ++ Q := by rw [hres]; simp
       obtain ⟨⟨l0, l1, l2, l3, l4, l5⟩, ⟨L1, L2, L3, L4, L5, L6, L7⟩, hn1, hn2, ⟨eA, eB, eC, eD, eE, eF⟩, h7⟩ := symZL (ltz c) ha hA1 hB1 huM hm' hb' hN hM hn h1 h2 hX hY
       clear hxa hya hres i4 i5
       rcases h7 with ⟨z1, z2, z3, z4⟩ | ⟨z1, z2, z3, z4⟩ | ⟨z1, z2, z3, z4⟩ | ⟨z1, z2, z3, z4⟩ | ⟨z1, z2, z3, z4⟩ | ⟨z1, z2, z3, z4⟩ | ⟨z1, z2, z3, z4⟩
       ·have fA := Ka A2.length eA z2
        have fB := Ka B1.length eB z3
        have fC := Ka A1.length eC z1
        have fD := Ka B1.length eD z3
        have fE := Ka A2.length eE z2
        have fF := Ka B2.length eF z4
        simp only [go_sem, hend, fA, fB, fC, fD, fE, fF]
        rw [r0]
        apply K9 (C7 (P ++ A1) A2 B1 (B2 ++ Q) f L1 L2 L3 z2 z3)
        simp only [go_sem, fC, fD, l0]
        rw [r1]
        apply K9 (ih P A1 B1 (A2 ++ (B2 ++ Q)) hn1 ha L1 L4 z1 z3 t1 t3)
        simp only [go_sem, fE, fF, l4]
        rw [r4]
        apply K9 (ih (P ++ Srt.mrg (ltz c) A1 B1) A2 B2 Q hn2 L5 L6 L7 z2 z4 t2 t4)
        simp only [go_sem]
        rw [r6]
       ·have fA := Ka A2.length eA z2
        have fB := Ka B1.length eB z3
        have fC := K1e A1.length eC z1
        have fD := Ka B1.length eD z3
        have fE := Ka A2.length eE z2
        have fF := Ka B2.length eF z4
        simp only [go_sem, hend, fA, fB, fC, fD, fE, fF]
        rw [r0]
        apply K9 (C7 (P ++ A1) A2 B1 (B2 ++ Q) f L1 L2 L3 z2 z3)
        simp only [go_sem, fC, fE, fF, l0]
        rw [r1]
        rw [r3 (.inl z1)]
        apply K9 (ih (P ++ Srt.mrg (ltz c) A1 B1) A2 B2 Q hn2 L5 L6 L7 z2 z4 t2 t4)
        simp only [go_sem]
        rw [r6]
       ·have fA := K1e A2.length eA z2
        have fB := Ka B1.length eB z3
        have fC := Ka A1.length eC z1
        have fD := Ka B1.length eD z3
        have fE := K1e A2.length eE z2
        have fF := Ka B2.length eF z4
        simp only [go_sem, hend, fA, fB, fC, fD, fE, fF]
        rw [r2 (.inl z2)]
        apply K9 (ih P A1 B1 (A2 ++ (B2 ++ Q)) hn1 ha L1 L4 z1 z3 t1 t3)
        simp only [go_sem, fE]
        rw [r4]
        rw [r5 (.inl z2)]
        rw [r6]
       ·have fA := Ka A2.length eA z2
        have fB := K1e B1.length eB z3
        have fC := Ka A1.length eC z1
        have fD := K1e B1.length eD z3
        have fE := Ka A2.length eE z2
        have fF := Ka B2.length eF z4
        simp only [go_sem, hend, fA, fB, fC, fD, fE, fF]
        rw [r2 (.inr z3)]
        rw [r3 (.inr z3)]
        apply K9 (ih (P ++ Srt.mrg (ltz c) A1 B1) A2 B2 Q hn2 L5 L6 L7 z2 z4 t2 t4)
        simp only [go_sem]
        rw [r6]
       ·have fA := Ka A2.length eA z2
        have fB := Ka B1.length eB z3
        have fC := Ka A1.length eC z1
        have fD := Ka B1.length eD z3
        have fE := Ka A2.length eE z2
        have fF := K1e B2.length eF z4
        simp only [go_sem, hend, fA, fB, fC, fD, fE, fF]
        rw [r0]
        apply K9 (C7 (P ++ A1) A2 B1 (B2 ++ Q) f L1 L2 L3 z2 z3)
        simp only [go_sem, fC, fD, l0]
        rw [r1]
        apply K9 (ih P A1 B1 (A2 ++ (B2 ++ Q)) hn1 ha L1 L4 z1 z3 t1 t3)
        simp only [go_sem, fE, fF]
        rw [r4]
        rw [r5 (.inr z4)]
        rw [r6]
       ·have fA := Ka A2.length eA z2
        have fB := Ka B1.length eB z3
        have fC := K1e A1.length eC z1
        have fD := Ka B1.length eD z3
        have fE := Ka A2.length eE z2
        have fF := K1e B2.length eF z4
        simp only [go_sem, hend, fA, fB, fC, fD, fE, fF]
        rw [r0]
        apply K9 (C7 (P ++ A1) A2 B1 (B2 ++ Q) f L1 L2 L3 z2 z3)
        simp only [go_sem, fC, fE, fF]
        rw [r1]
        rw [r3 (.inl z1)]
        rw [r5 (.inr z4)]
        rw [r6]
       ·have fA := K1e A2.length eA z2
        have fB := K1e B1.length eB z3
        have fC := Ka A1.length eC z1
        have fD := K1e B1.length eD z3
        have fE := K1e A2.length eE z2
        have fF := Ka B2.length eF z4
        simp only [go_sem, hend, fA, fB, fC, fD, fE, fF]
        rw [r2 (.inl z2)]
        rw [r3 (.inr z3)]
        rw [r5 (.inl z2)]
        rw [r6]
    ·simp only [go_sem, wS1 (a := a + M + m) (by omega) (by omega)]
     obtain ⟨u0, hu0⟩ : ∃ u, u = 0 := ⟨_, rfl⟩
     obtain ⟨v0, hv0⟩ : ∃ v, v = X.length := ⟨_, rfl⟩
     have q1 : u0 ≤ v0 := by omega
     have q2 : v0 ≤ M := by omega
     have q3 : v0 ≤ X.length := by omega
     have q4 : M ≤ u0 + Y.length := by omega
     have q5 : u0 = 0 ∨ Y.length ≤ M - u0 := by omega
     have q6 : v0 = M ∨ v0 = X.length := by omega
     refine K16 (ι := Nat × Nat) (fun s => [(20, vI ((a + s.1 : Nat) : Int)), (21, vI ((a + s.2 : Nat) : Int))]) (fun s => []) (fun s => SymZ (ltz c) X Y M u0 v0 s.1 s.2) (fun s => s.2 - s.1) (u0, v0) ?_
     simp only [go_sem]
     refine ⟨?_, ⟨by omega, q1, by omega, q5.imp_right .inl, q6.imp_right .inl⟩, ?_⟩
     ·simp only [go_sem]
      first | exact ⟨by omega, by omega⟩ | omega
     ·rintro ⟨u, v⟩ hI
      obtain ⟨i1, i2, i3, i4, i5⟩ := hI
      simp only at i1 i2 i3 i4 i5
      simp only [go_sem, hN, shr1, K53 (i := a + u) (j := a + v) (by omega)]
      refine ⟨fun hlt => ?_, fun hge => ?_⟩
      ·have hwx : (a + u + (a + v)) / 2 = a + (u + v) / 2 := by omega
       have w1 : u ≤ (u + v) / 2 := by omega
       have w2 : (u + v) / 2 < v := by omega
       rw [hwx]
       generalize (u + v) / 2 = w at w1 w2
       have hpc : IntKind.i64.wrap (((a + M + m - 1 : Nat) : Int) - ((a + w : Nat) : Int)) = ((m + (M - 1 - w) : Nat) : Int) := by
        rw [wI (by omega) (by omega)]; omega
       obtain ⟨x, hx⟩ := Kh (show w < X.length by omega)
       obtain ⟨y, hy⟩ := Kh (show M - 1 - w < Y.length by omega)
       have hxw := (hxa w (by omega)).trans hx
       have hyw := (hya (M - 1 - w) (by omega)).trans hy
       have k1 : (0 : Int) ≤ ((a + w : Nat) : Int) := by omega
       have k2 : ((a + w : Nat) : Int) < (N : Int) := by omega
       have k3 : (0 : Int) ≤ ((m + (M - 1 - w) : Nat) : Int) := by omega
       have k4 : ((m + (M - 1 - w) : Nat) : Int) < (N : Int) := by omega
       simp only [go_sem, wK (k := a + w) (by omega), hpc, k1, k2, k3, k4, K5 hxw, K5 hyw]
       apply K0 (hc y x)
       simp only [go_sem, wN1 (a := a + w) (by omega)]
       intro _
       refine ⟨fun hn => ⟨(w + 1, v), ⟨rfl, rfl⟩, ⟨by omega, by omega, i3, .inr (.inr ⟨y, x, by rw [show M - (w + 1) = M - 1 - w by omega]; exact hy, hx, by simpa [ltz] using hn⟩), i5⟩, by show v - (w + 1) < v - u; omega⟩, fun hn => ⟨(u, w), ⟨rfl, rfl⟩, ⟨i1, w1, by omega, i4, .inr (.inr ⟨y, x, hy, hx, by simpa [ltz] using hn⟩)⟩, by show w - u < v - u; omega⟩⟩
      ·obtain rfl : u = v := by omega
       obtain ⟨A1, A2, B1, B2, rfl, rfl, hA1, hB1, huM, hres, t1, t2, t3, t4⟩ := SymZ.fin hw ⟨i1, i2, i3, i4, i5⟩ sX sY q2 q3 q4
       have hend : IntKind.i64.wrap (((a + M + m : Nat) : Int) - ((a + u : Nat) : Int)) = ((m + (M - u) : Nat) : Int) := by
        rw [wI (by omega) (by omega)]; omega
       have r0 : P ++ (A1 ++ A2) ++ (B1 ++ B2) ++ Q = (P ++ A1) ++ A2 ++ B1 ++ (B2 ++ Q) := by simp
       have r1 : (P ++ A1) ++ B1 ++ A2 ++ (B2 ++ Q) = P ++ A1 ++ B1 ++ (A2 ++ (B2 ++ Q)) := by simp
       have r2 : A2.length = 0 ∨ B1.length = 0 → P ++ (A1 ++ A2) ++ (B1 ++ B2) ++ Q = P ++ A1 ++ B1 ++ (A2 ++ (B2 ++ Q)) := fun h => by
        rcases h with h | h
        ·rw [List.length_eq_zero_iff.1 h]; simp
        ·rw [List.length_eq_zero_iff.1 h]; simp
       have r3 : A1.length = 0 ∨ B1.length = 0 → P ++ A1 ++ B1 ++ (A2 ++ (B2 ++ Q)) = (P ++ Srt.mrg (ltz c) A1 B1) ++ A2 ++ B2 ++ Q := fun h => by
        rcases h with h | h
        ·rw [List.length_eq_zero_iff.1 h, Srt.mrg_nil_srt hw t3]; simp
        ·rw [List.length_eq_zero_iff.1 h, Srt.mrg_nil]; simp
       have r4 : P ++ Srt.mrg (ltz c) A1 B1 ++ (A2 ++ (B2 ++ Q)) = (P ++ Srt.mrg (ltz c) A1 B1) ++ A2 ++ B2 ++ Q := by simp
       have r5 : A2.length = 0 ∨ B2.length = 0 → (P ++ Srt.mrg (ltz c) A1 B1) ++ A2 ++ B2 ++ Q = (P ++ Srt.mrg (ltz c) A1 B1) ++ Srt.mrg (ltz c) A2 B2 ++ Q := fun h => by
        rcases h with h | h
        ·rw [List.length_eq_zero_iff.1 h, Srt.mrg_nil_srt hw t4]; simp
        ·rw [List.length_eq_zero_iff.1 h, Srt.mrg_nil]; simp
       have r6 : P ++ Srt.mrg (ltz c) (A1 ++ A2) (B1 ++ B2) ++ Q = (P ++ Srt.mrg (ltz c) A1 B1) ++ Srt.mrg (ltz c) A2 B2 ++ Q := by rw [hres]; simp
       obtain ⟨⟨l0, l1, l2, l3, l4, l5⟩, ⟨L1, L2, L3, L4, L5, L6, L7⟩, hn1, hn2, ⟨eA, eB, eC, eD, eE, eF⟩, h7⟩ := symZL (ltz c) ha hA1 hB1 huM hm' hb' hN hM hn h1 h2 hX hY
       clear hxa hya hres i4 i5
       rcases h7 with ⟨z1, z2, z3, z4⟩ | ⟨z1, z2, z3, z4⟩ | ⟨z1, z2, z3, z4⟩ | ⟨z1, z2, z3, z4⟩ | ⟨z1, z2, z3, z4⟩ | ⟨z1, z2, z3, z4⟩ | ⟨z1, z2, z3, z4⟩
       ·have fA := Ka A2.length eA z2
        have fB := Ka B1.length eB z3
        have fC := Ka A1.length eC z1
        have fD := Ka B1.length eD z3
        have fE := Ka A2.length eE z2
        have fF := Ka B2.length eF z4
        simp only [go_sem, hend, fA, fB, fC, fD, fE, fF]
        rw [r0]
        apply K9 (C7 (P ++ A1) A2 B1 (B2 ++ Q) f L1 L2 L3 z2 z3)
        simp only [go_sem, fC, fD, l0]
        rw [r1]
        apply K9 (ih P A1 B1 (A2 ++ (B2 ++ Q)) hn1 ha L1 L4 z1 z3 t1 t3)
        simp only [go_sem, fE, fF, l4]
        rw [r4]
        apply K9 (ih (P ++ Srt.mrg (ltz c) A1 B1) A2 B2 Q hn2 L5 L6 L7 z2 z4 t2 t4)
        simp only [go_sem]
        rw [r6]
       ·have fA := Ka A2.length eA z2
        have fB := Ka B1.length eB z3
        have fC := K1e A1.length eC z1
        have fD := Ka B1.length eD z3
        have fE := Ka A2.length eE z2
        have fF := Ka B2.length eF z4
        simp only [go_sem, hend, fA, fB, fC, fD, fE, fF]
        rw [r0]
        apply K9 (C7 (P ++ A1) A2 B1 (B2 ++ Q) f L1 L2 L3 z2 z3)
        simp only [go_sem, fC, fE, fF, l0]
        rw [r1]
        rw [r3 (.inl z1)]
        apply K9 (ih (P ++ Srt.mrg (ltz c) A1 B1) A2 B2 Q hn2 L5 L6 L7 z2 z4 t2 t4)
        simp only [go_sem]
        rw [r6]
       ·have fA := K1e A2.length eA z2
        have fB := Ka B1.length eB z3
        have fC := Ka A1.length eC z1
        have fD := Ka B1.length eD z3
        have fE := K1e A2.length eE z2
        have fF := Ka B2.length eF z4
        simp only [go_sem, hend, fA, fB, fC, fD, fE, fF]
        rw [r2 (.inl z2)]
        apply K9 (ih P A1 B1 (A2 ++ (B2 ++ Q)) hn1 ha L1 L4 z1 z3 t1 t3)
        simp only [go_sem, fE]
        rw [r4]
        rw [r5 (.inl z2)]
        rw [r6]
       ·have fA := Ka A2.length eA z2
        have fB := K1e B1.length eB z3
        have fC := Ka A1.length eC z1
        have fD := K1e B1.length eD z3
        have fE := Ka A2.length eE z2
        have fF := Ka B2.length eF z4
        simp only [go_sem, hend, fA, fB, fC, fD, fE, fF]
        rw [r2 (.inr z3)]
        rw [r3 (.inr z3)]
        apply K9 (ih (P ++ Srt.mrg (ltz c) A1 B1) A2 B2 Q hn2 L5 L6 L7 z2 z4 t2 t4)
        simp only [go_sem]
        rw [r6]
       ·have fA := Ka A2.length eA z2
        have fB := Ka B1.length eB z3
        have fC := Ka A1.length eC z1
        have fD := Ka B1.length eD z3
        have fE := Ka A2.length eE z2
        have fF := K1e B2.length eF z4
        simp only [go_sem, hend, fA, fB, fC, fD, fE, fF]
        rw [r0]
        apply K9 (C7 (P ++ A1) A2 B1 (B2 ++ Q) f L1 L2 L3 z2 z3)
        simp only [go_sem, fC, fD, l0]
        rw [r1]
        apply K9 (ih P A1 B1 (A2 ++ (B2 ++ Q)) hn1 ha L1 L4 z1 z3 t1 t3)
        simp only [go_sem, fE, fF]
        rw [r4]
        rw [r5 (.inr z4)]
        rw [r6]
       ·have fA := Ka A2.length eA z2
        have fB := Ka B1.length eB z3
        have fC := K1e A1.length eC z1
        have fD := Ka B1.length eD z3
        have fE := Ka A2.length eE z2
        have fF := K1e B2.length eF z4
        simp only [go_sem, hend, fA, fB, fC, fD, fE, fF]
        rw [r0]
        apply K9 (C7 (P ++ A1) A2 B1 (B2 ++ Q) f L1 L2 L3 z2 z3)
        simp only [go_sem, fC, fE, fF]
        rw [r1]
        rw [r3 (.inl z1)]
        rw [r5 (.inr z4)]
        rw [r6]
       ·have fA := K1e A2.length eA z2
        have fB := K1e B1.length eB z3
        have fC := Ka A1.length eC z1
        have fD := K1e B1.length eD z3
        have fE := K1e A2.length eE z2
        have fF := Ka B2.length eF z4
        simp only [go_sem, hend, fA, fB, fC, fD, fE, fF]
        rw [r2 (.inl z2)]
        rw [r3 (.inr z3)]
        rw [r5 (.inl z2)]
        rw [r6]
def M16 : MC :=
(Zs [.mv 6 (ci 20)] [0,1,2,6] (Zs [mS 10 6, .mv 7 (ci 0), mS 8 10] [0,1,2,6,7,8] (.seq (.block 0 (.loop ([0,1,2,6,7,8], []) (.seq (Zs [mS 11 8, mS 12 1, bS 13 .leq 11 12] [0,1,2,6,7,8,13] (cX 13 0))
(.block 1 (Zs [mS 14 0, mS 15 7, mS 16 8, mS 17 2, .callI 18 [] (.f Nf) [.s 14, .s 15, .s 16, .s 17] [0] []] [0,1,2,6,8] (Zs [mS 19 8, mS 7 19] [0,1,2,6,7,8] (pr [mS 20 8, mS 21 6, bS 22 .add 20 21, mS 8 22] [0,1,2,6,7,8])))))))
(Zs [mS 23 0, mS 24 7, mS 25 1, mS 26 2, .callI 27 [] (.f Nf) [.s 23, .s 24, .s 25, .s 26] [0] []] [0,1,2,6] (.block 2 (.loop ([0,1,2,6], []) (.seq (Zs [mS 28 6, mS 29 1, bS 30 .lss 28 29] [0,1,2,6,30] (cX 30 2))
(.block 3 (Zs [mS 31 6, .bin 32 false .mul (ci 2) (.s 31), .mv 7 (ci 0), mS 8 32] [0,1,2,6,7,8] (.seq (.block 4 (.loop ([0,1,2,6,7,8], []) (.seq (Zs [mS 33 8, mS 34 1, bS 35 .leq 33 34] [0,1,2,6,7,8,35] (cX 35 4))
(.block 5 (Zs [mS 36 0, mS 37 7, mS 38 7, mS 39 6, bS 40 .add 38 39, mS 41 8, mS 42 2, .callI 43 [] (.f N3) [.s 36, .s 37, .s 40, .s 41, .s 42] [0] []] [0,1,2,6,8] (Zs [mS 44 8, mS 7 44] [0,1,2,6,7,8] (pr [mS 45 8, mS 46 6, .bin 47 false .mul (ci 2) (.s 46), bS 48 .add 45 47, mS 8 48] [0,1,2,6,7,8])))))))
(.seq (Zs [mS 49 7, mS 50 6, bS 51 .add 49 50, mS 9 51] [0,1,2,6,7,9] (Zs [mS 52 9, mS 53 1, bS 54 .lss 52 53] [0,1,2,6,7,9,54] (.cond (.s 54) (pr [mS 55 0, mS 56 7, mS 57 9, mS 58 1, mS 59 2, .callI 60 [] (.f N3) [.s 55, .s 56, .s 57, .s 58, .s 59] [0] []] [0,1,2,6]) .skip)))
(pr [mS 61 6, bC 62 .mul 61 2, mS 6 62] [0,1,2,6]))))))))))))
set_option maxHeartbeats 4000000 in
theorem Cck (X : List Int) (f : FuncId) {cs : List T} (c : Int → Int → Int) (hc : ∀ x y, Ctr Tryz.prog f (aI x :: aI y :: cs.map (fun t => (false, [t]))) [rI (c x y)]) (hw : Srt.Swo (ltz c)) : CtrI Tryz.prog N18 [oL 1 (X.map encI), iI X.length, fC f cs] [some (1, (Srt.isort (ltz c) X).map encI)] [] := by
 refine K19 (M := M16) (m := 0) (n := 63) (res := []) hmix Tryz.func386 rfl (by kernel_rfl) rfl (by kernel_rfl) (by kernel_rfl) (Nat.le_of_ble_eq_true rfl) rfl rfl ?_; unfold M16
 intro hbd
 have hl := K11 hbd
 clear hbd
 simp only [roomB] at hl
 simp only [go_sem]
 refine K16 (fun k : Nat => [(7, vI ((k * 20 : Nat) : Int)), (8, vI (((k + 1) * 20 : Nat) : Int))]) (fun k => [(0, ⟨1, .row true 1 ((Srt.blks (ltz c) 20 k X).map encI)⟩)]) (fun k => k * 20 ≤ X.length) (fun k => X.length - k * 20) 0 ?_
 simp only [go_sem]
 refine ⟨?_, by omega, ?_⟩
 ·simp only [go_sem]
  exact ⟨rfl, rfl⟩
 ·intro k hk
  simp only [go_sem, Srt.len_blks]
  refine ⟨fun hlt => ?_, fun hge => ?_⟩
  ·obtain ⟨A, hA, e1, e2⟩ := Srt.blks_snoc (lt := ltz c) (s := 20) (k := k) (l := X) (by omega)
   have g1 := congrArg List.length e1
   have g2 := congrArg List.length e2
   rw [Srt.len_blks] at g1 g2
   rw [← List.append_assoc] at e1 e2 g1 g2
   rw [e1]
   apply K9 (C1p A _ _ f c hc hw hA (by simp [hA]; omega))
   have w1 : IntKind.i64.wrap ((((k + 1) * 20 : Nat) : Int) + 20) = (((k + 1 + 1) * 20 : Nat) : Int) := by
    rw [wI (by omega) (by omega)]; omega
   simp only [go_sem, w1]
   exact ⟨k + 1, ⟨⟨rfl, rfl⟩, by rw [e2]⟩, by omega, by omega⟩
  ·obtain ⟨A, hA, e1, e2⟩ := Srt.blks_last (lt := ltz c) (s := 20) (k := k) (l := X) (by omega) (by omega)
   have g1 := congrArg List.length e1
   have g2 := congrArg List.length e2
   rw [Srt.len_blks] at g1 g2
   have e1' : A ++ X.drop (k * 20) = A ++ X.drop (k * 20) ++ [] := by simp
   rw [e1, e1']
   apply K9 (C1p A _ [] f c hc hw hA (by simp [hA]; omega))
   rw [List.append_nil, ← e2]
   rw [Srt.blks_blk (by omega) (by omega)]
   simp only [go_sem]
   refine K16 (fun s : Nat => [(6, vI (s : Int))]) (fun s => [(0, ⟨1, .row true 1 ((Srt.blk (ltz c) s X).map encI)⟩)]) (fun s => 0 < s ∧ s ≤ 2 * X.length + 20) (fun s => X.length - s) 20 ?_
   simp only [go_sem]
   refine ⟨?_, ⟨by omega, by omega⟩, ?_⟩
   ·simp only [go_sem]
    first | rfl | exact ⟨rfl, rfl⟩
   ·rintro s ⟨hs0, hs1⟩
    clear e1' e1 e2 g1 g2 hA A hge hk
    have w2 : IntKind.i64.wrap (2 * (s : Int)) = ((2 * s : Nat) : Int) := by rw [wI (by omega) (by omega)]; omega
    have w3 : IntKind.i64.wrap ((s : Int) * 2) = ((2 * s : Nat) : Int) := by rw [wI (by omega) (by omega)]; omega
    simp only [go_sem, w2]
    refine ⟨fun hlt => ?_, fun hge => ?_⟩
    ·refine K16 (fun k : Nat => [(7, vI ((k * (2 * s) : Nat) : Int)), (8, vI ((k * (2 * s) + 2 * s : Nat) : Int))]) (fun k => [(0, ⟨1, .row true 1 ((Srt.mix (ltz c) s k X).map encI)⟩)]) (fun k => k * (2 * s) ≤ X.length) (fun k => X.length - k * (2 * s)) 0 ?_
     simp only [go_sem]
     refine ⟨?_, by omega, ?_⟩
     ·simp only [go_sem]
      refine ⟨⟨?_, ?_⟩, rfl⟩
      ·rw [Nat.zero_mul]; rfl
      ·rw [Nat.zero_mul, Nat.zero_add]
     ·intro k hk
      simp only [go_sem, Srt.len_mix, w3]
      refine ⟨fun hle => ?_, fun hgt => ?_⟩
      ·obtain ⟨P, A, B, Q, m1, m2, m3, m4, m5, m6, m7⟩ := Srt.mix_step hw (s := s) (k := k) (l := X) (by omega)
       have g1 : (P ++ A ++ B ++ Q).length = X.length := by rw [← m6, Srt.len_mix]
       have g2 : (P ++ Srt.mrg (ltz c) A B ++ Q).length = X.length := by rw [← m7, Srt.len_mix]
       have wa : IntKind.i64.wrap (((k * (2 * s) : Nat) : Int) + (s : Int)) = ((k * (2 * s) + s : Nat) : Int) := wN (by omega)
       have wb : IntKind.i64.wrap (((k * (2 * s) + 2 * s : Nat) : Int) + ((2 * s : Nat) : Int)) = (((k + 1) * (2 * s) + 2 * s : Nat) : Int) := by
        rw [wN (by omega), Nat.succ_mul k (2 * s)]
       rw [m6]
       simp only [go_sem, wa]
       apply K9 (C4d f c hc hw _ P A B Q (Nat.le_refl _) m1 (m := k * (2 * s) + s) (b := k * (2 * s) + 2 * s) (by rw [List.length_append]; omega) (by rw [List.length_append, List.length_append]; omega) (by omega) (by omega) m4 m5)
       simp only [go_sem]
       have hj : (k + 1) * (2 * s) = k * (2 * s) + 2 * s := Nat.succ_mul k (2 * s)
       exact ⟨k + 1, ⟨⟨by rw [hj], by rw [w2, wb]⟩, by rw [m7]⟩, by omega, by omega⟩
      ·obtain ⟨i1, i2⟩ := Srt.mix_end hw (s := s) (k := k) (l := X) hk (by omega)
       have wa : IntKind.i64.wrap (((k * (2 * s) : Nat) : Int) + (s : Int)) = ((k * (2 * s) + s : Nat) : Int) := wN (by omega)
       simp only [go_sem, wa]
       refine ⟨fun hlt2 => ?_, fun hge2 => ?_⟩
       ·obtain ⟨P, A, B, m1, m2, m3, m4, m5, m6, m7⟩ := i1 (by omega)
        have g1 : (P ++ A ++ B ++ []).length = X.length := by rw [List.append_nil, ← m6, Srt.len_mix]
        have g2 : (P ++ Srt.mrg (ltz c) A B ++ []).length = X.length := by rw [List.append_nil, ← m7, Srt.len_blk (Nat.le_refl _)]
        rw [m6, ← List.append_nil (P ++ A ++ B)]
        apply K9 (C4d f c hc hw _ P A B [] (Nat.le_refl _) m1 (m := k * (2 * s) + s) (b := X.length) (by rw [List.length_append]; omega) (by rw [List.length_append, List.length_append]; omega) (by omega) (by omega) m4 m5)
        simp only [go_sem, w3]
        exact ⟨2 * s, ⟨rfl, by rw [m7]⟩, ⟨by omega, by omega⟩, by omega⟩
       ·exact ⟨2 * s, ⟨rfl, by rw [i2 (by omega)]⟩, ⟨by omega, by omega⟩, by omega⟩
    ·rw [Srt.blk_le (by omega)]
def Mt : MC :=
(pr [mS 4 0, mS 5 0, nS 6 5, mS 7 1, .callI 8 [] (.f N18) [.s 4, .s 6, .s 7] [0] []] [])
theorem C9t (X : List Int) (f : FuncId) {cs : List T} (c : Int → Int → Int) (hc : ∀ x y, Ctr Tryz.prog f (aI x :: aI y :: cs.map (fun t => (false, [t]))) [rI (c x y)]) (hw : Srt.Swo (ltz c)) : CtrI Tryz.prog Nu [oL 1 (X.map encI), fC f cs] [some (1, (Srt.isort (ltz c) X).map encI)] [] := by
 refine K19 (M := Mt) (m := 0) (n := 9) (res := []) hmix Tryz.func302 rfl (by kernel_rfl) rfl (by kernel_rfl) (by kernel_rfl) (Nat.le_of_ble_eq_true rfl) rfl rfl ?_; unfold Mt
 intro hbd
 have hl := K11 hbd
 clear hbd
 simp only [roomB] at hl
 simp only [go_sem]
 apply K9 (Cck X f c hc hw)
 simp only [go_sem]
 try intros
 try trivial
end Go.Proofs.YtgkeplbnnjogiaaGreatR
namespace Go.Proofs.YtgkeplbnnjogiaaGreatR
open Go Go.RowKit Go.Proofs
open Nat (reduceEqDiff reduceLT reduceLeDiff reduceAdd reduceMul)
open List (reduceReplicate)
def modM (v : Int) : Int := (IntKind.i64.wrap (v.tmod 1000000 + 1000000)).tmod 1000000
theorem K7k : ¬ (1000000 : Int) = 0 := by decide
def K2a (d l : Int) : Int := modM (hashL [d, l])
def cmpR (d a b : Int) : Int := cmpI (K2a d b) (K2a d a)
def ltR (d a b : Int) : Bool := decide (K2a d b < K2a d a)
theorem ltR_eq (d : Int) : ltz (cmpR d) = ltR d := by
 funext a b
 by_cases h1 : K2a d b < K2a d a
 ·simp [ltz, cmpR, cmpI, ltR, h1]
 ·by_cases h2 : K2a d a < K2a d b <;> simp [ltz, cmpR, cmpI, ltR, h1, h2]
theorem swoR (d : Int) : Srt.Swo (ltz (cmpR d)) := by
 rw [ltR_eq]
 refine ⟨fun x y h => ?_, fun x y z h => ?_⟩
 ·simp only [ltR, decide_eq_true_eq, decide_eq_false_iff_not] at *; omega
 ·simp only [ltR, decide_eq_true_eq] at *; omega
def ordB (d a b : Int) : Bool := decide (K2a d b < K2a d a ∨ K2a d a = K2a d b ∧ a < b)
theorem swoB (d : Int) : Srt.Swo (ordB d) := by
 refine ⟨fun x y h => ?_, fun x y z h => ?_⟩
 ·simp only [ordB, decide_eq_true_eq, decide_eq_false_iff_not] at *; omega
 ·simp only [ordB, decide_eq_true_eq] at *; omega
theorem ordB_tot {d a b : Int} (h : a ≠ b) (hf : ordB d a b = false) : ordB d b a = true := by
 simp only [ordB, decide_eq_true_eq, decide_eq_false_iff_not] at *; omega
def K1u (l : List Int) (d : Int) : List Int := Srt.isort (ltz (cmpR d)) (sortU l)
theorem K8r {α : Type} {p q : α → α → Bool} {x : α} : ∀ {A : List α}, (∀ z ∈ A, p x z = q x z) → Srt.ins p x A = Srt.ins q x A
 | [], _ => rfl
 | z :: A, h => by
  simp only [Srt.ins]
  rw [h z (by simp), K8r fun y hy => h y (by simp [hy])]
theorem K8u (d : Int) : ∀ (n : Nat) (l : List Int), l.length = n → l.Pairwise (· < ·) → Srt.isort (ltR d) l = Srt.isort (ordB d) l
 | 0, l, hn, _ => by
  obtain rfl := List.length_eq_zero_iff.1 hn
  rfl
 | n + 1, l, hn, h => by
  rcases List.eq_nil_or_concat l with rfl | ⟨s, x, rfl⟩
  ·rfl
  ·rw [List.concat_eq_append] at *
   rw [List.pairwise_append] at h
   rw [Srt.isort_snoc, Srt.isort_snoc, K8u d n s (by simpa using hn) h.1]
   refine K8r fun z hz => ?_
   have hz' : z ∈ s := by
    rcases Srt.mem_mrg.1 hz with k | k
    ·simp at k
    ·exact k
   have := h.2.2 z hz' x (by simp)
   simp only [ltR, ordB]
   rw [Bool.eq_iff_iff]
   simp only [decide_eq_true_eq]
   omega
def strictB (d : Int) (l : List Int) : Prop := l.Pairwise fun x y => ordB d x y = true
theorem K5o {d x : Int} : ∀ {l : List Int}, strictB d l → x ∉ l → strictB d (Srt.ins (ordB d) x l)
 | [], _, _ => by simp [Srt.ins, strictB]
 | z :: zs, h, hx => by
  unfold strictB at h ⊢
  rw [List.pairwise_cons] at h
  have hne : x ≠ z := fun e => hx (by simp [e])
  simp only [Srt.ins]
  split
  ·rename_i k
   rw [List.pairwise_cons, List.pairwise_cons]
   refine ⟨fun y hy => ?_, h⟩
   rcases List.mem_cons.1 hy with rfl | hy
   ·exact k
   ·exact (swoB d).tr k (h.1 y hy)
  ·rename_i k
   rw [List.pairwise_cons]
   refine ⟨fun y hy => ?_, K5o h.2 fun e => hx (by simp [e])⟩
   rcases Srt.mem_ins.1 hy with rfl | hy
   ·exact ordB_tot hne (by simpa using k)
   ·exact h.1 y hy
theorem K7t {d : Int} : ∀ {B A : List Int}, strictB d A → B.Nodup → (∀ b ∈ B, b ∉ A) → strictB d (Srt.mrg (ordB d) A B)
 | [], A, h, _, _ => h
 | x :: B, A, h, hn, hd => by
  rw [List.nodup_cons] at hn
  rw [Srt.mrg_cons]
  refine K7t (K5o h (hd x (by simp))) hn.2 fun b hb hm => ?_
  rcases Srt.mem_ins.1 hm with rfl | hm
  ·exact hn.1 hb
  ·exact hd b (by simp [hb]) hm
theorem K8z {d : Int} : ∀ {l m : List Int}, strictB d l → strictB d m → (∀ x, x ∈ l ↔ x ∈ m) → l = m
 | [], [], _, _, _ => rfl
 | [], b :: m, _, _, h => by have := (h b).2 (by simp); simp at this
 | a :: l, [], _, _, h => by have := (h a).1 (by simp); simp at this
 | a :: l, b :: m, h1, h2, h => by
  unfold strictB at h1 h2
  rw [List.pairwise_cons] at h1 h2
  have hir : ∀ x, ordB d x x = true → False := fun x hx => by have := (swoB d).asy x x hx; simp_all
  have hab : a = b := by
   rcases List.mem_cons.1 ((h a).1 (by simp)) with e | e
   ·exact e
   ·rcases List.mem_cons.1 ((h b).2 (by simp)) with e2 | e2
    ·exact e2.symm
    ·exact (hir a ((swoB d).tr (h1.1 b e2) (h2.1 a e))).elim
  subst hab
  congr 1
  refine K8z h1.2 h2.2 fun x => ⟨fun hx => ?_, fun hx => ?_⟩
  ·rcases List.mem_cons.1 ((h x).1 (by simp [hx])) with e | e
   ·subst e; exact (hir x (h1.1 x hx)).elim
   ·exact e
  ·rcases List.mem_cons.1 ((h x).2 (by simp [hx])) with e | e
   ·subst e; exact (hir x (h2.1 x hx)).elim
   ·exact e
def addO (d : Int) (out : List Int) (x : Int) : List Int := if out.contains x then out else Srt.ins (ordB d) x out
theorem K3m {d : Int} : ∀ (l out : List Int), strictB d out → strictB d (l.foldl (addO d) out) ∧ ∀ x, x ∈ l.foldl (addO d) out ↔ x ∈ out ∨ x ∈ l
 | [], out, h => ⟨h, by simp⟩
 | z :: l, out, h => by
  have hz : strictB d (addO d out z) ∧ ∀ x, x ∈ addO d out z ↔ x ∈ out ∨ x = z := by
   unfold addO
   split
   ·rename_i k
    have k' : z ∈ out := by simpa using k
    refine ⟨h, fun x => ⟨.inl, ?_⟩⟩
    rintro (k | rfl)
    ·exact k
    ·exact k'
   ·rename_i k
    have k' : z ∉ out := by simpa using k
    refine ⟨K5o h k', fun x => ?_⟩
    rw [Srt.mem_ins]
    constructor <;> rintro (k | k) <;> simp [k]
  obtain ⟨h1, h2⟩ := K3m l (addO d out z) hz.1
  refine ⟨h1, fun x => ?_⟩
  rw [List.foldl_cons, h2, hz.2, List.mem_cons]
  constructor
  ·rintro ((k | k) | k) <;> simp [k]
  ·rintro (k | k | k) <;> simp [k]
def ordS (l : List Int) (d : Int) : List Int := l.foldl (addO d) []
theorem K8a (l : List Int) (d : Int) : ordS l d = K1u l d := by
 obtain ⟨h1, h2⟩ := K5m l
 obtain ⟨h3, h4⟩ := K3m (d := d) l [] List.Pairwise.nil
 rw [K1u, ltR_eq, K8u d _ _ rfl h1]
 refine K8z h3 (K7t List.Pairwise.nil (h1.imp (fun h => by omega)) (by simp)) fun x => ?_
 rw [Srt.isort, Srt.mem_mrg, h2]
 exact h4 x
theorem ordS_snoc {l : List Int} {d : Int} {k : Nat} {x : Int} (h : l[k]? = some x) : ordS (l.take (k + 1)) d = addO d (ordS (l.take k) d) x := by
 rw [Kb h, ordS, List.foldl_append]; rfl
theorem K5k (l : List Int) (d : Int) : (K1u l d).length ≤ l.length := by
 rw [K1u, Srt.len_isort, sortU_puts]; exact puts_len l
theorem ordFor_mem {l : List Int} {d x : Int} : x ∈ K1u l d ↔ x ∈ l := by
 rw [K1u, ltR_eq]
 rw [show x ∈ Srt.isort (ltR d) (sortU l) ↔ x ∈ sortU l from by rw [Srt.isort, Srt.mem_mrg]; simp, (K5m l).2]
theorem K69 (l : List Int) (d : Int) : (K1u l d).Nodup := by
 rw [← K8a]
 have hir : ∀ x, ordB d x x = true → False := fun x hx => by have := (swoB d).asy x x hx; simp_all
 exact (K3m (d := d) l [] List.Pairwise.nil).1.imp fun {a b} h e => by subst e; exact hir a h
theorem Cdg (v : Int) : Ctr Tryz.prog N6t [aI v, aI 1000000] [rI (modM v)] := by
 refine cA M6r 0 15 [(.tmp 4, [false])] Tryz.func387 rfl rfl ?_; unfold M6r
 intro hb
 clear hb
 simp only [go_sem]
 apply K0 (C44 _ _ _)
 simp only [go_sem, K7k]
 refine And.intro ?_ ?_ <;> intro h
 ·exact absurd (by decide) h
 ·rfl
theorem Cdj (v : Int) : Ctr Tryz.prog N6u [aI v, aI 1000000] [rI (modM v)] := by
 refine cA M6s 0 15 [(.tmp 4, [false])] Tryz.func390 rfl rfl ?_; unfold M6s
 intro hb
 clear hb
 simp only [go_sem]
 apply K0 (C8p _ _ _)
 simp only [go_sem, K7k]
 refine And.intro ?_ ?_ <;> intro h
 ·exact absurd (by decide) h
 ·rfl
def Ma0 : MC :=
(Zs [.mv 4 (ci 0)] [0,1] (Zs [mS 5 0, mS 6 1, .lit 7 0 1 8 [.s 5, .s 6], .call 8 [] (.f Nc6) [.s 7], .call 9 [] (.f N6t) [.s 8, .c (.int .i64 1000000)], mS 4 9] [4] .ret))
theorem C9v (d l : Int) : Ctr Tryz.prog N55 [aI d, aI l] [rI (K2a d l)] := by
 refine cA Ma0 1 10 [(.tmp 4, [false])] Tryz.func304 rfl rfl ?_; unfold Ma0
 intro hb
 clear hb
 simp only [go_sem]
 refine ⟨⟨by simp, by decide⟩, ?_⟩
 apply K0 (Cdf [d, l])
 simp only [go_sem]
 apply K0 (Cdg _)
 simp only [go_sem]
 intros
 rfl
def Ma8 : MC :=
(Zs [.mv 4 (ci 0)] [0,1] (Zs [mS 5 0, mS 6 1, .lit 7 0 1 8 [.s 5, .s 6], .call 8 [] (.f N1b) [.s 7], .call 9 [] (.f N6u) [.s 8, .c (.int .i64 1000000)], mS 4 9] [4] .ret))
theorem C9x (d l : Int) : Ctr Tryz.prog N58 [aI d, aI l] [rI (K2a d l)] := by
 refine cA Ma8 1 10 [(.tmp 4, [false])] Tryz.func382 rfl rfl ?_; unfold Ma8
 intro hb
 clear hb
 simp only [go_sem]
 refine ⟨⟨by simp, by decide⟩, ?_⟩
 apply K0 (C1v [d, l])
 simp only [go_sem]
 apply K0 (Cdj _)
 simp only [go_sem]
 intros
 rfl
def M5g : MC :=
(Zs [.mv 5 (ci 0)] [0,1,2] (.seq (.dreg [Zc [7,9,10] (lF 6 1 2), Zc [6,9,10] (mS 7 1), Zd [9,10] [0,1] (.call 8 [] (.f N55) [.s 6, .s 7]), Zc [6,7,8,10] (lF 9 1 2), Zc [6,7,8,9] (mS 10 0), Ze (.range 5) (.call 11 [] (.f N55) [.s 9, .s 10]), Ze (.range 6) (.call 12 [] (.f N63) [.s 8, .s 11]), Ze (.range 7) (mS 5 12)] [5])
.ret))
theorem Cbh (a b d : Int) : Ctr Tryz.prog N65 [aI a, aI b, (false, [.pb [tI d]])] [rI (cmpR d a b)] := by
 refine cA M5g 0 13 [(.tmp 5, [false])] Tryz.func303 rfl rfl ?_; unfold M5g
 intro hb
 clear hb
 simp only [go_sem]
 apply K0 (C9v _ _)
 simp only [go_sem]
 intros
 apply K0 (C9v _ _)
 simp only [go_sem]
 intros
 apply K0 (Cd9 _ _)
 simp only [go_sem]
 intros
 rfl
def M7z : MC :=
(Zs [.box 3 0 (.s 1), .nilo 4 1 1] [0,3] (Zs [mS 6 0, .call 7 [1] (.f N56) [.s 6], mS 5 7] [3,5] (Zs [mS 8 5, .closF 9 N65 3, .callI 10 [] (.f Nu) [.s 8, .s 9] [0,1] []] [5] (Zs [mS 11 5, mS 4 11] [4] .ret))))
theorem Cco (l : List Int) (d : Int) (hl : l.length ≤ 1073741824) : Ctr Tryz.prog N8d [aL 1 (l.map encI), aI d] [rL 1 ((K1u l d).map encI)] := by
 refine cA M7z 2 12 [(.tmp 4, [true])] Tryz.func190 rfl rfl ?_; unfold M7z
 intro hb
 clear hb
 simp only [go_sem]
 apply K0 (C9w l hl)
 simp only [go_sem]
 intros
 apply K9 (C9t (cs := [.pb [tI d]]) (sortU l) _ (cmpR d) (fun x y => Cbh x y d) (swoR d))
 simp only [go_sem]
 exact ⟨Srt.len_isort.symm, rfl⟩
def M7e : MC :=
(Zs [.mv 6 cF] [0,1,2] (Zs [mS 9 0, mS 10 1, .call 11 [] (.f N58) [.s 9, .s 10], mS 7 11] [0,1,2,7] (Zs [mS 12 0, mS 13 2, .call 14 [] (.f N58) [.s 12, .s 13], mS 8 14] [1,2,7,8] (.seq (.reg [Za (mS 15 7), Za (mS 16 8), Za (bS 17 .gtr 15 16), Za (mS 18 17), Zb 18 false (mS 19 7), Zb 18 false (mS 20 8), Zb 18 false (bS 21 .eql 19 20), Zb 18 false (mS 22 21), Zb 22 true (mS 23 1), Zb 22 true (mS 24 2), Zb 22 true (bS 25 .lss 23 24), Zb 18 false (.pick 26 (.s 22) (.s 25) cF), Za (.pick 27 (.s 18) cT (.s 26)), Za (mS 6 27)] [6])
.ret))))
theorem Ccn (d a b : Int) : Ctr Tryz.prog N7w [aI d, aI a, aI b] [rB (ordB d a b)] := by
 refine cA M7e 0 28 [(.tmp 6, [false])] Tryz.func294 rfl rfl ?_; unfold M7e
 intro hb
 clear hb
 simp only [go_sem]
 apply K0 (C9x _ _)
 simp only [go_sem]
 intros
 apply K0 (C9x _ _)
 simp only [go_sem]
 intros
 repeat' first
  | (refine And.intro ?_ ?_ <;> intro h)
 all_goals (unfold ordB; first | (symm; rw [decide_eq_false_iff_not]; omega) | (rw [Bool.eq_iff_iff]; simp only [decide_eq_true_eq]; omega) | (simp; omega))
def M8c : MC :=
(Zs [.nilo 4 0 1] [0,1] (Zs [.lit 9 0 1 8 [], mS 5 9] [0,1,5] (.seq (Zs [.mv 6 (ci 0)] [0,1,5,6] (.block 0 (.loop ([0,1,5,6], [1,2]) (.seq (Zs [mS 10 6, mS 11 0, nS 12 11, bS 13 .lss 10 12] [0,1,5,6,13] (cX 13 0))
(.seq (.block 1 (Zs [mS 16 0, mS 17 6, xS 18 1 16 17, lF 19 1 18, mS 7 19] [0,1,5,6,7] (.seq (Zs [mS 20 5, mS 21 7, .call 22 [] (.f N1a) [.s 20, .s 21]] [0,1,5,6,7,22] (.cond (.s 22) (.exit 1) .skip))
(Zs [mS 23 5, nS 24 23, mS 8 24] [0,1,5,6,7,8] (.seq (.block 2 (.loop ([0,1,5,6,7,8], [1,2]) (.seq (.seq (.reg [Za (mS 25 8), Za (bC 26 .gtr 25 0), Za (mS 27 26), Zb 27 true (mS 28 1), Zb 27 true (mS 29 7), Zb 27 true (mS 30 5), Zb 27 true (mS 31 8), Zb 27 true (bC 32 .sub 31 1), Zb 27 true (xS 33 1 30 32), Zb 27 true (lF 34 1 33), Zb 27 true (.call 35 [] (.f N7w) [.s 28, .s 29, .s 34]), Za (.pick 36 (.s 27) (.s 35) cF)] [0,1,5,6,7,8,36])
(cX 36 2))
(.block 3 (pr [mS 37 8, bC 38 .sub 37 1, mS 8 38] [0,1,5,6,7,8])))))
(.dreg [{ o := .lit 39 1 1 8 [], hs := [40,41,42,44,45,47,48,49], ho := [2], ws := [1] }, Zf [39,41,44,45,47,48,49] [1,2] (mS 40 5), Zf [39,40,44,45,47,48,49] [1,2] (mS 41 8), Zg [39,44,45,47,48,49] [1,2] [1,2] (.slc 42 1 (.s 40) none (some (.s 41)) none), { o := .app 43 1 1 8 (.s 39) (.s 42), hs := [44,45,47,48,49], ho := [2], ws := [1], bf := (.range 4) }, Zf [39,40,41,42,43,47,48,49] [1] (mS 44 7), { o := .lit 45 2 1 8 [.s 44], hs := [39,40,41,42,43,47,48,49], ho := [1], ws := [2], bf := [5] }, { o := .app 46 1 1 8 (.s 43) (.s 45), hs := [47,48,49], ws := [1], bf := (.range 7) }, Zf [39,40,41,42,43,44,45,46,48] [1,2] (mS 47 5), Zf [39,40,41,42,43,44,45,46,47] [1,2] (mS 48 8), Zg [39,40,41,42,43,44,45,46] [1,2] [8,9] (.slc 49 1 (.s 47) (some (.s 48)) none none), { o := .app 50 0 1 8 (.s 46) (.s 49), ws := [0,1], bf := (.range 11) }, Ze (.range 12) (mS 5 50)] [0,1,5,6]))))))
(pr [mS 14 6, bC 15 .add 14 1, mS 6 15] [0,1,5,6]))))))
(Zs [mS 51 5, mS 4 51] [4] .ret))))
set_option maxHeartbeats 1000000 in
theorem Ccz (l : List Int) (d : Int) (hl : l.length ≤ 1073741824) : Ctr Tryz.prog N8o [aL 1 (l.map encI), aI d] [rL 1 ((K1u l d).map encI)] := by
 refine cA M8c 3 52 [(.tmp 4, [true])] Tryz.func179 rfl rfl ?_; unfold M8c
 intro hb
 clear hb
 rw [← K8a]
 simp only [go_sem]
 refine K6 l (fun k => [(5, .val false [.ref 0 0 1 0 (ordS (l.take k) d).length]), (6, vI k)]) (fun k => [(0, ⟨0, .row true 1 ((ordS (l.take k) d).map encI)⟩)]) (fun _ => True) (by simp only [roomB]; omega) ?_
 simp only [go_sem]
 refine ⟨?_, trivial, ?_, ?_⟩
 ·simp only [go_sem, List.take_zero]
  exact ⟨rfl, rfl⟩
 ·intro i y hx _ h0 h1 hw
  have hi := Kj hx
  have hol : (ordS (l.take i) d).length ≤ l.length := by
   rw [K8a]
   exact Nat.le_trans (K5k _ _) (by rw [List.length_take]; omega)
  have hsr : Srt.srt (ordB d) (ordS (l.take i) d) := by
   have := (K3m (d := d) (l.take i) [] List.Pairwise.nil).1
   exact this.imp fun {a b} h => (swoB d).asy a b h
  have hst := ordS_snoc (d := d) hx
  rw [hst]
  generalize ordS (l.take i) d = out at *
  clear hst
  simp only [go_sem, K5 hx, h0, h1]
  apply K0 (C20 out y)
  simp only [go_sem, hw]
  refine ⟨fun hc => ?_, fun hc => ?_⟩
  ·have e : addO d out y = out := by unfold addO; rw [if_pos hc]
   rw [e]
   exact ⟨rfl, rfl⟩
  ·have e : addO d out y = Srt.ins (ordB d) y out := by unfold addO; rw [if_neg (by rw [hc]; simp)]
   rw [e]
   refine K16 (fun n : Nat => [(8, vI n)]) (fun n => []) (fun n => n ≤ out.length ∧ ∀ z ∈ out.drop n, ordB d y z = true) (fun n => n) out.length ?_
   simp only [go_sem]
   refine ⟨?_, ⟨Nat.le_refl _, by simp⟩, ?_⟩
   ·simp only [go_sem]
   ·rintro n ⟨hn1, hn2⟩
    simp only [go_sem]
    refine ⟨fun hpos => ?_, fun hzero => ?_⟩
    ·obtain ⟨m, hm⟩ : ∃ m, m = n - 1 := ⟨_, rfl⟩
     obtain ⟨z, hz⟩ := Kh (show m < out.length by omega)
     have e1 : IntKind.i64.wrap ((n : Int) - 1) = (m : Int) := by rw [wI (by omega) (by omega)]; omega
     rw [e1]
     simp only [go_sem, K5 hz]
     refine ⟨⟨by omega, by omega⟩, ?_⟩
     apply K0 (Ccn d y z)
     simp only [go_sem]
     rw [e1]
     refine ⟨fun ht => ⟨m, rfl, ⟨by omega, ?_⟩, by omega⟩, fun hf => ?_⟩
     ·rw [hm]
      exact Srt.drop_step (by omega) (hm ▸ hz) hn2 ht
     ·have hstop : n = 0 ∨ ∃ y', out[n - 1]? = some y' ∧ ordB d y y' = false := .inr ⟨z, hm ▸ hz, hf⟩
      rw [cutA hn1]
      refine ⟨by omega, by omega, ?_⟩
      have hA : (out.take n).length = n := by rw [List.length_take]; omega
      have hB : out.length = n + (out.drop n).length := by rw [List.length_drop]; omega
      have eC := cutB (f := encI) hn1
      have e5 : List.map encI (out.take n) ++ [[T.sc (Value.int IntKind.i64 y)]] = (out.take n ++ [y]).map encI := by simp [encI]
      have e6 : ((out.take n ++ [y]).map encI).length = (out.take n).length + 1 := by simp
      simp only [go_sem, ↓Ks (f := encI) (fun _ => rfl) (out.take n), ↓eC, ↓e5, ↓e6, ↓Ks (f := encI) (fun _ => rfl) (out.drop n)]
      rw [Srt.ins_at (swoB d) hsr hn2 hstop]
      simp only [roomB]
      exact ⟨by omega, by omega, by omega, ⟨by omega, by omega, by omega⟩, by omega, by omega, ⟨by simp only [List.length_append, List.length_cons, List.length_nil], hw⟩, by rw [← List.map_append]⟩
    ·have hstop : n = 0 ∨ ∃ y', out[n - 1]? = some y' ∧ ordB d y y' = false := .inl (by omega)
     rw [cutA hn1]
     refine ⟨by omega, by omega, ?_⟩
     have hA : (out.take n).length = n := by rw [List.length_take]; omega
     have hB : out.length = n + (out.drop n).length := by rw [List.length_drop]; omega
     have eC := cutB (f := encI) hn1
     have e5 : List.map encI (out.take n) ++ [[T.sc (Value.int IntKind.i64 y)]] = (out.take n ++ [y]).map encI := by simp [encI]
     have e6 : ((out.take n ++ [y]).map encI).length = (out.take n).length + 1 := by simp
     simp only [go_sem, ↓Ks (f := encI) (fun _ => rfl) (out.take n), ↓eC, ↓e5, ↓e6, ↓Ks (f := encI) (fun _ => rfl) (out.drop n)]
     rw [Srt.ins_at (swoB d) hsr hn2 hstop]
     simp only [roomB]
     exact ⟨by omega, by omega, by omega, ⟨by omega, by omega, by omega⟩, by omega, by omega, ⟨by simp only [List.length_append, List.length_cons, List.length_nil], hw⟩, by rw [← List.map_append]⟩
 ·intro _
  simp only [go_sem, List.take_length]
end Go.Proofs.YtgkeplbnnjogiaaGreatR
namespace Go.Proofs
open Go.Shelf
def Tryz.laysNm221_ren : Go.Shelf.Ren := ⟨fun | 21 => 192 | 27 => 305 | 28 => 306 | 35 => 388 | 39 => 426 | n => n, fun | 22 => 30 | 3 => 3 | 4 => 4 | 0 => 0 | n => n, fun | n => n⟩
theorem Tryz.laysNm221 : Go.Proofs.Lays2.n21 Tryz.prog Tryz.laysNm221_ren := {
 mixed := by kernel_rfl
 f21 := Tryz.func192.trans (congrArg some (by kernel_rfl))
 f27 := Tryz.func305.trans (congrArg some (by kernel_rfl))
 f28 := Tryz.func306.trans (congrArg some (by kernel_rfl))
 f35 := Tryz.func388.trans (congrArg some (by kernel_rfl))
 f39 := Tryz.func426.trans (congrArg some (by kernel_rfl))
 t0 := Tryz.underlying0
 a0 := Tryz.isAgg0
 z0 := Tryz.sizeOf0
 v0 := Tryz.zeroValue0
 t3 := Tryz.underlying3
 a3 := Tryz.isAgg3
 z3 := Tryz.sizeOf3
 v3 := Tryz.zeroValue3
 t4 := Tryz.underlying4
 a4 := Tryz.isAgg4
 z4 := Tryz.sizeOf4
 v4 := Tryz.zeroValue4
 t22 := Tryz.underlying30
 a22 := Tryz.isAgg30
 z22 := Tryz.sizeOf30
 v22 := Tryz.zeroValue30
 i3 := by kernel_rfl }
end Go.Proofs
namespace Go.Proofs.YtgkeplbnnjogiaaGreatR
open Go Go.RowKit Go.Proofs
open Nat (reduceEqDiff reduceLT reduceLeDiff reduceAdd reduceMul)
open List (reduceReplicate)
theorem argsI_ins {w : World} {X : Nat → Prop} {es es' : List (List T)} {k : Int} {vs : List Value} {G : List Nat} (h : ResVs w X [oL 1 es, iI k, oL 1 es'] vs G) : ∃ v u G1 G2, vs = [v, .int .i64 k, u] ∧ Ow w (.sl 1 es) v G1 ∧ Ow w (.sl 1 es') u G2 ∧ G = G1 ++ G2 := by
 match vs, h with
 | [v, i, u], ⟨Ga, Gb, h1, ⟨Gc, Gd, h2, ⟨Ge, Gf, h3, h4, e3⟩, e2⟩, e1⟩ =>
  obtain ⟨_, G1, G2, k1, k2, e4⟩ := h1
  obtain ⟨_, k3, k4⟩ := h2
  obtain ⟨_, G3, G4, k5, k6, e5⟩ := h3
  simp only [ResVs] at h4
  simp only [ResC] at k2 k4 k6
  simp only [Rd] at k3
  obtain ⟨rfl, _⟩ := k3
  subst h4 k2 k4 k6 e4 e5 e3 e2 e1
  exact ⟨v, u, G1, G3, rfl, k1, k5, by simp⟩
 | [], h => exact h.elim
 | [_], ⟨_, _, _, h, _⟩ => exact h.elim
 | [_, _], ⟨_, _, _, ⟨_, _, _, h, _⟩, _⟩ => exact h.elim
 | _ :: _ :: _ :: _ :: _, ⟨_, _, _, ⟨_, _, _, ⟨_, _, _, h, _⟩, _⟩, _⟩ => exact h.elim
theorem K1j {b : Nat} {ty : TypeId} {fz : Nat × Nat} : ∀ (vs : List Value) (o : Nat) (w : World) (row : Array Value), w.heap[b]? = some (.cells row ty fz) → ∃ row', (w.setCells b o vs).heap[b]? = some (.cells row' ty fz) ∧ row'.size = row.size
 | [], _, _, row, h => ⟨row, h, rfl⟩
 | v :: r, o, w, row, h => by
  have hw : (w.setCell ⟨b, o, none⟩ v).heap[b]? = some (.cells (row.setIfInBounds o v) ty fz) := by simp [World.setCell, Array.getElem?_modify, h]
  obtain ⟨row', h1, h2⟩ := K1j r (o + 1) (w.setCell ⟨b, o, none⟩ v) (row.setIfInBounds o v) hw
  exact ⟨row', h1, h2.trans (by simp)⟩
theorem K48 {B : Nat → Prop} {b : Nat} (hb : ¬ B b) : ∀ (vs : List Value) (o : Nat) (w : World), Bel B w (w.setCells b o vs)
 | [], _, w => Bel.refl _ _
 | v :: r, o, w => by
  refine Bel.trans (b := w.setCell ⟨b, o, none⟩ v) ⟨rfl, rfl, rfl, by simp [World.setCell], fun k hk => ?_⟩ (K48 hb r (o + 1) _)
  have hne : k ≠ b := fun e => hb (e ▸ hk)
  simp [World.setCell, Array.getElem?_modify, Ne.symm hne]
theorem ow_ints {w : World} {b off cap : Nat} {zs : List Int} {row : Array Value} {ty : TypeId} (hh : w.heap[b]? = some (.cells row ty (0, 0))) (hc : off + cap ≤ row.size) (hln : Ln zs.length cap)
  (hz : ∀ (j : Nat) (x : Int), zs[j]? = some x → w.cell? ⟨b, off + j, none⟩ = some (.int .i64 x) ∧ oneW (.int .i64 x) = true) : Ow w (.sl 1 (zs.map encI)) (.slice (some ⟨b, off, none⟩) zs.length cap) [b] := by
 unfold Ow
 exact ⟨some ⟨b, off, none⟩, cap, by rw [List.length_map], by rw [List.length_map]; exact hln, .inr ⟨b, off, row, ty, [], rfl, hh, by simpa using hc, owRow_int' hz, rfl⟩⟩
theorem at_mid {α : Type} {A B : List α} {x : α} {k j : Nat} {y : α} (hA : A.length = k) (h : (A ++ [x] ++ B)[j]? = some y) : (j < k ∧ A[j]? = some y) ∨ (j = k ∧ y = x) ∨ (k < j ∧ B[j - (k + 1)]? = some y) := by
 subst hA
 rw [List.append_assoc] at h
 by_cases h1 : j < A.length
 ·rw [List.getElem?_append_left h1] at h; exact .inl ⟨h1, h⟩
 ·rw [List.getElem?_append_right (by omega)] at h
  by_cases h2 : j = A.length
  ·subst h2
   simp at h
   exact .inr (.inl ⟨rfl, h.symm⟩)
  ·rw [List.getElem?_append_right (by simp; omega)] at h
   refine .inr (.inr ⟨by omega, ?_⟩)
   rw [← h]; simp only [List.length_cons, List.length_nil]; congr 1
theorem ins_len {α : Type} {zs : List α} {x : α} {k : Nat} (hk : k ≤ zs.length) : (zs.take k ++ [x] ++ zs.drop k).length = zs.length + 1 := by
 rw [List.length_append, List.length_append, List.length_take, List.length_drop, List.length_cons, List.length_nil]
 omega
theorem C2y (zs : List Int) (k : Nat) (x : Int) (hk : k ≤ zs.length) (hl : zs.length ≤ 1073741824) : CtrI Tryz.prog N1s [oL 1 (zs.map encI), iI k, oL 1 ([x].map encI)] [none, none] [rL 1 ((zs.take k ++ [x] ++ zs.drop k).map encI)] := by
 refine ⟨⟨Tryz.f192, Tryz.func192, by kernel_rfl, by kernel_rfl⟩, fun w X vs G ht h hG hGb => ?_⟩
 obtain ⟨v, u, G1, G2, rfl, hv, hu, rfl⟩ := argsI_ins h
 unfold Ow at hv hu
 obtain ⟨A, cap, rfl, hln, hv⟩ := hv
 obtain ⟨A2, vc, rfl, hln2, hu⟩ := hu
 rw [List.length_map] at hln ⊢
 simp only [List.length_map, List.length_cons, List.length_nil, Nat.zero_add] at hln2 ⊢
 rcases hu with ⟨_, h0, _⟩ | ⟨vb, voff, rowv, tyv, Gv, rfl, hhv, hcv, hrv, rfl⟩
 ·simp at h0
 obtain ⟨rfl, hzv⟩ := K3u hrv
 have hx1 := hzv 0 x rfl
 rw [Nat.add_zero] at hx1
 have hvbs : vb < w.heap.size := (hGb vb (by simp)).1
 have hvs : ∀ (j : Nat) (v : Value), [Value.int .i64 x][j]? = some v → w.cell? ⟨vb, voff + j, none⟩ = some v := fun j v hj => by
  cases j with
  | zero => simp only [List.getElem?_cons_zero, Option.some.injEq] at hj; rw [← hj]; exact hx1.1
  | succ j => simp at hj
 have h1v : ∀ v ∈ [Value.int .i64 x], v.oneCell' = true := fun v hv => by rw [List.mem_singleton.1 hv]; rfl
 have hlen := ins_len (x := x) hk
 have hcapB : cap ≤ 9223372036854775807 := hln.2.2
 have fin : ∀ (w' : World) (b2 off2 c2 : Nat) (row : Array Value) (ty : TypeId), Bel (fun b' => b' < w.heap.size ∧ b' ∉ G1 ++ [vb]) w w' → (b2 ∈ G1 ∨ w.heap.size ≤ b2) → w'.heap[b2]? = some (.cells row ty (0, 0)) → off2 + c2 ≤ row.size → zs.length + 1 ≤ c2 → c2 ≤ 9223372036854775807 →
   (∀ (j : Nat) (y : Int), j < k → zs[j]? = some y → w'.cell? ⟨b2, off2 + j, none⟩ = some (.int .i64 y)) → w'.cell? ⟨b2, off2 + k, none⟩ = some (.int .i64 x) →
   (∀ (j : Nat) (y : Int), (zs.drop k)[j]? = some y → w'.cell? ⟨b2, off2 + (k + 1) + j, none⟩ = some (.int .i64 y)) → (∀ y ∈ zs, oneW (.int .i64 y) = true) →
   Bel (fun b' => b' < w.heap.size ∧ b' ∉ G1 ++ [vb]) w w' ∧ ∃ us Ga Gb, (Value.slice (some ⟨b2, off2, none⟩) (zs.length + 1) c2) = tupV us ∧ OwOut w' [none, none] (K25 [oL 1 (zs.map encI), iI k, oL 1 ([x].map encI)] [.slice A zs.length cap, .int .i64 k, .slice (some ⟨vb, voff, none⟩) 1 vc]) Ga ∧
    ResVs w' (fun b => (b < w.heap.size → X b ∨ b ∈ G1 ++ [vb]) ∧ b ∉ Ga ++ Gb) [rL 1 ((zs.take k ++ [x] ++ zs.drop k).map encI)] us Gb ∧ (Ga ++ Gb).Nodup ∧ ∀ b ∈ Ga ++ Gb, (b ∈ G1 ++ [vb] ∨ w.heap.size ≤ b) ∧ b < w'.heap.size := by
  intro w' b2 off2 c2 row ty hB hb2 hh hc hcl hcb q1 q2 q3 q4
  have hO := ow_ints hh hc (zs := zs.take k ++ [x] ++ zs.drop k) ⟨by omega, by simp only [roomB]; omega, hcb⟩ (fun j y hj => by
   rcases at_mid (A := zs.take k) (k := k) (by simp; omega) hj with ⟨h1, h2⟩ | ⟨rfl, rfl⟩ | ⟨h1, h2⟩
   ·rw [List.getElem?_take, if_pos h1] at h2
    exact ⟨q1 j y h1 h2, q4 y (K10 h2)⟩
   ·exact ⟨q2, hx1.2⟩
   ·have := q3 _ y h2
    rw [show off2 + (k + 1) + (j - (k + 1)) = off2 + j by omega] at this
    rw [List.getElem?_drop] at h2
    exact ⟨this, q4 y (K10 h2)⟩)
  rw [hlen] at hO
  refine ⟨hB, [_], [], [b2], rfl, rfl, ⟨[b2], [], ⟨⟨_, rfl⟩, [b2], [], hO, rfl, rfl⟩, rfl, rfl⟩, by simp, fun b' hb' => ?_⟩
  obtain rfl : b' = b2 := by simpa using hb'
  exact ⟨hb2.imp (fun h => by simp [h]) id, K21 hh⟩
 rcases hv with ⟨rfl, hz0, rfl⟩ | ⟨b, off, row, ty, Gz, rfl, hh, hc, hrow, rfl⟩
 ·obtain rfl : zs = [] := by simpa using hz0
  obtain rfl : k = 0 := by simpa using hk
  refine (Any2.slices_Insert_int_end_grow Tryz.laysNm221 A 0 0 vb voff 1 vc [] [.int .i64 x] w (by omega) (by omega) (by omega) (by omega) rfl rfl (fun _ => rfl) (fun a _ j v hj => by simp at hj) hvs h1v).mono ?_
  rintro e w' ⟨rfl, rfl⟩
  refine fin _ _ _ _ _ _ ⟨rfl, rfl, rfl, by simp, fun b' hb' => ?_⟩ (.inr (Nat.le_refl _)) (heap_alloc_new w.drew _) ?_ (grownCap_ge w _ _ _) ?_ (fun j y hj _ => by omega) ?_ (fun j y hj => by simp at hj) (by simp)
  ·exact Below.heap_alloc w.drew _ b' hb'.1
  ·have := grownCap_ge w (0 + 1) 0 (Tryz.laysNm221_ren.t 3)
   simp [Builtin.zeroCells, Value.cells]
   omega
  ·have := grownCap_le_maxLen w (0 + 1) 0 (Tryz.laysNm221_ren.t 3) (by unfold maxLen; omega)
   unfold maxLen at this
   omega
  ·rw [World.cell?_alloc_at (w := w.drew) _ _ w.heap.size (0 + 0) rfl, Array.getElem?_append_left (by simp)]
   simp
 ·obtain ⟨rfl, hz⟩ := K3u hrow
  have hbs : b < w.heap.size := (hGb b (by simp)).1
  have hvb : vb ≠ b := by
   have := hG
   simp at this
   exact fun e => this e.symm
  have hcz : off + cap ≤ row.size := by simpa using hc
  have hzw : ∀ y ∈ zs, oneW (.int .i64 y) = true := fun y hy => by
   obtain ⟨j, hj⟩ := List.getElem?_of_mem hy
   exact (hz j y hj).2
  have hcl : (zs.map (Value.int .i64)).length = zs.length := by simp
  have hcs : ∀ (j : Nat) (v : Value), (zs.map (Value.int .i64))[j]? = some v → w.cell? ⟨b, off + j, none⟩ = some v := fun j v hj => by
   rw [List.getElem?_map] at hj
   obtain ⟨y, hy, rfl⟩ := Option.map_eq_some_iff.1 hj
   exact (hz j y hy).1
  have h1c : ∀ v ∈ zs.map (Value.int .i64), v.oneCell' = true := fun v hv => by
   obtain ⟨y, _, rfl⟩ := List.mem_map.1 hv
   rfl
  have hsome : ∀ j, j < cap → (w.cell? ⟨b, off + j, none⟩).isSome = true := fun j hj => by
   have : off + j < row.size := by omega
   simp [World.cell?, hh, this]
  have hfz : ∀ j, w.frozen? ⟨b, j, none⟩ = false := fun j => by simp [World.frozen?, hh]
  have hB0 : ∀ (o : Nat) (us : List Value) (w1 : World), Bel (fun b' => b' < w.heap.size ∧ b' ∉ [b] ++ [vb]) w1 (w1.setCells b o us) := fun o us w1 => K48 (by simp) us o w1
  by_cases hkn : k = zs.length
  ·subst hkn
   by_cases hroom : zs.length + 1 ≤ cap
   ·refine (Any2.slices_Insert_int_end_room Tryz.laysNm221 b off zs.length cap vb voff 1 vc [.int .i64 x] w (by omega) hroom hcapB rfl (fun j hj => by rw [Nat.add_assoc]; exact hsome _ (by omega)) (fun j hj => hfz _) hvs h1v).mono ?_
    rintro e w' ⟨rfl, rfl⟩
    obtain ⟨row', hr1, hr2⟩ := K1j [Value.int .i64 x] (off + zs.length) w row hh
    refine fin _ _ _ _ _ _ (hB0 _ _ _) (.inl (by simp)) hr1 (by omega) hroom hcapB (fun j y hj hy => ?_) ?_ (fun j y hj => by simp at hj) hzw
    ·rw [World.cell?_setCells_out b _ _ w _ (fun _ _ => by left; show off + j < off + zs.length; omega)]
     exact (hz j y hy).1
    ·have := World.cell?_setCells_in b [Value.int .i64 x] (off + zs.length) w (fun j hj => by rw [Nat.add_assoc]; exact hsome _ (by simp at hj; omega)) 0 (by simp)
     simpa using this
   ·have hce : cap = zs.length := by have := hln.1; omega
    refine (Any2.slices_Insert_int_end_grow Tryz.laysNm221 (some ⟨b, off, none⟩) zs.length cap vb voff 1 vc (zs.map (Value.int .i64)) [.int .i64 x] w (by omega) hln.1 (by omega) (by omega) hcl rfl (fun h => by cases h) (fun a ha j v hj => by
     obtain rfl := Option.some.inj ha
     rw [Addr.add_lit]; exact hcs j v hj) hvs h1v).mono ?_
    rintro e w' ⟨rfl, rfl⟩
    have hsz2 : ∀ j, j < zs.length + 1 → ((w.drew.alloc (.cells ((zs.map (Value.int .i64) ++ [Value.int .i64 x]).toArray ++ Builtin.zeroCells (Value.int .i64 0).cells (grownCap w (zs.length + 1) cap (Tryz.laysNm221_ren.t 3) - (zs.length + 1))) (Tryz.laysNm221_ren.t 3))).cell? ⟨w.heap.size, 0 + j, none⟩) = (zs.map (Value.int .i64) ++ [Value.int .i64 x])[j]? := fun j hj => by
     rw [World.cell?_alloc_at (w := w.drew) _ _ w.heap.size (0 + j) rfl, Array.getElem?_append_left (by simp; omega)]
     simp
    refine fin _ _ _ _ _ _ ⟨rfl, rfl, rfl, by simp, fun b' hb' => ?_⟩ (.inr (Nat.le_refl _)) (heap_alloc_new w.drew _) ?_ (grownCap_ge w _ _ _) ?_ (fun j y hj hy => ?_) ?_ (fun j y hj => by simp at hj) hzw
    ·exact Below.heap_alloc w.drew _ b' hb'.1
    ·have := grownCap_ge w (zs.length + 1) cap (Tryz.laysNm221_ren.t 3)
     simp [Builtin.zeroCells, Value.cells]
     omega
    ·have := grownCap_le_maxLen w (zs.length + 1) cap (Tryz.laysNm221_ren.t 3) (by unfold maxLen; omega)
     unfold maxLen at this
     omega
    ·rw [hsz2 j (by omega), List.getElem?_append_left (by simp; omega), List.getElem?_map, hy]; rfl
    ·rw [hsz2 _ (by omega), List.getElem?_append_right (by simp)]
     simp
  ·have hkl : k < zs.length := by omega
   have hdl : ((zs.map (Value.int .i64)).drop k).length = zs.length - k := by simp
   by_cases hroom : zs.length + 1 ≤ cap
   ·refine (Any2.slices_Insert_int_shift Tryz.laysNm221 b off zs.length cap k vb voff 1 vc (zs.map (Value.int .i64)) [.int .i64 x] w hkl (by omega) hroom hcapB hvb hcl rfl hcs (fun j hj => hsome j (by omega)) (fun j hj => hfz _) hvs h1c h1v tyv ty rowv.size row.size (by simp [World.shape?, hhv]) (by simp [World.shape?, hh]) (by omega) (by simp [World.frozen?, hhv]) (by simp [World.frozen?, hhv])).mono ?_
    rintro e w' ⟨rfl, rfl⟩
    obtain ⟨row', hr1, hr2⟩ := K1j ((zs.map (Value.int .i64)).drop k) (off + (k + 1)) w.drew row hh
    obtain ⟨row2, hr3, hr4⟩ := K1j [Value.int .i64 x] (off + k) _ row' hr1
    have hs2 : ∀ j, j < cap → ((w.drew.setCells b (off + (k + 1)) ((zs.map (Value.int .i64)).drop k)).cell? ⟨b, off + j, none⟩).isSome = true := fun j hj => by
     have : off + j < row'.size := by omega
     simp [World.cell?, hr1, this]
    refine fin _ _ _ _ _ _ ((Bel.drew (Bel.refl _ w)).trans ((hB0 _ _ _).trans (hB0 _ _ _))) (.inl (by simp)) hr3 (by omega) hroom hcapB (fun j y hj hy => ?_) ?_ (fun j y hj => ?_) hzw
    ·rw [World.cell?_setCells_out b _ _ _ _ (fun _ _ => by left; show off + j < off + k; omega), World.cell?_setCells_out b _ _ _ _ (fun _ _ => by left; show off + j < off + (k + 1); omega)]
     exact (hz j y hy).1
    ·have := World.cell?_setCells_in b [Value.int .i64 x] (off + k) (w.drew.setCells b (off + (k + 1)) ((zs.map (Value.int .i64)).drop k)) (fun j hj => by rw [Nat.add_assoc]; exact hs2 _ (by simp at hj; omega)) 0 (by simp)
     simpa using this
    ·have hjl := Kj hj
     rw [List.length_drop] at hjl
     rw [World.cell?_setCells_out b _ _ _ _ (fun _ _ => by right; show off + k + 1 ≤ off + (k + 1) + j; omega)]
     have := World.cell?_setCells_in b ((zs.map (Value.int .i64)).drop k) (off + (k + 1)) w.drew (fun j hj => by
      rw [hdl] at hj
      have := hsome (k + 1 + j) (by omega)
      rw [Nat.add_assoc]; exact this) j (by rw [hdl]; omega)
     rw [this]
     rw [List.getElem?_drop] at hj
     obtain ⟨hj1, hj2⟩ := List.getElem?_eq_some_iff.1 hj
     simp [← hj2]
   ·refine (Any2.slices_Insert_int_grow Tryz.laysNm221 b off zs.length cap k vb voff 1 vc (zs.map (Value.int .i64)) [.int .i64 x] w hkl (by omega) hln.1 (by omega) (by omega) hcl rfl hcs hvs h1c h1v).mono ?_
    rintro e w' ⟨rfl, rfl⟩
    obtain ⟨g, hg⟩ : ∃ g, g = grownCap w (zs.length + 1) cap (Tryz.laysNm221_ren.t 3) := ⟨_, rfl⟩
    have hg1 : zs.length + 1 ≤ g := hg ▸ grownCap_ge w _ _ _
    have hg2 : g ≤ 9223372036854775807 := by
     have := grownCap_le_maxLen w (zs.length + 1) cap (Tryz.laysNm221_ren.t 3) (by unfold maxLen; omega)
     unfold maxLen at this
     omega
    rw [← hg]
    obtain ⟨ROW, hROW⟩ : ∃ ROW : Array Value, ROW = ((zs.map (Value.int .i64)).take k).toArray ++ Builtin.zeroCells (Value.int .i64 0).cells (zs.length + 1 - k) ++ Builtin.zeroCells (Value.int .i64 0).cells (g - (zs.length + 1)) := ⟨_, rfl⟩
    rw [← hROW]
    have hRs : ROW.size = g := by
     rw [hROW]
     simp [Builtin.zeroCells, Value.cells]
     omega
    obtain ⟨w1, hw1⟩ : ∃ w1, w1 = (w.alloc (.cells ROW (Tryz.laysNm221_ren.t 3))).drew := ⟨_, rfl⟩
    have hh1 : w1.heap[w.heap.size]? = some (.cells ROW (Tryz.laysNm221_ren.t 3) (0, 0)) := by rw [hw1]; exact heap_alloc_new w _
    have hc1 : ∀ j, w1.cell? ⟨w.heap.size, j, none⟩ = ROW[j]? := fun j => by simp [World.cell?, hh1]
    rw [← hw1]
    obtain ⟨row', hr1, hr2⟩ := K1j [Value.int .i64 x] k w1 ROW hh1
    obtain ⟨w2, hw2⟩ : ∃ w2, w2 = (w1.setCells w.heap.size k [Value.int .i64 x]).drew := ⟨_, rfl⟩
    rw [← hw2]
    have hh2 : w2.heap[w.heap.size]? = some (.cells row' (Tryz.laysNm221_ren.t 3) (0, 0)) := by rw [hw2]; exact hr1
    obtain ⟨row2, hr3, hr4⟩ := K1j ((zs.map (Value.int .i64)).drop k) (k + 1) w2 row' hh2
    have hBs : ∀ (o : Nat) (us : List Value) (w3 : World), Bel (fun b' => b' < w.heap.size ∧ b' ∉ [b] ++ [vb]) w3 (w3.setCells w.heap.size o us) := fun o us w3 => K48 (fun h => by have := h.1; omega) us o w3
    have hB1 : Bel (fun b' => b' < w.heap.size ∧ b' ∉ [b] ++ [vb]) w w1 := by
     rw [hw1]
     exact ((Bel.refl _ w).alloc (fun _ h => h.1) _).drew
    have hB2 : Bel (fun b' => b' < w.heap.size ∧ b' ∉ [b] ++ [vb]) w w2 := by
     rw [hw2]
     exact (hB1.trans (hBs _ _ _)).drew
    refine fin _ _ _ _ _ _ (hB2.trans (hBs _ _ _)) (.inr (Nat.le_refl _)) hr3 (by omega) hg1 hg2 (fun j y hj hy => ?_) ?_ (fun j y hj => ?_) hzw
    ·rw [World.cell?_setCells_out _ _ _ _ _ (fun _ _ => by left; show 0 + j < k + 1; omega)]
     have e : w2.cell? ⟨w.heap.size, 0 + j, none⟩ = (w1.setCells w.heap.size k [Value.int .i64 x]).cell? ⟨w.heap.size, 0 + j, none⟩ := by rw [hw2]; rfl
     rw [e, World.cell?_setCells_out _ _ _ _ _ (fun _ _ => by left; show 0 + j < k; omega), hc1, hROW, Nat.zero_add]
     have hjt : j < (List.take k (zs.map (Value.int .i64))).length := by simp; omega
     rw [Array.append_assoc, Array.getElem?_append_left (by simpa using hjt)]
     simp [hj, hy]
    ·rw [World.cell?_setCells_out _ _ _ _ _ (fun _ _ => by left; show 0 + k < k + 1; omega)]
     have e : w2.cell? ⟨w.heap.size, 0 + k, none⟩ = (w1.setCells w.heap.size k [Value.int .i64 x]).cell? ⟨w.heap.size, 0 + k, none⟩ := by rw [hw2]; rfl
     rw [e]
     have := World.cell?_setCells_in w.heap.size [Value.int .i64 x] k w1 (fun j hj => by rw [hc1]; simp at hj; rw [Array.getElem?_eq_getElem (by omega)]; rfl) 0 (by simp)
     simpa using this
    ·have hjl := Kj hj
     rw [List.length_drop] at hjl
     have := World.cell?_setCells_in w.heap.size ((zs.map (Value.int .i64)).drop k) (k + 1) w2 (fun j hj => by
      rw [hdl] at hj
      have h1 : k + 1 + j < row'.size := by omega
      simp [World.cell?, hh2, h1]) j (by rw [hdl]; omega)
     rw [Nat.zero_add, this]
     rw [List.getElem?_drop] at hj
     obtain ⟨hj1, hj2⟩ := List.getElem?_eq_some_iff.1 hj
     simp [← hj2]
def M5i : MC :=
(Zs [.nilo 4 0 1] [0,1] (Zs [.mv 5 (ci 0)] [0,1,5] (.seq (.block 0 (.loop ([0,1,5], [0,1,2]) (.seq (.seq (.reg [Za (mS 6 5), Za (mS 7 0), Za (nS 8 7), Za (bS 9 .lss 6 8), Za (mS 10 9), Zb 10 true (mS 11 0), Zb 10 true (mS 12 5), Zb 10 true (xS 13 1 11 12), Zb 10 true (lF 14 1 13), Zb 10 true (mS 15 1), Zb 10 true (bS 16 .lss 14 15), Za (.pick 17 (.s 10) (.s 16) cF)] [0,1,5,17])
(cX 17 0))
(.block 1 (pr [mS 18 5, bC 19 .add 18 1, mS 5 19] [0,1,5])))))
(.seq (.seq (.reg [Za (mS 20 5), Za (mS 21 0), Za (nS 22 21), Za (bS 23 .lss 20 22), Za (mS 24 23), Zb 24 true (mS 25 0), Zb 24 true (mS 26 5), Zb 24 true (xS 27 1 25 26), Zb 24 true (lF 28 1 27), Zb 24 true (mS 29 1), Zb 24 true (bS 30 .eql 28 29), Za (.pick 31 (.s 24) (.s 30) cF)] [0,1,5,31])
(.cond (.s 31) (Zs [mS 32 0, .call 33 [0] (.f N2) [.s 32], mS 4 33] [4] .ret) .skip))
(Zs [mS 34 0, .call 35 [1] (.f N2) [.s 34], mS 36 5, mS 37 1, .lit 38 2 1 8 [.s 37], .callI 39 [0] (.f N1s) [.s 35, .s 36, .s 38] [1,2] [], mS 4 39] [4] .ret)))))
theorem Cbi (l : List Int) (n : Int) (hs : l.length ≤ 1073741824) : Ctr Tryz.prog N66 [aL 1 (l.map encI), aI n] [rL 1 ((put l n).map encI)] := by
 refine cA M5i 3 40 [(.tmp 4, [true])] Tryz.func102 rfl rfl ?_; unfold M5i
 intro hb
 clear hb
 simp only [go_sem]
 refine K16 (fun k : Nat => [(5, vI k)]) (fun k => []) (fun k => k ≤ l.length ∧ ∀ x ∈ l.take k, x < n) (fun k => l.length - k) 0 ?_
 simp only [go_sem]
 refine ⟨?_, ⟨by omega, by simp⟩, ?_⟩
 ·simp only [go_sem]
 ·rintro k ⟨hk, hlt⟩
  have hp := K6g hlt
  by_cases hkl : k < l.length
  ·obtain ⟨x, hx⟩ := Kh hkl
   have h1 : (k : Int) < (l.length : Int) := by omega
   have h0 : (0 : Int) ≤ (k : Int) := by omega
   rw [Km hx, put] at hp
   simp only [go_sem, h1, h0, K5 hx]
   refine ⟨fun hxn => ?_, fun hxn => ?_⟩
   ·refine ⟨k + 1, by rw [wI (by omega) (by omega)]; omega, ⟨by omega, fun y hy => ?_⟩, by omega⟩
    rw [Kb hx] at hy
    rcases List.mem_append.1 hy with hy | hy
    ·exact hlt y hy
    ·rw [List.mem_singleton.1 hy]; exact hxn
   ·rw [if_neg hxn] at hp
    refine ⟨fun he => ?_, fun he => ?_⟩
    ·rw [if_pos (by simpa using he), ← Km hx, List.take_append_drop] at hp
     rw [hp]
     apply K0 (C6 l hs)
     simp only [go_sem]
    ·rw [if_neg (by simpa using he), ← Km hx] at hp
     rw [hp]
     apply K0 (C6 l hs)
     simp only [go_sem]
     try intros
     refine ⟨by decide, ?_⟩
     apply K9 (C2y l k n hk hs)
     simp only [go_sem]
     try simp
  ·have h1 : ¬ (k : Int) < (l.length : Int) := by omega
   obtain rfl : k = l.length := by omega
   rw [List.drop_length, List.take_length, put] at hp
   rw [hp]
   simp only [go_sem, h1]
   apply K0 (C6 l hs)
   simp only [go_sem]
   try intros
   refine ⟨by decide, ?_⟩
   apply K9 (C2y l l.length n (Nat.le_refl _) hs)
   simp only [go_sem]
   try simp
end Go.Proofs.YtgkeplbnnjogiaaGreatR
namespace Go.Proofs.YtgkeplbnnjogiaaGreatR
open Go Go.RowKit Go.Proofs
open Nat (reduceEqDiff reduceLT reduceLeDiff reduceAdd reduceMul)
open List (reduceReplicate)
def K24 (chosen : List Int) (root : Int) (x : GLibrary) : GLibrary := if chosen.contains x.Id then { x with Digests := put x.Digests root } else x
def tellL (chosen : List Int) (root : Int) (l : List GLibrary) : List GLibrary := l.map (K24 chosen root)
theorem K92 {chosen : List Int} {root : Int} : ∀ {l : List GLibrary}, ((tellL chosen root l).map GLibrary.size).sum ≤ (l.map GLibrary.size).sum + l.length
 | [] => by simp [tellL]
 | x :: l => by
  have ih := K92 (chosen := chosen) (root := root) (l := l)
  have hx : (K24 chosen root x).size ≤ x.size + 1 := by
   unfold K24
   split
   ·simp only [GLibrary.size]; exact K8c
   ·omega
  simp only [tellL, List.map_cons, List.sum_cons, List.length_cons] at *
  omega
end Go.Proofs.YtgkeplbnnjogiaaGreatR
namespace Go.Proofs.YtgkeplbnnjogiaaGreatR
open Go Go.RowKit Go.Proofs
open Nat (reduceEqDiff reduceLT reduceLeDiff reduceAdd reduceMul)
open List (reduceReplicate)
def holdP (d : Int) (x : GLibrary) : Bool := x.Up && x.Digests.contains d
def lackP (d : Int) (x : GLibrary) : Bool := x.Up && !x.Digests.contains d
def holders (d : Int) (l : List GLibrary) : List Int := (l.filter (holdP d)).map fun x => x.Id
def Ko (d : Int) (l : List GLibrary) : List Int := (l.filter (lackP d)).map fun x => x.Id
def K17 (l : List GLibrary) (d : Int) : Bool := K27 l && !decide (K1x d l = 0)
def repairL (l : List GLibrary) (d k : Int) : List GLibrary := if K17 l d then tellL ((K1u (Ko d l) d).take (k - (holders d l).length).toNat) d l else l
theorem libs_up : ∀ {l : List GLibrary} {b : Int}, K1s b l = true → l.Pairwise (fun x y => x.Id < y.Id) ∧ ∀ x ∈ l, b < x.Id
 | [], _, _ => by simp
 | x :: l, b, h => by
  simp only [K1s, Bool.and_eq_true, decide_eq_true_eq] at h
  obtain ⟨h1, h2⟩ := libs_up h.2.2
  refine ⟨List.pairwise_cons.2 ⟨h2, h1⟩, fun y hy => ?_⟩
  rcases List.mem_cons.1 hy with rfl | hy
  ·omega
  ·have := h2 y hy; omega
theorem ids_one {l : List GLibrary} (h : l.Pairwise fun x y => x.Id < y.Id) {m n : Nat} {x y : GLibrary} (hm : l[m]? = some x) (hn : l[n]? = some y) (e : x.Id = y.Id) : m = n := by
 obtain ⟨hm1, rfl⟩ := List.getElem?_eq_some_iff.1 hm
 obtain ⟨hn1, rfl⟩ := List.getElem?_eq_some_iff.1 hn
 rw [List.pairwise_iff_getElem] at h
 rcases Nat.lt_trichotomy m n with k | k | k
 ·have := h m n hm1 hn1 k; omega
 ·exact k
 ·have := h n m hn1 hm1 k; omega
theorem K91 {s : List Int} {d : Int} {x : GLibrary} : (K24 s d x).Id = x.Id := by unfold K24; split <;> rfl
theorem K3v {s : List Int} {d : Int} {x : GLibrary} (h : x.Id ∉ s) : K24 s d x = x := by unfold K24; rw [if_neg (by simpa using h)]
theorem K6r {s : List Int} {d id : Int} {x : GLibrary} (h : x.Id ≠ id) : K24 (s ++ [id]) d x = K24 s d x := by
 have e : (s ++ [id]).contains x.Id = s.contains x.Id := by rw [Bool.eq_iff_iff]; simp [h]
 unfold K24; rw [e]
theorem K7u {s : List Int} {d id : Int} {x : GLibrary} (h : x.Id = id) : K24 (s ++ [id]) d x = { x with Digests := put x.Digests d } := by
 unfold K24; rw [if_pos (by simp [h])]
theorem K7a {d : Int} {l : List GLibrary} : tellL [] d l = l := by
 unfold tellL
 refine (List.map_congr_left fun x _ => ?_).trans (List.map_id l)
 exact K3v (by simp)
theorem K1n {s : List Int} {d : Int} {l : List GLibrary} : (tellL s d l).length = l.length := by simp [tellL]
theorem lack_at {d id : Int} {l : List GLibrary} (h : id ∈ Ko d l) : ∃ (j : Nat) (x : GLibrary), l[j]? = some x ∧ x.Id = id ∧ x.Up = true ∧ x.Digests.contains d = false := by
 obtain ⟨x, hx, rfl⟩ := List.mem_map.1 h
 obtain ⟨hx, hp⟩ := List.mem_filter.1 hx
 obtain ⟨j, hj⟩ := List.getElem?_of_mem hx
 simp only [lackP, Bool.and_eq_true, Bool.not_eq_true'] at hp
 exact ⟨j, x, hj, rfl, hp.1, hp.2⟩
theorem Ka4 {s : List Int} {d : Int} {l : List GLibrary} (hl : l.Pairwise fun x y => x.Id < y.Id) {j : Nat} {x : GLibrary} (hx : l[j]? = some x) : tellL (s ++ [x.Id]) d l = (tellL s d l).set j { x with Digests := put x.Digests d } := by
 refine List.ext_getElem? fun m => ?_
 rw [List.getElem?_set]
 have hj := Kj hx
 by_cases e : j = m
 ·subst e
  have e := (List.getElem?_eq_some_iff.1 hx).2
  simp [tellL, hj, e, K7u]
 ·rw [if_neg e]
  simp only [tellL, List.getElem?_map]
  cases hm : l[m]? with
  | none => rfl
  | some y => simp only [Option.map_some]; rw [K6r fun k => e (ids_one hl hx hm k.symm)]
theorem tell_hold {s : List Int} {d : Int} {l : List GLibrary} (hl : l.Pairwise fun x y => x.Id < y.Id) {j : Nat} {x : GLibrary} (hx : l[j]? = some x) (hu : x.Up = true) (hc : x.Digests.contains d = false) (hs : x.Id ∉ s) : (holders d (tellL (s ++ [x.Id]) d l)).length = (holders d (tellL s d l)).length + 1 := by
 have hy : (tellL s d l)[j]? = some x := by simp [tellL, hx, K3v hs]
 obtain ⟨hj, e⟩ := List.getElem?_eq_some_iff.1 hy
 have h1 : holdP d x = false := by unfold holdP; rw [hu, hc]; rfl
 have h2 : holdP d { x with Digests := put x.Digests d } = true := by unfold holdP; simp [hu, K6h]
 rw [Ka4 hl hx]
 simp only [holders, List.length_map, ← List.countP_eq_length_filter]
 rw [List.countP_set hj, e, h1, h2]
 simp
theorem tell_idx {s : List Int} {d : Int} {l : List GLibrary} (hl : l.Pairwise fun x y => x.Id < y.Id) {j : Nat} {x : GLibrary} (hx : l[j]? = some x) (hs : x.Id ∉ s) : idxF (fun y : GLibrary => decide (y.Id = x.Id)) (tellL s d l) = j := by
 have hy : (tellL s d l)[j]? = some x := by simp [tellL, hx, K3v hs]
 refine K64 hy ?_ (by simp)
 rw [List.any_eq_false]
 intro y hy
 obtain ⟨m, hm⟩ := List.getElem?_of_mem hy
 have hmj : m < j := by have := Kj hm; rw [List.length_take] at this; omega
 rw [List.getElem?_take_of_lt hmj] at hm
 simp only [tellL, List.getElem?_map] at hm
 cases hz : l[m]? with
 | none => rw [hz] at hm; simp at hm
 | some z =>
  rw [hz] at hm
  simp only [Option.map_some, Option.some.injEq] at hm
  subst hm
  rw [K91]
  simp only [decide_eq_true_eq]
  intro e
  have := ids_one hl hz hx e
  omega
theorem K6o {l : List GLibrary} {d k : Int} : ((repairL l d k).map GLibrary.size).sum ≤ (l.map GLibrary.size).sum + 6 ∧ (repairL l d k).length = l.length := by
 unfold repairL
 split
 ·rename_i h
  simp only [K17, K27, Bool.and_eq_true, decide_eq_true_eq] at h
  have := K92 (chosen := (K1u (Ko d l) d).take (k - (holders d l).length).toNat) (root := d) (l := l)
  exact ⟨by omega, by simp [tellL]⟩
 ·exact ⟨by omega, rfl⟩
theorem K5u {d : Int} {l : List GLibrary} {k : Nat} {x : GLibrary} (h : l[k]? = some x) (u : holdP d x = true) : holders d (l.take (k + 1)) = holders d (l.take k) ++ [x.Id] := by
 rw [Kb h, holders, List.filter_append, List.map_append]; simp [holders, u]
theorem K3f {d : Int} {l : List GLibrary} {k : Nat} {x : GLibrary} (h : l[k]? = some x) (u : holdP d x = false) : holders d (l.take (k + 1)) = holders d (l.take k) := by
 rw [Kb h, holders, List.filter_append, List.map_append]; simp [holders, u]
theorem K5v {d : Int} {l : List GLibrary} {k : Nat} {x : GLibrary} (h : l[k]? = some x) (u : lackP d x = true) : Ko d (l.take (k + 1)) = Ko d (l.take k) ++ [x.Id] := by
 rw [Kb h, Ko, List.filter_append, List.map_append]; simp [Ko, u]
theorem K3h {d : Int} {l : List GLibrary} {k : Nat} {x : GLibrary} (h : l[k]? = some x) (u : lackP d x = false) : Ko d (l.take (k + 1)) = Ko d (l.take k) := by
 rw [Kb h, Ko, List.filter_append, List.map_append]; simp [Ko, u]
theorem K6y (d : Int) (l : List GLibrary) : (holders d l).length ≤ l.length := by
 unfold holders; rw [List.length_map]; exact List.length_filter_le _ _
theorem K5h (d : Int) (l : List GLibrary) : (Ko d l).length ≤ l.length := by
 unfold Ko; rw [List.length_map]; exact List.length_filter_le _ _
def midL (s : List Int) (id d : Int) (l : List GLibrary) (j : Nat) : List GLibrary := tellL (s ++ [id]) d (l.take j) ++ tellL s d (l.drop j)
theorem K71 {s : List Int} {id d : Int} {l : List GLibrary} {j : Nat} : (midL s id d l j).length = l.length := by simp [midL, tellL]; omega
theorem midL_zero {s : List Int} {id d : Int} {l : List GLibrary} : midL s id d l 0 = tellL s d l := by simp [midL, tellL]
theorem midL_all {s : List Int} {id d : Int} {l : List GLibrary} : midL s id d l l.length = tellL (s ++ [id]) d l := by simp [midL, tellL]
theorem midL_get {s : List Int} {id d : Int} {l : List GLibrary} {j : Nat} {x : GLibrary} (h : l[j]? = some x) : (midL s id d l j)[j]? = some (K24 s d x) := by
 have hl := Kj h
 rw [midL, List.getElem?_append_right (by simp [tellL]; omega), Km h]
 simp [tellL, Nat.min_eq_left (Nat.le_of_lt hl)]
theorem midL_step {s : List Int} {id d : Int} {l : List GLibrary} {j : Nat} {x : GLibrary} (h : l[j]? = some x) : (midL s id d l j).set j (K24 (s ++ [id]) d x) = midL s id d l (j + 1) := by
 have hl := Kj h
 rw [midL, midL, Km h, Kb h, tellL, tellL, tellL, List.map_append, List.map_cons]
 rw [List.set_append_right _ _ (by simp; omega)]
 simp [tellL, Nat.min_eq_left (Nat.le_of_lt hl)]
theorem midL_same {s : List Int} {id d : Int} {l : List GLibrary} {j : Nat} {x : GLibrary} (h : l[j]? = some x) (e : ¬ x.Id = id) : midL s id d l j = midL s id d l (j + 1) := by
 have hl := Kj h
 rw [midL, midL, Km h, Kb h]
 simp [tellL, K6r e]
def M6x : MC :=
(Zs [.nilo 4 0 1] [0,1] (Zs [.nilo 5 0 1] [0,1,5] (.seq (Zs [mS 8 0, nS 9 8, .mv 10 (ci 0)] [1,5,8,9,10] (.block 0 (.loop ([1,5,8,9,10], [1,2]) (Zs [bS 11 .lss 10 9] [1,5,8,9,10,11] (.seq (cX 11 0)
(.seq (.block 1 (Zs [xS 12 4 8 10, lT 13 4 12, .alloc 7 1 [pz, .emp 1, .pl (.sc (.bool false)), .pl (.sc (.bool false))], sS 4 7 13] [1,5,7,8,9,10] (.seq (.reg [Za (fS 14 7 2), Za (lF 15 1 14), Za (mS 16 15), Zb 16 true (fS 17 7 1), Zb 16 true (lF 18 1 17), Zb 16 true (mS 19 1), Zb 16 true (.call 20 [] (.f N4) [.s 18, .s 19]), Za (.pick 21 (.s 16) (.s 20) cF)] [1,5,7,8,9,10,21])
(.cond (.s 21) (pr [mS 22 5, fS 23 7 0, lF 24 1 23, .lit 25 2 1 8 [.s 24], .app 26 0 1 8 (.s 22) (.s 25), mS 5 26] [1,5,8,9,10]) .skip))))
(pr [bC 27 .add 10 1, mS 10 27] [1,5,8,9,10])))))))
(Zs [mS 28 5, mS 4 28] [4] .ret))))
theorem Cc9 (l : List GLibrary) (d : Int) (hl : l.length ≤ 1073741824) : Ctr Tryz.prog N7f [aL 4 (l.map GLibrary.enc), aI d] [rL 1 ((holders d l).map encI)] := by
 refine cA M6x 3 29 [(.tmp 4, [true])] Tryz.func201 rfl rfl ?_; unfold M6x
 intro hb
 clear hb
 simp only [go_sem]
 refine K6 l (fun k => [(5, .val false [.ref 0 0 1 0 (holders d (l.take k)).length]), (10, vI k)]) (fun k => [(0, ⟨0, .row true 1 ((holders d (l.take k)).map encI)⟩)]) (fun _ => True) (by simp only [roomB]; omega) ?_
 simp only [go_sem]
 refine ⟨?_, trivial, ?_, ?_⟩
 ·simp only [go_sem, List.take_zero]
  exact ⟨rfl, rfl⟩
 ·intro k x hx _ h0 h1 hw
  have hul := K6y d (l.take k)
  have hkl : (l.take k).length ≤ l.length := by rw [List.length_take]; omega
  simp only [go_sem, K5 hx, h0, h1, hw]
  refine ⟨fun u => ?_, fun u => ?_⟩
  ·apply K0 (C1t x.Digests d)
   simp only [go_sem, hw]
   refine ⟨fun hc => ?_, fun hc => ?_⟩
   ·rw [K5u hx (by unfold holdP; rw [u, hc]; rfl)]
    simp only [roomB]
    simp [encI]
    omega
   ·rw [K3f hx (by unfold holdP; rw [u, hc]; rfl)]
    exact ⟨rfl, rfl⟩
  ·rw [K3f hx (by unfold holdP; rw [u]; rfl)]
   exact ⟨rfl, rfl⟩
 ·intro _
  simp only [go_sem, List.take_length]
def M7d : MC :=
(Zs [.nilo 4 0 1] [0,1] (Zs [.lit 7 0 1 8 [], mS 5 7] [0,1,5] (.seq (Zs [.mv 6 (ci 0)] [0,1,5,6] (.block 0 (.loop ([0,1,5,6], [1]) (.seq (Zs [mS 8 6, mS 9 0, nS 10 9, bS 11 .lss 8 10] [0,1,5,6,11] (cX 11 0))
(.seq (.block 1 (.seq (.reg [Za (mS 14 0), Za (mS 15 6), Za (xS 16 4 14 15), Za (fS 17 16 2), Za (lF 18 1 17), Za (mS 19 18), Zb 19 true (mS 20 0), Zb 19 true (mS 21 6), Zb 19 true (xS 22 4 20 21), Zb 19 true (fS 23 22 1), Zb 19 true (lF 24 1 23), Zb 19 true (mS 25 1), Zb 19 true (.call 26 [] (.f N1a) [.s 24, .s 25]), Za (.pick 27 (.s 19) (.s 26) cF)] [0,1,5,6,27])
(.cond (.s 27) (pr [mS 28 5, mS 29 0, mS 30 6, xS 31 4 29 30, fS 32 31 0, lF 33 1 32, .lit 34 1 1 8 [.s 33], .app 35 0 1 8 (.s 28) (.s 34), mS 5 35] [0,1,5,6]) .skip)))
(pr [mS 12 6, bC 13 .add 12 1, mS 6 13] [0,1,5,6]))))))
(Zs [mS 36 5, mS 4 36] [4] .ret))))
theorem Ccm (l : List GLibrary) (d : Int) (hl : l.length ≤ 1073741824) : Ctr Tryz.prog N7v [aL 4 (l.map GLibrary.enc), aI d] [rL 1 ((holders d l).map encI)] := by
 refine cA M7d 2 37 [(.tmp 4, [true])] Tryz.func197 rfl rfl ?_; unfold M7d
 intro hb
 clear hb
 simp only [go_sem]
 refine K6 l (fun k => [(5, .val false [.ref 0 0 1 0 (holders d (l.take k)).length]), (6, vI k)]) (fun k => [(0, ⟨0, .row true 1 ((holders d (l.take k)).map encI)⟩)]) (fun _ => True) (by simp only [roomB]; omega) ?_
 simp only [go_sem]
 refine ⟨?_, trivial, ?_, ?_⟩
 ·simp only [go_sem, List.take_zero]
  exact ⟨rfl, rfl⟩
 ·intro k x hx _ h0 h1 hw
  have hul := K6y d (l.take k)
  have hkl : (l.take k).length ≤ l.length := by rw [List.length_take]; omega
  simp only [go_sem, K5 hx, h0, h1, hw]
  refine ⟨fun u => ?_, fun u => ?_⟩
  ·apply K0 (C20 x.Digests d)
   simp only [go_sem, K5 hx, h0, h1, hw]
   refine ⟨fun hc => ?_, fun hc => ?_⟩
   ·rw [K5u hx (by unfold holdP; rw [u, hc]; rfl)]
    simp only [roomB]
    simp [encI]
    omega
   ·rw [K3f hx (by unfold holdP; rw [u, hc]; rfl)]
    exact ⟨rfl, rfl⟩
  ·rw [K3f hx (by unfold holdP; rw [u]; rfl)]
   exact ⟨rfl, rfl⟩
 ·intro _
  simp only [go_sem, List.take_length]
def M28 : MC :=
(Zs [.box 2 0 (.s 0), .mv 3 cF] [1,2] (Zs [fS 4 2 0, lF 5 1 4, lF 6 1 1, bS 7 .eql 5 6, mS 3 7] [3] .ret))
theorem C8s (x : GLibrary) (id : Int) : Ctr Tryz.prog N2i [aS x.enc, (false, [.pb [tI id]])] [rB (decide (x.Id = id))] := by
 refine cA M28 1 8 [(.tmp 3, [false])] Tryz.func203 rfl rfl ?_; unfold M28
 intro hb
 clear hb
 simp only [go_sem]
 rfl
def M30 : MC :=
(Zs [.nilo 6 0 4, .mv 7 cF] [0,1,2] (Zs [mS 15 0, .call 16 [0] (.f N14) [.s 15], mS 8 16] [0,1,2,8] (.seq (.seq (.reg [Za (mS 17 0), Za (.call 18 [] (.f N3l) [.s 17]), Za (.un 19 .not (.s 18)), Za (mS 20 19), Zb 20 false (mS 21 0), Zb 20 false (mS 22 1), Zb 20 false (.call 23 [] (.f N64) [.s 21, .s 22]), Zb 20 false (bC 24 .eql 23 0), Za (.pick 25 (.s 20) cT (.s 24))] [0,1,2,8,25])
(.cond (.s 25) (Zs [mS 26 8, mS 6 26, .mv 7 cF] [6,7] .ret) .skip))
(Zs [.nilo 9 1 1] [0,1,2,8,9] (.seq (Zs [mS 27 0, nS 28 27, .mv 29 (ci 0)] [1,2,8,9,27,28,29] (.block 0 (.loop ([1,2,8,9,27,28,29], [2,3,4,5,6,7]) (Zs [bS 30 .lss 29 28] [1,2,8,9,27,28,29,30] (.seq (cX 30 0)
(.seq (.block 1 (Zs [xS 31 4 27 29, lT 32 4 31, .alloc 11 2 [pz, .emp 1, .pl (.sc (.bool false)), .pl (.sc (.bool false))], sS 4 11 32] [1,2,8,9,11,27,28,29] (.seq (.reg [Za (fS 33 11 2), Za (lF 34 1 33), Za (mS 35 34), Zb 35 true (fS 36 11 1), Zb 35 true (lF 37 1 36), Zb 35 true (mS 38 1), Zb 35 true (.call 39 [] (.f N4) [.s 37, .s 38]), Zb 35 true (.un 40 .not (.s 39)), Za (.pick 41 (.s 35) (.s 40) cF)] [1,2,8,9,11,27,28,29,41])
(.cond (.s 41) (pr [mS 42 9, fS 43 11 0, lF 44 1 43, .lit 45 3 1 8 [.s 44], .app 46 1 1 8 (.s 42) (.s 45), mS 9 46] [1,2,8,9,27,28,29]) .skip))))
(pr [bC 47 .add 29 1, mS 29 47] [1,2,8,9,27,28,29])))))))
(.seq (Zs [mS 48 9, mS 49 1, .call 50 [4] (.f N8d) [.s 48, .s 49], nS 51 50, .mv 52 (ci 0)] [1,2,8,50,51,52] (.block 2 (.loop ([1,2,8,50,51,52], [1,2,3,5,6,7]) (Zs [bS 53 .lss 52 51] [1,2,8,50,51,52,53] (.seq (cX 53 2)
(.seq (.block 3 (Zs [xS 54 1 50 52, lF 55 1 54, .alloc 13 5 [pz], sS 1 13 55] [1,2,8,13,50,51,52] (.seq (Zs [mS 56 8, mS 57 1, .call 58 [6] (.f N7f) [.s 56, .s 57], nS 59 58, mS 60 2, bS 61 .geq 59 60] [1,2,8,13,50,51,52,61] (.cond (.s 61) (.exit 2) .skip))
(Zs [mS 62 8, .clos 63 N2i [13], .call 64 [] (.f Nd) [.s 62, .s 63], mS 14 64] [1,2,8,14,50,51,52] (pr [mS 65 8, mS 66 14, mS 67 8, mS 68 14, xS 69 4 67 68, fS 70 69 1, lF 71 1 70, mS 72 1, .call 73 [7] (.f N66) [.s 71, .s 72], xS 74 4 65 66, fS 75 74 1, sS 1 75 73] [1,2,8,50,51,52])))))
(pr [bC 76 .add 52 1, mS 52 76] [1,2,8,50,51,52])))))))
(Zs [mS 77 8, mS 6 77, .mv 7 cT] [6,7] .ret)))))))
set_option maxHeartbeats 2000000 in
theorem Cag (l : List GLibrary) (d k : Int) (hs : l.length + (l.map GLibrary.size).sum ≤ 268435456) : Ctr Tryz.prog N3m [aL 4 (l.map GLibrary.enc), aI d, aI k] [rL 4 ((repairL l d k).map GLibrary.enc), rB (K17 l d)] := by
 refine cA M30 8 78 [(.tmp 6, [true]), (.tmp 7, [false])] Tryz.func112 rfl rfl ?_; unfold M30
 intro hb
 clear hb
 simp only [go_sem]
 apply K0 (C2p l (by omega))
 simp only [go_sem]
 intros
 apply K0 (Caf l (by omega))
 simp only [go_sem]
 refine ⟨fun hno => ?_, fun hok => ?_⟩
 ·have e : K17 l d = false := by unfold K17; rw [hno]; rfl
  simp [repairL, e]
 ·apply K0 (Cbg l d)
  simp only [go_sem]
  intro _
  refine ⟨fun hz => ?_, fun hz => ?_⟩
  ·have e : K17 l d = false := by unfold K17; rw [hz]; simp
   simp [repairL, e]
  ·have e : K17 l d = true := by unfold K17; rw [hok]; simpa using hz
   have eR : repairL l d k = tellL ((K1u (Ko d l) d).take (k - (holders d l).length).toNat) d l := by unfold repairL; rw [if_pos e]
   rw [e, eR]
   have hup := (libs_up (by simp only [K27, Bool.and_eq_true] at hok; exact hok.2) : l.Pairwise (fun x y => x.Id < y.Id) ∧ _).1
   refine K6 l (fun k => [(9, .val false [.ref 1 0 1 0 (Ko d (l.take k)).length]), (29, vI k)]) (fun k => [(1, ⟨0, .row true 1 ((Ko d (l.take k)).map encI)⟩)]) (fun _ => True) (by simp only [roomB]; omega) ?_
   simp only [go_sem]
   refine ⟨?_, trivial, ?_, ?_⟩
   ·simp only [go_sem, List.take_zero]
    exact ⟨rfl, rfl⟩
   ·intro m x hx _ h0 h1 hw
    have hul := K5h d (l.take m)
    have hkl : (l.take m).length ≤ l.length := by rw [List.length_take]; omega
    simp only [go_sem, K5 hx, h0, h1, hw]
    refine ⟨fun u => ?_, fun u => ?_⟩
    ·apply K0 (C1t x.Digests d)
     simp only [go_sem, hw]
     refine ⟨fun hc => ?_, fun hc => ?_⟩
     ·rw [K5v hx (by unfold lackP; rw [u, hc]; rfl)]
      simp only [roomB]
      simp [encI]
      omega
     ·rw [K3h hx (by unfold lackP; rw [u, hc]; rfl)]
      exact ⟨rfl, rfl⟩
    ·rw [K3h hx (by unfold lackP; rw [u]; rfl)]
     exact ⟨rfl, rfl⟩
   ·intro _
    have hul := K5h d l
    simp only [go_sem, List.take_length]
    apply K0 (Cco (Ko d l) d (by omega))
    simp only [go_sem]
    intros
    have hol := K5k (Ko d l) d
    have hnd := K69 (Ko d l) d
    have hmem : ∀ x ∈ K1u (Ko d l) d, x ∈ Ko d l := fun x hx => ordFor_mem.1 hx
    generalize K1u (Ko d l) d = order at *
    refine K6 order (fun m => [(52, vI m)]) (fun m => [(0, ⟨0, .row true 4 ((tellL (order.take m) d l).map GLibrary.enc)⟩)]) (fun m => (holders d (tellL (order.take m) d l)).length = (holders d l).length + m ∧ m ≤ (k - (holders d l).length).toNat) (by simp only [roomB]; omega) ?_
    simp only [go_sem]
    refine ⟨?_, ⟨by rw [List.take_zero, K7a]; simp, Nat.zero_le _⟩, ?_, ?_⟩
    ·simp only [go_sem, List.take_zero, K7a]
    ·rintro m id hx ⟨hn, hm⟩ h0 h1 hw
     have hml := Kj hx
     have hsx := Kb hx
     obtain ⟨j, x, hj, rfl, hu, hc⟩ := lack_at (hmem _ (K10 hx))
     have hjl := Kj hj
     have hni : x.Id ∉ order.take m := by
      intro hin
      have h2 := hnd
      rw [← List.take_append_drop m order, List.nodup_append] at h2
      exact h2.2.2 _ hin _ (by rw [Km hx]; simp) rfl
     have hset := Ka4 (s := order.take m) (d := d) hup hj
     have hhold := tell_hold hup hj hu hc hni
     have hidx := tell_idx (d := d) hup hj hni
     have hget : (tellL (order.take m) d l)[j]? = some x := by simp [tellL, hj, K3v hni]
     have hlen := K1n (s := order.take m) (d := d) (l := l)
     rw [hsx]
     rw [hhold]
     have hxl := K1d (f := GLibrary.size) (K10 hj)
     have hxd : x.Digests.length ≤ 268435456 := by simp only [GLibrary.size] at hxl; omega
     simp only [go_sem, K5 hx, h0, h1, K1n]
     apply K0 (Cc9 (tellL (order.take m) d l) d (by omega))
     simp only [go_sem, K1n]
     intros
     refine ⟨fun hge => ?_, fun hlt => ?_⟩
     ·have em : (k - (holders d l).length).toNat = m := by omega
      rw [em]
     ·apply K0 (C54 (tellL (order.take m) d l) _ [.pb [tI x.Id]] (fun y => decide (y.Id = x.Id)) fun y _ => C8s y x.Id)
      simp only [go_sem, hidx, K5 hget, K1n]
      intro _
      refine ⟨⟨by omega, by omega⟩, ?_⟩
      apply K0 (Cbi x.Digests d (by omega))
      simp only [go_sem, K5 hget, hw, K1n]
      rw [hset, List.map_set]
      refine ⟨⟨by omega, by omega⟩, fun _ => ⟨rfl, by omega, by omega⟩⟩
    ·rintro ⟨hn, hm⟩
     simp only [go_sem, List.take_length, K1n]
     rw [List.take_of_length_le (by omega)]
def M3j : MC :=
(Zs [.nilo 6 0 4, .mv 7 cF] [0,1,2] (Zs [mS 15 0, .call 16 [0] (.f N48) [.s 15], mS 8 16] [0,1,2,8] (.seq (.seq (.reg [Za (mS 17 0), Za (.call 18 [] (.f N41) [.s 17]), Za (.un 19 .not (.s 18)), Za (mS 20 19), Zb 20 false (mS 21 0), Zb 20 false (mS 22 1), Zb 20 false (.call 23 [] (.f N6n) [.s 21, .s 22]), Zb 20 false (bC 24 .eql 23 0), Za (.pick 25 (.s 20) cT (.s 24))] [0,1,2,8,25])
(.cond (.s 25) (Zs [mS 26 8, mS 6 26, .mv 7 cF] [6,7] .ret) .skip))
(Zs [.lit 27 1 1 8 [], mS 9 27] [0,1,2,8,9] (.seq (Zs [.mv 10 (ci 0)] [0,1,2,8,9,10] (.block 0 (.loop ([0,1,2,8,9,10], [2,3,4,5]) (.seq (Zs [mS 28 10, mS 29 0, nS 30 29, bS 31 .lss 28 30] [0,1,2,8,9,10,31] (cX 31 0))
(.seq (.block 1 (.seq (.reg [Za (mS 34 0), Za (mS 35 10), Za (xS 36 4 34 35), Za (fS 37 36 2), Za (lF 38 1 37), Za (mS 39 38), Zb 39 true (mS 40 0), Zb 39 true (mS 41 10), Zb 39 true (xS 42 4 40 41), Zb 39 true (fS 43 42 1), Zb 39 true (lF 44 1 43), Zb 39 true (mS 45 1), Zb 39 true (.call 46 [] (.f N1a) [.s 44, .s 45]), Zb 39 true (.un 47 .not (.s 46)), Za (.pick 48 (.s 39) (.s 47) cF)] [0,1,2,8,9,10,48])
(.cond (.s 48) (pr [mS 49 9, mS 50 0, mS 51 10, xS 52 4 50 51, fS 53 52 0, lF 54 1 53, .lit 55 2 1 8 [.s 54], .app 56 1 1 8 (.s 49) (.s 55), mS 9 56] [0,1,2,8,9,10]) .skip)))
(pr [mS 32 10, bC 33 .add 32 1, mS 10 33] [0,1,2,8,9,10]))))))
(Zs [mS 57 9, mS 58 1, .call 59 [3] (.f N8o) [.s 57, .s 58], mS 11 59] [0,1,2,8,11] (Zs [mS 60 0, mS 61 1, .call 62 [4] (.f N7v) [.s 60, .s 61], nS 63 62, mS 12 63] [1,2,8,11,12] (.seq (Zs [.mv 13 (ci 0)] [1,2,8,11,12,13] (.block 2 (.loop ([1,2,8,11,12,13], [1,2,4,5]) (.seq (.seq (.reg [Za (mS 64 13), Za (mS 65 11), Za (nS 66 65), Za (bS 67 .lss 64 66), Za (mS 68 67), Zb 68 true (mS 69 12), Zb 68 true (mS 70 2), Zb 68 true (bS 71 .lss 69 70), Za (.pick 72 (.s 68) (.s 71) cF)] [1,2,8,11,12,13,72])
(cX 72 2))
(.seq (.block 3 (.seq (Zs [.mv 14 (ci 0)] [1,2,8,11,12,13,14] (.block 4 (.loop ([1,2,8,11,12,13,14], [1,2,4,5]) (.seq (Zs [mS 75 14, mS 76 8, nS 77 76, bS 78 .lss 75 77] [1,2,8,11,12,13,14,78] (cX 78 4))
(.seq (.block 5 (.seq (.dreg [Zc [82,86,87,88,89] (mS 81 8), Zc [81,86,87,88,89] (mS 82 14), Zd [86,87,88,89] [0,1] (xS 83 4 81 82), Zd [86,87,88,89] [0,1,2] (fS 84 83 0), Zd [86,87,88,89] (.range 4) (lF 85 1 84), Zc [81,82,83,84,85,87] (mS 86 11), Zc [81,82,83,84,85,86] (mS 87 13), Zd [81,82,83,84,85] [5,6] (xS 88 1 86 87), Zd [81,82,83,84,85] [5,6,7] (lF 89 1 88), Ze (.range 9) (bS 90 .eql 85 89)] [1,2,8,11,12,13,14,90])
(.cond (.s 90) (pr [mS 91 8, mS 92 14, mS 93 8, mS 94 14, xS 95 4 93 94, fS 96 95 1, lF 97 1 96, mS 98 1, .call 99 [5] (.f Nbf) [.s 97, .s 98], xS 100 4 91 92, fS 101 100 1, sS 1 101 99] [1,2,8,11,12,13,14]) .skip)))
(pr [mS 79 14, bC 80 .add 79 1, mS 14 80] [1,2,8,11,12,13,14]))))))
(pr [mS 102 12, bC 103 .add 102 1, mS 12 103] [1,2,8,11,12,13])))
(pr [mS 73 13, bC 74 .add 73 1, mS 13 74] [1,2,8,11,12,13]))))))
(Zs [mS 104 8, mS 6 104, .mv 7 cT] [6,7] .ret)))))))))
set_option maxHeartbeats 2000000 in
theorem Cav (l : List GLibrary) (d k : Int) (hs : l.length + (l.map GLibrary.size).sum ≤ 268435456) : Ctr Tryz.prog N42 [aL 4 (l.map GLibrary.enc), aI d, aI k] [rL 4 ((repairL l d k).map GLibrary.enc), rB (K17 l d)] := by
 refine cA M3j 6 105 [(.tmp 6, [true]), (.tmp 7, [false])] Tryz.func110 rfl rfl ?_; unfold M3j
 intro hb
 clear hb
 simp only [go_sem]
 apply K0 (C91 l (by omega))
 simp only [go_sem]
 intros
 apply K0 (Cau l (by omega))
 simp only [go_sem]
 refine ⟨fun hno => ?_, fun hok => ?_⟩
 ·have e : K17 l d = false := by unfold K17; rw [hno]; rfl
  simp [repairL, e]
 ·apply K0 (Cbx l d)
  simp only [go_sem]
  intro _
  refine ⟨fun hz => ?_, fun hz => ?_⟩
  ·have e : K17 l d = false := by unfold K17; rw [hz]; simp
   simp [repairL, e]
  ·have e : K17 l d = true := by unfold K17; rw [hok]; simpa using hz
   have eR : repairL l d k = tellL ((K1u (Ko d l) d).take (k - (holders d l).length).toNat) d l := by unfold repairL; rw [if_pos e]
   rw [e, eR]
   refine K6 l (fun k => [(9, .val false [.ref 1 0 1 0 (Ko d (l.take k)).length]), (10, vI k)]) (fun k => [(1, ⟨0, .row true 1 ((Ko d (l.take k)).map encI)⟩)]) (fun _ => True) (by simp only [roomB]; omega) ?_
   simp only [go_sem]
   refine ⟨?_, trivial, ?_, ?_⟩
   ·simp only [go_sem, List.take_zero]
    exact ⟨rfl, rfl⟩
   ·intro m x hx _ h0 h1 hw
    have hul := K5h d (l.take m)
    have hkl : (l.take m).length ≤ l.length := by rw [List.length_take]; omega
    simp only [go_sem, K5 hx, h0, h1, hw]
    refine ⟨fun u => ?_, fun u => ?_⟩
    ·apply K0 (C20 x.Digests d)
     simp only [go_sem, K5 hx, h0, h1, hw]
     refine ⟨fun hc => ?_, fun hc => ?_⟩
     ·rw [K5v hx (by unfold lackP; rw [u, hc]; rfl)]
      simp only [roomB]
      simp [encI]
      omega
     ·rw [K3h hx (by unfold lackP; rw [u, hc]; rfl)]
      exact ⟨rfl, rfl⟩
    ·rw [K3h hx (by unfold lackP; rw [u]; rfl)]
     exact ⟨rfl, rfl⟩
   ·intro _
    have hul := K5h d l
    have hhl := K6y d l
    simp only [go_sem, List.take_length]
    apply K0 (Ccz (Ko d l) d (by omega))
    simp only [go_sem]
    intros
    have hol := K5k (Ko d l) d
    have hnd := K69 (Ko d l) d
    generalize K1u (Ko d l) d = order at *
    apply K0 (Ccm l d (by omega))
    simp only [go_sem]
    intros
    generalize hN : (holders d l).length = N at *
    refine K6 order (fun m => [(12, vI (N + m : Nat)), (13, vI m)]) (fun m => [(0, ⟨0, .row true 4 ((tellL (order.take m) d l).map GLibrary.enc)⟩)]) (fun m => m ≤ (k - N).toNat) (by simp only [roomB]; omega) ?_
    simp only [go_sem]
    refine ⟨?_, Nat.zero_le _, ?_, ?_⟩
    ·simp only [go_sem, List.take_zero, K7a]
     try rfl
    ·intro m id hx hm h0 h1 hw
     have hml := Kj hx
     have hsx := Kb hx
     have hni : id ∉ order.take m := by
      intro hin
      have h2 := hnd
      rw [← List.take_append_drop m order, List.nodup_append] at h2
      exact h2.2.2 _ hin _ (by rw [Km hx]; simp) rfl
     rw [hsx]
     simp only [go_sem, h1, K1n]
     refine ⟨fun hlt => ?_, fun hge => ?_⟩
     ·refine K6 l (fun j => [(14, vI j)]) (fun j => [(0, ⟨0, .row true 4 ((midL (order.take m) id d l j).map GLibrary.enc)⟩)]) (fun _ => True) (by simp only [roomB]; omega) ?_
      simp only [go_sem]
      refine ⟨?_, trivial, ?_, ?_⟩
      ·simp only [go_sem, midL_zero]
       try rfl
      ·intro j x hj _ g0 g1 gw
       have hxl := K1d (f := GLibrary.size) (K10 hj)
       have hxd : x.Digests.length ≤ 268435456 := by simp only [GLibrary.size] at hxl; omega
       have hmg := midL_get (s := order.take m) (id := id) (d := d) hj
       by_cases he : x.Id = id
       ·rw [K3v (by rw [he]; exact hni)] at hmg
        have hst := midL_step (s := order.take m) (id := id) (d := d) hj
        rw [K7u he] at hst
        rw [← hst]
        simp only [go_sem, K5 hmg, K5 hx, h0, h1, g0, g1, gw, K71, he]
        apply K0 (Cdd x.Digests d (by omega))
        simp only [go_sem, K5 hmg, g0, g1, gw, K71, he]
        intros
        rw [List.map_set]
        rfl
       ·have hsm := midL_same (s := order.take m) (d := d) hj he
        rw [← hsm]
        have hne : ¬ (K24 (order.take m) d x).Id = id := by rw [K91]; exact he
        simp only [go_sem, K5 hmg, K5 hx, h0, h1, g0, g1, gw, K71, hne]
      ·intro _
       have hw2 : IntKind.i64.wrap (((N + m : Nat) : Int) + 1) = ((N + (m + 1) : Nat) : Int) := by simp only [roomB] at *; rw [wI (by omega) (by omega)]; omega
       simp only [go_sem, midL_all, hw, hw2, K1n]
       omega
     ·have em : (k - N).toNat = m := by omega
      rw [em]
    ·intro hm
     simp only [go_sem, List.take_length, K1n]
     rw [List.take_of_length_le (by omega)]
def Kx (l : List GLibrary) (xs : List GContainer) : List GLibrary := xs.foldl (fun l x => repairL l x.Root 3) l
def K12 (a : GArchive) : GArchive := { a with Libraries := Kx a.Libraries a.Disk.Containers }
theorem K56 {l : List GLibrary} {xs : List GContainer} {k : Nat} {x : GContainer} (h : xs[k]? = some x) : Kx l (xs.take (k + 1)) = repairL (Kx l (xs.take k)) x.Root 3 := by
 rw [Kb h, Kx, List.foldl_append]; rfl
theorem K2l : ∀ {xs : List GContainer} {l : List GLibrary}, ((Kx l xs).map GLibrary.size).sum ≤ (l.map GLibrary.size).sum + 6 * xs.length ∧ (Kx l xs).length = l.length
 | [], l => by simp [Kx]
 | x :: xs, l => by
  have h1 := K6o (l := l) (d := x.Root) (k := 3)
  have h2 := K2l (xs := xs) (l := repairL l x.Root 3)
  simp only [Kx, List.foldl_cons, List.length_cons] at *
  omega
theorem K26 {xs : List GContainer} {l : List GLibrary} : (Kx l xs).length = l.length := K2l.2
theorem K6n {l : List GLibrary} {d k : Int} : (repairL l d k).length = l.length := K6o.2
theorem K5w {l : List GLibrary} : Kx l [] = l := rfl
theorem K8y {l : List GLibrary} {d k : Int} (h : K17 l d = false) : repairL l d k = l := by unfold repairL; rw [h]; rfl
theorem K99 (a : GArchive) : (K12 a).size ≤ 7 * a.size := by
 have h := K2l (xs := a.Disk.Containers) (l := a.Libraries)
 simp only [K12, GArchive.size, GDisk.size]
 omega
def M5h : MC :=
(Zs [.box 1 0 (.s 0), .alloc 2 1 [.emp 9, .emp 4, .emp 4, .emp 6, .emp 4, .emp 5, .emp 4, .emp 1, .emp 4, pz], .mv 3 cF] [1,2] (Zs [lT 9 10 1, .call 10 [2, 3, 4, 5, 6, 7, 8, 9, 10] (.f N4q) [.s 9], .alloc 4 11 [.emp 9, .emp 4, .emp 4, .emp 6, .emp 4, .emp 5, .emp 4, .emp 1, .emp 4, pz], sS 10 4 10] [1,2,4] (.seq (Zs [fS 11 1 2, fS 12 11 0, lF 13 1 12, nS 14 13, .mv 15 (ci 0)] [1,2,4,13,14,15] (.block 0 (.loop ([1,2,4,13,14,15], [12,13]) (Zs [bS 16 .lss 15 14] [1,2,4,13,14,15,16] (.seq (cX 16 0)
(.seq (.block 1 (Zs [xS 17 4 13 15, lT 18 4 17, .alloc 6 12 [.emp 4, .emp 5, .emp 9, pz], sS 4 6 18] [1,2,4,6,13,14,15] (Zs [fS 20 4 6, lF 21 1 20, fS 22 6 3, lF 23 1 22, .call 24 [13] (.f N3m) [.s 21, .s 23, .c (.int .i64 3)], mS 19 24, .ext 25 (.s 19) 0, .ext 26 (.s 19) 1, mS 7 25, mS 8 26] [1,2,4,7,8,13,14,15] (Zs [mS 27 8] [1,2,4,7,13,14,15,27] (.cond (.s 27) (.ren [(13, 8)] (pr [mS 28 7, fS 29 4 6, sS 1 29 28] [1,2,4,13,14,15])) .skip)))))
(pr [bC 30 .add 15 1, mS 15 30] [1,2,4,13,14,15])))))))
(.seq (.dreg [Zc [32,33,34,35,36,37] (lT 31 10 4), Zc [31,34,35] (fS 32 4 6), Zd [31,34,35] [1] (lF 33 1 32), Zc [31,32,33] (fS 34 1 6), Zd [31,32,33] [3] (lF 35 1 34), Zd [31] [1,2,3,4] (.call 36 [] (.f N2h) [.s 33, .s 35]), Zg [31] [1,2,3,4,5,6,7,8,9,10] [1,2,3,4,5] (.un 37 .not (.s 36)), { o := sS 10 2 31, hs := [37], ws := [1,2,3,4,5,6,7,8,9,10], bf := (.range 6) }, Ze (.range 8) (mS 3 37)] [2,3])
.ret))))
set_option maxHeartbeats 2000000 in
theorem C59 (a : GArchive) (hs : a.size ≤ 33554432) : Ctr Tryz.prog N1u [aS a.enc] [rS (K12 a).enc, rB (!decide ((K12 a).Libraries = a.Libraries))] := by
 refine cA M5h 14 38 [(.cell 2 true 10, [true, true, true, true, true, true, true, true, true, false]), (.tmp 3, [false])] Tryz.func30 rfl rfl ?_; unfold M5h
 intro hb
 clear hb
 have hlib : a.Libraries.length + (a.Libraries.map GLibrary.size).sum + a.Disk.Containers.length ≤ 33554432 := by simp only [GArchive.size, GDisk.size] at hs; omega
 simp only [go_sem]
 apply K0 (Cax a (by omega))
 simp only [go_sem]
 intros
 refine K6 a.Disk.Containers (fun k => [(15, vI k)]) (fun k => [(8, ⟨0, .row true 4 ((Kx a.Libraries (a.Disk.Containers.take k)).map GLibrary.enc)⟩)]) (fun _ => True) (by simp only [roomB]; omega) ?_
 simp only [go_sem]
 refine ⟨?_, trivial, ?_, ?_⟩
 ·simp only [go_sem, List.take_zero, K5w]
  try trivial
 ·intro k x hx _ h0 h1 hw
  have hsn := K56 (l := a.Libraries) hx
  have hsz := K2l (xs := a.Disk.Containers.take k) (l := a.Libraries)
  have hkl : (a.Disk.Containers.take k).length ≤ a.Disk.Containers.length := by rw [List.length_take]; omega
  rw [hsn]
  have hL : (Kx a.Libraries (a.Disk.Containers.take k)).length = a.Libraries.length := K26
  generalize Kx a.Libraries (a.Disk.Containers.take k) = L at *
  simp only [go_sem, K5 hx, h0, h1, hL]
  apply K0 (Cag L x.Root 3 (by omega))
  simp only [go_sem, hw, hL, K6n, and_self]
  intro _ hn
  rw [K8y hn]
 ·intro _
  simp only [go_sem, List.take_length, K26]
  apply K0 (C8r (Kx a.Libraries a.Disk.Containers) a.Libraries)
  simp only [go_sem, K26]
  exact ⟨⟨rfl, rfl, rfl, rfl, rfl, rfl, rfl, rfl, rfl, rfl⟩, rfl⟩
def M61 : MC :=
(Zs [.box 1 0 (.s 0), .alloc 2 1 [.emp 9, .emp 4, .emp 4, .emp 6, .emp 4, .emp 5, .emp 4, .emp 1, .emp 4, pz], .mv 3 cF] [1,2] (Zs [lT 8 10 1, .call 9 [2, 3, 4, 5, 6, 7, 8, 9, 10] (.f N9o) [.s 8], .alloc 4 11 [.emp 9, .emp 4, .emp 4, .emp 6, .emp 4, .emp 5, .emp 4, .emp 1, .emp 4, pz], sS 10 4 9] [1,2,4] (.seq (Zs [.mv 5 (ci 0)] [1,2,4,5] (.block 0 (.loop ([1,2,4,5], [12]) (.seq (Zs [mS 10 5, fS 11 1 2, fS 12 11 0, lF 13 1 12, nS 14 13, bS 15 .lss 10 14] [1,2,4,5,15] (cX 15 0))
(.seq (.block 1 (.seq (.dreg [Zc [21,22,23,24,25,26,27] (fS 19 4 6), Zd [21,22,23,24,25,26,27] [0] (lF 20 1 19), Zc [19,20,24] (fS 21 1 2), Zd [19,20,24] [2] (fS 22 21 0), Zd [19,20,24] [2,3] (lF 23 1 22), Zc [19,20,21,22,23] (mS 24 5), Zd [19,20] [2,3,4,5] (xS 25 4 23 24), Zd [19,20] [2,3,4,5,6] (fS 26 25 3), Zd [19,20] [2,3,4,5,6,7] (lF 27 1 26), { o := .call 28 [12] (.f N42) [.s 20, .s 27, .c (.int .i64 3)], ws := [12], bf := (.range 9) }, Ze (.range 10) (mS 18 28), Zd [30] (.range 11) (.ext 29 (.s 18) 0), Zd [6,29] (.range 11) (.ext 30 (.s 18) 1), Zd [30] (.range 12) (mS 6 29), Ze (.range 14) (mS 7 30)] [1,2,4,5,6,7])
(Zs [mS 31 7] [1,2,4,5,6,31] (.cond (.s 31) (.ren [(12, 8)] (pr [mS 32 6, fS 33 4 6, sS 1 33 32] [1,2,4,5])) .skip))))
(pr [mS 16 5, bC 17 .add 16 1, mS 5 17] [1,2,4,5]))))))
(.seq (.dreg [Zc [35,36,37,38,39,40] (lT 34 10 4), Zc [34,37,38] (fS 35 4 6), Zd [34,37,38] [1] (lF 36 1 35), Zc [34,35,36] (fS 37 1 6), Zd [34,35,36] [3] (lF 38 1 37), Zd [34] [1,2,3,4] (.call 39 [] (.f N2o) [.s 36, .s 38]), Zg [34] [1,2,3,4,5,6,7,8,9,10] [1,2,3,4,5] (.un 40 .not (.s 39)), { o := sS 10 2 34, hs := [40], ws := [1,2,3,4,5,6,7,8,9,10], bf := (.range 6) }, Ze (.range 8) (mS 3 40)] [2,3])
.ret))))
set_option maxHeartbeats 2000000 in
theorem Cbz (a : GArchive) (hs : a.size ≤ 33554432) : Ctr Tryz.prog N6p [aS a.enc] [rS (K12 a).enc, rB (!decide ((K12 a).Libraries = a.Libraries))] := by
 refine cA M61 13 41 [(.cell 2 true 10, [true, true, true, true, true, true, true, true, true, false]), (.tmp 3, [false])] Tryz.func29 rfl rfl ?_; unfold M61
 intro hb
 clear hb
 have hlib : a.Libraries.length + (a.Libraries.map GLibrary.size).sum + a.Disk.Containers.length ≤ 33554432 := by simp only [GArchive.size, GDisk.size] at hs; omega
 simp only [go_sem]
 apply K0 (Cd7 a (by omega))
 simp only [go_sem]
 intros
 refine K6 a.Disk.Containers (fun k => [(5, vI k)]) (fun k => [(8, ⟨0, .row true 4 ((Kx a.Libraries (a.Disk.Containers.take k)).map GLibrary.enc)⟩)]) (fun _ => True) (by simp only [roomB]; omega) ?_
 simp only [go_sem]
 refine ⟨?_, trivial, ?_, ?_⟩
 ·simp only [go_sem, List.take_zero, K5w]
  try trivial
 ·intro k x hx _ h0 h1 hw
  have hsn := K56 (l := a.Libraries) hx
  have hsz := K2l (xs := a.Disk.Containers.take k) (l := a.Libraries)
  have hkl : (a.Disk.Containers.take k).length ≤ a.Disk.Containers.length := by rw [List.length_take]; omega
  rw [hsn]
  have hL : (Kx a.Libraries (a.Disk.Containers.take k)).length = a.Libraries.length := K26
  generalize Kx a.Libraries (a.Disk.Containers.take k) = L at *
  simp only [go_sem, K5 hx, h0, h1, hL]
  apply K0 (Cav L x.Root 3 (by omega))
  simp only [go_sem, hw, hL, K6n, and_self]
  intro _ hn
  rw [K8y hn]
 ·intro _
  simp only [go_sem, List.take_length, K26]
  apply K0 (C90 (Kx a.Libraries a.Disk.Containers) a.Libraries)
  simp only [go_sem, K26]
  exact ⟨⟨rfl, rfl, rfl, rfl, rfl, rfl, rfl, rfl, rfl, rfl⟩, rfl⟩
end Go.Proofs.YtgkeplbnnjogiaaGreatR
namespace Go.Proofs.YtgkeplbnnjogiaaGreatR
open Go Go.RowKit Go.Proofs
open Nat (reduceEqDiff reduceLT reduceLeDiff reduceAdd reduceMul)
open List (reduceReplicate)
def M1l : MC :=
(Zs [.box 1 0 (.s 0), .mv 2 cF] [1] (Zs [.mv 3 (ci 1048576)] [1,3] (Zs [lT 14 10 1, mS 15 3, .call 16 [] (.f N7l) [.s 14, .s 15], mS 3 16] [1,3] (.seq (Zs [mS 17 3, bC 18 .lss 17 0] [1,18] (.cond (.s 18) (Zs [.mv 2 cT] [2] .ret) .skip))
(Zs [lT 20 10 1, .call 21 [1, 2, 3, 4, 5, 6, 7, 8, 9] (.f Ns) [.s 20], .call 22 [10, 11, 12, 13, 14, 15, 16, 17, 18] (.f N6p) [.s 21], mS 19 22, .ext 23 (.s 19) 0, .ext 24 (.s 19) 1, .alloc 4 19 [.emp 9, .emp 4, .emp 4, .emp 6, .emp 4, .emp 5, .emp 4, .emp 1, .emp 4, pz], sS 10 4 23, mS 5 24] [1,4,5] (Zs [lT 25 10 1, .call 26 [20, 21, 22, 23, 24, 25, 26, 27, 28] (.f Ns) [.s 25], .alloc 6 29 [.emp 9, .emp 4, .emp 4, .emp 6, .emp 4, .emp 5, .emp 4, .emp 1, .emp 4, pz], sS 10 6 26] [1,4,5,6] (Zs [lT 28 10 6, .call 29 [30, 31, 32, 33, 34, 35, 36, 37, 38] (.f N1u) [.s 28], mS 27 29, .ext 30 (.s 27) 0, .ext 31 (.s 27) 1, .alloc 7 39 [.emp 9, .emp 4, .emp 4, .emp 6, .emp 4, .emp 5, .emp 4, .emp 1, .emp 4, pz], sS 10 7 30, mS 8 31] [1,4,5,6,7,8] (.seq (.seq (.reg [Za (lT 32 10 7), Za (lT 33 10 4), Za (.call 34 [] (.f Nq) [.s 32, .s 33]), Za (.un 35 .not (.s 34)), Za (mS 36 35), Zb 36 false (mS 37 8), Zb 36 false (mS 38 5), Zb 36 false (.bin 39 true .neq (.s 37) (.s 38)), Za (.pick 40 (.s 36) cT (.s 39))] [1,4,5,6,7,8,40])
(.cond (.s 40) (Zs [.mv 2 cF] [2] .ret) .skip))
(.seq (.seq (.dreg [Zf [42,43] [40,41,42,43,44,45,46,47,48] (lT 41 10 6), Zc [41] (lT 42 10 1), { o := .call 43 [40, 41, 42, 43, 44, 45, 46, 47, 48] (.f Ns) [.s 42], hs := [41], ws := [40,41,42,43,44,45,46,47,48], bf := [1] }, Ze [0,1,2] (.call 44 [] (.f Nq) [.s 41, .s 43]), Ze (.range 4) (.un 45 .not (.s 44))] [1,4,5,6,7,8,45])
(.cond (.s 45) (Zs [.mv 2 cF] [2] .ret) .skip))
(Zs [.mv 9 (ci 1)] [1,4,5,6,7,8,9] (Zs [lT 46 10 6, mS 47 9, .callI 48 [] (.f N1n) [.s 46, .s 47] [20,21,22,23,24,25,26,27,28] [], mS 9 48] [1,4,5,7,8,9] (.seq (.seq (.reg [Za (mS 49 9), Za (bC 50 .lss 49 0), Za (mS 51 50), Zb 51 false (lT 52 10 7), Zb 51 false (lT 53 10 4), Zb 51 false (.call 54 [] (.f Nq) [.s 52, .s 53]), Zb 51 false (.un 55 .not (.s 54)), Za (.pick 56 (.s 51) cT (.s 55)), Za (mS 57 56), Zb 57 false (mS 58 8), Zb 57 false (mS 59 5), Zb 57 false (.bin 60 true .neq (.s 58) (.s 59)), Za (.pick 61 (.s 57) cT (.s 60))] [1,4,5,7,61])
(.cond (.s 61) (Zs [.mv 2 cF] [2] .ret) .skip))
(Zs [.mv 10 (ci 1)] [1,4,5,7,10] (Zs [lT 62 10 7, mS 63 10, .callI 64 [] (.f N1n) [.s 62, .s 63] [30,31,32,33,34,35,36,37,38] [], mS 10 64] [1,4,5,7,10] (Zs [.mv 11 (ci 1)] [1,4,5,7,10,11] (Zs [lT 65 10 7, mS 66 11, .call 67 [] (.f N1m) [.s 65, .s 66], mS 11 67] [1,4,5,7,10,11] (.seq (Zs [mS 68 11, bC 69 .lss 68 0] [1,4,5,7,10,11,69] (.cond (.s 69) (Zs [.mv 2 cF] [2] .ret) .skip))
(.seq (Zs [mS 70 11, mS 71 10, bS 72 .neq 70 71] [1,4,5,7,10,72] (.cond (.s 72) (Zs [.mv 2 cF] [2] .ret) .skip))
(Zs [lT 74 10 1, .call 75 [49, 50, 51, 52, 53, 54, 55, 56, 57] (.f Ns) [.s 74], .call 76 [58, 59, 60, 61, 62, 63, 64, 65, 66] (.f N1u) [.s 75], mS 73 76, .ext 77 (.s 73) 0, .ext 78 (.s 73) 1, .alloc 12 67 [.emp 9, .emp 4, .emp 4, .emp 6, .emp 4, .emp 5, .emp 4, .emp 1, .emp 4, pz], sS 10 12 77, mS 13 78] [4,5,7,10,12,13] (.seq (.seq (.reg [Za (lT 79 10 12), Za (lT 80 10 4), Za (.call 81 [] (.f Nq) [.s 79, .s 80]), Za (.un 82 .not (.s 81)), Za (mS 83 82), Zb 83 false (mS 84 13), Zb 83 false (mS 85 5), Zb 83 false (.bin 86 true .neq (.s 84) (.s 85)), Za (.pick 87 (.s 83) cT (.s 86))] [7,10,87])
(.cond (.s 87) (Zs [.mv 2 cF] [2] .ret) .skip))
(Zs [.mv 11 (ci 1)] [7,10,11] (Zs [lT 88 10 7, mS 89 11, .call 90 [] (.f N1m) [.s 88, .s 89], mS 11 90] [10,11] (.seq (Zs [mS 91 11, bC 92 .lss 91 0] [10,11,92] (.cond (.s 92) (Zs [.mv 2 cF] [2] .ret) .skip))
(.seq (Zs [mS 93 11, mS 94 10, bS 95 .neq 93 94] [95] (.cond (.s 95) (Zs [.mv 2 cF] [2] .ret) .skip))
(Zs [.mv 2 cT] [2] .ret)))))))))))))))))))))))))
theorem c_laws_FnExactStepRepair (a : GArchive) : Ctr Tryz.prog N7g [aS a.enc] [rB true] := by
 refine cA M1l 68 96 [(.tmp 2, [false])] Tryz.func7 rfl rfl ?_; unfold M1l
 intro hb
 clear hb
 simp only [go_sem]
 apply K0 (Ccd a _ (by omega))
 simp only [go_sem]
 intro _ hz
 have hs := szr_ok hz
 have hc_a := GArchive.cts_le a
 have hr0 := GArchive.cts_le (K12 a)
 have hl_repairTo_size := K99 a
 apply K0 (C13 a (by omega))
 simp only [go_sem]
 try intros
 apply K0 (Cbz a (by omega))
 simp only [go_sem]
 try intros
 apply K0 (C13 a (by omega))
 simp only [go_sem]
 try intros
 apply K0 (C59 a (by omega))
 simp only [go_sem]
 try intros
 apply K0 (C12 (K12 a) (K12 a))
 simp only [go_sem]
 try intros
 apply K0 (C13 a (by omega))
 simp only [go_sem]
 try intros
 apply K0 (C12 a a)
 simp only [go_sem]
 try intros
 apply K9 (C4b a (1) (by omega) (by omega))
 simp only [go_sem]
 try intros
 have hk : ¬ ((1 + ((a).cts : Nat) : Int)) < 0 := by omega
 simp only [go_sem, hk]
 try intros
 apply K0 (C12 (K12 a) (K12 a))
 simp only [go_sem]
 try intros
 apply K9 (C4b (K12 a) (1) (by omega) (by omega))
 simp only [go_sem]
 try intros
 apply K0 (C4a (K12 a) (1) (by omega) (by omega))
 simp only [go_sem]
 have hq0 : ¬ ((1 + ((K12 a).cts : Nat) : Int)) < 0 := by omega
 try simp only [go_sem, hq0]
 try intros
 apply K0 (C13 a (by omega))
 simp only [go_sem]
 try intros
 apply K0 (C59 a (by omega))
 simp only [go_sem]
 try intros
 apply K0 (C12 (K12 a) (K12 a))
 simp only [go_sem]
 try intros
 apply K0 (C4a (K12 a) (1) (by omega) (by omega))
 simp only [go_sem]
 have hq0 : ¬ ((1 + ((K12 a).cts : Nat) : Int)) < 0 := by omega
 try simp only [go_sem, hq0]
 try intros
end Go.Proofs.YtgkeplbnnjogiaaGreatR
