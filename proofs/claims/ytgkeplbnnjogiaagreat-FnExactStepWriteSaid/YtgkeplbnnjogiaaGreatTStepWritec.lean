/- What the functions compute that the laws of StepWrite reach: contracts. Conditions stand in each theorem. -/
import Derived.Shelf.Sort.Plain
import Derived.Ground.Names2Prog
import Derived.Shelf.Slices.CompactI
import Derived.Shelf.Slices.In.SortNone
import Derived.Shelf.Spec.SlicesInsertGrow
import Derived.Test.YtgkeplbnnjogiaaGreatTStepWriteb
set_option linter.unusedVariables false
set_option linter.unusedSimpArgs false
namespace Go.Proofs.YtgkeplbnnjogiaaGreatR
open Go Go.RowKit Go.Proofs
open Nat (reduceEqDiff reduceLT reduceLeDiff reduceAdd reduceMul)
open List (reduceReplicate)
def m_impl_ScriptInts : MC :=
(.seq (pr [.nilo 2 0 1] [0])
(.seq (pr [.nilo 3 0 1] [0,3])
(.seq (.seq (pr [.mv 6 (.s 0), .len 7 false (.s 6), .mv 8 (ci 0)] [3,6,7,8])
(.block 0 (.loop ([3,6,7,8], [1,2]) (.seq (pr [.bin 9 false .lss (.s 8) (.s 7)] [3,6,7,8,9])
(.seq (.cond (.s 9) .skip (.exit 0))
(.seq (.block 1 (.seq (pr [.idx 10 4 (.s 6) (.s 8), .load 11 true 4 (.s 10), .alloc 5 1 [pz, pz, pz, pz], .store 4 (.s 5) (.s 11)] [3,5,6,7,8])
(pr [.mv 12 (.s 3), .fld 13 (.s 5) 0, .load 14 false 1 (.s 13), .fld 15 (.s 5) 1, .load 16 false 1 (.s 15), .fld 17 (.s 5) 2, .load 18 false 1 (.s 17), .fld 19 (.s 5) 3, .load 20 false 1 (.s 19), .lit 21 2 1 8 [.s 14, .s 16, .s 18, .s 20], .app 22 0 1 8 (.s 12) (.s 21), .mv 3 (.s 22)] [3,6,7,8])))
(pr [.bin 23 false .add (.s 8) (ci 1), .mv 8 (.s 23)] [3,6,7,8])))))))
(.seq (pr [.mv 24 (.s 3), .mv 2 (.s 24)] [2])
.ret))))
theorem c_impl_ScriptInts (xs : List GOp) (hN : xs.length ≤ 1099511627776) : Ctr Tryz.prog n_impl_ScriptInts [aL 4 (xs.map GOp.enc)] [rL 1 ((scriptInts xs).map encI)] := by
 refine cA m_impl_ScriptInts 3 25 [(.tmp 2, [true])] Tryz.func355 rfl rfl ?_; unfold m_impl_ScriptInts
 intro hb
 simp only [bdA, bdL, bdT, bdR_map, roomB, and_true, List.length_map] at hb
 obtain ⟨hl, -⟩ := hb
 simp only [↓reduceIte, go_sem]
 refine loopK_rng xs (fun k => [(3, .val false [.ref 0 0 1 0 (scriptInts (xs.take k)).length]), (8, vI k)]) (fun k => [(0, ⟨0, .row true 1 ((scriptInts (xs.take k)).map encI)⟩)]) (fun _ => True) hl ?_
 simp only [↓reduceIte, go_sem]
 refine ⟨?_, trivial, ?_, ?_⟩
 ·simp only [↓reduceIte, go_sem, List.take_zero]
  exact ⟨rfl, rfl⟩
 ·intro k x hx _ h0 h1 hw
  have hlt := List.length_take_le k xs
  simp only [↓reduceIte, go_sem, bk_eq hx, h0, h1, hw, scriptInts_snoc hx, List.length_append, scriptInts_len]
  refine ⟨⟨by simp, by decide⟩, by simp only [roomB]; omega, by simp [encI]⟩
 ·intro _
  simp only [↓reduceIte, go_sem, List.take_length]
def m_impl_SealContainer : MC :=
(.seq (pr [.alloc 6 0 [.emp 4, .emp 5, .emp 9, pz]] [0,1,2,6])
(.seq (pr [.nilo 7 1 1, .nilo 8 2 1] [0,1,2,6,7,8])
(.seq (.seq (pr [.mv 13 (.s 1), .len 14 false (.s 13), .mv 15 (ci 0)] [0,1,2,6,7,8,13,14,15])
(.block 0 (.loop ([0,1,2,6,7,8,13,14,15], [3,4,5,6,7,11,12]) (.seq (pr [.bin 16 false .lss (.s 15) (.s 14)] [0,1,2,6,7,8,13,14,15,16])
(.seq (.cond (.s 16) .skip (.exit 0))
(.seq (.block 1 (.seq (pr [.idx 17 5 (.s 13) (.s 15), .load 18 true 5 (.s 17), .alloc 10 3 [pz, pz, pz, pz, pz], .store 5 (.s 10) (.s 18)] [0,1,2,6,7,8,10,13,14,15])
(pr [.mv 19 (.s 7), .fld 20 (.s 10) 0, .load 21 false 1 (.s 20), .fld 22 (.s 10) 1, .fld 23 (.s 22) 0, .load 24 false 1 (.s 23), .fld 25 (.s 10) 1, .fld 26 (.s 25) 1, .load 27 false 1 (.s 26), .fld 28 (.s 10) 1, .fld 29 (.s 28) 2, .load 30 false 1 (.s 29), .fld 31 (.s 10) 4, .load 32 false 1 (.s 31), .lit 33 4 1 8 [.s 21, .s 24, .s 27, .s 30, .s 32], .app 34 1 1 8 (.s 19) (.s 33), .mv 7 (.s 34)] [0,1,2,6,7,8,13,14,15])))
(pr [.bin 35 false .add (.s 15) (ci 1), .mv 15 (.s 35)] [0,1,2,6,7,8,13,14,15])))))))
(.seq (.seq (pr [.mv 36 (.s 2), .len 37 false (.s 36), .mv 38 (ci 0)] [0,1,2,6,7,8,36,37,38])
(.block 2 (.loop ([0,1,2,6,7,8,36,37,38], [3,4,5,6,7,11,12]) (.seq (pr [.bin 39 false .lss (.s 38) (.s 37)] [0,1,2,6,7,8,36,37,38,39])
(.seq (.cond (.s 39) .skip (.exit 2))
(.seq (.block 3 (.seq (pr [.idx 40 9 (.s 36) (.s 38), .load 41 true 9 (.s 40), .alloc 12 5 [pz, pz, pz, pz, pz, .emp 1, pz, pz, pz], .store 9 (.s 12) (.s 41)] [0,1,2,6,7,8,12,36,37,38])
(pr [.mv 42 (.s 8), .load 43 true 9 (.s 12), .call 44 [6] (.f n_impl_CaptureInts) [.s 43], .call 45 [] (.f n_impl_Hash) [.s 44], .lit 46 7 1 8 [.s 45], .app 47 2 1 8 (.s 42) (.s 46), .mv 8 (.s 47)] [0,1,2,6,7,8,36,37,38])))
(pr [.bin 48 false .add (.s 38) (ci 1), .mv 38 (.s 48)] [0,1,2,6,7,8,36,37,38])))))))
(.seq (pr [.mv 49 (.s 0), .call 50 [8] (.f n_slices_Clone_impl_Op_impl_Op) [.s 49], .mv 51 (.s 1), .call 52 [9] (.f n_slices_Clone_impl_Entry_impl_Entry) [.s 51], .mv 53 (.s 2), .call 54 [10] (.f n_impl_copyCaptures) [.s 53], .mv 55 (.s 0), .call 56 [11] (.f n_impl_ScriptInts) [.s 55], .call 57 [] (.f n_impl_Hash) [.s 56], .mv 58 (.s 7), .call 59 [] (.f n_impl_Hash) [.s 58], .mv 60 (.s 8), .call 61 [] (.f n_impl_RootOf) [.s 60], .lit 62 12 1 8 [.s 57, .s 59, .s 61], .call 63 [] (.f n_impl_RootOf) [.s 62], .build 64 [.emp 4, .emp 5, .emp 9, pz] [(0, 1, .s 50), (1, 1, .s 52), (2, 1, .s 54), (3, 1, .s 63)], .store 4 (.s 6) (.s 64)] [6])
.ret)))))
theorem c_impl_SealContainer (l : List GOp) (es : List GEntry) (cs : List GCapture) (h1 : l.length ≤ 1073741824) (h2 : es.length ≤ 1073741824) (hs : cs.length + (cs.map GCapture.size).sum ≤ 1073741824) :
  Ctr Tryz.prog n_impl_SealContainer [aL 4 (l.map GOp.enc), aL 5 (es.map GEntry.enc), aL 9 (cs.map GCapture.enc)] [rS (GContainer.enc ⟨l, es, cs, sealRoot l es cs⟩)] := by
 refine cA m_impl_SealContainer 13 65 [(.cell 6 true 4, [true, true, true, false])] Tryz.func257 rfl rfl ?_; unfold m_impl_SealContainer
 intro hb
 clear hb
 simp only [↓reduceIte, go_sem]
 refine loopK_rng es (fun k => [(7, .val false [.ref 1 0 1 0 (entInts (es.take k)).length]), (15, vI k)]) (fun k => [(1, ⟨0, .row true 1 ((entInts (es.take k)).map encI)⟩)]) (fun _ => True) (by simp only [roomB]; omega) ?_
 simp only [↓reduceIte, go_sem]
 refine ⟨?_, trivial, ?_, ?_⟩
 ·simp only [↓reduceIte, go_sem, List.take_zero]
  exact ⟨rfl, rfl⟩
 ·intro k x hx _ h0 h1 hw
  have hlt := List.length_take_le k es
  simp only [↓reduceIte, go_sem, bk_eq hx, h0, h1, hw, entInts_snoc hx, List.length_append, entInts_len]
  refine ⟨⟨by simp, by decide⟩, by simp only [roomB]; omega, by simp [encI]⟩
 ·intro _
  simp only [↓reduceIte, go_sem, List.take_length]
  refine loopK_rng cs (fun k => [(8, .val false [.ref 2 0 1 0 (capHashes (cs.take k)).length]), (38, vI k)]) (fun k => [(2, ⟨0, .row true 1 ((capHashes (cs.take k)).map encI)⟩)]) (fun _ => True) (by simp only [roomB]; omega) ?_
  simp only [↓reduceIte, go_sem]
  refine ⟨?_, trivial, ?_, ?_⟩
  ·simp only [↓reduceIte, go_sem, List.take_zero]
   exact ⟨rfl, rfl⟩
  ·intro k x hx _ h0 h1 hw
   have hlt := List.length_take_le k cs
   simp only [↓reduceIte, go_sem, bk_eq hx, h0, h1, capHashes_snoc hx, List.length_append]
   apply callK_of (c_impl_CaptureInts x (body_le hx hs))
   simp only [↓reduceIte, go_sem]
   try intro _
   apply callK_of (c_impl_Hash (capInts x))
   simp only [↓reduceIte, go_sem, hw]
   simp only [roomB, capHashes_len]
   exact ⟨by omega, by omega, fun _ => by simp [encI]⟩
  ·intro _
   simp only [↓reduceIte, go_sem, List.take_length]
   apply callK_of (c_slices_Clone_Op l (by omega))
   simp only [↓reduceIte, go_sem]
   intros
   apply callK_of (c_slices_Clone_Entry es (by omega))
   simp only [↓reduceIte, go_sem]
   intros
   apply callK_of (c_impl_copyCaptures cs hs)
   simp only [↓reduceIte, go_sem]
   intros
   apply callK_of (c_impl_ScriptInts l (by omega))
   simp only [↓reduceIte, go_sem]
   try intros
   apply callK_of (c_impl_Hash (scriptInts l))
   simp only [↓reduceIte, go_sem]
   try intros
   apply callK_of (c_impl_Hash (entInts es))
   simp only [↓reduceIte, go_sem]
   try intros
   apply callK_of (c_impl_RootOf _ (capHashes cs) (Nat.le_refl _))
   simp only [↓reduceIte, go_sem]
   try intros
   refine ⟨by decide, ?_⟩
   apply callK_of (c_impl_RootOf _ [hashL (scriptInts l), hashL (entInts es), rootL (capHashes cs)] (Nat.le_refl _))
   simp only [↓reduceIte, go_sem]
   intros
   rfl
def contOk (x : GContainer) : Bool := scriptOk x.Script && (entsOk x.Entries && (capsOk x.Captures && (sealRoot x.Script x.Entries x.Captures == x.Root)))
def m_impl_IsContainer : MC :=
(.seq (pr [.box 1 0 (.s 0), .mv 2 cF] [1])
(.seq (.dreg [Za (.fld 3 (.s 1) 0), Ze [0] (.load 4 false 1 (.s 3)), Ze [0,1] (.call 5 [] (.f n_impl_IsScript) [.s 4]), Ze [0,1,2] (.mv 6 (.s 5)), { o := .fld 7 (.s 1) 1, g := some (6, true), bf := (.range 4) }, { o := .load 8 false 1 (.s 7), g := some (6, true), bf := (.range 5) }, { o := .call 9 [] (.f n_impl_AreEntries) [.s 8], g := some (6, true), bf := (.range 6) }, Ze (.range 7) (.pick 10 (.s 6) (.s 9) cF), Ze (.range 8) (.mv 11 (.s 10)), { o := .fld 12 (.s 1) 2, g := some (11, true), bf := (.range 9) }, { o := .load 13 false 1 (.s 12), g := some (11, true), bf := (.range 10) }, { o := .call 14 [] (.f n_impl_AreCaptures) [.s 13], g := some (11, true), bf := (.range 11) }, Ze (.range 12) (.pick 15 (.s 11) (.s 14) cF), Ze (.range 13) (.mv 16 (.s 15)), { o := .fld 17 (.s 1) 0, g := some (16, true), hs := [19,20,21,22,25,26], bf := (.range 14) }, { o := .load 18 false 1 (.s 17), g := some (16, true), hs := [19,20,21,22,25,26], bf := (.range 15) }, { o := .fld 19 (.s 1) 1, g := some (16, true), hs := [17,18,21,22,25,26], bf := (.range 14) }, { o := .load 20 false 1 (.s 19), g := some (16, true), hs := [17,18,21,22,25,26], bf := [0,1,2,3,4,5,6,7,8,9,10,11,12,13,16] }, { o := .fld 21 (.s 1) 2, g := some (16, true), hs := [17,18,19,20,25,26], bf := (.range 14) }, { o := .load 22 false 1 (.s 21), g := some (16, true), hs := [17,18,19,20,25,26], bf := [0,1,2,3,4,5,6,7,8,9,10,11,12,13,18] }, { o := .call 23 [1, 2, 3] (.f n_impl_SealContainer) [.s 18, .s 20, .s 22], g := some (16, true), hs := [25,26], ws := [1,2,3], bf := (.range 20) }, { o := .fldv 24 (.s 23) 3 1 false, g := some (16, true), hs := [25,26], bf := (.range 21) }, { o := .fld 25 (.s 1) 3, g := some (16, true), hs := [17,18,19,20,21,22,23,24], ho := [1,2,3], bf := (.range 14) }, { o := .load 26 false 1 (.s 25), g := some (16, true), hs := [17,18,19,20,21,22,23,24], ho := [1,2,3], bf := [0,1,2,3,4,5,6,7,8,9,10,11,12,13,22] }, { o := .bin 27 false .eql (.s 24) (.s 26), g := some (16, true), bf := (.range 24) }, Ze (.range 25) (.pick 28 (.s 16) (.s 27) cF), Ze (.range 26) (.mv 2 (.s 28))] [2])
.ret))
theorem c_impl_IsContainer (x : GContainer) (hs : x.size ≤ 1073741824) : Ctr Tryz.prog n_impl_IsContainer [aS x.enc] [rB (contOk x)] := by
 refine cA m_impl_IsContainer 4 29 [(.tmp 2, [false])] Tryz.func259 rfl rfl ?_; unfold m_impl_IsContainer
 intro hb
 clear hb
 simp only [GContainer.size] at hs
 simp only [↓reduceIte, go_sem]
 repeat' first
  | (refine And.intro ?_ ?_ <;> intro h)
  | (apply callK_of (c_impl_IsScript _); simp only [↓reduceIte, go_sem])
  | (apply callK_of (c_impl_AreEntries _); simp only [↓reduceIte, go_sem])
  | (apply callK_of (c_impl_AreCaptures _); simp only [↓reduceIte, go_sem])
  | (apply callK_of (c_impl_SealContainer x.Script x.Entries x.Captures (by omega) (by omega) (by omega)); simp only [↓reduceIte, go_sem]; intros)
 all_goals (unfold contOk; simp_all)
def m_spec_IsContainer : MC :=
(.seq (pr [.box 1 0 (.s 0), .mv 2 cF] [1])
(.seq (.dreg [Za (.fld 3 (.s 1) 0), Ze [0] (.load 4 false 1 (.s 3)), Ze [0,1] (.call 5 [] (.f n_spec_IsScript) [.s 4]), Ze [0,1,2] (.mv 6 (.s 5)), { o := .fld 7 (.s 1) 1, g := some (6, true), bf := (.range 4) }, { o := .load 8 false 1 (.s 7), g := some (6, true), bf := (.range 5) }, { o := .call 9 [] (.f n_spec_AreEntries) [.s 8], g := some (6, true), bf := (.range 6) }, Ze (.range 7) (.pick 10 (.s 6) (.s 9) cF), Ze (.range 8) (.mv 11 (.s 10)), { o := .fld 12 (.s 1) 2, g := some (11, true), bf := (.range 9) }, { o := .load 13 false 1 (.s 12), g := some (11, true), bf := (.range 10) }, { o := .call 14 [] (.f n_spec_AreCaptures) [.s 13], g := some (11, true), bf := (.range 11) }, Ze (.range 12) (.pick 15 (.s 11) (.s 14) cF), Ze (.range 13) (.mv 16 (.s 15)), { o := .fld 17 (.s 1) 0, g := some (16, true), hs := [19,20,21,22,25,26], bf := (.range 14) }, { o := .load 18 false 1 (.s 17), g := some (16, true), hs := [19,20,21,22,25,26], bf := (.range 15) }, { o := .fld 19 (.s 1) 1, g := some (16, true), hs := [17,18,21,22,25,26], bf := (.range 14) }, { o := .load 20 false 1 (.s 19), g := some (16, true), hs := [17,18,21,22,25,26], bf := [0,1,2,3,4,5,6,7,8,9,10,11,12,13,16] }, { o := .fld 21 (.s 1) 2, g := some (16, true), hs := [17,18,19,20,25,26], bf := (.range 14) }, { o := .load 22 false 1 (.s 21), g := some (16, true), hs := [17,18,19,20,25,26], bf := [0,1,2,3,4,5,6,7,8,9,10,11,12,13,18] }, { o := .call 23 [1, 2, 3] (.f n_spec_SealContainer) [.s 18, .s 20, .s 22], g := some (16, true), hs := [25,26], ws := [1,2,3], bf := (.range 20) }, { o := .fldv 24 (.s 23) 3 1 false, g := some (16, true), hs := [25,26], bf := (.range 21) }, { o := .fld 25 (.s 1) 3, g := some (16, true), hs := [17,18,19,20,21,22,23,24], ho := [1,2,3], bf := (.range 14) }, { o := .load 26 false 1 (.s 25), g := some (16, true), hs := [17,18,19,20,21,22,23,24], ho := [1,2,3], bf := [0,1,2,3,4,5,6,7,8,9,10,11,12,13,22] }, { o := .bin 27 false .eql (.s 24) (.s 26), g := some (16, true), bf := (.range 24) }, Ze (.range 25) (.pick 28 (.s 16) (.s 27) cF), Ze (.range 26) (.mv 2 (.s 28))] [2])
.ret))
theorem c_spec_IsContainer (x : GContainer) (hs : x.size ≤ 1073741824) : Ctr Tryz.prog n_spec_IsContainer [aS x.enc] [rB (contOk x)] := by
 refine cA m_spec_IsContainer 4 29 [(.tmp 2, [false])] Tryz.func250 rfl rfl ?_; unfold m_spec_IsContainer
 intro hb
 clear hb
 simp only [GContainer.size] at hs
 simp only [↓reduceIte, go_sem]
 repeat' first
  | (refine And.intro ?_ ?_ <;> intro h)
  | (apply callK_of (c_spec_IsScript _); simp only [↓reduceIte, go_sem])
  | (apply callK_of (c_spec_AreEntries _); simp only [↓reduceIte, go_sem])
  | (apply callK_of (c_spec_AreCaptures _); simp only [↓reduceIte, go_sem])
  | (apply callK_of (c_spec_SealContainer x.Script x.Entries x.Captures (by omega) (by omega) (by omega)); simp only [↓reduceIte, go_sem]; intros)
 all_goals (unfold contOk; simp_all)
def m_impl_badContainer : MC :=
(.seq (pr [.box 1 0 (.s 0), .mv 2 cF] [1])
(.seq (pr [.load 3 true 4 (.s 1), .call 4 [] (.f n_impl_IsContainer) [.s 3], .un 5 .not (.s 4), .mv 2 (.s 5)] [2])
.ret))
theorem c_impl_badContainer (x : GContainer) (hs : x.size ≤ 1073741824) : Ctr Tryz.prog n_impl_badContainer [aS x.enc] [rB (!contOk x)] := by
 refine cA m_impl_badContainer 1 6 [(.tmp 2, [false])] Tryz.func296 rfl rfl ?_; unfold m_impl_badContainer
 intro hb
 clear hb
 simp only [↓reduceIte, go_sem]
 apply callK_of (c_impl_IsContainer x hs)
 simp only [↓reduceIte, go_sem]
def whole (d : GDisk) : Bool := decide (d.Index = index d.Containers)
def diskOk (d : GDisk) : Bool := fewAll 6 contOk d.Containers && (fewAll 1 contOk d.Wanted && (whole d || (decide (0 < d.Containers.length) && decide (d.Index = index d.Containers.dropLast))))
theorem diskOk_no1 {d : GDisk} {k : Nat} {x : GContainer} (hx : d.Containers[k]? = some x) (h : contOk x = false) : false = diskOk d := by
 unfold diskOk; rw [← fewAll_at (n := 6) hx h, Bool.false_and]
theorem diskOk_no2 {d : GDisk} {k : Nat} {x : GContainer} (hx : d.Wanted[k]? = some x) (h : contOk x = false) : false = diskOk d := by
 unfold diskOk; rw [← fewAll_at (n := 1) hx h, Bool.false_and, Bool.and_false]
def m_impl_Disk_follows : MC :=
(.seq (pr [.box 1 0 (.s 0), .mv 2 cF] [1])
(.seq (.dreg [Zf [5,6,7] [1] (.fld 3 (.s 1) 1), Zg [5,6,7] [1] [0] (.load 4 false 1 (.s 3)), Zc [3,4] (.fld 5 (.s 1) 0), Zd [3,4] [2] (.load 6 false 1 (.s 5)), { o := .call 7 [1] (.f n_impl_BuildIndex) [.s 6], hs := [3,4], ws := [1], bf := [2,3] }, Ze (.range 5) (.call 8 [] (.f n_slices_Equal_impl_Found_impl_Found) [.s 4, .s 7]), Ze (.range 6) (.mv 2 (.s 8))] [2])
.ret))
theorem c_impl_follows (d : GDisk) (hs : d.size ≤ 1073741824) : Ctr Tryz.prog n_impl_Disk_follows [aS d.enc] [rB (whole d)] := by
 refine cA m_impl_Disk_follows 2 9 [(.tmp 2, [false])] Tryz.func188 rfl rfl ?_; unfold m_impl_Disk_follows
 intro hb
 clear hb
 simp only [GDisk.size] at hs
 simp only [↓reduceIte, go_sem]
 apply callK_of (c_impl_BuildIndex d.Containers (by omega))
 simp only [↓reduceIte, go_sem]
 intros
 apply callK_of (c_slices_Equal_Found _ _)
 simp only [↓reduceIte, go_sem]
 intros
 rfl
def m_spec_l31Whole : MC :=
(.seq (pr [.box 1 0 (.s 0), .mv 2 cF] [1])
(.seq (.dreg [Zf [5,6,7] [1] (.fld 3 (.s 1) 1), Zg [5,6,7] [1] [0] (.load 4 false 1 (.s 3)), Zc [3,4] (.fld 5 (.s 1) 0), Zd [3,4] [2] (.load 6 false 1 (.s 5)), { o := .call 7 [1] (.f n_spec_BuildIndex) [.s 6], hs := [3,4], ws := [1], bf := [2,3] }, Ze (.range 5) (.call 8 [] (.f n_spec_l31Same) [.s 4, .s 7]), Ze (.range 6) (.mv 2 (.s 8))] [2])
.ret))
theorem c_spec_l31Whole (d : GDisk) (hs : d.size ≤ 1073741824) : Ctr Tryz.prog n_spec_l31Whole [aS d.enc] [rB (whole d)] := by
 refine cA m_spec_l31Whole 2 9 [(.tmp 2, [false])] Tryz.func177 rfl rfl ?_; unfold m_spec_l31Whole
 intro hb
 clear hb
 simp only [GDisk.size] at hs
 simp only [↓reduceIte, go_sem]
 apply callK_of (c_spec_BuildIndex d.Containers (by omega))
 simp only [↓reduceIte, go_sem]
 intros
 apply callK_of (c_spec_l31Same _ _)
 simp only [↓reduceIte, go_sem]
 intros
 rfl
theorem take_sz {l : List GContainer} {n N : Nat} (h : l.length + (l.map GContainer.size).sum ≤ N) : (l.take n).length + ((l.take n).map GContainer.size).sum ≤ N := by
 have h1 := List.length_take_le n l
 have h2 := sum_take_le (f := GContainer.size) l n
 have h3 : (l.take n).length ≤ l.length := by rw [List.length_take]; omega
 omega
def m_impl_IsDisk : MC :=
(.seq (pr [.box 1 0 (.s 0), .mv 2 cF] [1])
(.seq (pr [.fld 4 (.s 1) 0, .load 5 false 1 (.s 4), .len 6 false (.s 5), .mv 3 (.s 6)] [1,3])
(.seq (.dreg [Za (.mv 7 (.s 3)), Ze [0] (.bin 8 false .leq (.s 7) (ci 6)), Ze [0,1] (.mv 9 (.s 8)), { o := .fld 10 (.s 1) 0, g := some (9, true), bf := [0,1,2] }, { o := .load 11 false 1 (.s 10), g := some (9, true), bf := (.range 4) }, { o := .call 12 [] (.f n_slices_ContainsFunc_impl_Container_impl_Container) [.s 11, .f n_impl_badContainer], g := some (9, true), bf := (.range 5) }, { o := .un 13 .not (.s 12), g := some (9, true), bf := (.range 6) }, Ze (.range 7) (.pick 14 (.s 9) (.s 13) cF), Ze (.range 8) (.mv 15 (.s 14)), { o := .fld 16 (.s 1) 2, g := some (15, true), bf := (.range 9) }, { o := .load 17 false 1 (.s 16), g := some (15, true), bf := (.range 10) }, { o := .len 18 false (.s 17), g := some (15, true), bf := (.range 11) }, { o := .bin 19 false .leq (.s 18) (ci 1), g := some (15, true), bf := (.range 12) }, Ze (.range 13) (.pick 20 (.s 15) (.s 19) cF), Ze (.range 14) (.mv 21 (.s 20)), { o := .fld 22 (.s 1) 2, g := some (21, true), bf := (.range 15) }, { o := .load 23 false 1 (.s 22), g := some (21, true), bf := (.range 16) }, { o := .call 24 [] (.f n_slices_ContainsFunc_impl_Container_impl_Container) [.s 23, .f n_impl_badContainer], g := some (21, true), bf := (.range 17) }, { o := .un 25 .not (.s 24), g := some (21, true), bf := (.range 18) }, Ze (.range 19) (.pick 26 (.s 21) (.s 25) cF), Ze (.range 20) (.mv 27 (.s 26)), { o := .load 28 true 3 (.s 1), g := some (27, true), bf := (.range 21) }, { o := .call 29 [] (.f n_impl_Disk_follows) [.s 28], g := some (27, true), bf := (.range 22) }, { o := .mv 30 (.s 29), g := some (27, true), bf := (.range 23) }, { o := .mv 31 (.s 3), g := some (30, false), bf := (.range 24) }, { o := .bin 32 false .gtr (.s 31) (ci 0), g := some (30, false), bf := (.range 25) }, { o := .mv 33 (.s 32), g := some (30, false), bf := (.range 26) }, { o := .fld 34 (.s 1) 1, g := some (33, true), hs := [36,37,38,39,40,41], ho := [1], bf := (.range 27) }, { o := .load 35 false 1 (.s 34), g := some (33, true), hs := [36,37,38,39,40,41], ho := [1], bf := (.range 28) }, { o := .fld 36 (.s 1) 0, g := some (33, true), hs := [34,35,38,39], bf := (.range 27) }, { o := .load 37 false 1 (.s 36), g := some (33, true), hs := [34,35,38,39], bf := [0,1,2,3,4,5,6,7,8,9,10,11,12,13,14,15,16,17,18,19,20,21,22,23,24,25,26,29] }, { o := .mv 38 (.s 3), g := some (33, true), hs := [34,35,36,37], bf := (.range 27) }, { o := .bin 39 false .sub (.s 38) (ci 1), g := some (33, true), hs := [34,35,36,37], bf := [0,1,2,3,4,5,6,7,8,9,10,11,12,13,14,15,16,17,18,19,20,21,22,23,24,25,26,31] }, { o := .slc 40 4 (.s 37) none (some (.s 39)) none, g := some (33, true), hs := [34,35], bf := [0,1,2,3,4,5,6,7,8,9,10,11,12,13,14,15,16,17,18,19,20,21,22,23,24,25,26,29,30,31,32] }, { o := .call 41 [1] (.f n_impl_BuildIndex) [.s 40], g := some (33, true), hs := [34,35], ws := [1], bf := [0,1,2,3,4,5,6,7,8,9,10,11,12,13,14,15,16,17,18,19,20,21,22,23,24,25,26,29,30,31,32,33] }, { o := .call 42 [] (.f n_slices_Equal_impl_Found_impl_Found) [.s 35, .s 41], g := some (33, true), bf := (.range 35) }, { o := .pick 43 (.s 33) (.s 42) cF, g := some (30, false), bf := (.range 36) }, { o := .pick 44 (.s 30) cT (.s 43), g := some (27, true), bf := (.range 37) }, Ze (.range 38) (.pick 45 (.s 27) (.s 44) cF), Ze (.range 39) (.mv 2 (.s 45))] [2])
.ret)))
set_option maxHeartbeats 1000000 in
theorem c_impl_IsDisk (d : GDisk) (hs : d.size ≤ 1073741824) : Ctr Tryz.prog n_impl_IsDisk [aS d.enc] [rB (diskOk d)] := by
 refine cA m_impl_IsDisk 2 46 [(.tmp 2, [false])] Tryz.func187 rfl rfl ?_; unfold m_impl_IsDisk
 intro hb
 clear hb
 have hs' := hs
 simp only [GDisk.size] at hs
 have hx1 : ∀ x ∈ d.Containers, x.size ≤ 1073741824 := fun x hx => by have := mem_sum (f := GContainer.size) hx; omega
 have hx2 : ∀ x ∈ d.Wanted, x.size ≤ 1073741824 := fun x hx => by have := mem_sum (f := GContainer.size) hx; omega
 have hsz : d.Containers.length + (d.Containers.map GContainer.size).sum ≤ 1073741824 := by omega
 have hw1 : (d.Containers.length : Int) > 0 → IntKind.i64.wrap ((d.Containers.length : Int) - 1) = ((d.Containers.length - 1 : Nat) : Int) := fun h => by rw [wI (by omega) (by omega)]; omega
 obtain ⟨A, hA⟩ : ∃ A, A = d.Containers.all contOk := ⟨_, rfl⟩
 obtain ⟨B, hB⟩ : ∃ B, B = d.Wanted.all contOk := ⟨_, rfl⟩
 have hC : (d.Containers.any fun x => !contOk x) = !A := by rw [any_nots, hA]
 have hW : (d.Wanted.any fun x => !contOk x) = !B := by rw [any_nots, hB]
 simp only [↓reduceIte, go_sem]
 repeat' first
  | (refine And.intro ?_ ?_ <;> intro h)
  | (apply callK_of (c_slices_ContainsFunc_Container d.Containers _ [] (fun x => !contOk x) fun x hx => c_impl_badContainer x (hx1 x hx)); simp only [↓reduceIte, go_sem, hC])
  | (apply callK_of (c_slices_ContainsFunc_Container d.Wanted _ [] (fun x => !contOk x) fun x hx => c_impl_badContainer x (hx2 x hx)); simp only [↓reduceIte, go_sem, hW])
  | (apply callK_of (c_impl_follows d hs'); simp only [↓reduceIte, go_sem])
  | (rw [hw1 (by assumption), cutA (by omega)]; refine ⟨⟨by omega, by omega, by omega⟩, ?_⟩; apply callK_of (c_impl_BuildIndex _ (take_sz hsz)); simp only [↓reduceIte, go_sem]; intros; apply callK_of (c_slices_Equal_Found _ _); simp only [↓reduceIte, go_sem]; intros)
 all_goals (rw [diskOk, fewAll, fewAll, ← hA, ← hB, List.dropLast_eq_take]; clear hC hW hA hB hx1 hx2 hw1 hsz hs hs'; by_cases c1 : d.Containers.length ≤ 6 <;> by_cases c2 : d.Wanted.length ≤ 1 <;> by_cases c3 : 0 < d.Containers.length <;> simp_all <;> omega)
def m_spec_IsDisk : MC :=
(.seq (pr [.box 1 0 (.s 0), .mv 2 cF] [1])
(.seq (.seq (pr [.mv 3 (ci 0)] [1,3])
(.block 0 (.loop ([1,3], [1]) (.seq (.seq (pr [.mv 6 (.s 3), .fld 7 (.s 1) 0, .load 8 false 1 (.s 7), .len 9 false (.s 8), .bin 10 false .lss (.s 6) (.s 9)] [1,3,10])
(.cond (.s 10) .skip (.exit 0)))
(.seq (.block 1 (.seq (pr [.fld 13 (.s 1) 0, .load 14 false 1 (.s 13), .mv 15 (.s 3), .idx 16 4 (.s 14) (.s 15), .load 17 true 4 (.s 16), .call 18 [] (.f n_spec_IsContainer) [.s 17], .un 19 .not (.s 18)] [1,3,19])
(.cond (.s 19) (.seq (pr [.mv 2 cF] [2])
.ret) .skip)))
(pr [.mv 11 (.s 3), .bin 12 false .add (.s 11) (ci 1), .mv 3 (.s 12)] [1,3]))))))
(.seq (.seq (pr [.mv 4 (ci 0)] [1,4])
(.block 2 (.loop ([1,4], [1]) (.seq (.seq (pr [.mv 20 (.s 4), .fld 21 (.s 1) 2, .load 22 false 1 (.s 21), .len 23 false (.s 22), .bin 24 false .lss (.s 20) (.s 23)] [1,4,24])
(.cond (.s 24) .skip (.exit 2)))
(.seq (.block 3 (.seq (pr [.fld 27 (.s 1) 2, .load 28 false 1 (.s 27), .mv 29 (.s 4), .idx 30 4 (.s 28) (.s 29), .load 31 true 4 (.s 30), .call 32 [] (.f n_spec_IsContainer) [.s 31], .un 33 .not (.s 32)] [1,4,33])
(.cond (.s 33) (.seq (pr [.mv 2 cF] [2])
.ret) .skip)))
(pr [.mv 25 (.s 4), .bin 26 false .add (.s 25) (ci 1), .mv 4 (.s 26)] [1,4]))))))
(.seq (pr [.fld 34 (.s 1) 0, .load 35 false 1 (.s 34), .len 36 false (.s 35), .mv 5 (.s 36)] [1,5])
(.seq (.dreg [Za (.mv 37 (.s 5)), Ze [0] (.bin 38 false .leq (.s 37) (ci 6)), Ze [0,1] (.mv 39 (.s 38)), { o := .fld 40 (.s 1) 2, g := some (39, true), bf := [0,1,2] }, { o := .load 41 false 1 (.s 40), g := some (39, true), bf := (.range 4) }, { o := .len 42 false (.s 41), g := some (39, true), bf := (.range 5) }, { o := .bin 43 false .leq (.s 42) (ci 1), g := some (39, true), bf := (.range 6) }, Ze (.range 7) (.pick 44 (.s 39) (.s 43) cF), Ze (.range 8) (.mv 45 (.s 44)), { o := .load 46 true 3 (.s 1), g := some (45, true), bf := (.range 9) }, { o := .call 47 [] (.f n_spec_l31Whole) [.s 46], g := some (45, true), bf := (.range 10) }, { o := .mv 48 (.s 47), g := some (45, true), bf := (.range 11) }, { o := .mv 49 (.s 5), g := some (48, false), bf := (.range 12) }, { o := .bin 50 false .gtr (.s 49) (ci 0), g := some (48, false), bf := (.range 13) }, { o := .mv 51 (.s 50), g := some (48, false), bf := (.range 14) }, { o := .fld 52 (.s 1) 1, g := some (51, true), hs := [54,55,56,57,58,59], ho := [1], bf := (.range 15) }, { o := .load 53 false 1 (.s 52), g := some (51, true), hs := [54,55,56,57,58,59], ho := [1], bf := (.range 16) }, { o := .fld 54 (.s 1) 0, g := some (51, true), hs := [52,53,56,57], bf := (.range 15) }, { o := .load 55 false 1 (.s 54), g := some (51, true), hs := [52,53,56,57], bf := [0,1,2,3,4,5,6,7,8,9,10,11,12,13,14,17] }, { o := .mv 56 (.s 5), g := some (51, true), hs := [52,53,54,55], bf := (.range 15) }, { o := .bin 57 false .sub (.s 56) (ci 1), g := some (51, true), hs := [52,53,54,55], bf := [0,1,2,3,4,5,6,7,8,9,10,11,12,13,14,19] }, { o := .slc 58 4 (.s 55) none (some (.s 57)) none, g := some (51, true), hs := [52,53], bf := [0,1,2,3,4,5,6,7,8,9,10,11,12,13,14,17,18,19,20] }, { o := .call 59 [1] (.f n_spec_BuildIndex) [.s 58], g := some (51, true), hs := [52,53], ws := [1], bf := [0,1,2,3,4,5,6,7,8,9,10,11,12,13,14,17,18,19,20,21] }, { o := .call 60 [] (.f n_spec_l31Same) [.s 53, .s 59], g := some (51, true), bf := (.range 23) }, { o := .pick 61 (.s 51) (.s 60) cF, g := some (48, false), bf := (.range 24) }, { o := .pick 62 (.s 48) cT (.s 61), g := some (45, true), bf := (.range 25) }, Ze (.range 26) (.pick 63 (.s 45) (.s 62) cF), Ze (.range 27) (.mv 2 (.s 63))] [2])
.ret)))))
set_option maxHeartbeats 1000000 in
theorem c_spec_IsDisk (d : GDisk) (hs : d.size ≤ 1073741824) : Ctr Tryz.prog n_spec_IsDisk [aS d.enc] [rB (diskOk d)] := by
 refine cA m_spec_IsDisk 2 64 [(.tmp 2, [false])] Tryz.func176 rfl rfl ?_; unfold m_spec_IsDisk
 intro hb
 clear hb
 have hs' := hs
 simp only [GDisk.size] at hs
 have hx1 : ∀ x ∈ d.Containers, x.size ≤ 1073741824 := fun x hx => by have := mem_sum (f := GContainer.size) hx; omega
 have hx2 : ∀ x ∈ d.Wanted, x.size ≤ 1073741824 := fun x hx => by have := mem_sum (f := GContainer.size) hx; omega
 have hsz : d.Containers.length + (d.Containers.map GContainer.size).sum ≤ 1073741824 := by omega
 have hw1 : (d.Containers.length : Int) > 0 → IntKind.i64.wrap ((d.Containers.length : Int) - 1) = ((d.Containers.length - 1 : Nat) : Int) := fun h => by rw [wI (by omega) (by omega)]; omega
 obtain ⟨A, hA⟩ : ∃ A, A = d.Containers.all contOk := ⟨_, rfl⟩
 obtain ⟨B, hB⟩ : ∃ B, B = d.Wanted.all contOk := ⟨_, rfl⟩
 have hC : (d.Containers.any fun x => !contOk x) = !A := by rw [any_nots, hA]
 have hW : (d.Wanted.any fun x => !contOk x) = !B := by rw [any_nots, hB]
 simp only [↓reduceIte, go_sem]
 refine loopK_rng d.Containers (fun k => [(3, vI k)]) (fun k => []) (fun k => (d.Containers.take k).all contOk = true) (by simp only [roomB]; omega) ?_
 simp only [↓reduceIte, go_sem]
 refine ⟨?_, by simp, ?_, ?_⟩
 ·simp only [↓reduceIte, go_sem]
 ·intro k x hx h h0 h1 hw
  simp only [↓reduceIte, go_sem, bk_eq hx, h0, h1]
  apply callK_of (c_spec_IsContainer x (hx1 x (at_mem hx)))
  simp only [↓reduceIte, go_sem, hw]
  exact ⟨fun hn => diskOk_no1 hx hn, fun hn => all_step hx h hn⟩
 ·intro hA'
  rw [List.take_length, ← hA] at hA'
  simp only [↓reduceIte, go_sem]
  refine loopK_rng d.Wanted (fun k => [(4, vI k)]) (fun k => []) (fun k => (d.Wanted.take k).all contOk = true) (by simp only [roomB]; omega) ?_
  simp only [↓reduceIte, go_sem]
  refine ⟨?_, by simp, ?_, ?_⟩
  ·simp only [↓reduceIte, go_sem]
  ·intro k x hx h h0 h1 hw
   simp only [↓reduceIte, go_sem, bk_eq hx, h0, h1]
   apply callK_of (c_spec_IsContainer x (hx2 x (at_mem hx)))
   simp only [↓reduceIte, go_sem, hw]
   exact ⟨fun hn => diskOk_no2 hx hn, fun hn => all_step hx h hn⟩
  ·intro hB'
   rw [List.take_length, ← hB] at hB'
   simp only [↓reduceIte, go_sem]
   repeat' first
    | (refine And.intro ?_ ?_ <;> intro h)
    | (apply callK_of (c_spec_l31Whole d hs'); simp only [↓reduceIte, go_sem])
    | (rw [hw1 (by assumption), cutA (by omega)]; refine ⟨⟨by omega, by omega, by omega⟩, ?_⟩; apply callK_of (c_spec_BuildIndex _ (take_sz hsz)); simp only [↓reduceIte, go_sem]; intros; apply callK_of (c_spec_l31Same _ _); simp only [↓reduceIte, go_sem]; intros)
   all_goals (rw [diskOk, fewAll, fewAll, ← hA, ← hB, List.dropLast_eq_take]; clear hC hW hA hB hx1 hx2 hw1 hsz hs hs'; by_cases c1 : d.Containers.length ≤ 6 <;> by_cases c2 : d.Wanted.length ≤ 1 <;> by_cases c3 : 0 < d.Containers.length <;> simp_all <;> omega)
end Go.Proofs.YtgkeplbnnjogiaaGreatR
namespace Go.Proofs.YtgkeplbnnjogiaaGreatR
open Go Go.RowKit Go.Proofs
open Nat (reduceEqDiff reduceLT reduceLeDiff reduceAdd reduceMul)
open List (reduceReplicate)
def recTo (d : GDisk) : GDisk := if diskOk d then ⟨d.Containers, index d.Containers, []⟩ else d
theorem recTo_size (d : GDisk) : (recTo d).size ≤ 2 * d.size := by
 have h : (index d.Containers).length ≤ (d.Containers.map GContainer.size).sum := by
  rw [index, Srt.len_isort]; exact len_fnds_le
 unfold recTo
 split
 ·simp only [GDisk.size, List.length_nil, List.map_nil, List.sum_nil]; omega
 ·omega
end Go.Proofs.YtgkeplbnnjogiaaGreatR
namespace Go.Proofs.YtgkeplbnnjogiaaGreatR
open Go Go.RowKit Go.Proofs
open Nat (reduceEqDiff reduceLT reduceLeDiff reduceAdd reduceMul)
open List (reduceReplicate)
def m_spec_Max : MC :=
(.seq (pr [.mv 4 (ci 0)] [0,1])
(.seq (.seq (pr [.mv 5 (.s 1), .mv 6 (.s 0), .bin 7 false .gtr (.s 5) (.s 6)] [0,1,7])
(.cond (.s 7) (.seq (pr [.mv 8 (.s 1), .mv 4 (.s 8)] [4])
.ret) .skip))
(.seq (pr [.mv 9 (.s 0), .mv 4 (.s 9)] [4])
.ret)))
theorem c_spec_Max (x y : Int) : Ctr Tryz.prog n_spec_Max [aI x, aI y] [rI (if y > x then y else x)] := by
 refine cA m_spec_Max 0 10 [(.tmp 4, [false])] Tryz.func162 rfl rfl ?_; unfold m_spec_Max
 intro hb
 clear hb
 simp only [↓reduceIte, go_sem]
 refine ⟨fun h => ?_, fun h => ?_⟩
 ·rw [if_pos (by omega)]
 ·rw [if_neg (by omega)]
def m_spec_Min : MC :=
(.seq (pr [.mv 4 (ci 0)] [0,1])
(.seq (.seq (pr [.mv 5 (.s 1), .mv 6 (.s 0), .bin 7 false .lss (.s 5) (.s 6)] [0,1,7])
(.cond (.s 7) (.seq (pr [.mv 8 (.s 1), .mv 4 (.s 8)] [4])
.ret) .skip))
(.seq (pr [.mv 9 (.s 0), .mv 4 (.s 9)] [4])
.ret)))
theorem c_spec_Min (x y : Int) : Ctr Tryz.prog n_spec_Min [aI x, aI y] [rI (if y < x then y else x)] := by
 refine cA m_spec_Min 0 10 [(.tmp 4, [false])] Tryz.func163 rfl rfl ?_; unfold m_spec_Min
 intro hb
 clear hb
 simp only [↓reduceIte, go_sem]
 refine ⟨fun h => ?_, fun h => ?_⟩
 ·rw [if_pos (by omega)]
 ·rw [if_neg (by omega)]
end Go.Proofs.YtgkeplbnnjogiaaGreatR
namespace Go.Proofs.YtgkeplbnnjogiaaGreatR
open Go Go.RowKit Go.Proofs
open Nat (reduceEqDiff reduceLT reduceLeDiff reduceAdd reduceMul)
open List (reduceReplicate)
def capsOf (l : List GContainer) : List GCapture := l.flatMap fun x => x.Captures
def told (d : GDisk) : List GContainer := if whole d then d.Containers else d.Containers.dropLast
def allCaps (a : GArchive) : List GCapture := capsOf (told a.Disk)
def seen (a : GArchive) : List GCapture := visible (allCaps a) a.Exclusions a.Now
def served (a : GArchive) : List GCapture := (seen a).drop ((seen a).length - 20)
end Go.Proofs.YtgkeplbnnjogiaaGreatR
namespace Go.Proofs.YtgkeplbnnjogiaaGreatR
open Go Go.RowKit Go.Proofs
open Nat (reduceEqDiff reduceLT reduceLeDiff reduceAdd reduceMul)
open List (reduceReplicate)
@[go_sem] theorem ownT_sl {z : Nat} {es : List (List T)} : ownT (.sl z es) = true := rfl
@[go_sem] theorem ownT_sc {v : Value} : ownT (.sc v) = false := rfl
def nextStop (d : GDisk) : Bool := !diskOk d || (decide (0 < d.Wanted.length) && decide (6 ≤ d.Containers.length))
def nextOk (d : GDisk) : Bool := !nextStop d && (!whole d || decide (0 < d.Wanted.length))
def nextTo (d : GDisk) : GDisk :=
 if nextStop d then d else if whole d = false then { d with Index := index d.Containers }
 else match d.Wanted with
  | x :: _ => { d with Containers := d.Containers ++ [x], Wanted := [] }
  | [] => d
theorem next_size (d : GDisk) : (nextTo d).size ≤ 2 * d.size := by
 have hr := recTo_size d
 unfold nextTo
 split
 ·omega
 ·split
  ·have hi : (index d.Containers).length ≤ (d.Containers.map GContainer.size).sum := by
    rw [index, Srt.len_isort]; exact len_fnds_le
   simp only [GDisk.size] at *
   omega
  ·split
   ·rename_i x l hx
    simp only [GDisk.size, hx, List.length_append, List.length_cons, List.length_nil, List.map_append, List.map_cons, List.map_nil, List.sum_append, List.sum_cons, List.sum_nil]
    omega
   ·omega
def m_impl_WriteNext : MC :=
(.seq (pr [.box 1 0 (.s 0), .alloc 2 1 [.emp 4, .emp 6, .emp 4], .mv 3 cF] [1,2])
(.seq (pr [.load 5 true 3 (.s 1), .call 6 [2, 3, 4] (.f n_impl_copyDisk) [.s 5], .alloc 4 5 [.emp 4, .emp 6, .emp 4], .store 3 (.s 4) (.s 6)] [1,2,4])
(.seq (.seq (.reg [Za (.load 7 true 3 (.s 1)), Za (.call 8 [] (.f n_impl_IsDisk) [.s 7]), Za (.un 9 .not (.s 8)), Za (.mv 10 (.s 9)), Zb 10 false (.fld 11 (.s 1) 2), Zb 10 false (.load 12 false 1 (.s 11)), Zb 10 false (.len 13 false (.s 12)), Zb 10 false (.bin 14 false .gtr (.s 13) (ci 0)), Zb 10 false (.mv 15 (.s 14)), Zb 15 true (.fld 16 (.s 1) 0), Zb 15 true (.load 17 false 1 (.s 16)), Zb 15 true (.len 18 false (.s 17)), Zb 15 true (.bin 19 false .geq (.s 18) (ci 6)), Zb 10 false (.pick 20 (.s 15) (.s 19) cF), Za (.pick 21 (.s 10) cT (.s 20))] [1,2,4,21])
(.cond (.s 21) (.seq (pr [.load 22 true 3 (.s 4), .store 3 (.s 2) (.s 22), .mv 3 cF] [2,3])
.ret) .skip))
(.seq (.block 0 (.seq (pr [.load 25 true 3 (.s 1), .call 26 [] (.f n_impl_Disk_follows) [.s 25], .un 27 .not (.s 26), .mv 24 (.s 27)] [1,2,4,24])
(.cond (.s 24) (pr [.fld 28 (.s 1) 0, .load 29 false 1 (.s 28), .call 30 [6] (.f n_impl_BuildIndex) [.s 29], .fld 31 (.s 4) 1, .store 1 (.s 31) (.s 30)] [2,4]) (.seq (pr [.fld 33 (.s 1) 2, .load 34 false 1 (.s 33), .len 35 false (.s 34), .bin 36 false .gtr (.s 35) (ci 0), .mv 32 (.s 36)] [2,4,32])
(.cond (.s 32) (.seq (.dregI [Zf [1000000,39,40,41,42,43] [4,7,8,9,10] (.fld 37 (.s 4) 0), Zg [1000000,39,40,41,42,43] [4,7,8,9,10] [0] (.load 38 false 1 (.s 37)), Zc [1000000,37,38] (.fld 39 (.s 4) 2), Zd [1000000,37,38] [2] (.load 40 false 1 (.s 39)), Zd [1000000,37,38] [2,3] (.idx 41 4 (.s 40) (ci 0)), { o := .loadM 42 4 [7, 8, 9] 4 (.s 41), hs := [1000000,37,38], ws := [4,7,8,9], bf := [2,3,4] }, { o := .lit 43 10 4 80 [.s 42], hs := [37,38], ws := [7,8,9,10], bf := [2,3,4,5] }, { o := .app 44 2 4 80 (.s 38) (.s 43), ws := [2,10], bf := (.range 7) }, Ze (.range 8) (.fld 45 (.s 4) 0), { o := .store 1 (.s 45) (.s 44), ws := [2,5], bf := (.range 9) }] [2,4])
(pr [.fld 46 (.s 4) 2, .store 1 (.s 46) (.nil 4)] [2,4])) (.seq (pr [.load 23 true 3 (.s 4), .store 3 (.s 2) (.s 23), .mv 3 cF] [2,3])
.ret))))))
(.seq (pr [.load 47 true 3 (.s 4), .store 3 (.s 2) (.s 47), .mv 3 cT] [2,3])
.ret)))))
set_option maxHeartbeats 2000000 in
theorem c_impl_WriteNext (d : GDisk) (hs : d.size ≤ 1073741824) : Ctr Tryz.prog n_impl_WriteNext [aS d.enc] [rS (nextTo d).enc, rB (nextOk d)] := by
  refine cA m_impl_WriteNext 11 48 [(.cell 2 true 3, [true, true, true]), (.tmp 3, [false])] Tryz.func99 rfl rfl ?_; unfold m_impl_WriteNext
  intro hb
  clear hb
  have hsc : d.Containers.length + (d.Containers.map GContainer.size).sum ≤ 1073741824 := by simp only [GDisk.size] at hs; omega
  simp only [↓reduceIte, go_sem]
  apply callK_of (c_impl_copyDisk d hs)
  simp only [↓reduceIte, go_sem]
  intros
  repeat' first
    | (refine And.intro ?_ ?_ <;> intro h)
    | (apply callK_of (c_impl_IsDisk d hs); simp only [↓reduceIte, go_sem])
    | (apply callK_of (c_impl_follows d hs); simp only [↓reduceIte, go_sem])
    | (apply callK_of (c_impl_BuildIndex d.Containers hsc); simp only [↓reduceIte, go_sem]; intros)
  all_goals
    first
      | (have hF : nextStop d = true := by
          clear hs hsc
          unfold nextStop
          by_cases c1 : 0 < d.Wanted.length <;> by_cases c2 : 6 ≤ d.Containers.length <;> simp_all <;> omega
         simp [nextTo, nextOk, hF]
         done)
      | (have hF : nextStop d = false := by
          clear hs hsc
          unfold nextStop
          by_cases c1 : 0 < d.Wanted.length <;> by_cases c2 : 6 ≤ d.Containers.length <;> simp_all <;> omega
         have hW : whole d = false := by assumption
         simp [nextTo, nextOk, hF, hW]
         done)
      | (have hF : nextStop d = false := by
          clear hs hsc
          unfold nextStop
          by_cases c1 : 0 < d.Wanted.length <;> by_cases c2 : 6 ≤ d.Containers.length <;> simp_all <;> omega
         have hW : whole d = true := by assumption
         have hN : d.Wanted = [] := List.length_eq_zero_iff.1 (by omega)
         simp [nextTo, nextOk, hF, hW, hN]
         done)
      | (have hF : nextStop d = false := by
          clear hs hsc
          unfold nextStop
          by_cases c1 : 0 < d.Wanted.length <;> by_cases c2 : 6 ≤ d.Containers.length <;> simp_all <;> omega
         have hW : whole d = true := by assumption
         obtain ⟨x, hx⟩ := at_some (l := d.Wanted) (k := 0) (by omega)
         have hlc : d.Containers.length ≤ 1073741824 := by omega
         refine ⟨⟨by omega, by omega⟩, ?_⟩
         rw [hx]
         simp only [go_sem]
         have eT : nextTo d = { d with Containers := d.Containers ++ [x], Wanted := [] } := by
          rcases hN : d.Wanted with _ | ⟨y, l⟩
          · rw [hN] at hx; simp at hx
          · rw [hN] at hx
            simp only [List.getElem?_cons_zero, Option.some.injEq] at hx
            subst hx
            simp [nextTo, hF, hW, hN]
         have eO : nextOk d = true := by simp [nextOk, hF, hW]; omega
         rw [eT, eO]
         first
          | exact ⟨by decide, by simp only [roomB]; omega, by simp, ⟨by simp [GContainer.enc], rfl, rfl⟩, rfl⟩
          | (simp only [roomB]; simp [GContainer.enc]; omega)
          | (refine ⟨by decide, by simp only [roomB]; omega, by simp, by decide, ⟨by simp [GContainer.enc], rfl, rfl⟩, rfl⟩))
def m_spec_WriteNext : MC :=
(.seq (pr [.box 1 0 (.s 0), .alloc 2 1 [.emp 4, .emp 6, .emp 4], .mv 3 cF] [1,2])
(.seq (pr [.load 5 true 3 (.s 1), .call 6 [2, 3, 4] (.f n_spec_l31Copy) [.s 5], .alloc 4 5 [.emp 4, .emp 6, .emp 4], .store 3 (.s 4) (.s 6)] [1,2,4])
(.seq (.block 0 (.seq (.reg [Za (.load 8 true 3 (.s 1)), Za (.call 9 [] (.f n_spec_IsDisk) [.s 8]), Za (.un 10 .not (.s 9)), Za (.mv 11 (.s 10)), Zb 11 false (.fld 12 (.s 1) 2), Zb 11 false (.load 13 false 1 (.s 12)), Zb 11 false (.len 14 false (.s 13)), Zb 11 false (.bin 15 false .gtr (.s 14) (ci 0)), Zb 11 false (.mv 16 (.s 15)), Zb 16 true (.fld 17 (.s 1) 0), Zb 16 true (.load 18 false 1 (.s 17)), Zb 16 true (.len 19 false (.s 18)), Zb 16 true (.bin 20 false .geq (.s 19) (ci 6)), Zb 11 false (.pick 21 (.s 16) (.s 20) cF), Za (.pick 22 (.s 11) cT (.s 21)), Za (.mv 7 (.s 22))] [1,2,4,7])
(.cond (.s 7) (.seq (pr [.load 23 true 3 (.s 4), .store 3 (.s 2) (.s 23), .mv 3 cF] [2,3])
.ret) (.seq (.reg [Za (.fld 25 (.s 1) 2), Za (.load 26 false 1 (.s 25)), Za (.len 27 false (.s 26)), Za (.bin 28 false .gtr (.s 27) (ci 0)), Za (.mv 29 (.s 28)), Zb 29 true (.load 30 true 3 (.s 1)), Zb 29 true (.call 31 [] (.f n_spec_l31Whole) [.s 30]), Za (.pick 32 (.s 29) (.s 31) cF), Za (.mv 24 (.s 32))] [1,2,4,24])
(.cond (.s 24) (.seq (.dregI [Zf [1000000,35,36,37,38,39] [4,6,7,8,9,10] (.fld 33 (.s 4) 0), Zg [1000000,35,36,37,38,39] [4,6,7,8,9,10] [0] (.load 34 false 1 (.s 33)), Zc [1000000,33,34] (.fld 35 (.s 4) 2), Zd [1000000,33,34] [2] (.load 36 false 1 (.s 35)), Zd [1000000,33,34] [2,3] (.idx 37 4 (.s 36) (ci 0)), { o := .loadM 38 4 [6, 7, 8] 4 (.s 37), hs := [1000000,33,34], ws := [4,6,7,8,10], bf := [2,3,4] }, { o := .lit 39 9 4 80 [.s 38], hs := [33,34], ws := [6,7,8,9], bf := [2,3,4,5] }, { o := .app 40 2 4 80 (.s 34) (.s 39), ws := [2,9], bf := (.range 7) }, Ze (.range 8) (.fld 41 (.s 4) 0), { o := .store 1 (.s 41) (.s 40), ws := [2,5], bf := (.range 9) }] [2,4])
(.seq (pr [.lit 42 10 4 80 [], .fld 43 (.s 4) 2, .store 1 (.s 43) (.s 42)] [2,4])
(.seq (pr [.load 44 true 3 (.s 4), .store 3 (.s 2) (.s 44), .mv 3 cT] [2,3])
.ret))) (.seq (pr [.load 46 true 3 (.s 1), .call 47 [] (.f n_spec_l31Whole) [.s 46], .un 48 .not (.s 47), .mv 45 (.s 48)] [1,2,4,45])
(.cond (.s 45) (.seq (pr [.fld 49 (.s 1) 0, .load 50 false 1 (.s 49), .call 51 [11] (.f n_spec_BuildIndex) [.s 50], .fld 52 (.s 4) 1, .store 1 (.s 52) (.s 51)] [2,4])
(.seq (pr [.load 53 true 3 (.s 4), .store 3 (.s 2) (.s 53), .mv 3 cT] [2,3])
.ret)) .skip)))))))
(.seq (pr [.load 54 true 3 (.s 4), .store 3 (.s 2) (.s 54), .mv 3 cF] [2,3])
.ret))))
set_option maxHeartbeats 2000000 in
theorem c_spec_WriteNext (d : GDisk) (hs : d.size ≤ 1073741824) : Ctr Tryz.prog n_spec_WriteNext [aS d.enc] [rS (nextTo d).enc, rB (nextOk d)] := by
  refine cA m_spec_WriteNext 12 55 [(.cell 2 true 3, [true, true, true]), (.tmp 3, [false])] Tryz.func93 rfl rfl ?_; unfold m_spec_WriteNext
  intro hb
  clear hb
  have hsc : d.Containers.length + (d.Containers.map GContainer.size).sum ≤ 1073741824 := by simp only [GDisk.size] at hs; omega
  simp only [↓reduceIte, go_sem]
  apply callK_of (c_spec_l31Copy d hs)
  simp only [↓reduceIte, go_sem]
  intros
  repeat' first
    | (refine And.intro ?_ ?_ <;> intro h)
    | (apply callK_of (c_spec_IsDisk d hs); simp only [↓reduceIte, go_sem])
    | (apply callK_of (c_spec_l31Whole d hs); simp only [↓reduceIte, go_sem])
    | (apply callK_of (c_spec_BuildIndex d.Containers hsc); simp only [↓reduceIte, go_sem]; intros)
  all_goals
    first
      | (have hF : nextStop d = true := by
          clear hs hsc
          unfold nextStop
          by_cases c1 : 0 < d.Wanted.length <;> by_cases c2 : 6 ≤ d.Containers.length <;> simp_all <;> omega
         simp [nextTo, nextOk, hF]
         done)
      | (have hF : nextStop d = false := by
          clear hs hsc
          unfold nextStop
          by_cases c1 : 0 < d.Wanted.length <;> by_cases c2 : 6 ≤ d.Containers.length <;> simp_all <;> omega
         have hW : whole d = false := by assumption
         simp [nextTo, nextOk, hF, hW]
         done)
      | (have hF : nextStop d = false := by
          clear hs hsc
          unfold nextStop
          by_cases c1 : 0 < d.Wanted.length <;> by_cases c2 : 6 ≤ d.Containers.length <;> simp_all <;> omega
         have hW : whole d = true := by assumption
         have hN : d.Wanted = [] := List.length_eq_zero_iff.1 (by omega)
         simp [nextTo, nextOk, hF, hW, hN]
         done)
      | (have hF : nextStop d = false := by
          clear hs hsc
          unfold nextStop
          by_cases c1 : 0 < d.Wanted.length <;> by_cases c2 : 6 ≤ d.Containers.length <;> simp_all <;> omega
         have hW : whole d = true := by assumption
         obtain ⟨x, hx⟩ := at_some (l := d.Wanted) (k := 0) (by omega)
         have hlc : d.Containers.length ≤ 1073741824 := by omega
         refine ⟨⟨by omega, by omega⟩, ?_⟩
         rw [hx]
         simp only [go_sem]
         have eT : nextTo d = { d with Containers := d.Containers ++ [x], Wanted := [] } := by
          rcases hN : d.Wanted with _ | ⟨y, l⟩
          · rw [hN] at hx; simp at hx
          · rw [hN] at hx
            simp only [List.getElem?_cons_zero, Option.some.injEq] at hx
            subst hx
            simp [nextTo, hF, hW, hN]
         have eO : nextOk d = true := by simp [nextOk, hF, hW]; omega
         rw [eT, eO]
         first
          | exact ⟨by decide, by simp only [roomB]; omega, by simp, ⟨by simp [GContainer.enc], rfl, rfl⟩, rfl⟩
          | (simp only [roomB]; simp [GContainer.enc]; omega)
          | (refine ⟨by decide, by simp only [roomB]; omega, by simp, by decide, ⟨by simp [GContainer.enc], rfl, rfl⟩, rfl⟩))
end Go.Proofs.YtgkeplbnnjogiaaGreatR
namespace Go.Proofs
open Go.Shelf
def Tryz.lays189_ren : Go.Shelf.Ren := ⟨fun | 189 => 152 | 125 => 170 | 257 => 273 | 128 => 288 | 129 => 289 | 294 => 363 | 295 => 364 | 296 => 365 | 297 => 366 | 298 => 367 | 299 => 368 | 216 => 369 | 300 => 370 | 301 => 371 | 328 => 414 | 329 => 378 | 330 => 379 | 331 => 415 | 332 => 416 | 215 => 384 | 343 => 430 | n => n, fun | 28 => 30 | 3 => 3 | 46 => 200 | 0 => 0 | 51 => 289 | 53 => 291 | 4 => 4 | 183 => 282 | 182 => 281 | 131 => 286 | 5 => 5 | 9 => 9 | 218 => 345 | 222 => 314 | 228 => 377 | 229 => 104 | n => n, fun | n => n⟩
theorem Tryz.lays189 : Go.Proofs.Lays.n189 Tryz.prog Tryz.lays189_ren := {
 mixed := by kernel_rfl
 f125 := Tryz.func170.trans (congrArg some (by kernel_rfl))
 f128 := Tryz.func288.trans (congrArg some (by kernel_rfl))
 f129 := Tryz.func289.trans (congrArg some (by kernel_rfl))
 f189 := Tryz.func152.trans (congrArg some (by kernel_rfl))
 f215 := Tryz.func384.trans (congrArg some (by kernel_rfl))
 f216 := Tryz.func369.trans (congrArg some (by kernel_rfl))
 f257 := Tryz.func273.trans (congrArg some (by kernel_rfl))
 f294 := Tryz.func363.trans (congrArg some (by kernel_rfl))
 f295 := Tryz.func364.trans (congrArg some (by kernel_rfl))
 f296 := Tryz.func365.trans (congrArg some (by kernel_rfl))
 f297 := Tryz.func366.trans (congrArg some (by kernel_rfl))
 f298 := Tryz.func367.trans (congrArg some (by kernel_rfl))
 f299 := Tryz.func368.trans (congrArg some (by kernel_rfl))
 f300 := Tryz.func370.trans (congrArg some (by kernel_rfl))
 f301 := Tryz.func371.trans (congrArg some (by kernel_rfl))
 f328 := Tryz.func414.trans (congrArg some (by kernel_rfl))
 f329 := Tryz.func378.trans (congrArg some (by kernel_rfl))
 f330 := Tryz.func379.trans (congrArg some (by kernel_rfl))
 f331 := Tryz.func415.trans (congrArg some (by kernel_rfl))
 f332 := Tryz.func416.trans (congrArg some (by kernel_rfl))
 f343 := Tryz.func430.trans (congrArg some (by kernel_rfl))
 t0 := Tryz.underlying0
 a0 := Tryz.isAgg0
 z0 := Tryz.sizeOf0
 v0 := Tryz.zeroValue0
 t3 := Tryz.underlying3
 a3 := Tryz.isAgg3
 z3 := Tryz.sizeOf3
 v3 := Tryz.zeroValue3
 t4 := Tryz.underlying4
 a4 := Tryz.isAgg4
 z4 := Tryz.sizeOf4
 v4 := Tryz.zeroValue4
 t5 := Tryz.underlying5
 a5 := Tryz.isAgg5
 z5 := Tryz.sizeOf5
 v5 := Tryz.zeroValue5
 t9 := Tryz.underlying9
 a9 := Tryz.isAgg9
 z9 := Tryz.sizeOf9
 v9 := Tryz.zeroValue9
 t28 := Tryz.underlying30
 a28 := Tryz.isAgg30
 z28 := Tryz.sizeOf30
 v28 := Tryz.zeroValue30
 t46 := Tryz.underlying200
 a46 := Tryz.isAgg200
 z46 := Tryz.sizeOf200
 v46 := Tryz.zeroValue200
 t51 := Tryz.underlying289
 a51 := Tryz.isAgg289
 z51 := Tryz.sizeOf289
 v51 := Tryz.zeroValue289
 t53 := Tryz.underlying291
 a53 := Tryz.isAgg291
 z53 := Tryz.sizeOf291
 v53 := Tryz.zeroValue291
 t131 := Tryz.underlying286
 a131 := Tryz.isAgg286
 z131 := Tryz.sizeOf286
 v131 := Tryz.zeroValue286
 t182 := Tryz.underlying281
 a182 := Tryz.isAgg281
 z182 := Tryz.sizeOf281
 v182 := Tryz.zeroValue281
 t183 := Tryz.underlying282
 a183 := Tryz.isAgg282
 z183 := Tryz.sizeOf282
 v183 := Tryz.zeroValue282
 t218 := Tryz.underlying345
 a218 := Tryz.isAgg345
 z218 := Tryz.sizeOf345
 v218 := Tryz.zeroValue345
 t222 := Tryz.underlying314
 a222 := Tryz.isAgg314
 z222 := Tryz.sizeOf314
 v222 := Tryz.zeroValue314
 t228 := Tryz.underlying377
 a228 := Tryz.isAgg377
 z228 := Tryz.sizeOf377
 v228 := Tryz.zeroValue377
 t229 := Tryz.underlying104
 a229 := Tryz.isAgg104
 z229 := Tryz.sizeOf104
 v229 := Tryz.zeroValue104 }
open Go.Sort Go.RowKit in
theorem Tryz.slices_Sort_int (blk off cap : Nat) (zs : List Int) (w : World) (hH : Holds (Value.int .i64) w blk off zs.toArray) (hblk : blk < w.heap.size) (hsz : zs.length < 4611686018427387904) :
  Calls Tryz.prog 152 #[.slice (some ⟨blk, off, none⟩) zs.length cap] w fun e w' =>
   e = .returned (.tuple #[]) ∧ ∃ n os, w' = grow (putRow (Value.int .i64) (Sort.ahead w n) blk off (zs.mergeSort fun x y => decide (x ≤ y)).toArray) os := Any.slices_Sort_int Tryz.lays189 blk off cap zs w hH hblk hsz
def Tryz.laysNm220_ren : Go.Shelf.Ren := ⟨fun | 20 => 385 | n => n, fun | 22 => 30 | 3 => 3 | 4 => 4 | 0 => 0 | n => n, fun | n => n⟩
theorem Tryz.laysNm220 : Go.Proofs.Lays2.n20 Tryz.prog Tryz.laysNm220_ren := {
 mixed := by kernel_rfl
 f20 := Tryz.func385.trans (congrArg some (by kernel_rfl))
 t0 := Tryz.underlying0
 a0 := Tryz.isAgg0
 z0 := Tryz.sizeOf0
 v0 := Tryz.zeroValue0
 t3 := Tryz.underlying3
 a3 := Tryz.isAgg3
 z3 := Tryz.sizeOf3
 v3 := Tryz.zeroValue3
 t4 := Tryz.underlying4
 a4 := Tryz.isAgg4
 z4 := Tryz.sizeOf4
 v4 := Tryz.zeroValue4
 t22 := Tryz.underlying30
 a22 := Tryz.isAgg30
 z22 := Tryz.sizeOf30
 v22 := Tryz.zeroValue30
 i3 := by kernel_rfl }
open Go.RowKit Go.Lib Go.Sort in
theorem Tryz.slices_Compact_int (blk off cap : Nat) (zs : List Int) (w : World) (hH : Holds (Value.int .i64) w blk off zs.toArray) (hsz : zs.length ≤ 9223372036854775807) (hcap : zs.length ≤ cap) :
  Calls Tryz.prog 385 #[.slice (some ⟨blk, off, none⟩) zs.length cap] w fun e w' => e = .returned (.slice (some ⟨blk, off, none⟩) (Lib.compact zs).length cap) ∧ ∃ q, w' = putRow (Value.int .i64) (Sort.ahead w q) blk off (Lib.compact zs ++ List.replicate (zs.length - (Lib.compact zs).length) 0).toArray := Any.slices_Compact_int Tryz.laysNm220 blk off cap zs w hH hsz hcap
open Go.RowKit Go.Lib Go.Sort in
theorem Tryz.slices_Compact_int_empty (a : Option Addr) (cap : Nat) (w : World) :
  Calls Tryz.prog 385 #[.slice a 0 cap] w fun e w' => e = .returned (.slice a 0 cap) ∧ w' = w := Any.slices_Compact_int_empty Tryz.laysNm220 a cap w
open Go.RowKit Go.Sort in
theorem Tryz.slices_Sort_int_none (p : Option Addr) (cap : Nat) (w : World) :
  Calls Tryz.prog 152 #[.slice p 0 cap] w fun e w' => e = .returned (.tuple #[]) ∧ w' = w := Any.slices_Sort_int_none Tryz.lays189 p cap w
end Go.Proofs
namespace Go.Proofs.YtgkeplbnnjogiaaGreatR
open Go Go.RowKit Go.Proofs
open Nat (reduceEqDiff reduceLT reduceLeDiff reduceAdd reduceMul)
open List (reduceReplicate)
theorem owRow_int {w : World} {b : Nat} : ∀ {zs : List Int} {off : Nat} {G : List Nat}, OwRow w 1 b off (zs.map encI) G → G = [] ∧ ∀ (j : Nat) (x : Int), zs[j]? = some x → w.cell? ⟨b, off + j, none⟩ = some (.int .i64 x) ∧ oneW (.int .i64 x) = true
 | [], off, G, h => ⟨h, fun j x hx => by simp at hx⟩
 | z :: zs, off, G, h => by
  obtain ⟨_, G1, G2, h1, h2, rfl⟩ := h
  obtain ⟨v, Ga, Gb, hc, ⟨rfl, hw, rfl⟩, rfl, rfl⟩ := h1
  obtain ⟨rfl, ih⟩ := owRow_int h2
  refine ⟨rfl, fun j x hx => ?_⟩
  cases j with
  | zero =>
   simp only [List.getElem?_cons_zero, Option.some.injEq] at hx
   subst hx
   exact ⟨hc, hw⟩
  | succ j =>
   have := ih j x (by simpa using hx)
   rw [Nat.add_assoc, Nat.add_comm 1 j] at this
   exact this
theorem owRow_int' {w : World} {b : Nat} : ∀ {zs : List Int} {off : Nat}, (∀ (j : Nat) (x : Int), zs[j]? = some x → w.cell? ⟨b, off + j, none⟩ = some (.int .i64 x) ∧ oneW (.int .i64 x) = true) → OwRow w 1 b off (zs.map encI) []
 | [], off, h => rfl
 | z :: zs, off, h => by
  have h0 := h 0 z rfl
  refine ⟨rfl, [], [], ⟨_, [], [], h0.1, ⟨rfl, h0.2, rfl⟩, rfl, rfl⟩, owRow_int' fun j x hx => ?_, rfl⟩
  have := h (j + 1) x (by simpa using hx)
  rw [Nat.add_assoc, Nat.add_comm 1 j]
  exact this
def sortI (zs : List Int) : List Int := zs.mergeSort fun x y => decide (x ≤ y)
def uniqI (zs : List Int) : List Int := Lib.compact zs
def sortU (zs : List Int) : List Int := uniqI (sortI zs)
theorem sortI_len (zs : List Int) : (sortI zs).length = zs.length := (List.mergeSort_perm _ _).length_eq
theorem sortI_mem {zs : List Int} {x : Int} (h : x ∈ sortI zs) : x ∈ zs := (List.mergeSort_perm _ _).mem_iff.1 h
theorem holds_int {w : World} {b off : Nat} {zs : List Int} {row : Array Value} {ty : TypeId} (hh : w.heap[b]? = some (.cells row ty (0, 0))) (h : ∀ (j : Nat) (x : Int), zs[j]? = some x → w.cell? ⟨b, off + j, none⟩ = some (.int .i64 x) ∧ oneW (.int .i64 x) = true) : Go.Sort.Holds (Value.int .i64) w b off zs.toArray := by
 intro j hj
 obtain ⟨x, hx⟩ := at_some (l := zs) (k := j) (by simpa using hj)
 have e : zs.toArray[j]! = x := by
  rw [getElem!_pos _ j hj]
  simpa using (List.getElem?_eq_some_iff.1 hx).2
 rw [e]
 exact ⟨(h j x hx).1, by simp [World.frozen?, hh]⟩
theorem bel_put {w : World} {b off : Nat} {zs : List Int} {G : List Nat} (n : Nat) (os : Array Obj) (hb : b ∈ G) (hlt : b < w.heap.size) : Bel (fun k => k < w.heap.size ∧ k ∉ G) w (Go.Sort.grow (Go.Sort.putRow (Value.int .i64) (Go.Sort.ahead w n) b off zs.toArray) os) := by
 have hsz : (Go.Sort.putRow (Value.int .i64) (Go.Sort.ahead w n) b off zs.toArray).heap.size = w.heap.size := by simp [Go.Sort.putRow, Go.Sort.mapBlock, Go.Sort.ahead]
 refine ⟨rfl, rfl, rfl, ?_, fun k hk => ?_⟩
 ·show _ ≤ ((Go.Sort.putRow (Value.int .i64) (Go.Sort.ahead w n) b off zs.toArray).heap ++ os).size
  rw [Array.size_append, hsz]; omega
 ·show ((Go.Sort.putRow (Value.int .i64) (Go.Sort.ahead w n) b off zs.toArray).heap ++ os)[k]? = _
  rw [Array.getElem?_append_left (by rw [hsz]; exact hk.1)]
  have hne : k ≠ b := fun hh => hk.2 (hh ▸ hb)
  simp [Go.Sort.putRow, Go.Sort.mapBlock, Go.Sort.ahead, Array.getElem?_modify, hne.symm]
theorem ow_put {w : World} {b off cap m n : Nat} {zs ds : List Int} {row : Array Value} {ty : TypeId} {os : Array Obj} (hb : b < w.heap.size) (hh : w.heap[b]? = some (.cells row ty (0, 0))) (hc : off + cap * 1 ≤ row.size) (hln : Ln zs.length cap)
  (hz : ∀ (j : Nat) (x : Int), zs[j]? = some x → w.cell? ⟨b, off + j, none⟩ = some (.int .i64 x) ∧ oneW (.int .i64 x) = true) (hd : ds.length = zs.length) (hin : ∀ x ∈ ds, oneW (.int .i64 x) = true) (hm : m ≤ ds.length) :
  Ow (Go.Sort.grow (Go.Sort.putRow (Value.int .i64) (Go.Sort.ahead w n) b off ds.toArray) os) (.sl 1 ((ds.take m).map encI)) (.slice (some ⟨b, off, none⟩) m cap) [b] := by
 have hml : ((ds.take m).map encI).length = m := by rw [List.length_map, List.length_take]; omega
 have hH := holds_int hh hz
 have hsz : (Go.Sort.putRow (Value.int .i64) (Go.Sort.ahead w n) b off ds.toArray).heap.size = w.heap.size := by simp [Go.Sort.putRow, Go.Sort.mapBlock, Go.Sort.ahead]
 have hheap : (Go.Sort.grow (Go.Sort.putRow (Value.int .i64) (Go.Sort.ahead w n) b off ds.toArray) os).heap[b]? = some (.cells (Go.Sort.putCells (Value.int .i64) off ds.toArray row) ty (0, 0)) := by
  show ((Go.Sort.putRow (Value.int .i64) (Go.Sort.ahead w n) b off ds.toArray).heap ++ os)[b]? = _
  rw [Array.getElem?_append_left (by rw [hsz]; exact hb)]
  simp [Go.Sort.putRow, Go.Sort.mapBlock, Go.Sort.ahead, Array.getElem?_modify, hh, Go.Sort.onCells]
 refine ⟨some ⟨b, off, none⟩, cap, by rw [hml], by rw [hml]; exact hln.mono (by omega), .inr ⟨b, off, Go.Sort.putCells (Value.int .i64) off ds.toArray row, ty, [], rfl, hheap, by simpa [Go.Sort.putCells] using hc, ?_, rfl⟩⟩
 refine owRow_int' fun j x hx => ?_
 rw [List.getElem?_take] at hx
 split at hx
 ·rename_i hjm
  have hj : j < ds.toArray.size := by simpa using (List.getElem?_eq_some_iff.1 hx).1
  have e : ds.toArray[j]! = x := by
   rw [getElem!_pos _ j hj]
   simpa using (List.getElem?_eq_some_iff.1 hx).2
  have h1 := Go.Sort.cell?_putRow (Value.int .i64) (Go.Sort.ahead w n) b off zs.toArray ds.toArray (Go.Sort.holds_ahead _ _ _ _ _ _ hH) (by simpa using hd) j hj
  rw [e] at h1
  refine ⟨?_, hin x (at_mem hx)⟩
  rw [← h1]
  exact Go.Sort.cell?_grow _ _ _ (by rw [hsz]; exact hb)
 ·cases hx
theorem argsI_one {w : World} {X : Nat → Prop} {es : List (List T)} {sz : Nat} {vs : List Value} {G : List Nat} (h : ResVs w X [oL sz es] vs G) : ∃ v, vs = [v] ∧ Ow w (.sl sz es) v G := by
 match vs, h with
 | [v], ⟨G1, G2, h1, h2, e⟩ =>
  obtain ⟨_, Ga, Gb, h3, h4, e2⟩ := h1
  simp only [ResVs] at h2
  simp only [ResC] at h4
  subst h2 h4 e2 e
  exact ⟨v, rfl, by simpa using h3⟩
 | [], h => exact h.elim
theorem c_slices_Sort_int (zs : List Int) : CtrI Tryz.prog n_slices_Sort_int_int [oL 1 (zs.map encI)] [some (1, (sortI zs).map encI)] [] := by
 refine ⟨⟨Tryz.f152, Tryz.func152, by kernel_rfl, by kernel_rfl⟩, fun w X vs G ht h hG hGb => ?_⟩
 obtain ⟨v, rfl, hr⟩ := argsI_one h
 obtain ⟨A, cap, rfl, hln, hr⟩ := hr
 rw [List.length_map] at hln ⊢
 rcases hr with ⟨rfl, hz, rfl⟩ | ⟨b, off, row, ty, G1, rfl, hh, hc, hrow, rfl⟩
 ·obtain rfl : zs = [] := by simpa using hz
  refine (Tryz.slices_Sort_int_none A 0 w).mono ?_
  rintro e w' ⟨rfl, rfl⟩
  exact ⟨Bel.refl _ _, [], [], [], rfl, ⟨[], [], by simp [sortI]; exact ⟨A, 0, rfl, hln, .inl ⟨rfl, rfl, rfl⟩⟩, rfl, rfl⟩, rfl, by simp, by simp⟩
 ·obtain ⟨rfl, hz⟩ := owRow_int hrow
  have hb : b < w.heap.size := (hGb b (by simp)).1
  have hin : ∀ x ∈ sortI zs, oneW (.int .i64 x) = true := fun x hx => by
   obtain ⟨j, hj⟩ := List.getElem?_of_mem (sortI_mem hx)
   exact (hz j x hj).2
  refine (Tryz.slices_Sort_int b off cap zs w (holds_int hh hz) hb (by have := hln.2; simp only [roomB] at this; omega)).mono ?_
  rintro e w' ⟨rfl, n, os, rfl⟩
  have hB := bel_put (zs := sortI zs) (b := b) (off := off) (G := [b]) n os (by simp) hb
  have hO := ow_put (m := zs.length) (n := n) (os := os) (ds := sortI zs) hb hh hc hln hz (sortI_len zs) hin (by rw [sortI_len]; exact Nat.le_refl _)
  rw [List.take_of_length_le (by rw [sortI_len]; exact Nat.le_refl _)] at hO
  refine ⟨hB, [], [b], [], rfl, ⟨[b], [], hO, rfl, rfl⟩, rfl, by simp, fun b' hb' => ⟨.inl (by simpa using hb'), ?_⟩⟩
  rw [show b' = b by simpa using hb']
  exact Nat.lt_of_lt_of_le hb hB.size
theorem getD_mem {zs : List Int} {j : Nat} (h : j < zs.length) : zs.toArray[j]! ∈ zs := by
 rw [getElem!_pos zs.toArray j (by simpa using h)]
 simp
theorem compact_mem {zs : List Int} {x : Int} (h : x ∈ Lib.compact zs) : x ∈ zs := by
 simp only [Lib.compact, Lib.compactUpTo, List.mem_map, List.mem_filter, List.mem_range] at h
 obtain ⟨j, ⟨hj, _⟩, rfl⟩ := h
 exact getD_mem hj
theorem compact_len (zs : List Int) : (Lib.compact zs).length ≤ zs.length := by
 unfold Lib.compact Lib.compactUpTo
 rw [List.length_map]
 exact Nat.le_trans (List.length_filter_le _ _) (by simp)
theorem c_slices_Compact_int (zs : List Int) : CtrI Tryz.prog n_slices_Compact_int_int [oL 1 (zs.map encI)] [none] [rL 1 ((uniqI zs).map encI)] := by
 refine ⟨⟨Tryz.f385, Tryz.func385, by kernel_rfl, by kernel_rfl⟩, fun w X vs G ht h hG hGb => ?_⟩
 obtain ⟨v, rfl, hr⟩ := argsI_one h
 obtain ⟨A, cap, rfl, hln, hr⟩ := hr
 rw [List.length_map] at hln ⊢
 rcases hr with ⟨rfl, hz, rfl⟩ | ⟨b, off, row, ty, G1, rfl, hh, hc, hrow, rfl⟩
 ·obtain rfl : zs = [] := by simpa using hz
  refine (Tryz.slices_Compact_int_empty A 0 w).mono ?_
  rintro e w' ⟨rfl, rfl⟩
  exact ⟨Bel.refl _ _, [_], [], [], rfl, rfl, ⟨[], [], by simp [ResV, ResC, uniqI, Lib.compact]; exact ⟨A, 0, rfl, hln, .inl ⟨rfl, rfl, rfl⟩⟩, rfl, rfl⟩, by simp, by simp⟩
 ·obtain ⟨rfl, hz⟩ := owRow_int hrow
  have hb : b < w.heap.size := (hGb b (by simp)).1
  have hlc := compact_len zs
  have hin : ∀ x ∈ Lib.compact zs ++ List.replicate (zs.length - (Lib.compact zs).length) 0, oneW (.int .i64 x) = true := fun x hx => by
   rcases List.mem_append.1 hx with hx | hx
   ·obtain ⟨j, hj⟩ := List.getElem?_of_mem (compact_mem hx)
    exact (hz j x hj).2
   ·rw [(List.mem_replicate.1 hx).2]; rfl
  refine (Tryz.slices_Compact_int b off cap zs w (holds_int hh hz) (by have := hln.2; simp only [roomB] at this; omega) hln.1).mono ?_
  rintro e w' ⟨rfl, n, rfl⟩
  have hB := bel_put (zs := Lib.compact zs ++ List.replicate (zs.length - (Lib.compact zs).length) 0) (b := b) (off := off) (G := [b]) n #[] (by simp) hb
  have hO := ow_put (m := (Lib.compact zs).length) (n := n) (os := #[]) (ds := Lib.compact zs ++ List.replicate (zs.length - (Lib.compact zs).length) 0) hb hh hc hln hz (by simp; omega) hin (by simp)
  rw [List.take_left] at hO
  rw [Go.Sort.grow_empty] at hB hO
  refine ⟨hB, [_], [], [b], rfl, rfl, ⟨[b], [], ?_, rfl, rfl⟩, by simp, fun b' hb' => ⟨.inl (by simpa using hb'), ?_⟩⟩
  ·exact ⟨⟨_, rfl⟩, [b], [], hO, rfl, rfl⟩
  ·rw [show b' = b by simpa using hb']
   exact Nat.lt_of_lt_of_le hb hB.size
end Go.Proofs.YtgkeplbnnjogiaaGreatR
namespace Go.Proofs.YtgkeplbnnjogiaaGreatR
open Go Go.RowKit Go.Proofs
open Nat (reduceEqDiff reduceLT reduceLeDiff reduceAdd reduceMul)
open List (reduceReplicate)
def put : List Int → Int → List Int
 | [], n => [n]
 | x :: l, n => if x < n then x :: put l n else if x = n then x :: l else n :: x :: l
theorem put_mem : ∀ {l : List Int} {n x : Int}, x ∈ put l n ↔ x = n ∨ x ∈ l
 | [], n, x => by simp [put]
 | y :: l, n, x => by
  rw [put]
  split
  ·rw [List.mem_cons, put_mem, List.mem_cons]
   constructor
   ·rintro (h | h | h) <;> simp [h]
   ·rintro (h | h | h) <;> simp [h]
  ·split
   ·rename_i h1 h2
    subst h2
    simp
   ·simp
theorem put_up : ∀ {l : List Int} {n : Int}, l.Pairwise (· < ·) → (put l n).Pairwise (· < ·)
 | [], n, _ => by simp [put]
 | y :: l, n, h => by
  rw [List.pairwise_cons] at h
  rw [put]
  split
  ·rw [List.pairwise_cons]
   refine ⟨fun x hx => ?_, put_up h.2⟩
   rcases put_mem.1 hx with rfl | hx
   ·assumption
   ·exact h.1 x hx
  ·split
   ·rw [List.pairwise_cons]; exact h
   ·rw [List.pairwise_cons, List.pairwise_cons]
    refine ⟨fun x hx => ?_, h⟩
    rcases List.mem_cons.1 hx with rfl | hx
    ·omega
    ·have := h.1 x hx; omega
theorem up_eq : ∀ {l m : List Int}, l.Pairwise (· < ·) → m.Pairwise (· < ·) → (∀ x, x ∈ l ↔ x ∈ m) → l = m
 | [], [], _, _, _ => rfl
 | [], b :: m, _, _, h => by have := (h b).2 (by simp); simp at this
 | a :: l, [], _, _, h => by have := (h a).1 (by simp); simp at this
 | a :: l, b :: m, h1, h2, h => by
  rw [List.pairwise_cons] at h1 h2
  have hab : a = b := by
   rcases List.mem_cons.1 ((h a).1 (by simp)) with e | e
   ·exact e
   ·rcases List.mem_cons.1 ((h b).2 (by simp)) with e2 | e2
    ·exact e2.symm
    ·have := h1.1 b e2; have := h2.1 a e; omega
  subst hab
  congr 1
  refine up_eq h1.2 h2.2 fun x => ⟨fun hx => ?_, fun hx => ?_⟩
  ·rcases List.mem_cons.1 ((h x).1 (by simp [hx])) with e | e
   ·have := h1.1 x hx; omega
   ·exact e
  ·rcases List.mem_cons.1 ((h x).2 (by simp [hx])) with e | e
   ·have := h2.1 x hx; omega
   ·exact e
theorem sortI_up (zs : List Int) : (sortI zs).Pairwise (· ≤ ·) := by
 have := List.pairwise_mergeSort (le := fun x y : Int => decide (x ≤ y)) (fun a b c h1 h2 => by simp only [decide_eq_true_eq] at *; omega) (fun a b => by simp only [Bool.or_eq_true, decide_eq_true_eq]; omega) zs
 exact this.imp (by simp)
theorem uniq_up {zs : List Int} (h : zs.Pairwise (· ≤ ·)) : ∀ m, m ≤ zs.length → (Lib.compactUpTo zs.toArray m).Pairwise (· < ·) ∧ ∀ x, x ∈ Lib.compactUpTo zs.toArray m ↔ x ∈ zs.take m
 | 0, _ => by simp [Lib.compactUpTo]
 | m + 1, hm => by
  obtain ⟨ih1, ih2⟩ := uniq_up h m (by omega)
  obtain ⟨x, hx⟩ := at_some (l := zs) (k := m) (by omega)
  have e0 : zs.toArray[m]! = x := by
   rw [getElem!_pos _ m (by simpa using (by omega : m < zs.length))]
   simpa using (List.getElem?_eq_some_iff.1 hx).2
  rw [Lib.compactUpTo_succ, take_snoc hx, e0]
  cases m with
  | zero =>
   have hk : Lib.keeps zs.toArray 0 = true := by simp [Lib.keeps]
   rw [hk]
   simp [Lib.compactUpTo]
  | succ m =>
   obtain ⟨y, hy⟩ := at_some (l := zs) (k := m) (by omega)
   have e1 : zs.toArray[m + 1 - 1]! = y := by
    rw [Nat.add_sub_cancel, getElem!_pos _ m (by simpa using (by omega : m < zs.length))]
    simpa using (List.getElem?_eq_some_iff.1 hy).2
   have hyx : y ≤ x := by
    have := List.pairwise_iff_getElem.1 h m (m + 1) (by omega) (by omega) (by omega)
    rw [(List.getElem?_eq_some_iff.1 hy).2, (List.getElem?_eq_some_iff.1 hx).2] at this
    exact this
   have hyt : y ∈ zs.take (m + 1) := by rw [take_snoc hy]; simp
   have hle : ∀ z ∈ zs.take (m + 1), z ≤ y := fun z hz => by
    rw [take_snoc hy] at hz
    rcases List.mem_append.1 hz with hz | hz
    ·have hp := h.sublist (List.take_sublist (m + 1) zs)
     rw [take_snoc hy, List.pairwise_append] at hp
     exact hp.2.2 z hz y (by simp)
    ·rw [List.mem_singleton.1 hz]; exact Int.le_refl _
   by_cases hxy : x = y
   ·have hk : Lib.keeps zs.toArray (m + 1) = false := Lib.keeps_neg (by omega) (by rw [e0, e1, hxy])
    rw [hk]
    simp only [Bool.false_eq_true, if_false, List.append_nil]
    refine ⟨ih1, fun z => ?_⟩
    rw [ih2, List.mem_append, List.mem_singleton]
    constructor
    ·exact .inl
    ·rintro (hz | rfl)
     ·exact hz
     ·rw [hxy]; exact hyt
   ·have hk : Lib.keeps zs.toArray (m + 1) = true := Lib.keeps_pos (by rw [e0, e1]; exact hxy)
    rw [hk, if_pos rfl]
    refine ⟨?_, fun z => ?_⟩
    ·rw [List.pairwise_append]
     refine ⟨ih1, by simp, fun z hz w hw => ?_⟩
     rw [List.mem_singleton.1 hw]
     have := hle z ((ih2 z).1 hz)
     omega
    ·rw [List.mem_append, List.mem_append, ih2]
theorem sortU_up (zs : List Int) : (sortU zs).Pairwise (· < ·) ∧ ∀ x, x ∈ sortU zs ↔ x ∈ zs := by
 have h := uniq_up (sortI_up zs) (sortI zs).length (Nat.le_refl _)
 refine ⟨h.1, fun x => ?_⟩
 rw [sortU, uniqI, Lib.compact, h.2 x, List.take_length, sortI]
 exact (List.mergeSort_perm _ _).mem_iff
def puts (zs : List Int) : List Int := zs.foldl put []
theorem foldl_put_up : ∀ (zs l : List Int), l.Pairwise (· < ·) → (zs.foldl put l).Pairwise (· < ·) ∧ ∀ x, x ∈ zs.foldl put l ↔ x ∈ l ∨ x ∈ zs
 | [], l, h => ⟨h, by simp⟩
 | z :: zs, l, h => by
  obtain ⟨h1, h2⟩ := foldl_put_up zs (put l z) (put_up h)
  refine ⟨h1, fun x => ?_⟩
  rw [List.foldl_cons, h2, put_mem, List.mem_cons]
  constructor
  ·rintro ((h | h) | h) <;> simp [h]
  ·rintro (h | h | h) <;> simp [h]
theorem sortU_puts (zs : List Int) : sortU zs = puts zs := by
 obtain ⟨h1, h2⟩ := sortU_up zs
 obtain ⟨h3, h4⟩ := foldl_put_up zs [] List.Pairwise.nil
 exact up_eq h1 h3 fun x => by rw [h2, puts, h4]; simp
theorem put_len : ∀ {l : List Int} {n : Int}, (put l n).length ≤ l.length + 1
 | [], n => by simp [put]
 | y :: l, n => by
  have := put_len (l := l) (n := n)
  rw [put]
  split
  ·simp only [List.length_cons]; omega
  ·split <;> simp
end Go.Proofs.YtgkeplbnnjogiaaGreatR
namespace Go.Proofs.YtgkeplbnnjogiaaGreatR
open Go Go.RowKit Go.Proofs
open Nat (reduceEqDiff reduceLT reduceLeDiff reduceAdd reduceMul)
open List (reduceReplicate)
end Go.Proofs.YtgkeplbnnjogiaaGreatR
namespace Go.Proofs.YtgkeplbnnjogiaaGreatR
open Go Go.RowKit Go.Proofs
open Nat (reduceEqDiff reduceLT reduceLeDiff reduceAdd reduceMul)
open List (reduceReplicate)
end Go.Proofs.YtgkeplbnnjogiaaGreatR
namespace Go.Proofs.YtgkeplbnnjogiaaGreatR
open Go Go.RowKit Go.Proofs
open Nat (reduceEqDiff reduceLT reduceLeDiff reduceAdd reduceMul)
open List (reduceReplicate)
def m_impl_sorted : MC :=
(.seq (pr [.nilo 2 0 1] [0])
(.seq (pr [.mv 4 (.s 0), .call 5 [1] (.f n_slices_Clone_int_int) [.s 4], .mv 3 (.s 5)] [3])
(.seq (pr [.mv 6 (.s 3), .callI 7 [] (.f n_slices_Sort_int_int) [.s 6] [1] []] [3])
(.seq (pr [.mv 8 (.s 3), .callI 9 [0] (.f n_slices_Compact_int_int) [.s 8] [1] [], .mv 2 (.s 9)] [2])
.ret))))
theorem c_impl_sorted (l : List Int) (hl : l.length ≤ 1073741824) : Ctr Tryz.prog n_impl_sorted [aL 1 (l.map encI)] [rL 1 ((sortU l).map encI)] := by
 refine cA m_impl_sorted 2 10 [(.tmp 2, [true])] Tryz.func301 rfl rfl ?_; unfold m_impl_sorted
 intro hb
 clear hb
 simp only [↓reduceIte, go_sem]
 apply callK_of (c_slices_Clone_int l hl)
 simp only [↓reduceIte, go_sem]
 try intros
 apply callIK_of (c_slices_Sort_int l)
 simp only [↓reduceIte, go_sem]
 try intros
 refine ⟨(sortI_len l).symm, ?_⟩
 apply callIK_of (c_slices_Compact_int (sortI l))
 simp only [↓reduceIte, go_sem]
 try intros
 rfl
theorem put_cut {n : Int} : ∀ {l : List Int} {k : Nat}, (∀ x ∈ l.take k, x < n) → put l n = l.take k ++ put (l.drop k) n
 | l, 0, _ => by simp
 | [], k + 1, _ => by simp
 | x :: l, k + 1, h => by
  have hx : x < n := h x (by simp)
  rw [put, if_pos hx, List.take_succ_cons, List.drop_succ_cons, List.cons_append, ← put_cut (fun y hy => h y (by simp [hy]))]
def m_spec_l9Put : MC :=
(.seq (pr [.nilo 4 0 1] [0,1])
(.seq (pr [.mv 5 (ci 0)] [0,1,5])
(.seq (.block 0 (.loop ([0,1,5], [0,1]) (.seq (.seq (.reg [Za (.mv 6 (.s 5)), Za (.mv 7 (.s 0)), Za (.len 8 false (.s 7)), Za (.bin 9 false .lss (.s 6) (.s 8)), Za (.mv 10 (.s 9)), Zb 10 true (.mv 11 (.s 0)), Zb 10 true (.mv 12 (.s 5)), Zb 10 true (.idx 13 1 (.s 11) (.s 12)), Zb 10 true (.load 14 false 1 (.s 13)), Zb 10 true (.mv 15 (.s 1)), Zb 10 true (.bin 16 false .lss (.s 14) (.s 15)), Za (.pick 17 (.s 10) (.s 16) cF)] [0,1,5,17])
(.cond (.s 17) .skip (.exit 0)))
(.block 1 (pr [.mv 18 (.s 5), .bin 19 false .add (.s 18) (ci 1), .mv 5 (.s 19)] [0,1,5])))))
(.seq (.seq (.reg [Za (.mv 20 (.s 5)), Za (.mv 21 (.s 0)), Za (.len 22 false (.s 21)), Za (.bin 23 false .lss (.s 20) (.s 22)), Za (.mv 24 (.s 23)), Zb 24 true (.mv 25 (.s 0)), Zb 24 true (.mv 26 (.s 5)), Zb 24 true (.idx 27 1 (.s 25) (.s 26)), Zb 24 true (.load 28 false 1 (.s 27)), Zb 24 true (.mv 29 (.s 1)), Zb 24 true (.bin 30 false .eql (.s 28) (.s 29)), Za (.pick 31 (.s 24) (.s 30) cF)] [0,1,5,31])
(.cond (.s 31) (.seq (pr [.lit 32 0 1 8 [], .mv 33 (.s 0), .app 34 0 1 8 (.s 32) (.s 33), .mv 4 (.s 34)] [4])
.ret) .skip))
(.seq (.dreg [{ o := .lit 35 0 1 8 [], hs := [36,37,38,40,41,43,44,45], ho := [1], ws := [0] }, Zf [35,37,40,41,43,44,45] [0,1] (.mv 36 (.s 0)), Zf [35,36,40,41,43,44,45] [0,1] (.mv 37 (.s 5)), Zg [35,40,41,43,44,45] [0,1] [1,2] (.slc 38 1 (.s 36) none (some (.s 37)) none), { o := .app 39 0 1 8 (.s 35) (.s 38), hs := [40,41,43,44,45], ho := [1], ws := [0], bf := (.range 4) }, Zf [35,36,37,38,39,43,44,45] [0] (.mv 40 (.s 1)), { o := .lit 41 1 1 8 [.s 40], hs := [35,36,37,38,39,43,44,45], ho := [0], ws := [1], bf := [5] }, { o := .app 42 0 1 8 (.s 39) (.s 41), hs := [43,44,45], ws := [0], bf := (.range 7) }, Zf [35,36,37,38,39,40,41,42,44] [0,1] (.mv 43 (.s 0)), Zf [35,36,37,38,39,40,41,42,43] [0,1] (.mv 44 (.s 5)), Zg [35,36,37,38,39,40,41,42] [0,1] [8,9] (.slc 45 1 (.s 43) (some (.s 44)) none none), { o := .app 46 0 1 8 (.s 42) (.s 45), ws := [0], bf := (.range 11) }, Ze (.range 12) (.mv 4 (.s 46))] [4])
.ret)))))
theorem c_spec_l9Put (l : List Int) (n : Int) (hs : l.length ≤ 1073741824) : Ctr Tryz.prog n_spec_l9Put [aL 1 (l.map encI), aI n] [rL 1 ((put l n).map encI)] := by
 refine cA m_spec_l9Put 2 47 [(.tmp 4, [true])] Tryz.func97 rfl rfl ?_; unfold m_spec_l9Put
 intro hb
 clear hb
 simp only [↓reduceIte, go_sem]
 refine loopK_up (fun k : Nat => [(5, vI k)]) (fun k => []) (fun k => k ≤ l.length ∧ ∀ x ∈ l.take k, x < n) (fun k => l.length - k) 0 ?_
 simp only [↓reduceIte, go_sem]
 refine ⟨?_, ⟨by omega, by simp⟩, ?_⟩
 ·simp only [↓reduceIte, go_sem]
 ·rintro k ⟨hk, hlt⟩
  by_cases hkl : k < l.length
  ·obtain ⟨x, hx⟩ := at_some hkl
   have h1 : (k : Int) < (l.length : Int) := by omega
   have h0 : (0 : Int) ≤ (k : Int) := by omega
   simp only [↓reduceIte, go_sem, h1, h0, bk_eq hx, ↓cut_lo (f := encI) (l := l) hk, ↓cut_hi (f := encI) (l := l) hk, ↓flat_of (f := encI) (fun _ => rfl) l, ↓flat_of (f := encI) (fun _ => rfl) (l.take k), ↓flat_of (f := encI) (fun _ => rfl) (l.drop k), List.length_append, List.length_map, List.length_cons, List.length_nil, Nat.zero_add]
   refine ⟨fun hxn => ?_, fun hxn => ?_⟩
   ·refine ⟨k + 1, by rw [wI (by omega) (by omega)]; omega, ⟨by omega, fun y hy => ?_⟩, by omega⟩
    rw [take_snoc hx] at hy
    rcases List.mem_append.1 hy with hy | hy
    ·exact hlt y hy
    ·rw [List.mem_singleton.1 hy]; exact hxn
   ·have hp := put_cut hlt
    rw [drop_cons hx, put, if_neg hxn] at hp
    have ht := List.length_take_le k l
    have hd : (l.drop k).length ≤ l.length := by simp
    refine ⟨fun he => ⟨by simp only [roomB]; omega, ?_⟩, fun he => ⟨⟨by omega, by omega⟩, by simp only [roomB]; omega, by decide, by simp only [roomB]; omega, ⟨by omega, by omega⟩, by simp only [roomB]; omega, ?_⟩⟩
    ·rw [if_pos he, ← drop_cons hx, List.take_append_drop] at hp
     rw [hp]
    ·rw [if_neg he, ← drop_cons hx] at hp
     rw [hp]
     simp [encI]
  ·have h1 : ¬ (k : Int) < (l.length : Int) := by omega
   simp only [↓reduceIte, go_sem, h1, ↓cut_lo (f := encI) (l := l) hk, ↓cut_hi (f := encI) (l := l) hk, ↓flat_of (f := encI) (fun _ => rfl) (l.take k), ↓flat_of (f := encI) (fun _ => rfl) (l.drop k), List.length_append, List.length_map, List.length_cons, List.length_nil, Nat.zero_add]
   obtain rfl : k = l.length := by omega
   have hp := put_cut hlt
   rw [List.drop_length, List.take_length, put] at hp
   refine ⟨⟨by omega, by omega, by omega⟩, ?_⟩
   rw [hp, List.take_length, List.drop_length]
   exact ⟨by simp only [roomB]; omega, by decide, by simp only [roomB]; omega, ⟨by omega, by omega, by omega⟩, by simp only [roomB, List.length_nil]; omega, by simp [encI]⟩
def ticks (l : List GCapture) (a : GAddress) : List Int := (l.filter fun c => decide (c.Address = a)).map (·.Tick)
theorem puts_len : ∀ (zs : List Int) , (puts zs).length ≤ zs.length := by
 intro zs
 suffices H : ∀ (zs l : List Int), (zs.foldl put l).length ≤ l.length + zs.length by simpa [puts] using H zs []
 intro zs
 induction zs with
 | nil => intro l; simp
 | cons z zs ih =>
  intro l
  have h1 := ih (put l z)
  have h2 := put_len (l := l) (n := z)
  rw [List.foldl_cons, List.length_cons]; omega
def lo (a : GArchive) (x : GAddress) : List Int := puts (ticks (served a) x)
end Go.Proofs.YtgkeplbnnjogiaaGreatR
namespace Go.Proofs.YtgkeplbnnjogiaaGreatR
open Go Go.RowKit Go.Proofs
open Nat (reduceEqDiff reduceLT reduceLeDiff reduceAdd reduceMul)
open List (reduceReplicate)
abbrev fC (f : FuncId) (cs : List T) : RV := ⟨false, [(false, .fn f cs)]⟩
attribute [go_sem] fC
def m_slices_swapRangeCmpFunc_int : MC :=
(.seq (pr [.mv 10 (ci 0)] [0,1,2,3,10])
(.block 0 (.loop ([0,1,2,3,10], []) (.seq (.seq (pr [.mv 11 (.s 10), .mv 12 (.s 3), .bin 13 false .lss (.s 11) (.s 12)] [0,1,2,3,10,13])
(.cond (.s 13) .skip (.exit 0)))
(.seq (.block 1 (.dreg [Zc [17,18,19,20,21,22,23,24,25,26,27,28,29,30,31,32,33,34,35] (.mv 16 (.s 0)), Zc [16,18,20,21,22,23,24,25,26,27,28,29,30,31,32,33,34,35] (.mv 17 (.s 1)), Zc [16,17,20,21,22,23,24,25,26,27,28,29,30,31,32,33,34,35] (.mv 18 (.s 10)), Zd [16,20,21,22,23,24,25,26,27,28,29,30,31,32,33,34,35] [1,2] (.bin 19 false .add (.s 17) (.s 18)), Zf [16,17,18,19,21,22,23,24,25,26,27,28,29,30,31,32,33,34,35,36] [0] (.mv 20 (.s 0)), Zf [16,17,18,19,20,22,24,25,26,27,28,29,30,31,32,33,34,35,36] [0] (.mv 21 (.s 2)), Zf [16,17,18,19,20,21,24,25,26,27,28,29,30,31,32,33,34,35,36] [0] (.mv 22 (.s 10)), Zg [16,17,18,19,20,24,25,26,27,28,29,30,31,32,33,34,35,36] [0] [5,6] (.bin 23 false .add (.s 21) (.s 22)), Zc [16,17,18,19,20,21,22,23,25,26,27,30,31,32,33,34,35] (.mv 24 (.s 0)), Zc [16,17,18,19,20,21,22,23,24,26,30,31,32,33,34,35] (.mv 25 (.s 2)), Zc [16,17,18,19,20,21,22,23,24,25,30,31,32,33,34,35] (.mv 26 (.s 10)), Zd [16,17,18,19,20,21,22,23,24,30,31,32,33,34,35] [9,10] (.bin 27 false .add (.s 25) (.s 26)), Zd [16,17,18,19,20,21,22,23,30,31,32,33,34,35] [8,9,10,11] (.idx 28 1 (.s 24) (.s 27)), Zd [16,17,18,19,20,21,22,23,30,31,32,33,34,35] [8,9,10,11,12] (.load 29 false 1 (.s 28)), Zc [16,17,18,19,20,21,22,23,24,25,26,27,28,29,31,32,33] (.mv 30 (.s 0)), Zc [16,17,18,19,20,21,22,23,24,25,26,27,28,29,30,32] (.mv 31 (.s 1)), Zc [16,17,18,19,20,21,22,23,24,25,26,27,28,29,30,31] (.mv 32 (.s 10)), Zd [16,17,18,19,20,21,22,23,24,25,26,27,28,29,30] [15,16] (.bin 33 false .add (.s 31) (.s 32)), Zd [16,17,18,19,20,21,22,23,24,25,26,27,28,29] [14,15,16,17] (.idx 34 1 (.s 30) (.s 33)), Zd [16,17,18,19,20,21,22,23,24,25,26,27,28,29] [14,15,16,17,18] (.load 35 false 1 (.s 34)), Zd [20,21,22,23] [0,1,2,3,8,9,10,11,12,13,14,15,16,17,18,19] (.idx 36 1 (.s 16) (.s 19)), { o := .store 1 (.s 36) (.s 29), hs := [20,21,22,23], ws := [0], bf := [0,1,2,3,8,9,10,11,12,13,14,15,16,17,18,19,20] }, Ze (.range 22) (.idx 37 1 (.s 20) (.s 23)), { o := .store 1 (.s 37) (.s 35), ws := [0], bf := (.range 23) }] [0,1,2,3,10]))
(pr [.mv 14 (.s 10), .bin 15 false .add (.s 14) (ci 1), .mv 10 (.s 15)] [0,1,2,3,10]))))))
theorem c_slices_swapRangeZ (P X M Y Q : List Int) (f : FuncId) {cs : List T} {a b n : Nat} (ha : P.length = a) (hb : (P ++ X ++ M).length = b) (hX : X.length = n) (hY : Y.length = n) : CtrI Tryz.prog n_slices_swapRangeCmpFunc_int [oL 1 ((P ++ X ++ M ++ Y ++ Q).map encI), iI a, iI b, iI n, fC f cs] [some (1, (P ++ Y ++ M ++ X ++ Q).map encI)] [] := by
 have hL0 : (P ++ X ++ M ++ Y ++ Q).length = b + n + Q.length := by rw [List.length_append, List.length_append, hb, hY]
 have hL1 : (P ++ Y ++ M ++ X ++ Q).length = (P ++ X ++ M ++ Y ++ Q).length := by simp; omega
 have hb' : b = a + n + M.length := by rw [← hb]; simp; omega
 have hsw0 : swp P X M Y Q 0 = P ++ X ++ M ++ Y ++ Q := by simp [swp]
 have hswn : swp P X M Y Q n = P ++ Y ++ M ++ X ++ Q := by simp [swp, ← hX, List.take_of_length_le (show Y.length ≤ X.length by omega), List.drop_of_length_le (show Y.length ≤ X.length by omega)]
 refine ctrI_at (M := m_slices_swapRangeCmpFunc_int) (m := 0) (n := 38) (res := []) hmix Tryz.func435 rfl (by kernel_rfl) rfl (by kernel_rfl) (by kernel_rfl) (Nat.le_of_ble_eq_true rfl) rfl rfl ?_; unfold m_slices_swapRangeCmpFunc_int
 intro hbd
 have hl := len_of_bd hbd
 clear hbd
 simp only [roomB] at hl
 rw [← hsw0, ← hswn]
 rw [← hsw0, ← hswn] at hL1
 rw [← hsw0] at hl hL0
 subst hX
 generalize hN : (swp P X M Y Q 0).length = N at *
 simp only [↓reduceIte, go_sem, hN]
 refine loopK_rng X (fun i => [(10, vI i)]) (fun i => [(0, ⟨1, .row true 1 ((swp P X M Y Q i).map encI)⟩)]) (fun _ => True) (by simp only [roomB]; omega) ?_
 simp only [↓reduceIte, go_sem]
 refine ⟨?_, trivial, ?_, ?_⟩
 ·simp only [↓reduceIte, go_sem]
 ·intro i x hx _ h0 h1 hw
  have hi := len_at hx
  obtain ⟨y, hy⟩ := at_some (show i < Y.length by omega)
  obtain ⟨e1, e2⟩ := swp_two (P := P) (M := M) (Q := Q) (f := encI) hx hy
  have hlen := swp_len (P := P) (X := X) (M := M) (Y := Y) (Q := Q) (i := i) hY.symm
  rw [e1, e2]
  generalize hAe : (P ++ Y.take i).map encI = A at e1 e2
  generalize hBe : (X.drop (i + 1) ++ M ++ X.take i).map encI = B at e1 e2
  generalize hCe : (Y.drop (i + 1) ++ Q).map encI = C at e1 e2
  have hA : A.length = a + i := by subst hAe; simp; omega
  have hB : (a + i) + 1 + B.length = b + i := by subst hBe; simp; omega
  have hC : C.length = Y.length - (i + 1) + Q.length := by subst hCe; simp
  obtain ⟨g1, g2, s1, s2, hL, d1, d2⟩ := two_at (C := C) hA hB
  have hL' : ∀ e e', (two A e B e' C).length = N := fun e e' => by rw [hL]; omega
  have k1 : (0 : Int) ≤ ((a + i : Nat) : Int) := by omega
  have k2 : ((a + i : Nat) : Int) < (N : Int) := by omega
  have k3 : (0 : Int) ≤ ((b + i : Nat) : Int) := by omega
  have k4 : ((b + i : Nat) : Int) < (N : Int) := by omega
  have k5 : ¬ b + i = a + i := by omega
  simp only [↓reduceIte, go_sem, g1, g2, s1, s2, hL', hw, h1, wN (a := a) (b := i) (by omega), wN (a := b) (b := i) (by omega), k1, k2, k3, k4]
 ·intro _
  simp only [↓reduceIte, go_sem]
def RotZ (P X Y Q : List Int) (m : Nat) (d : List Int) (i j : Nat) : Prop :=
 ∃ C X' Y' D, d = P ++ C ++ X' ++ Y' ++ D ++ Q ∧ X'.length = i ∧ Y'.length = j ∧ P.length + C.length + i = m ∧ C ++ Y' ++ X' ++ D = Y ++ X ∧ 0 < i ∧ 0 < j
theorem RotZ.gt {P X Y Q : List Int} {m : Nat} {d : List Int} {i j : Nat} (h : RotZ P X Y Q m d i j) (hij : j < i) :
  ∃ P' X1 M Y' Q', d = P' ++ X1 ++ M ++ Y' ++ Q' ∧ P'.length = m - i ∧ (P' ++ X1 ++ M).length = m ∧ X1.length = j ∧ Y'.length = j ∧ RotZ P X Y Q m (P' ++ Y' ++ M ++ X1 ++ Q') (i - j) j := by
 obtain ⟨C, X', Y', D, rfl, rfl, rfl, h3, h4, h5, h6⟩ := h
 obtain ⟨X1, X2, rfl, hX1⟩ : ∃ X1 X2, X' = X1 ++ X2 ∧ X1.length = Y'.length := ⟨X'.take Y'.length, X'.drop Y'.length, (List.take_append_drop _ _).symm, by simp; omega⟩
 simp only [List.length_append] at *
 exact ⟨P ++ C, X1, X2, Y', D ++ Q, by simp, by simp; omega, by simp; omega, hX1, rfl, C ++ Y', X2, X1, D, by simp, by omega, by omega, by simp; omega, by rw [← h4]; simp, by omega, by omega⟩
theorem RotZ.le {P X Y Q : List Int} {m : Nat} {d : List Int} {i j : Nat} (h : RotZ P X Y Q m d i j) (hij : i < j) :
  ∃ P' X' M Y2 Q', d = P' ++ X' ++ M ++ Y2 ++ Q' ∧ P'.length = m - i ∧ (P' ++ X' ++ M).length = m + j - i ∧ X'.length = i ∧ Y2.length = i ∧ RotZ P X Y Q m (P' ++ Y2 ++ M ++ X' ++ Q') i (j - i) := by
 obtain ⟨C, X', Y', D, rfl, rfl, rfl, h3, h4, h5, h6⟩ := h
 obtain ⟨Y1, Y2, rfl, hY2⟩ : ∃ Y1 Y2, Y' = Y1 ++ Y2 ∧ Y2.length = X'.length := ⟨Y'.take (Y'.length - X'.length), Y'.drop (Y'.length - X'.length), (List.take_append_drop _ _).symm, by simp; omega⟩
 simp only [List.length_append] at *
 exact ⟨P ++ C, X', Y1, Y2, D ++ Q, by simp, by simp; omega, by simp; omega, rfl, hY2, C, Y2, Y1, X' ++ D, by simp, by omega, by omega, by omega, by rw [← h4]; simp, by omega, by omega⟩
theorem RotZ.eq {P X Y Q : List Int} {m : Nat} {d : List Int} {i : Nat} (h : RotZ P X Y Q m d i i) :
  ∃ P' X' Y' Q', d = P' ++ X' ++ [] ++ Y' ++ Q' ∧ P'.length = m - i ∧ (P' ++ X' ++ []).length = m ∧ X'.length = i ∧ Y'.length = i ∧ P' ++ Y' ++ [] ++ X' ++ Q' = P ++ Y ++ X ++ Q := by
 obtain ⟨C, X', Y', D, rfl, rfl, h2, h3, h4, h5, h6⟩ := h
 refine ⟨P ++ C, X', Y', D ++ Q, by simp, by simp; omega, by simp; omega, rfl, h2, ?_⟩
 have := congrArg (fun l => P ++ (l ++ Q)) h4
 simpa using this
theorem RotZ.len {P X Y Q : List Int} {m : Nat} {d : List Int} {i j : Nat} (h : RotZ P X Y Q m d i j) : d.length = (P ++ X ++ Y ++ Q).length ∧ i ≤ m ∧ m + j ≤ d.length ∧ 0 < i ∧ 0 < j := by
 obtain ⟨C, X', Y', D, rfl, rfl, rfl, h3, h4, h5, h6⟩ := h
 have := congrArg List.length h4
 simp at this ⊢
 omega
theorem RotZ.start {P X Y Q : List Int} {m i j : Nat} (hm : P.length + X.length = m) (hi : X.length = i) (hj : Y.length = j) (hX : 0 < X.length) (hY : 0 < Y.length) : RotZ P X Y Q m (P ++ X ++ Y ++ Q) i j :=
 ⟨[], X, Y, [], by simp, hi, hj, by simp; omega, by simp, by omega, by omega⟩
def m_slices_rotateCmpFunc_int : MC :=
(.seq (pr [.mv 12 (.s 2), .mv 13 (.s 1), .bin 14 false .sub (.s 12) (.s 13), .mv 10 (.s 14)] [0,2,3,4,10])
(.seq (pr [.mv 15 (.s 3), .mv 16 (.s 2), .bin 17 false .sub (.s 15) (.s 16), .mv 11 (.s 17)] [0,2,4,10,11])
(.seq (.block 0 (.loop ([0,2,4,10,11], []) (.seq (.seq (pr [.mv 18 (.s 10), .mv 19 (.s 11), .bin 20 false .neq (.s 18) (.s 19)] [0,2,4,10,11,20])
(.cond (.s 20) .skip (.exit 0)))
(.block 1 (.seq (pr [.mv 21 (.s 10), .mv 22 (.s 11), .bin 23 false .gtr (.s 21) (.s 22)] [0,2,4,10,11,23])
(.cond (.s 23) (.seq (pr [.mv 24 (.s 0), .mv 25 (.s 2), .mv 26 (.s 10), .bin 27 false .sub (.s 25) (.s 26), .mv 28 (.s 2), .mv 29 (.s 11), .mv 30 (.s 4), .callI 31 [] (.f n_slices_swapRangeCmpFunc_int) [.s 24, .s 27, .s 28, .s 29, .s 30] [0] []] [0,2,4,10,11])
(pr [.mv 32 (.s 10), .mv 33 (.s 11), .bin 34 false .sub (.s 32) (.s 33), .mv 10 (.s 34)] [0,2,4,10,11])) (.seq (pr [.mv 35 (.s 0), .mv 36 (.s 2), .mv 37 (.s 10), .bin 38 false .sub (.s 36) (.s 37), .mv 39 (.s 2), .mv 40 (.s 11), .bin 41 false .add (.s 39) (.s 40), .mv 42 (.s 10), .bin 43 false .sub (.s 41) (.s 42), .mv 44 (.s 10), .mv 45 (.s 4), .callI 46 [] (.f n_slices_swapRangeCmpFunc_int) [.s 35, .s 38, .s 43, .s 44, .s 45] [0] []] [0,2,4,10,11])
(pr [.mv 47 (.s 11), .mv 48 (.s 10), .bin 49 false .sub (.s 47) (.s 48), .mv 11 (.s 49)] [0,2,4,10,11]))))))))
(pr [.mv 50 (.s 0), .mv 51 (.s 2), .mv 52 (.s 10), .bin 53 false .sub (.s 51) (.s 52), .mv 54 (.s 2), .mv 55 (.s 10), .mv 56 (.s 4), .callI 57 [] (.f n_slices_swapRangeCmpFunc_int) [.s 50, .s 53, .s 54, .s 55, .s 56] [0] []] []))))
theorem c_slices_rotateZ (P X Y Q : List Int) (f : FuncId) {cs : List T} {a m b : Nat} (ha : P.length = a) (hm : (P ++ X).length = m) (hb : (P ++ X ++ Y).length = b) (hX : 0 < X.length) (hY : 0 < Y.length) : CtrI Tryz.prog n_slices_rotateCmpFunc_int [oL 1 ((P ++ X ++ Y ++ Q).map encI), iI a, iI m, iI b, fC f cs] [some (1, (P ++ Y ++ X ++ Q).map encI)] [] := by
 refine ctrI_at (M := m_slices_rotateCmpFunc_int) (m := 0) (n := 58) (res := []) hmix Tryz.func433 rfl (by kernel_rfl) rfl (by kernel_rfl) (by kernel_rfl) (Nat.le_of_ble_eq_true rfl) rfl rfl ?_; unfold m_slices_rotateCmpFunc_int
 intro hbd
 have hl := len_of_bd hbd
 clear hbd
 have hN2 : (P ++ Y ++ X ++ Q).length = (P ++ X ++ Y ++ Q).length := by simp; omega
 have hm' : m = a + X.length := by rw [← hm, ← ha]; simp
 have hb' : b = m + Y.length := by rw [← hb, ← hm]; simp; omega
 have hbN : b ≤ (P ++ X ++ Y ++ Q).length := by rw [List.length_append, hb]; omega
 generalize hN : (P ++ X ++ Y ++ Q).length = N at *
 simp only [roomB] at hl
 simp only [↓reduceIte, go_sem, hN, wS (a := m) (b := a) (by omega) (by omega), wS (a := b) (b := m) (by omega) (by omega)]
 refine loopK_up (ι := List Int × Nat × Nat) (fun s => [(10, vI s.2.1), (11, vI s.2.2)]) (fun s => [(0, ⟨1, .row true 1 (s.1.map encI)⟩)]) (fun s => RotZ P X Y Q m s.1 s.2.1 s.2.2) (fun s => s.2.1 + s.2.2) (P ++ X ++ Y ++ Q, m - a, b - m) ?_
 simp only [↓reduceIte, go_sem]
 refine ⟨?_, RotZ.start (by omega) (show X.length = m - a by omega) (show Y.length = b - m by omega) hX hY, ?_⟩
 ·simp only [↓reduceIte, go_sem]
 ·rintro ⟨d, i, j⟩ hI
  simp only at hI
  obtain ⟨hd, h1, h2, h3, h4⟩ := hI.len
  rw [hN] at hd
  simp only [↓reduceIte, go_sem, hd]
  refine ⟨fun hne => ⟨fun hgt => ?_, fun hle => ?_⟩, fun heq => ?_⟩
  ·obtain ⟨P', X1, M, Y', Q', rfl, k1, k2, k3, k4, hR⟩ := hI.gt (by omega)
   have hd2 := hR.len.1
   rw [hN] at hd2
   rw [wS h1 (by omega)]
   apply callIK_of (c_slices_swapRangeZ P' X1 M Y' Q' f k1 k2 k3 k4)
   simp only [↓reduceIte, go_sem, wS (a := i) (b := j) (by omega) (by omega)]
   exact ⟨(_, i - j, j), ⟨⟨rfl, rfl⟩, rfl⟩, hR, by show i - j + j < i + j; omega⟩
  ·obtain ⟨P', X1, M, Y', Q', rfl, k1, k2, k3, k4, hR⟩ := hI.le (by omega)
   have hd2 := hR.len.1
   rw [hN] at hd2
   rw [wS h1 (by omega), wN (by omega), wS (a := m + j) (b := i) (by omega) (by omega)]
   apply callIK_of (c_slices_swapRangeZ P' X1 M Y' Q' f k1 k2 k3 k4)
   simp only [↓reduceIte, go_sem, wS (a := j) (b := i) (by omega) (by omega)]
   exact ⟨(_, i, j - i), ⟨⟨rfl, rfl⟩, rfl⟩, hR, by show i + (j - i) < i + j; omega⟩
  ·obtain rfl : i = j := by omega
   obtain ⟨P', X1, Y', Q', rfl, k1, k2, k3, k4, hR⟩ := hI.eq
   rw [wS h1 (by omega)]
   apply callIK_of (c_slices_swapRangeZ P' X1 [] Y' Q' f k1 k2 k3 k4)
   rw [hR]
   simp only [↓reduceIte, go_sem]
def ltz (c : Int → Int → Int) (x y : Int) : Bool := decide (c x y < 0)
def InsZ (lt : Int → Int → Bool) (P S R : List Int) (x : Int) (d : List Int) (j : Nat) : Prop :=
 ∃ s1 s2, d = P ++ s1 ++ x :: s2 ++ R ∧ P.length + s1.length = j ∧ s1 ++ s2 = S ∧ ∀ y ∈ s2, lt x y = true
theorem InsZ.len {lt : Int → Int → Bool} {P S R : List Int} {x : Int} {d : List Int} {j : Nat} (h : InsZ lt P S R x d j) : d.length = P.length + S.length + 1 + R.length ∧ P.length ≤ j ∧ j ≤ P.length + S.length := by
 obtain ⟨s1, s2, rfl, rfl, rfl, h⟩ := h
 simp; omega
theorem InsZ.done {lt : Int → Int → Bool} (hw : Srt.Swo lt) {P S R : List Int} {x : Int} {d : List Int} {j : Nat} (h : InsZ lt P S R x d j) (hs : Srt.srt lt S) (hj : j = P.length ∨ ∀ z ∈ d[j - 1]?, lt x z = false) : d = P ++ Srt.ins lt x S ++ R := by
 obtain ⟨s1, s2, rfl, rfl, rfl, h⟩ := h
 rw [Srt.ins_mid]
 ·simp
 ·intro y hy
  rcases List.eq_nil_or_concat s1 with rfl | ⟨s, z, rfl⟩
  ·simp at hy
  ·rcases hj with hj | hj
   ·simp at hj
   ·rw [List.concat_eq_append] at *
    have hz : lt x z = false := hj z (by simp [])
    rcases List.mem_append.1 hy with k | k
    ·have := (Srt.srt_append.1 (Srt.srt_append.1 hs).1).2.2 y k z (by simp)
     exact hw.ntr hz this
    ·obtain rfl := List.mem_singleton.1 k
     exact hz
 ·intro y hy
  exact h y (List.mem_of_mem_head? hy)
theorem InsZ.step {lt : Int → Int → Bool} {P S R : List Int} {x : Int} {d : List Int} {j : Nat} (h : InsZ lt P S R x d j) (hj : P.length < j) :
  ∃ A z C, d = A ++ z :: ([] ++ x :: C) ∧ A.length = j - 1 ∧ d[j - 1]? = some z ∧ (lt x z = true → InsZ lt P S R x (A ++ x :: ([] ++ z :: C)) (j - 1)) := by
 obtain ⟨s1, s2, rfl, rfl, rfl, h⟩ := h
 rcases List.eq_nil_or_concat s1 with rfl | ⟨s, z, rfl⟩
 ·simp at hj
 ·rw [List.concat_eq_append] at *
  refine ⟨P ++ s, z, s2 ++ R, by simp, by simp, by simp [], fun hl => ⟨s, z :: s2, by simp, by simp, by simp, ?_⟩⟩
  intro y hy
  rcases List.mem_cons.1 hy with rfl | k
  ·exact hl
  ·exact h y k
def m_slices_insertionSortCmpFunc_int : MC :=
(.seq (pr [.mv 10 (.s 1), .bin 11 false .add (.s 10) (ci 1), .mv 8 (.s 11)] [0,1,2,3,8])
(.block 0 (.loop ([0,1,2,3,8], []) (.seq (.seq (pr [.mv 12 (.s 8), .mv 13 (.s 2), .bin 14 false .lss (.s 12) (.s 13)] [0,1,2,3,8,14])
(.cond (.s 14) .skip (.exit 0)))
(.seq (.block 1 (.seq (pr [.mv 17 (.s 8), .mv 9 (.s 17)] [0,1,2,3,8,9])
(.block 2 (.loop ([0,1,2,3,8,9], []) (.seq (.seq (.dreg [Zc [19] (.mv 18 (.s 9)), Zc [18] (.mv 19 (.s 1)), Ze [0,1] (.bin 20 false .gtr (.s 18) (.s 19)), Ze [0,1,2] (.mv 21 (.s 20)), { o := .mv 22 (.s 3), g := some (21, true), hs := [23,24,25,26,27,28,29,30,31], bf := (.range 4) }, { o := .mv 23 (.s 0), g := some (21, true), hs := [22,24,27,28,29,30,31], bf := (.range 4) }, { o := .mv 24 (.s 9), g := some (21, true), hs := [22,23,27,28,29,30,31], bf := (.range 4) }, { o := .idx 25 1 (.s 23) (.s 24), g := some (21, true), hs := [22,27,28,29,30,31], bf := [0,1,2,3,5,6] }, { o := .load 26 false 1 (.s 25), g := some (21, true), hs := [22,27,28,29,30,31], bf := [0,1,2,3,5,6,7] }, { o := .mv 27 (.s 0), g := some (21, true), hs := [22,23,24,25,26,28,29], bf := (.range 4) }, { o := .mv 28 (.s 9), g := some (21, true), hs := [22,23,24,25,26,27], bf := (.range 4) }, { o := .bin 29 false .sub (.s 28) (ci 1), g := some (21, true), hs := [22,23,24,25,26,27], bf := [0,1,2,3,10] }, { o := .idx 30 1 (.s 27) (.s 29), g := some (21, true), hs := [22,23,24,25,26], bf := [0,1,2,3,9,10,11] }, { o := .load 31 false 1 (.s 30), g := some (21, true), hs := [22,23,24,25,26], bf := [0,1,2,3,9,10,11,12] }, { o := .call 32 [] (.s 22) [.s 26, .s 31], g := some (21, true), bf := (.range 14) }, { o := .bin 33 false .lss (.s 32) (ci 0), g := some (21, true), bf := (.range 15) }, Ze (.range 16) (.pick 34 (.s 21) (.s 33) cF)] [0,1,2,3,8,9,34])
(.cond (.s 34) .skip (.exit 2)))
(.seq (.block 3 (.dreg [Zc [38,39,40,41,42,43,44,45,46,47,48,49,50] (.mv 37 (.s 0)), Zc [37,39,40,41,42,43,44,45,46,47,48,49,50] (.mv 38 (.s 9)), Zf [37,38,40,41,42,43,44,45,46,47,48,49,50,51] [0] (.mv 39 (.s 0)), Zf [37,38,39,42,43,44,45,46,47,48,49,50,51] [0] (.mv 40 (.s 9)), Zg [37,38,39,42,43,44,45,46,47,48,49,50,51] [0] [3] (.bin 41 false .sub (.s 40) (ci 1)), Zc [37,38,39,40,41,43,44,47,48,49,50] (.mv 42 (.s 0)), Zc [37,38,39,40,41,42,47,48,49,50] (.mv 43 (.s 9)), Zd [37,38,39,40,41,42,47,48,49,50] [6] (.bin 44 false .sub (.s 43) (ci 1)), Zd [37,38,39,40,41,47,48,49,50] [5,6,7] (.idx 45 1 (.s 42) (.s 44)), Zd [37,38,39,40,41,47,48,49,50] [5,6,7,8] (.load 46 false 1 (.s 45)), Zc [37,38,39,40,41,42,43,44,45,46,48] (.mv 47 (.s 0)), Zc [37,38,39,40,41,42,43,44,45,46,47] (.mv 48 (.s 9)), Zd [37,38,39,40,41,42,43,44,45,46] [10,11] (.idx 49 1 (.s 47) (.s 48)), Zd [37,38,39,40,41,42,43,44,45,46] [10,11,12] (.load 50 false 1 (.s 49)), Zd [39,40,41] [0,1,5,6,7,8,9,10,11,12,13] (.idx 51 1 (.s 37) (.s 38)), { o := .store 1 (.s 51) (.s 46), hs := [39,40,41], ws := [0], bf := [0,1,5,6,7,8,9,10,11,12,13,14] }, Ze (.range 16) (.idx 52 1 (.s 39) (.s 41)), { o := .store 1 (.s 52) (.s 50), ws := [0], bf := (.range 17) }] [0,1,2,3,8,9]))
(pr [.mv 35 (.s 9), .bin 36 false .sub (.s 35) (ci 1), .mv 9 (.s 36)] [0,1,2,3,8,9])))))))
(pr [.mv 15 (.s 8), .bin 16 false .add (.s 15) (ci 1), .mv 8 (.s 16)] [0,1,2,3,8]))))))
theorem c_slices_insertionSortZ (P X Q : List Int) (f : FuncId) {cs : List T} (c : Int → Int → Int) (hc : ∀ x y, Ctr Tryz.prog f (aI x :: aI y :: cs.map (fun t => (false, [t]))) [rI (c x y)]) (hw : Srt.Swo (ltz c)) {a b : Nat} (ha : P.length = a) (hb : (P ++ X).length = b) : CtrI Tryz.prog n_slices_insertionSortCmpFunc_int [oL 1 ((P ++ X ++ Q).map encI), iI a, iI b, fC f cs] [some (1, (P ++ Srt.isort (ltz c) X ++ Q).map encI)] [] := by
 have hlk : ∀ k, (P ++ Srt.isort (ltz c) (X.take k) ++ (X.drop k ++ Q)).length = (P ++ X ++ Q).length := fun k => by simp [Srt.len_isort]; omega
 refine ctrI_at (M := m_slices_insertionSortCmpFunc_int) (m := 0) (n := 53) (res := []) hmix Tryz.func424 rfl (by kernel_rfl) rfl (by kernel_rfl) (by kernel_rfl) (Nat.le_of_ble_eq_true rfl) rfl rfl ?_; unfold m_slices_insertionSortCmpFunc_int
 intro hbd
 have hl := len_of_bd hbd
 clear hbd
 have hb' : b = a + X.length := by rw [← hb, ← ha]; simp
 have hbN : b ≤ (P ++ X ++ Q).length := by rw [List.length_append, hb]; omega
 generalize hN : (P ++ X ++ Q).length = N at *
 simp only [roomB] at hl
 simp only [↓reduceIte, go_sem, hN, wN1 (a := a) (by omega)]
 refine loopK_up (fun k : Nat => [(8, vI ((a + k : Nat) : Int))]) (fun k => [(0, ⟨1, .row true 1 ((P ++ Srt.isort (ltz c) (X.take k) ++ (X.drop k ++ Q)).map encI)⟩)]) (fun k => 1 ≤ k ∧ (k ≤ X.length ∨ k = 1)) (fun k => X.length - k) 1 ?_
 simp only [↓reduceIte, go_sem]
 refine ⟨?_, ⟨by omega, by omega⟩, ?_⟩
 ·simp only [↓reduceIte, go_sem]
  cases X with
  | nil => simp [Srt.isort, Srt.mrg]
  | cons x X => simp [Srt.isort, Srt.mrg, Srt.ins]
 ·rintro k ⟨h1, h2⟩
  simp only [↓reduceIte, go_sem]
  refine ⟨fun hlt => ?_, fun hge => ?_⟩
  ·obtain ⟨x, hx⟩ := at_some (show k < X.length by omega)
   refine loopK_up (ι := List Int × Nat) (fun s => [(9, vI s.2)]) (fun s => [(0, ⟨1, .row true 1 (s.1.map encI)⟩)]) (fun s => InsZ (ltz c) P (Srt.isort (ltz c) (X.take k)) (X.drop (k + 1) ++ Q) x s.1 s.2) (fun s => s.2) (P ++ Srt.isort (ltz c) (X.take k) ++ (X.drop k ++ Q), a + k) ?_
   simp only [↓reduceIte, go_sem]
   refine ⟨?_, ⟨Srt.isort (ltz c) (X.take k), [], by simp [drop_cons hx], by simp [Srt.len_isort]; omega, by simp, by simp⟩, ?_⟩
   ·simp only [↓reduceIte, go_sem]
   ·rintro ⟨d, j⟩ hI
    simp only at hI
    obtain ⟨hd, h3, h4⟩ := hI.len
    have hdN : d.length = N := by
     have := hlk k
     simp [drop_cons hx] at this hd
     omega
    have hdone : (j = P.length ∨ ∀ z ∈ d[j - 1]?, ltz c x z = false) → d.map encI = (P ++ Srt.isort (ltz c) (X.take (k + 1)) ++ (X.drop (k + 1) ++ Q)).map encI := fun h => by
     rw [hI.done hw (Srt.srt_isort hw _) h, take_snoc hx, Srt.isort_snoc]
    by_cases hj : P.length < j
    ·obtain ⟨A, z, C, e, k1, k2, k3⟩ := hI.step hj
     have e' : d.map encI = two (A.map encI) (encI z) [] (encI x) (C.map encI) := by subst e; simp [two]
     have e2 : (A ++ x :: ([] ++ z :: C)).map encI = two (A.map encI) (encI x) [] (encI z) (C.map encI) := by simp [two]
     obtain ⟨g1, g2, s1, s2, hL, d1, d2⟩ := two_at (A := A.map encI) (B := []) (C := C.map encI) (p := j - 1) (q := j) (by simpa using k1) (by simp; omega)
     have hL' : ∀ u v, (two (A.map encI) u [] v (C.map encI)).length = N := fun u v => by
      rw [← hdN, hL, e]; simp; omega
     rw [e']
     have j0 : (j : Int) > (a : Int) := by omega
     have j1 : (0 : Int) ≤ (j : Int) := by omega
     have j2 : (j : Int) < (N : Int) := by omega
     have j3 : (0 : Int) ≤ ((j - 1 : Nat) : Int) := by omega
     have j4 : ((j - 1 : Nat) : Int) < (N : Int) := by omega
     simp only [↓reduceIte, go_sem, hL', g1, g2, j0, j1, j2, j3, j4, wS1 (a := j) (by omega) (by omega)]
     apply callK_of (hc x z)
     simp only [↓reduceIte, go_sem, hL', g1, g2, s1, s2, j1, j2, j3, j4, wS1 (a := j) (by omega) (by omega), wN1 (a := a + k) (by omega)]
     intro _
     refine ⟨fun hn => ⟨(A ++ x :: ([] ++ z :: C), j - 1), ⟨rfl, e2.symm⟩, k3 (by simpa [ltz] using hn), by show j - 1 < j; omega⟩, fun hn => ?_⟩
     have hz : ltz c x z = false := by simpa [ltz] using hn
     have := hdone (.inr (by rw [k2]; intro y hy; obtain rfl := Option.some.inj hy; exact hz))
     rw [e'] at this
     exact ⟨k + 1, ⟨rfl, this⟩, ⟨by omega, by omega⟩, by omega⟩
    ·have j0 : ¬ (j : Int) > (a : Int) := by omega
     simp only [↓reduceIte, go_sem, j0, wN1 (a := a + k) (by omega)]
     have := hdone (.inl (by omega))
     exact ⟨k + 1, ⟨rfl, this⟩, ⟨by omega, by omega⟩, by omega⟩
  ·have hk : X.length ≤ k := by omega
   rw [List.take_of_length_le hk, List.drop_of_length_le hk, List.nil_append]
def SymZ (lt : Int → Int → Bool) (X Y : List Int) (M u0 v0 u v : Nat) : Prop :=
 u0 ≤ u ∧ u ≤ v ∧ v ≤ v0 ∧ (u = 0 ∨ Y.length ≤ M - u ∨ ∃ y x, Y[M - u]? = some y ∧ X[u - 1]? = some x ∧ lt y x = false) ∧
  (v = M ∨ v = X.length ∨ ∃ y x, Y[M - 1 - v]? = some y ∧ X[v]? = some x ∧ lt y x = true)
theorem SymZ.fin {lt : Int → Int → Bool} (hw : Srt.Swo lt) {X Y : List Int} {M u0 v0 u : Nat} (h : SymZ lt X Y M u0 v0 u u) (hX : Srt.srt lt X) (hY : Srt.srt lt Y) (q2 : v0 ≤ M) (q3 : v0 ≤ X.length) (q4 : M ≤ u0 + Y.length) :
  ∃ A1 A2 B1 B2, X = A1 ++ A2 ∧ Y = B1 ++ B2 ∧ A1.length = u ∧ B1.length = M - u ∧ u ≤ M ∧ Srt.mrg lt X Y = Srt.mrg lt A1 B1 ++ Srt.mrg lt A2 B2 ∧ Srt.srt lt A1 ∧ Srt.srt lt A2 ∧ Srt.srt lt B1 ∧ Srt.srt lt B2 := by
 obtain ⟨h1, h2, h3, h4, h5⟩ := h
 have e := Srt.mrg_sym hw hX hY (by omega) (by omega) h4 h5
 have sX := Srt.srt_append.1 ((List.take_append_drop u X).symm ▸ hX)
 have sY := Srt.srt_append.1 ((List.take_append_drop (M - u) Y).symm ▸ hY)
 exact ⟨X.take u, X.drop u, Y.take (M - u), Y.drop (M - u), (List.take_append_drop _ _).symm, (List.take_append_drop _ _).symm, by simp; omega, by simp; omega, by omega, e, sX.1, sX.2.1, sY.1, sY.2.1⟩
theorem symZL (lt : Int → Int → Bool) {P A1 A2 B1 B2 Q : List Int} {a m b M u N n : Nat} (ha : P.length = a) (hA1 : A1.length = u) (hB1 : B1.length = M - u) (huM : u ≤ M) (hm : m = a + (A1 ++ A2).length) (hb : b = m + (B1 ++ B2).length)
  (hN : (P ++ (A1 ++ A2) ++ (B1 ++ B2) ++ Q).length = N) (hM : M = ((A1 ++ A2).length + (B1 ++ B2).length) / 2) (hn : (A1 ++ A2).length + (B1 ++ B2).length ≤ n + 1) (h1 : ¬ ((m - a : Nat) : Int) = 1) (h2 : ¬ ((b - m : Nat) : Int) = 1) (hX : 0 < (A1 ++ A2).length) (hY : 0 < (B1 ++ B2).length) :
  ((P ++ A1 ++ B1 ++ A2 ++ (B2 ++ Q)).length = N ∧ (P ++ A1 ++ A2 ++ B1 ++ (B2 ++ Q)).length = N ∧ (P ++ A1 ++ B1 ++ (A2 ++ (B2 ++ Q))).length = N ∧ (P ++ Srt.mrg lt A1 B1 ++ A2 ++ B2 ++ Q).length = N ∧ (P ++ Srt.mrg lt A1 B1 ++ (A2 ++ (B2 ++ Q))).length = N ∧ (P ++ Srt.mrg lt A1 B1 ++ Srt.mrg lt A2 B2 ++ Q).length = N) ∧
  ((P ++ A1).length = a + u ∧ (P ++ A1 ++ A2).length = m ∧ (P ++ A1 ++ A2 ++ B1).length = m + (M - u) ∧ (P ++ A1 ++ B1).length = a + M ∧ (P ++ Srt.mrg lt A1 B1).length = a + M ∧ (P ++ Srt.mrg lt A1 B1 ++ A2).length = m + (M - u) ∧ (P ++ Srt.mrg lt A1 B1 ++ A2 ++ B2).length = b) ∧
  A1.length + B1.length ≤ n ∧ A2.length + B2.length ≤ n ∧
  (m = a + u + A2.length ∧ m + (M - u) = m + B1.length ∧ a + u = a + A1.length ∧ a + M = a + u + B1.length ∧ m + (M - u) = a + M + A2.length ∧ b = m + (M - u) + B2.length) ∧
  ((0 < A1.length ∧ 0 < A2.length ∧ 0 < B1.length ∧ 0 < B2.length) ∨ (A1.length = 0 ∧ 0 < A2.length ∧ 0 < B1.length ∧ 0 < B2.length) ∨ (0 < A1.length ∧ A2.length = 0 ∧ 0 < B1.length ∧ 0 < B2.length) ∨ (0 < A1.length ∧ 0 < A2.length ∧ B1.length = 0 ∧ 0 < B2.length) ∨ (0 < A1.length ∧ 0 < A2.length ∧ 0 < B1.length ∧ B2.length = 0) ∨ (A1.length = 0 ∧ 0 < A2.length ∧ 0 < B1.length ∧ B2.length = 0) ∨ (0 < A1.length ∧ A2.length = 0 ∧ B1.length = 0 ∧ 0 < B2.length)) := by
 simp only [List.length_append, Srt.len_mrg] at *
 have h7 := sym7 (u := A1.length) (l2 := A2.length) (k := B1.length) (l4 := B2.length) (M := M) (by omega) (by omega) (by omega) (by omega) (by omega)
 refine ⟨⟨?_, ?_, ?_, ?_, ?_, ?_⟩, ⟨?_, ?_, ?_, ?_, ?_, ?_, ?_⟩, ?_, ?_, ⟨?_, ?_, ?_, ?_, ?_, ?_⟩, h7⟩ <;> clear h7 <;> omega
def m_slices_symMergeCmpFunc_int : MC :=
(.seq (.seq (pr [.mv 25 (.s 2), .mv 26 (.s 1), .bin 27 false .sub (.s 25) (.s 26), .bin 28 false .eql (.s 27) (ci 1)] [0,1,2,3,4,28])
(.cond (.s 28) (.seq (pr [.mv 29 (.s 2), .mv 10 (.s 29)] [0,1,3,4,10])
(.seq (pr [.mv 30 (.s 3), .mv 11 (.s 30)] [0,1,4,10,11])
(.seq (.block 0 (.loop ([0,1,4,10,11], []) (.seq (.seq (pr [.mv 31 (.s 10), .mv 32 (.s 11), .bin 33 false .lss (.s 31) (.s 32)] [0,1,4,10,11,33])
(.cond (.s 33) .skip (.exit 0)))
(.block 1 (.seq (pr [.mv 34 (.s 10), .mv 35 (.s 11), .bin 36 false .add (.s 34) (.s 35), .convI 37 .u64 (.s 36), .bin 38 false .shr (.s 37) (.c (.int .u64 1)), .convI 39 .i64 (.s 38), .mv 12 (.s 39)] [0,1,4,10,11,12])
(.seq (.dreg [Zc [41,42,43,44,45,46,47,48] (.mv 40 (.s 4)), Zc [40,42,45,46,47,48] (.mv 41 (.s 0)), Zc [40,41,45,46,47,48] (.mv 42 (.s 12)), Zd [40,45,46,47,48] [1,2] (.idx 43 1 (.s 41) (.s 42)), Zd [40,45,46,47,48] [1,2,3] (.load 44 false 1 (.s 43)), Zc [40,41,42,43,44,46] (.mv 45 (.s 0)), Zc [40,41,42,43,44,45] (.mv 46 (.s 1)), Zd [40,41,42,43,44] [5,6] (.idx 47 1 (.s 45) (.s 46)), Zd [40,41,42,43,44] [5,6,7] (.load 48 false 1 (.s 47)), Ze (.range 9) (.call 49 [] (.s 40) [.s 44, .s 48]), Ze (.range 10) (.bin 50 false .lss (.s 49) (ci 0))] [0,1,4,10,11,12,50])
(.cond (.s 50) (pr [.mv 51 (.s 12), .bin 52 false .add (.s 51) (ci 1), .mv 10 (.s 52)] [0,1,4,10,11]) (pr [.mv 53 (.s 12), .mv 11 (.s 53)] [0,1,4,10,11]))))))))
(.seq (.seq (pr [.mv 54 (.s 1), .mv 13 (.s 54)] [0,10,13])
(.block 2 (.loop ([0,10,13], []) (.seq (.seq (pr [.mv 55 (.s 13), .mv 56 (.s 10), .bin 57 false .sub (.s 56) (ci 1), .bin 58 false .lss (.s 55) (.s 57)] [0,10,13,58])
(.cond (.s 58) .skip (.exit 2)))
(.seq (.block 3 (.dreg [Zc [62,63,64,65,66,67,68,69,70,71,72,73,74] (.mv 61 (.s 0)), Zc [61,63,64,65,66,67,68,69,70,71,72,73,74] (.mv 62 (.s 13)), Zf [61,62,64,65,66,67,68,69,70,71,72,73,74,75] [0] (.mv 63 (.s 0)), Zf [61,62,63,66,67,68,69,70,71,72,73,74,75] [0] (.mv 64 (.s 13)), Zg [61,62,63,66,67,68,69,70,71,72,73,74,75] [0] [3] (.bin 65 false .add (.s 64) (ci 1)), Zc [61,62,63,64,65,67,68,71,72,73,74] (.mv 66 (.s 0)), Zc [61,62,63,64,65,66,71,72,73,74] (.mv 67 (.s 13)), Zd [61,62,63,64,65,66,71,72,73,74] [6] (.bin 68 false .add (.s 67) (ci 1)), Zd [61,62,63,64,65,71,72,73,74] [5,6,7] (.idx 69 1 (.s 66) (.s 68)), Zd [61,62,63,64,65,71,72,73,74] [5,6,7,8] (.load 70 false 1 (.s 69)), Zc [61,62,63,64,65,66,67,68,69,70,72] (.mv 71 (.s 0)), Zc [61,62,63,64,65,66,67,68,69,70,71] (.mv 72 (.s 13)), Zd [61,62,63,64,65,66,67,68,69,70] [10,11] (.idx 73 1 (.s 71) (.s 72)), Zd [61,62,63,64,65,66,67,68,69,70] [10,11,12] (.load 74 false 1 (.s 73)), Zd [63,64,65] [0,1,5,6,7,8,9,10,11,12,13] (.idx 75 1 (.s 61) (.s 62)), { o := .store 1 (.s 75) (.s 70), hs := [63,64,65], ws := [0], bf := [0,1,5,6,7,8,9,10,11,12,13,14] }, Ze (.range 16) (.idx 76 1 (.s 63) (.s 65)), { o := .store 1 (.s 76) (.s 74), ws := [0], bf := (.range 17) }] [0,10,13]))
(pr [.mv 59 (.s 13), .bin 60 false .add (.s 59) (ci 1), .mv 13 (.s 60)] [0,10,13]))))))
.ret)))) .skip))
(.seq (.seq (pr [.mv 77 (.s 3), .mv 78 (.s 2), .bin 79 false .sub (.s 77) (.s 78), .bin 80 false .eql (.s 79) (ci 1)] [0,1,2,3,4,80])
(.cond (.s 80) (.seq (pr [.mv 81 (.s 1), .mv 14 (.s 81)] [0,2,4,14])
(.seq (pr [.mv 82 (.s 2), .mv 15 (.s 82)] [0,2,4,14,15])
(.seq (.block 4 (.loop ([0,2,4,14,15], []) (.seq (.seq (pr [.mv 83 (.s 14), .mv 84 (.s 15), .bin 85 false .lss (.s 83) (.s 84)] [0,2,4,14,15,85])
(.cond (.s 85) .skip (.exit 4)))
(.block 5 (.seq (pr [.mv 86 (.s 14), .mv 87 (.s 15), .bin 88 false .add (.s 86) (.s 87), .convI 89 .u64 (.s 88), .bin 90 false .shr (.s 89) (.c (.int .u64 1)), .convI 91 .i64 (.s 90), .mv 16 (.s 91)] [0,2,4,14,15,16])
(.seq (.dreg [Zc [93,94,95,96,97,98,99,100] (.mv 92 (.s 4)), Zc [92,94,97,98,99,100] (.mv 93 (.s 0)), Zc [92,93,97,98,99,100] (.mv 94 (.s 2)), Zd [92,97,98,99,100] [1,2] (.idx 95 1 (.s 93) (.s 94)), Zd [92,97,98,99,100] [1,2,3] (.load 96 false 1 (.s 95)), Zc [92,93,94,95,96,98] (.mv 97 (.s 0)), Zc [92,93,94,95,96,97] (.mv 98 (.s 16)), Zd [92,93,94,95,96] [5,6] (.idx 99 1 (.s 97) (.s 98)), Zd [92,93,94,95,96] [5,6,7] (.load 100 false 1 (.s 99)), Ze (.range 9) (.call 101 [] (.s 92) [.s 96, .s 100]), Ze (.range 10) (.bin 102 false .lss (.s 101) (ci 0)), Ze (.range 11) (.un 103 .not (.s 102))] [0,2,4,14,15,16,103])
(.cond (.s 103) (pr [.mv 104 (.s 16), .bin 105 false .add (.s 104) (ci 1), .mv 14 (.s 105)] [0,2,4,14,15]) (pr [.mv 106 (.s 16), .mv 15 (.s 106)] [0,2,4,14,15]))))))))
(.seq (.seq (pr [.mv 107 (.s 2), .mv 17 (.s 107)] [0,14,17])
(.block 6 (.loop ([0,14,17], []) (.seq (.seq (pr [.mv 108 (.s 17), .mv 109 (.s 14), .bin 110 false .gtr (.s 108) (.s 109)] [0,14,17,110])
(.cond (.s 110) .skip (.exit 6)))
(.seq (.block 7 (.dreg [Zc [114,115,116,117,118,119,120,121,122,123,124,125,126] (.mv 113 (.s 0)), Zc [113,115,116,117,118,119,120,121,122,123,124,125,126] (.mv 114 (.s 17)), Zf [113,114,116,117,118,119,120,121,122,123,124,125,126,127] [0] (.mv 115 (.s 0)), Zf [113,114,115,118,119,120,121,122,123,124,125,126,127] [0] (.mv 116 (.s 17)), Zg [113,114,115,118,119,120,121,122,123,124,125,126,127] [0] [3] (.bin 117 false .sub (.s 116) (ci 1)), Zc [113,114,115,116,117,119,120,123,124,125,126] (.mv 118 (.s 0)), Zc [113,114,115,116,117,118,123,124,125,126] (.mv 119 (.s 17)), Zd [113,114,115,116,117,118,123,124,125,126] [6] (.bin 120 false .sub (.s 119) (ci 1)), Zd [113,114,115,116,117,123,124,125,126] [5,6,7] (.idx 121 1 (.s 118) (.s 120)), Zd [113,114,115,116,117,123,124,125,126] [5,6,7,8] (.load 122 false 1 (.s 121)), Zc [113,114,115,116,117,118,119,120,121,122,124] (.mv 123 (.s 0)), Zc [113,114,115,116,117,118,119,120,121,122,123] (.mv 124 (.s 17)), Zd [113,114,115,116,117,118,119,120,121,122] [10,11] (.idx 125 1 (.s 123) (.s 124)), Zd [113,114,115,116,117,118,119,120,121,122] [10,11,12] (.load 126 false 1 (.s 125)), Zd [115,116,117] [0,1,5,6,7,8,9,10,11,12,13] (.idx 127 1 (.s 113) (.s 114)), { o := .store 1 (.s 127) (.s 122), hs := [115,116,117], ws := [0], bf := [0,1,5,6,7,8,9,10,11,12,13,14] }, Ze (.range 16) (.idx 128 1 (.s 115) (.s 117)), { o := .store 1 (.s 128) (.s 126), ws := [0], bf := (.range 17) }] [0,14,17]))
(pr [.mv 111 (.s 17), .bin 112 false .sub (.s 111) (ci 1), .mv 17 (.s 112)] [0,14,17]))))))
.ret)))) .skip))
(.seq (pr [.mv 129 (.s 1), .mv 130 (.s 3), .bin 131 false .add (.s 129) (.s 130), .convI 132 .u64 (.s 131), .bin 133 false .shr (.s 132) (.c (.int .u64 1)), .convI 134 .i64 (.s 133), .mv 18 (.s 134)] [0,1,2,3,4,18])
(.seq (pr [.mv 135 (.s 18), .mv 136 (.s 2), .bin 137 false .add (.s 135) (.s 136), .mv 19 (.s 137)] [0,1,2,3,4,18,19])
(.seq (pr [.mv 20 (ci 0), .mv 21 (ci 0)] [0,1,2,3,4,18,19])
(.seq (.seq (pr [.mv 138 (.s 2), .mv 139 (.s 18), .bin 140 false .gtr (.s 138) (.s 139)] [0,1,2,3,4,18,19,140])
(.cond (.s 140) (.seq (pr [.mv 141 (.s 19), .mv 142 (.s 3), .bin 143 false .sub (.s 141) (.s 142), .mv 20 (.s 143)] [0,1,2,3,4,18,19,20])
(pr [.mv 144 (.s 18), .mv 21 (.s 144)] [0,1,2,3,4,18,19,20,21])) (.seq (pr [.mv 145 (.s 1), .mv 20 (.s 145)] [0,1,2,3,4,18,19,20])
(pr [.mv 146 (.s 2), .mv 21 (.s 146)] [0,1,2,3,4,18,19,20,21]))))
(.seq (pr [.mv 147 (.s 19), .bin 148 false .sub (.s 147) (ci 1), .mv 22 (.s 148)] [0,1,2,3,4,18,19,20,21,22])
(.seq (.block 8 (.loop ([0,1,2,3,4,18,19,20,21,22], []) (.seq (.seq (pr [.mv 149 (.s 20), .mv 150 (.s 21), .bin 151 false .lss (.s 149) (.s 150)] [0,1,2,3,4,18,19,20,21,22,151])
(.cond (.s 151) .skip (.exit 8)))
(.block 9 (.seq (pr [.mv 152 (.s 20), .mv 153 (.s 21), .bin 154 false .add (.s 152) (.s 153), .convI 155 .u64 (.s 154), .bin 156 false .shr (.s 155) (.c (.int .u64 1)), .convI 157 .i64 (.s 156), .mv 23 (.s 157)] [0,1,2,3,4,18,19,20,21,22,23])
(.seq (.dreg [Zc [159,160,161,162,163,164,165,166,167,168] (.mv 158 (.s 4)), Zc [158,160,161,162,165,166,167,168] (.mv 159 (.s 0)), Zc [158,159,161,165,166,167,168] (.mv 160 (.s 22)), Zc [158,159,160,165,166,167,168] (.mv 161 (.s 23)), Zd [158,159,165,166,167,168] [2,3] (.bin 162 false .sub (.s 160) (.s 161)), Zd [158,165,166,167,168] [1,2,3,4] (.idx 163 1 (.s 159) (.s 162)), Zd [158,165,166,167,168] [1,2,3,4,5] (.load 164 false 1 (.s 163)), Zc [158,159,160,161,162,163,164,166] (.mv 165 (.s 0)), Zc [158,159,160,161,162,163,164,165] (.mv 166 (.s 23)), Zd [158,159,160,161,162,163,164] [7,8] (.idx 167 1 (.s 165) (.s 166)), Zd [158,159,160,161,162,163,164] [7,8,9] (.load 168 false 1 (.s 167)), Ze (.range 11) (.call 169 [] (.s 158) [.s 164, .s 168]), Ze (.range 12) (.bin 170 false .lss (.s 169) (ci 0)), Ze (.range 13) (.un 171 .not (.s 170))] [0,1,2,3,4,18,19,20,21,22,23,171])
(.cond (.s 171) (pr [.mv 172 (.s 23), .bin 173 false .add (.s 172) (ci 1), .mv 20 (.s 173)] [0,1,2,3,4,18,19,20,21,22]) (pr [.mv 174 (.s 23), .mv 21 (.s 174)] [0,1,2,3,4,18,19,20,21,22]))))))))
(.seq (pr [.mv 175 (.s 19), .mv 176 (.s 20), .bin 177 false .sub (.s 175) (.s 176), .mv 24 (.s 177)] [0,1,2,3,4,18,20,24])
(.seq (.seq (.reg [Za (.mv 178 (.s 20)), Za (.mv 179 (.s 2)), Za (.bin 180 false .lss (.s 178) (.s 179)), Za (.mv 181 (.s 180)), Zb 181 true (.mv 182 (.s 2)), Zb 181 true (.mv 183 (.s 24)), Zb 181 true (.bin 184 false .lss (.s 182) (.s 183)), Za (.pick 185 (.s 181) (.s 184) cF)] [0,1,2,3,4,18,20,24,185])
(.cond (.s 185) (pr [.mv 186 (.s 0), .mv 187 (.s 20), .mv 188 (.s 2), .mv 189 (.s 24), .mv 190 (.s 4), .callI 191 [] (.f n_slices_rotateCmpFunc_int) [.s 186, .s 187, .s 188, .s 189, .s 190] [0] []] [0,1,3,4,18,20,24]) .skip))
(.seq (.seq (.reg [Za (.mv 192 (.s 1)), Za (.mv 193 (.s 20)), Za (.bin 194 false .lss (.s 192) (.s 193)), Za (.mv 195 (.s 194)), Zb 195 true (.mv 196 (.s 20)), Zb 195 true (.mv 197 (.s 18)), Zb 195 true (.bin 198 false .lss (.s 196) (.s 197)), Za (.pick 199 (.s 195) (.s 198) cF)] [0,1,3,4,18,20,24,199])
(.cond (.s 199) (pr [.mv 200 (.s 0), .mv 201 (.s 1), .mv 202 (.s 20), .mv 203 (.s 18), .mv 204 (.s 4), .callI 205 [] (.f n_slices_symMergeCmpFunc_int) [.s 200, .s 201, .s 202, .s 203, .s 204] [0] []] [0,3,4,18,24]) .skip))
(.seq (.reg [Za (.mv 206 (.s 18)), Za (.mv 207 (.s 24)), Za (.bin 208 false .lss (.s 206) (.s 207)), Za (.mv 209 (.s 208)), Zb 209 true (.mv 210 (.s 24)), Zb 209 true (.mv 211 (.s 3)), Zb 209 true (.bin 212 false .lss (.s 210) (.s 211)), Za (.pick 213 (.s 209) (.s 212) cF)] [0,3,4,18,24,213])
(.cond (.s 213) (pr [.mv 214 (.s 0), .mv 215 (.s 18), .mv 216 (.s 24), .mv 217 (.s 3), .mv 218 (.s 4), .callI 219 [] (.f n_slices_symMergeCmpFunc_int) [.s 214, .s 215, .s 216, .s 217, .s 218] [0] []] []) .skip)))))))))))))
set_option maxHeartbeats 4000000 in
theorem c_slices_symMergeZ (f : FuncId) {cs : List T} (c : Int → Int → Int) (hc : ∀ x y, Ctr Tryz.prog f (aI x :: aI y :: cs.map (fun t => (false, [t]))) [rI (c x y)]) (hw : Srt.Swo (ltz c)) (n : Nat) : ∀ (P X Y Q : List Int) {a m b : Nat}, X.length + Y.length ≤ n → P.length = a → (P ++ X).length = m → (P ++ X ++ Y).length = b → 0 < X.length → 0 < Y.length → Srt.srt (ltz c) X → Srt.srt (ltz c) Y →
  CtrI Tryz.prog n_slices_symMergeCmpFunc_int [oL 1 ((P ++ X ++ Y ++ Q).map encI), iI a, iI m, iI b, fC f cs] [some (1, (P ++ Srt.mrg (ltz c) X Y ++ Q).map encI)] [] := by
 induction n with
 | zero => intro P X Y Q a m b hn _ _ _ hX; omega
 | succ n ih =>
  intro P X Y Q a m b hn ha hm hb hX hY sX sY
  have hN2 : (P ++ Srt.mrg (ltz c) X Y ++ Q).length = (P ++ X ++ Y ++ Q).length := by simp [Srt.len_mrg]; omega
  refine ctrI_at (M := m_slices_symMergeCmpFunc_int) (m := 0) (n := 220) (res := []) hmix Tryz.func425 rfl (by kernel_rfl) rfl (by kernel_rfl) (by kernel_rfl) (Nat.le_of_ble_eq_true rfl) rfl rfl ?_; unfold m_slices_symMergeCmpFunc_int
  intro hbd
  have hl := len_of_bd hbd
  clear hbd
  have hm' : m = a + X.length := by rw [← hm, ← ha]; simp
  have hb' : b = m + Y.length := by rw [← hb, ← hm]; simp; omega
  have hbN : b ≤ (P ++ X ++ Y ++ Q).length := by rw [List.length_append, hb]; omega
  generalize hN : (P ++ X ++ Y ++ Q).length = N at *
  simp only [roomB] at hl
  simp only [↓reduceIte, go_sem, hN, wS (a := m) (b := a) (by omega) (by omega)]
  refine ⟨fun h1 => ?_, fun h1 => ?_⟩
  ·obtain ⟨x, rfl⟩ : ∃ x, X = [x] := List.length_eq_one_iff.1 (by omega)
   simp only [List.length_cons, List.length_nil] at hm' hn
   have hxa : (P ++ [x] ++ Y ++ Q)[a]? = some x := by rw [← ha]; simp
   have hya : ∀ w, w < Y.length → (P ++ [x] ++ Y ++ Q)[m + w]? = Y[w]? := fun w hw => by
    rw [List.append_assoc, List.getElem?_append_right (by simp; omega), List.getElem?_append_left (by simp; omega)]
    congr 1; simp; omega
   refine loopK_up (ι := Nat × Nat) (fun s => [(10, vI ((m + s.1 : Nat) : Int)), (11, vI ((m + s.2 : Nat) : Int))]) (fun s => []) (fun s => s.1 ≤ s.2 ∧ s.2 ≤ Y.length ∧ (∀ y ∈ Y.take s.1, ltz c y x = true) ∧ (∀ y ∈ Y.drop s.2, ltz c y x = false)) (fun s => s.2 - s.1) (0, Y.length) ?_
   simp only [↓reduceIte, go_sem]
   refine ⟨?_, ⟨by omega, by omega, by simp, by simp⟩, ?_⟩
   ·simp only [↓reduceIte, go_sem]
    exact ⟨by omega, by omega⟩
   ·rintro ⟨u, v⟩ ⟨i1, i2, i3, i4⟩
    simp only at i1 i2 i3 i4
    simp only [↓reduceIte, go_sem, hN, shr1, half_of (i := m + u) (j := m + v) (by omega)]
    refine ⟨fun hlt => ?_, fun hge => ?_⟩
    ·have hwx : (m + u + (m + v)) / 2 = m + (u + v) / 2 := by omega
     have w1 : u ≤ (u + v) / 2 := by omega
     have w2 : (u + v) / 2 < v := by omega
     rw [hwx]
     generalize (u + v) / 2 = w at w1 w2
     obtain ⟨y, hy⟩ := at_some (show w < Y.length by omega)
     have hyw := (hya w (by omega)).trans hy
     have k1 : (0 : Int) ≤ ((m + w : Nat) : Int) := by omega
     have k2 : ((m + w : Nat) : Int) < (N : Int) := by omega
     have k3 : (0 : Int) ≤ (a : Int) := by omega
     have k4 : (a : Int) < (N : Int) := by omega
     simp only [go_sem, wK (k := m + w) (by omega), k1, k2, k3, k4, bk_eq hyw, bk_eq hxa]
     apply callK_of (hc y x)
     simp only [↓reduceIte, go_sem, wN1 (a := m + w) (by omega)]
     intro _
     refine ⟨fun hn => ⟨(w + 1, v), ⟨rfl, rfl⟩, ⟨by omega, i2, Srt.lo_of hw sY hy (by simpa [ltz] using hn), i4⟩, by omega⟩, fun hn => ⟨(u, w), ⟨rfl, rfl⟩, ⟨w1, by omega, i3, Srt.hi_of hw sY hy (by simpa [ltz] using hn)⟩, by omega⟩⟩
    ·obtain rfl : u = v := by omega
     have hres := Srt.mrg_one hw sY i3 i4
     have hlt : ∀ t, (P ++ (Y.take t ++ x :: Y.drop t) ++ Q).length = N := fun t => by rw [← hN]; simp; omega
     refine loopK_up (fun t : Nat => [(13, vI ((a + t : Nat) : Int))]) (fun t => [(0, ⟨1, .row true 1 ((P ++ (Y.take t ++ x :: Y.drop t) ++ Q).map encI)⟩)]) (fun t => t ≤ u) (fun t => u - t) 0 ?_
     simp only [↓reduceIte, go_sem]
     refine ⟨?_, by omega, ?_⟩
     ·simp only [↓reduceIte, go_sem]
      simp
     ·intro t ht
      have hs1 : IntKind.i64.wrap (((m + u : Nat) : Int) - 1) = ((a + u : Nat) : Int) := by
       rw [wI (by omega) (by omega)]; omega
      by_cases htu : t < u
      ·obtain ⟨y, hy⟩ := at_some (show t < Y.length by omega)
       have e1 : (P ++ (Y.take t ++ x :: Y.drop t) ++ Q).map encI = two ((P ++ Y.take t).map encI) (encI x) [] (encI y) ((Y.drop (t + 1) ++ Q).map encI) := by simp [two, drop_cons hy]
       have e2 : (P ++ (Y.take (t + 1) ++ x :: Y.drop (t + 1)) ++ Q).map encI = two ((P ++ Y.take t).map encI) (encI y) [] (encI x) ((Y.drop (t + 1) ++ Q).map encI) := by simp [two, take_snoc hy]
       have hA : ((P ++ Y.take t).map encI).length = a + t := by simp; omega
       have hL0 : ∀ p q, (two ((P ++ Y.take t).map encI) p [] q ((Y.drop (t + 1) ++ Q).map encI)).length = N := fun p q => by
        rw [← hlt t]; simp [two, drop_cons hy]
       generalize (P ++ Y.take t).map encI = A at *
       generalize (Y.drop (t + 1) ++ Q).map encI = C at *
       obtain ⟨g1, g2, s1, s2, hL, d1, d2⟩ := two_at (A := A) (B := []) (C := C) (p := a + t) (q := a + t + 1) hA (by simp)
       have k1 : (0 : Int) ≤ ((a + t : Nat) : Int) := by omega
       have k2 : ((a + t : Nat) : Int) < (N : Int) := by omega
       have k3 : (0 : Int) ≤ ((a + t + 1 : Nat) : Int) := by omega
       have k4 : ((a + t + 1 : Nat) : Int) < (N : Int) := by omega
       have k5 : ((a + t : Nat) : Int) < ((a + u : Nat) : Int) := by omega
       rw [e1]
       simp only [↓reduceIte, go_sem, hs1, hL0, g1, g2, s1, s2, k1, k2, k3, k4, k5, wN1 (a := a + t) (by omega)]
       exact ⟨t + 1, ⟨rfl, e2.symm⟩, by omega, by omega⟩
      ·obtain rfl : t = u := by omega
       simp only [↓reduceIte, go_sem, hs1]
       rw [hres]
  ·simp only [go_sem, wS (a := b) (b := m) (by omega) (by omega)]
   refine ⟨fun h2 => ?_, fun h2 => ?_⟩
   ·obtain ⟨y, rfl⟩ : ∃ y, Y = [y] := List.length_eq_one_iff.1 (by omega)
    simp only [List.length_cons, List.length_nil] at hb' hn
    have hym : (P ++ X ++ [y] ++ Q)[m]? = some y := by rw [← hm]; simp
    have hxa : ∀ w, w < X.length → (P ++ X ++ [y] ++ Q)[a + w]? = X[w]? := fun w hw => by
     rw [List.append_assoc, List.append_assoc, List.getElem?_append_right (by omega), List.getElem?_append_left (by omega)]
     congr 1; omega
    refine loopK_up (ι := Nat × Nat) (fun s => [(14, vI ((a + s.1 : Nat) : Int)), (15, vI ((a + s.2 : Nat) : Int))]) (fun s => []) (fun s => s.1 ≤ s.2 ∧ s.2 ≤ X.length ∧ (∀ z ∈ X.take s.1, ltz c y z = false) ∧ (∀ z ∈ X.drop s.2, ltz c y z = true)) (fun s => s.2 - s.1) (0, X.length) ?_
    simp only [↓reduceIte, go_sem]
    refine ⟨?_, ⟨by omega, by omega, by simp, by simp⟩, ?_⟩
    ·simp only [↓reduceIte, go_sem]
     exact ⟨by omega, by omega⟩
    ·rintro ⟨u, v⟩ ⟨i1, i2, i3, i4⟩
     simp only at i1 i2 i3 i4
     simp only [↓reduceIte, go_sem, hN, shr1, half_of (i := a + u) (j := a + v) (by omega)]
     refine ⟨fun hlt => ?_, fun hge => ?_⟩
     ·have hwx : (a + u + (a + v)) / 2 = a + (u + v) / 2 := by omega
      have w1 : u ≤ (u + v) / 2 := by omega
      have w2 : (u + v) / 2 < v := by omega
      rw [hwx]
      generalize (u + v) / 2 = w at w1 w2
      obtain ⟨x, hx⟩ := at_some (show w < X.length by omega)
      have hxw := (hxa w (by omega)).trans hx
      have k1 : (0 : Int) ≤ ((a + w : Nat) : Int) := by omega
      have k2 : ((a + w : Nat) : Int) < (N : Int) := by omega
      have k3 : (0 : Int) ≤ (m : Int) := by omega
      have k4 : (m : Int) < (N : Int) := by omega
      simp only [go_sem, wK (k := a + w) (by omega), k1, k2, k3, k4, bk_eq hxw, bk_eq hym]
      apply callK_of (hc y x)
      simp only [↓reduceIte, go_sem, wN1 (a := a + w) (by omega)]
      intro _
      refine ⟨fun hn => ⟨(w + 1, v), ⟨rfl, rfl⟩, ⟨by omega, i2, Srt.lo_of' hw sX hx (by simpa [ltz] using hn), i4⟩, by omega⟩, fun hn => ⟨(u, w), ⟨rfl, rfl⟩, ⟨w1, by omega, i3, Srt.hi_of' hw sX hx (by simpa [ltz] using hn)⟩, by omega⟩⟩
     ·obtain rfl : u = v := by omega
      have hres := Srt.mrg_last i3 i4
      have hlt : ∀ t, (P ++ (X.take t ++ y :: X.drop t) ++ Q).length = N := fun t => by rw [← hN]; simp; omega
      refine loopK_up (fun t : Nat => [(17, vI ((a + t : Nat) : Int))]) (fun t => [(0, ⟨1, .row true 1 ((P ++ (X.take t ++ y :: X.drop t) ++ Q).map encI)⟩)]) (fun t => u ≤ t ∧ t ≤ X.length) (fun t => t - u) X.length ?_
      simp only [↓reduceIte, go_sem]
      refine ⟨?_, ⟨i2, by omega⟩, ?_⟩
      ·simp only [↓reduceIte, go_sem, hm']
       simp
      ·rintro t ⟨ht, ht2⟩
       by_cases htu : u < t
       ·obtain ⟨t, rfl⟩ : ∃ s, t = s + 1 := ⟨t - 1, by omega⟩
        obtain ⟨x, hx⟩ := at_some (show t < X.length by omega)
        have e1 : (P ++ (X.take (t + 1) ++ y :: X.drop (t + 1)) ++ Q).map encI = two ((P ++ X.take t).map encI) (encI x) [] (encI y) ((X.drop (t + 1) ++ Q).map encI) := by simp [two, take_snoc hx]
        have e2 : (P ++ (X.take t ++ y :: X.drop t) ++ Q).map encI = two ((P ++ X.take t).map encI) (encI y) [] (encI x) ((X.drop (t + 1) ++ Q).map encI) := by simp [two, drop_cons hx]
        have hA : ((P ++ X.take t).map encI).length = a + t := by simp; omega
        have hL0 : ∀ p q, (two ((P ++ X.take t).map encI) p [] q ((X.drop (t + 1) ++ Q).map encI)).length = N := fun p q => by
         rw [← hlt t]; simp [two, drop_cons hx]
        generalize (P ++ X.take t).map encI = A at *
        generalize (X.drop (t + 1) ++ Q).map encI = C at *
        obtain ⟨g1, g2, s1, s2, hL, d1, d2⟩ := two_at (A := A) (B := []) (C := C) (p := a + t) (q := a + t + 1) hA (by simp)
        have k1 : (0 : Int) ≤ ((a + t : Nat) : Int) := by omega
        have k2 : ((a + t : Nat) : Int) < (N : Int) := by omega
        have k3 : (0 : Int) ≤ ((a + t + 1 : Nat) : Int) := by omega
        have k4 : ((a + t + 1 : Nat) : Int) < (N : Int) := by omega
        have k5 : ((a + t + 1 : Nat) : Int) > ((a + u : Nat) : Int) := by omega
        have k6 : IntKind.i64.wrap (((a + t + 1 : Nat) : Int) - 1) = ((a + t : Nat) : Int) := by
         rw [wI (by omega) (by omega)]; omega
        rw [e1, show a + (t + 1) = a + t + 1 from rfl]
        simp only [↓reduceIte, go_sem, hL0, g1, g2, s1, s2, k1, k2, k3, k4, k5, k6]
        exact ⟨t, ⟨rfl, e2.symm⟩, ⟨by omega, by omega⟩, by omega⟩
       ·obtain rfl : t = u := by omega
        simp only [↓reduceIte, go_sem]
        rw [hres]
   ·obtain ⟨M, hM⟩ : ∃ M, M = (X.length + Y.length) / 2 := ⟨_, rfl⟩
    have hmid : (a + b) / 2 = a + M := by omega
    have hxa : ∀ w, w < X.length → (P ++ X ++ Y ++ Q)[a + w]? = X[w]? := fun w hw => by
     rw [List.append_assoc, List.append_assoc, List.getElem?_append_right (by omega), List.getElem?_append_left (by omega)]
     congr 1; omega
    have hya : ∀ w, w < Y.length → (P ++ X ++ Y ++ Q)[m + w]? = Y[w]? := fun w hw => by
     rw [List.append_assoc, List.getElem?_append_right (by omega), List.getElem?_append_left (by omega)]
     congr 1; omega
    simp only [↓reduceIte, go_sem, shr1, half_of (i := a) (j := b) (by omega), hmid, wK (k := a + M) (by omega), wN (a := a + M) (b := m) (by omega)]
    refine ⟨fun h3 => ?_, fun h3 => ?_⟩
    ·have hs : IntKind.i64.wrap (((a + M + m : Nat) : Int) - (b : Int)) = ((a + (M - Y.length) : Nat) : Int) := by
      rw [wI (by omega) (by omega)]; omega
     simp only [go_sem, hs, wS1 (a := a + M + m) (by omega) (by omega)]
     obtain ⟨u0, hu0⟩ : ∃ u, u = M - Y.length := ⟨_, rfl⟩
     obtain ⟨v0, hv0⟩ : ∃ v, v = M := ⟨_, rfl⟩
     rw [← hu0]
     have q1 : u0 ≤ v0 := by omega
     have q2 : v0 ≤ M := by omega
     have q3 : v0 ≤ X.length := by omega
     have q4 : M ≤ u0 + Y.length := by omega
     have q5 : u0 = 0 ∨ Y.length ≤ M - u0 := by omega
     have q6 : v0 = M ∨ v0 = X.length := by omega
     have q7 : a + M = a + v0 := by omega
     refine loopK_up (ι := Nat × Nat) (fun s => [(20, vI ((a + s.1 : Nat) : Int)), (21, vI ((a + s.2 : Nat) : Int))]) (fun s => []) (fun s => SymZ (ltz c) X Y M u0 v0 s.1 s.2) (fun s => s.2 - s.1) (u0, v0) ?_
     simp only [↓reduceIte, go_sem]
     refine ⟨?_, ⟨by omega, q1, by omega, q5.imp_right .inl, q6.imp_right .inl⟩, ?_⟩
     ·simp only [↓reduceIte, go_sem]
      first | exact ⟨by omega, by omega⟩ | omega
     ·rintro ⟨u, v⟩ hI
      obtain ⟨i1, i2, i3, i4, i5⟩ := hI
      simp only at i1 i2 i3 i4 i5
      simp only [↓reduceIte, go_sem, hN, shr1, half_of (i := a + u) (j := a + v) (by omega)]
      refine ⟨fun hlt => ?_, fun hge => ?_⟩
      ·have hwx : (a + u + (a + v)) / 2 = a + (u + v) / 2 := by omega
       have w1 : u ≤ (u + v) / 2 := by omega
       have w2 : (u + v) / 2 < v := by omega
       rw [hwx]
       generalize (u + v) / 2 = w at w1 w2
       have hpc : IntKind.i64.wrap (((a + M + m - 1 : Nat) : Int) - ((a + w : Nat) : Int)) = ((m + (M - 1 - w) : Nat) : Int) := by
        rw [wI (by omega) (by omega)]; omega
       obtain ⟨x, hx⟩ := at_some (show w < X.length by omega)
       obtain ⟨y, hy⟩ := at_some (show M - 1 - w < Y.length by omega)
       have hxw := (hxa w (by omega)).trans hx
       have hyw := (hya (M - 1 - w) (by omega)).trans hy
       have k1 : (0 : Int) ≤ ((a + w : Nat) : Int) := by omega
       have k2 : ((a + w : Nat) : Int) < (N : Int) := by omega
       have k3 : (0 : Int) ≤ ((m + (M - 1 - w) : Nat) : Int) := by omega
       have k4 : ((m + (M - 1 - w) : Nat) : Int) < (N : Int) := by omega
       simp only [go_sem, wK (k := a + w) (by omega), hpc, k1, k2, k3, k4, bk_eq hxw, bk_eq hyw]
       apply callK_of (hc y x)
       simp only [↓reduceIte, go_sem, wN1 (a := a + w) (by omega)]
       intro _
       refine ⟨fun hn => ⟨(w + 1, v), ⟨rfl, rfl⟩, ⟨by omega, by omega, i3, .inr (.inr ⟨y, x, by rw [show M - (w + 1) = M - 1 - w by omega]; exact hy, hx, by simpa [ltz] using hn⟩), i5⟩, by show v - (w + 1) < v - u; omega⟩, fun hn => ⟨(u, w), ⟨rfl, rfl⟩, ⟨i1, w1, by omega, i4, .inr (.inr ⟨y, x, hy, hx, by simpa [ltz] using hn⟩)⟩, by show w - u < v - u; omega⟩⟩
      ·obtain rfl : u = v := by omega
       obtain ⟨A1, A2, B1, B2, rfl, rfl, hA1, hB1, huM, hres, t1, t2, t3, t4⟩ := SymZ.fin hw ⟨i1, i2, i3, i4, i5⟩ sX sY q2 q3 q4
       have hend : IntKind.i64.wrap (((a + M + m : Nat) : Int) - ((a + u : Nat) : Int)) = ((m + (M - u) : Nat) : Int) := by
        rw [wI (by omega) (by omega)]; omega
       have r0 : P ++ (A1 ++ A2) ++ (B1 ++ B2) ++ Q = (P ++ A1) ++ A2 ++ B1 ++ (B2 ++ Q) := by simp
       have r1 : (P ++ A1) ++ B1 ++ A2 ++ (B2 ++ Q) = P ++ A1 ++ B1 ++ (A2 ++ (B2 ++ Q)) := by simp
       have r2 : A2.length = 0 ∨ B1.length = 0 → P ++ (A1 ++ A2) ++ (B1 ++ B2) ++ Q = P ++ A1 ++ B1 ++ (A2 ++ (B2 ++ Q)) := fun h => by
        rcases h with h | h
        ·rw [List.length_eq_zero_iff.1 h]; simp
        ·rw [List.length_eq_zero_iff.1 h]; simp
       have r3 : A1.length = 0 ∨ B1.length = 0 → P ++ A1 ++ B1 ++ (A2 ++ (B2 ++ Q)) = (P ++ Srt.mrg (ltz c) A1 B1) ++ A2 ++ B2 ++ Q := fun h => by
        rcases h with h | h
        ·rw [List.length_eq_zero_iff.1 h, Srt.mrg_nil_srt hw t3]; simp
        ·rw [List.length_eq_zero_iff.1 h, Srt.mrg_nil]; simp
       have r4 : P ++ Srt.mrg (ltz c) A1 B1 ++ (A2 ++ (B2 ++ Q)) = (P ++ Srt.mrg (ltz c) A1 B1) ++ A2 ++ B2 ++ Q := by simp
       have r5 : A2.length = 0 ∨ B2.length = 0 → (P ++ Srt.mrg (ltz c) A1 B1) ++ A2 ++ B2 ++ Q = (P ++ Srt.mrg (ltz c) A1 B1) ++ Srt.mrg (ltz c) A2 B2 ++ Q := fun h => by
        rcases h with h | h
        ·rw [List.length_eq_zero_iff.1 h, Srt.mrg_nil_srt hw t4]; simp
        ·rw [List.length_eq_zero_iff.1 h, Srt.mrg_nil]; simp
       have r6 : P ++ Srt.mrg (ltz c) (A1 ++ A2) (B1 ++ B2) ++ Q = (P ++ Srt.mrg (ltz c) A1 B1) ++ Srt.mrg (ltz c) A2 B2 ++ Q := by rw [hres]; simp
       obtain ⟨⟨l0, l1, l2, l3, l4, l5⟩, ⟨L1, L2, L3, L4, L5, L6, L7⟩, hn1, hn2, ⟨eA, eB, eC, eD, eE, eF⟩, h7⟩ := symZL (ltz c) ha hA1 hB1 huM hm' hb' hN hM hn h1 h2 hX hY
       clear hxa hya hres i4 i5
       rcases h7 with ⟨z1, z2, z3, z4⟩ | ⟨z1, z2, z3, z4⟩ | ⟨z1, z2, z3, z4⟩ | ⟨z1, z2, z3, z4⟩ | ⟨z1, z2, z3, z4⟩ | ⟨z1, z2, z3, z4⟩ | ⟨z1, z2, z3, z4⟩
       ·have fA := lt_yes A2.length eA z2
        have fB := lt_yes B1.length eB z3
        have fC := lt_yes A1.length eC z1
        have fD := lt_yes B1.length eD z3
        have fE := lt_yes A2.length eE z2
        have fF := lt_yes B2.length eF z4
        simp only [go_sem, hend, fA, fB, fC, fD, fE, fF]
        rw [r0]
        apply callIK_of (c_slices_rotateZ (P ++ A1) A2 B1 (B2 ++ Q) f L1 L2 L3 z2 z3)
        simp only [↓reduceIte, go_sem, fC, fD, l0]
        rw [r1]
        apply callIK_of (ih P A1 B1 (A2 ++ (B2 ++ Q)) hn1 ha L1 L4 z1 z3 t1 t3)
        simp only [↓reduceIte, go_sem, fE, fF, l4]
        rw [r4]
        apply callIK_of (ih (P ++ Srt.mrg (ltz c) A1 B1) A2 B2 Q hn2 L5 L6 L7 z2 z4 t2 t4)
        simp only [↓reduceIte, go_sem]
        rw [r6]
       ·have fA := lt_yes A2.length eA z2
        have fB := lt_yes B1.length eB z3
        have fC := lt_no A1.length eC z1
        have fD := lt_yes B1.length eD z3
        have fE := lt_yes A2.length eE z2
        have fF := lt_yes B2.length eF z4
        simp only [go_sem, hend, fA, fB, fC, fD, fE, fF]
        rw [r0]
        apply callIK_of (c_slices_rotateZ (P ++ A1) A2 B1 (B2 ++ Q) f L1 L2 L3 z2 z3)
        simp only [↓reduceIte, go_sem, fC, fE, fF, l0]
        rw [r1]
        rw [r3 (.inl z1)]
        apply callIK_of (ih (P ++ Srt.mrg (ltz c) A1 B1) A2 B2 Q hn2 L5 L6 L7 z2 z4 t2 t4)
        simp only [↓reduceIte, go_sem]
        rw [r6]
       ·have fA := lt_no A2.length eA z2
        have fB := lt_yes B1.length eB z3
        have fC := lt_yes A1.length eC z1
        have fD := lt_yes B1.length eD z3
        have fE := lt_no A2.length eE z2
        have fF := lt_yes B2.length eF z4
        simp only [go_sem, hend, fA, fB, fC, fD, fE, fF]
        rw [r2 (.inl z2)]
        apply callIK_of (ih P A1 B1 (A2 ++ (B2 ++ Q)) hn1 ha L1 L4 z1 z3 t1 t3)
        simp only [↓reduceIte, go_sem, fE]
        rw [r4]
        rw [r5 (.inl z2)]
        rw [r6]
       ·have fA := lt_yes A2.length eA z2
        have fB := lt_no B1.length eB z3
        have fC := lt_yes A1.length eC z1
        have fD := lt_no B1.length eD z3
        have fE := lt_yes A2.length eE z2
        have fF := lt_yes B2.length eF z4
        simp only [go_sem, hend, fA, fB, fC, fD, fE, fF]
        rw [r2 (.inr z3)]
        rw [r3 (.inr z3)]
        apply callIK_of (ih (P ++ Srt.mrg (ltz c) A1 B1) A2 B2 Q hn2 L5 L6 L7 z2 z4 t2 t4)
        simp only [↓reduceIte, go_sem]
        rw [r6]
       ·have fA := lt_yes A2.length eA z2
        have fB := lt_yes B1.length eB z3
        have fC := lt_yes A1.length eC z1
        have fD := lt_yes B1.length eD z3
        have fE := lt_yes A2.length eE z2
        have fF := lt_no B2.length eF z4
        simp only [go_sem, hend, fA, fB, fC, fD, fE, fF]
        rw [r0]
        apply callIK_of (c_slices_rotateZ (P ++ A1) A2 B1 (B2 ++ Q) f L1 L2 L3 z2 z3)
        simp only [↓reduceIte, go_sem, fC, fD, l0]
        rw [r1]
        apply callIK_of (ih P A1 B1 (A2 ++ (B2 ++ Q)) hn1 ha L1 L4 z1 z3 t1 t3)
        simp only [↓reduceIte, go_sem, fE, fF]
        rw [r4]
        rw [r5 (.inr z4)]
        rw [r6]
       ·have fA := lt_yes A2.length eA z2
        have fB := lt_yes B1.length eB z3
        have fC := lt_no A1.length eC z1
        have fD := lt_yes B1.length eD z3
        have fE := lt_yes A2.length eE z2
        have fF := lt_no B2.length eF z4
        simp only [go_sem, hend, fA, fB, fC, fD, fE, fF]
        rw [r0]
        apply callIK_of (c_slices_rotateZ (P ++ A1) A2 B1 (B2 ++ Q) f L1 L2 L3 z2 z3)
        simp only [↓reduceIte, go_sem, fC, fE, fF]
        rw [r1]
        rw [r3 (.inl z1)]
        rw [r5 (.inr z4)]
        rw [r6]
       ·have fA := lt_no A2.length eA z2
        have fB := lt_no B1.length eB z3
        have fC := lt_yes A1.length eC z1
        have fD := lt_no B1.length eD z3
        have fE := lt_no A2.length eE z2
        have fF := lt_yes B2.length eF z4
        simp only [go_sem, hend, fA, fB, fC, fD, fE, fF]
        rw [r2 (.inl z2)]
        rw [r3 (.inr z3)]
        rw [r5 (.inl z2)]
        rw [r6]
    ·simp only [go_sem, wS1 (a := a + M + m) (by omega) (by omega)]
     obtain ⟨u0, hu0⟩ : ∃ u, u = 0 := ⟨_, rfl⟩
     obtain ⟨v0, hv0⟩ : ∃ v, v = X.length := ⟨_, rfl⟩
     have q1 : u0 ≤ v0 := by omega
     have q2 : v0 ≤ M := by omega
     have q3 : v0 ≤ X.length := by omega
     have q4 : M ≤ u0 + Y.length := by omega
     have q5 : u0 = 0 ∨ Y.length ≤ M - u0 := by omega
     have q6 : v0 = M ∨ v0 = X.length := by omega
     refine loopK_up (ι := Nat × Nat) (fun s => [(20, vI ((a + s.1 : Nat) : Int)), (21, vI ((a + s.2 : Nat) : Int))]) (fun s => []) (fun s => SymZ (ltz c) X Y M u0 v0 s.1 s.2) (fun s => s.2 - s.1) (u0, v0) ?_
     simp only [↓reduceIte, go_sem]
     refine ⟨?_, ⟨by omega, q1, by omega, q5.imp_right .inl, q6.imp_right .inl⟩, ?_⟩
     ·simp only [↓reduceIte, go_sem]
      first | exact ⟨by omega, by omega⟩ | omega
     ·rintro ⟨u, v⟩ hI
      obtain ⟨i1, i2, i3, i4, i5⟩ := hI
      simp only at i1 i2 i3 i4 i5
      simp only [↓reduceIte, go_sem, hN, shr1, half_of (i := a + u) (j := a + v) (by omega)]
      refine ⟨fun hlt => ?_, fun hge => ?_⟩
      ·have hwx : (a + u + (a + v)) / 2 = a + (u + v) / 2 := by omega
       have w1 : u ≤ (u + v) / 2 := by omega
       have w2 : (u + v) / 2 < v := by omega
       rw [hwx]
       generalize (u + v) / 2 = w at w1 w2
       have hpc : IntKind.i64.wrap (((a + M + m - 1 : Nat) : Int) - ((a + w : Nat) : Int)) = ((m + (M - 1 - w) : Nat) : Int) := by
        rw [wI (by omega) (by omega)]; omega
       obtain ⟨x, hx⟩ := at_some (show w < X.length by omega)
       obtain ⟨y, hy⟩ := at_some (show M - 1 - w < Y.length by omega)
       have hxw := (hxa w (by omega)).trans hx
       have hyw := (hya (M - 1 - w) (by omega)).trans hy
       have k1 : (0 : Int) ≤ ((a + w : Nat) : Int) := by omega
       have k2 : ((a + w : Nat) : Int) < (N : Int) := by omega
       have k3 : (0 : Int) ≤ ((m + (M - 1 - w) : Nat) : Int) := by omega
       have k4 : ((m + (M - 1 - w) : Nat) : Int) < (N : Int) := by omega
       simp only [go_sem, wK (k := a + w) (by omega), hpc, k1, k2, k3, k4, bk_eq hxw, bk_eq hyw]
       apply callK_of (hc y x)
       simp only [↓reduceIte, go_sem, wN1 (a := a + w) (by omega)]
       intro _
       refine ⟨fun hn => ⟨(w + 1, v), ⟨rfl, rfl⟩, ⟨by omega, by omega, i3, .inr (.inr ⟨y, x, by rw [show M - (w + 1) = M - 1 - w by omega]; exact hy, hx, by simpa [ltz] using hn⟩), i5⟩, by show v - (w + 1) < v - u; omega⟩, fun hn => ⟨(u, w), ⟨rfl, rfl⟩, ⟨i1, w1, by omega, i4, .inr (.inr ⟨y, x, hy, hx, by simpa [ltz] using hn⟩)⟩, by show w - u < v - u; omega⟩⟩
      ·obtain rfl : u = v := by omega
       obtain ⟨A1, A2, B1, B2, rfl, rfl, hA1, hB1, huM, hres, t1, t2, t3, t4⟩ := SymZ.fin hw ⟨i1, i2, i3, i4, i5⟩ sX sY q2 q3 q4
       have hend : IntKind.i64.wrap (((a + M + m : Nat) : Int) - ((a + u : Nat) : Int)) = ((m + (M - u) : Nat) : Int) := by
        rw [wI (by omega) (by omega)]; omega
       have r0 : P ++ (A1 ++ A2) ++ (B1 ++ B2) ++ Q = (P ++ A1) ++ A2 ++ B1 ++ (B2 ++ Q) := by simp
       have r1 : (P ++ A1) ++ B1 ++ A2 ++ (B2 ++ Q) = P ++ A1 ++ B1 ++ (A2 ++ (B2 ++ Q)) := by simp
       have r2 : A2.length = 0 ∨ B1.length = 0 → P ++ (A1 ++ A2) ++ (B1 ++ B2) ++ Q = P ++ A1 ++ B1 ++ (A2 ++ (B2 ++ Q)) := fun h => by
        rcases h with h | h
        ·rw [List.length_eq_zero_iff.1 h]; simp
        ·rw [List.length_eq_zero_iff.1 h]; simp
       have r3 : A1.length = 0 ∨ B1.length = 0 → P ++ A1 ++ B1 ++ (A2 ++ (B2 ++ Q)) = (P ++ Srt.mrg (ltz c) A1 B1) ++ A2 ++ B2 ++ Q := fun h => by
        rcases h with h | h
        ·rw [List.length_eq_zero_iff.1 h, Srt.mrg_nil_srt hw t3]; simp
        ·rw [List.length_eq_zero_iff.1 h, Srt.mrg_nil]; simp
       have r4 : P ++ Srt.mrg (ltz c) A1 B1 ++ (A2 ++ (B2 ++ Q)) = (P ++ Srt.mrg (ltz c) A1 B1) ++ A2 ++ B2 ++ Q := by simp
       have r5 : A2.length = 0 ∨ B2.length = 0 → (P ++ Srt.mrg (ltz c) A1 B1) ++ A2 ++ B2 ++ Q = (P ++ Srt.mrg (ltz c) A1 B1) ++ Srt.mrg (ltz c) A2 B2 ++ Q := fun h => by
        rcases h with h | h
        ·rw [List.length_eq_zero_iff.1 h, Srt.mrg_nil_srt hw t4]; simp
        ·rw [List.length_eq_zero_iff.1 h, Srt.mrg_nil]; simp
       have r6 : P ++ Srt.mrg (ltz c) (A1 ++ A2) (B1 ++ B2) ++ Q = (P ++ Srt.mrg (ltz c) A1 B1) ++ Srt.mrg (ltz c) A2 B2 ++ Q := by rw [hres]; simp
       obtain ⟨⟨l0, l1, l2, l3, l4, l5⟩, ⟨L1, L2, L3, L4, L5, L6, L7⟩, hn1, hn2, ⟨eA, eB, eC, eD, eE, eF⟩, h7⟩ := symZL (ltz c) ha hA1 hB1 huM hm' hb' hN hM hn h1 h2 hX hY
       clear hxa hya hres i4 i5
       rcases h7 with ⟨z1, z2, z3, z4⟩ | ⟨z1, z2, z3, z4⟩ | ⟨z1, z2, z3, z4⟩ | ⟨z1, z2, z3, z4⟩ | ⟨z1, z2, z3, z4⟩ | ⟨z1, z2, z3, z4⟩ | ⟨z1, z2, z3, z4⟩
       ·have fA := lt_yes A2.length eA z2
        have fB := lt_yes B1.length eB z3
        have fC := lt_yes A1.length eC z1
        have fD := lt_yes B1.length eD z3
        have fE := lt_yes A2.length eE z2
        have fF := lt_yes B2.length eF z4
        simp only [go_sem, hend, fA, fB, fC, fD, fE, fF]
        rw [r0]
        apply callIK_of (c_slices_rotateZ (P ++ A1) A2 B1 (B2 ++ Q) f L1 L2 L3 z2 z3)
        simp only [↓reduceIte, go_sem, fC, fD, l0]
        rw [r1]
        apply callIK_of (ih P A1 B1 (A2 ++ (B2 ++ Q)) hn1 ha L1 L4 z1 z3 t1 t3)
        simp only [↓reduceIte, go_sem, fE, fF, l4]
        rw [r4]
        apply callIK_of (ih (P ++ Srt.mrg (ltz c) A1 B1) A2 B2 Q hn2 L5 L6 L7 z2 z4 t2 t4)
        simp only [↓reduceIte, go_sem]
        rw [r6]
       ·have fA := lt_yes A2.length eA z2
        have fB := lt_yes B1.length eB z3
        have fC := lt_no A1.length eC z1
        have fD := lt_yes B1.length eD z3
        have fE := lt_yes A2.length eE z2
        have fF := lt_yes B2.length eF z4
        simp only [go_sem, hend, fA, fB, fC, fD, fE, fF]
        rw [r0]
        apply callIK_of (c_slices_rotateZ (P ++ A1) A2 B1 (B2 ++ Q) f L1 L2 L3 z2 z3)
        simp only [↓reduceIte, go_sem, fC, fE, fF, l0]
        rw [r1]
        rw [r3 (.inl z1)]
        apply callIK_of (ih (P ++ Srt.mrg (ltz c) A1 B1) A2 B2 Q hn2 L5 L6 L7 z2 z4 t2 t4)
        simp only [↓reduceIte, go_sem]
        rw [r6]
       ·have fA := lt_no A2.length eA z2
        have fB := lt_yes B1.length eB z3
        have fC := lt_yes A1.length eC z1
        have fD := lt_yes B1.length eD z3
        have fE := lt_no A2.length eE z2
        have fF := lt_yes B2.length eF z4
        simp only [go_sem, hend, fA, fB, fC, fD, fE, fF]
        rw [r2 (.inl z2)]
        apply callIK_of (ih P A1 B1 (A2 ++ (B2 ++ Q)) hn1 ha L1 L4 z1 z3 t1 t3)
        simp only [↓reduceIte, go_sem, fE]
        rw [r4]
        rw [r5 (.inl z2)]
        rw [r6]
       ·have fA := lt_yes A2.length eA z2
        have fB := lt_no B1.length eB z3
        have fC := lt_yes A1.length eC z1
        have fD := lt_no B1.length eD z3
        have fE := lt_yes A2.length eE z2
        have fF := lt_yes B2.length eF z4
        simp only [go_sem, hend, fA, fB, fC, fD, fE, fF]
        rw [r2 (.inr z3)]
        rw [r3 (.inr z3)]
        apply callIK_of (ih (P ++ Srt.mrg (ltz c) A1 B1) A2 B2 Q hn2 L5 L6 L7 z2 z4 t2 t4)
        simp only [↓reduceIte, go_sem]
        rw [r6]
       ·have fA := lt_yes A2.length eA z2
        have fB := lt_yes B1.length eB z3
        have fC := lt_yes A1.length eC z1
        have fD := lt_yes B1.length eD z3
        have fE := lt_yes A2.length eE z2
        have fF := lt_no B2.length eF z4
        simp only [go_sem, hend, fA, fB, fC, fD, fE, fF]
        rw [r0]
        apply callIK_of (c_slices_rotateZ (P ++ A1) A2 B1 (B2 ++ Q) f L1 L2 L3 z2 z3)
        simp only [↓reduceIte, go_sem, fC, fD, l0]
        rw [r1]
        apply callIK_of (ih P A1 B1 (A2 ++ (B2 ++ Q)) hn1 ha L1 L4 z1 z3 t1 t3)
        simp only [↓reduceIte, go_sem, fE, fF]
        rw [r4]
        rw [r5 (.inr z4)]
        rw [r6]
       ·have fA := lt_yes A2.length eA z2
        have fB := lt_yes B1.length eB z3
        have fC := lt_no A1.length eC z1
        have fD := lt_yes B1.length eD z3
        have fE := lt_yes A2.length eE z2
        have fF := lt_no B2.length eF z4
        simp only [go_sem, hend, fA, fB, fC, fD, fE, fF]
        rw [r0]
        apply callIK_of (c_slices_rotateZ (P ++ A1) A2 B1 (B2 ++ Q) f L1 L2 L3 z2 z3)
        simp only [↓reduceIte, go_sem, fC, fE, fF]
        rw [r1]
        rw [r3 (.inl z1)]
        rw [r5 (.inr z4)]
        rw [r6]
       ·have fA := lt_no A2.length eA z2
        have fB := lt_no B1.length eB z3
        have fC := lt_yes A1.length eC z1
        have fD := lt_no B1.length eD z3
        have fE := lt_no A2.length eE z2
        have fF := lt_yes B2.length eF z4
        simp only [go_sem, hend, fA, fB, fC, fD, fE, fF]
        rw [r2 (.inl z2)]
        rw [r3 (.inr z3)]
        rw [r5 (.inl z2)]
        rw [r6]
def m_slices_stableCmpFunc_int : MC :=
(.seq (pr [.mv 6 (ci 20)] [0,1,2,6])
(.seq (pr [.mv 10 (.s 6), .mv 7 (ci 0), .mv 8 (.s 10)] [0,1,2,6,7,8])
(.seq (.block 0 (.loop ([0,1,2,6,7,8], []) (.seq (.seq (pr [.mv 11 (.s 8), .mv 12 (.s 1), .bin 13 false .leq (.s 11) (.s 12)] [0,1,2,6,7,8,13])
(.cond (.s 13) .skip (.exit 0)))
(.block 1 (.seq (pr [.mv 14 (.s 0), .mv 15 (.s 7), .mv 16 (.s 8), .mv 17 (.s 2), .callI 18 [] (.f n_slices_insertionSortCmpFunc_int) [.s 14, .s 15, .s 16, .s 17] [0] []] [0,1,2,6,8])
(.seq (pr [.mv 19 (.s 8), .mv 7 (.s 19)] [0,1,2,6,7,8])
(pr [.mv 20 (.s 8), .mv 21 (.s 6), .bin 22 false .add (.s 20) (.s 21), .mv 8 (.s 22)] [0,1,2,6,7,8])))))))
(.seq (pr [.mv 23 (.s 0), .mv 24 (.s 7), .mv 25 (.s 1), .mv 26 (.s 2), .callI 27 [] (.f n_slices_insertionSortCmpFunc_int) [.s 23, .s 24, .s 25, .s 26] [0] []] [0,1,2,6])
(.block 2 (.loop ([0,1,2,6], []) (.seq (.seq (pr [.mv 28 (.s 6), .mv 29 (.s 1), .bin 30 false .lss (.s 28) (.s 29)] [0,1,2,6,30])
(.cond (.s 30) .skip (.exit 2)))
(.block 3 (.seq (pr [.mv 31 (.s 6), .bin 32 false .mul (ci 2) (.s 31), .mv 7 (ci 0), .mv 8 (.s 32)] [0,1,2,6,7,8])
(.seq (.block 4 (.loop ([0,1,2,6,7,8], []) (.seq (.seq (pr [.mv 33 (.s 8), .mv 34 (.s 1), .bin 35 false .leq (.s 33) (.s 34)] [0,1,2,6,7,8,35])
(.cond (.s 35) .skip (.exit 4)))
(.block 5 (.seq (pr [.mv 36 (.s 0), .mv 37 (.s 7), .mv 38 (.s 7), .mv 39 (.s 6), .bin 40 false .add (.s 38) (.s 39), .mv 41 (.s 8), .mv 42 (.s 2), .callI 43 [] (.f n_slices_symMergeCmpFunc_int) [.s 36, .s 37, .s 40, .s 41, .s 42] [0] []] [0,1,2,6,8])
(.seq (pr [.mv 44 (.s 8), .mv 7 (.s 44)] [0,1,2,6,7,8])
(pr [.mv 45 (.s 8), .mv 46 (.s 6), .bin 47 false .mul (ci 2) (.s 46), .bin 48 false .add (.s 45) (.s 47), .mv 8 (.s 48)] [0,1,2,6,7,8])))))))
(.seq (.seq (pr [.mv 49 (.s 7), .mv 50 (.s 6), .bin 51 false .add (.s 49) (.s 50), .mv 9 (.s 51)] [0,1,2,6,7,9])
(.seq (pr [.mv 52 (.s 9), .mv 53 (.s 1), .bin 54 false .lss (.s 52) (.s 53)] [0,1,2,6,7,9,54])
(.cond (.s 54) (pr [.mv 55 (.s 0), .mv 56 (.s 7), .mv 57 (.s 9), .mv 58 (.s 1), .mv 59 (.s 2), .callI 60 [] (.f n_slices_symMergeCmpFunc_int) [.s 55, .s 56, .s 57, .s 58, .s 59] [0] []] [0,1,2,6]) .skip)))
(pr [.mv 61 (.s 6), .bin 62 false .mul (.s 61) (ci 2), .mv 6 (.s 62)] [0,1,2,6]))))))))))))
set_option maxHeartbeats 4000000 in
theorem c_slices_stableZ (X : List Int) (f : FuncId) {cs : List T} (c : Int → Int → Int) (hc : ∀ x y, Ctr Tryz.prog f (aI x :: aI y :: cs.map (fun t => (false, [t]))) [rI (c x y)]) (hw : Srt.Swo (ltz c)) : CtrI Tryz.prog n_slices_stableCmpFunc_int [oL 1 (X.map encI), iI X.length, fC f cs] [some (1, (Srt.isort (ltz c) X).map encI)] [] := by
 refine ctrI_at (M := m_slices_stableCmpFunc_int) (m := 0) (n := 63) (res := []) hmix Tryz.func386 rfl (by kernel_rfl) rfl (by kernel_rfl) (by kernel_rfl) (Nat.le_of_ble_eq_true rfl) rfl rfl ?_; unfold m_slices_stableCmpFunc_int
 intro hbd
 have hl := len_of_bd hbd
 clear hbd
 simp only [roomB] at hl
 simp only [↓reduceIte, go_sem]
 refine loopK_up (fun k : Nat => [(7, vI ((k * 20 : Nat) : Int)), (8, vI (((k + 1) * 20 : Nat) : Int))]) (fun k => [(0, ⟨1, .row true 1 ((Srt.blks (ltz c) 20 k X).map encI)⟩)]) (fun k => k * 20 ≤ X.length) (fun k => X.length - k * 20) 0 ?_
 simp only [↓reduceIte, go_sem]
 refine ⟨?_, by omega, ?_⟩
 ·simp only [↓reduceIte, go_sem]
  exact ⟨rfl, rfl⟩
 ·intro k hk
  simp only [↓reduceIte, go_sem, Srt.len_blks]
  refine ⟨fun hlt => ?_, fun hge => ?_⟩
  ·obtain ⟨A, hA, e1, e2⟩ := Srt.blks_snoc (lt := ltz c) (s := 20) (k := k) (l := X) (by omega)
   have g1 := congrArg List.length e1
   have g2 := congrArg List.length e2
   rw [Srt.len_blks] at g1 g2
   rw [← List.append_assoc] at e1 e2 g1 g2
   rw [e1]
   apply callIK_of (c_slices_insertionSortZ A _ _ f c hc hw hA (by simp [hA]; omega))
   have w1 : IntKind.i64.wrap ((((k + 1) * 20 : Nat) : Int) + 20) = (((k + 1 + 1) * 20 : Nat) : Int) := by
    rw [wI (by omega) (by omega)]; omega
   simp only [↓reduceIte, go_sem, w1]
   exact ⟨k + 1, ⟨⟨rfl, rfl⟩, by rw [e2]⟩, by omega, by omega⟩
  ·obtain ⟨A, hA, e1, e2⟩ := Srt.blks_last (lt := ltz c) (s := 20) (k := k) (l := X) (by omega) (by omega)
   have g1 := congrArg List.length e1
   have g2 := congrArg List.length e2
   rw [Srt.len_blks] at g1 g2
   have e1' : A ++ X.drop (k * 20) = A ++ X.drop (k * 20) ++ [] := by simp
   rw [e1, e1']
   apply callIK_of (c_slices_insertionSortZ A _ [] f c hc hw hA (by simp [hA]; omega))
   rw [List.append_nil, ← e2]
   rw [Srt.blks_blk (by omega) (by omega)]
   simp only [↓reduceIte, go_sem]
   refine loopK_up (fun s : Nat => [(6, vI (s : Int))]) (fun s => [(0, ⟨1, .row true 1 ((Srt.blk (ltz c) s X).map encI)⟩)]) (fun s => 0 < s ∧ s ≤ 2 * X.length + 20) (fun s => X.length - s) 20 ?_
   simp only [↓reduceIte, go_sem]
   refine ⟨?_, ⟨by omega, by omega⟩, ?_⟩
   ·simp only [↓reduceIte, go_sem]
    first | rfl | exact ⟨rfl, rfl⟩
   ·rintro s ⟨hs0, hs1⟩
    clear e1' e1 e2 g1 g2 hA A hge hk
    have w2 : IntKind.i64.wrap (2 * (s : Int)) = ((2 * s : Nat) : Int) := by rw [wI (by omega) (by omega)]; omega
    have w3 : IntKind.i64.wrap ((s : Int) * 2) = ((2 * s : Nat) : Int) := by rw [wI (by omega) (by omega)]; omega
    simp only [↓reduceIte, go_sem, w2]
    refine ⟨fun hlt => ?_, fun hge => ?_⟩
    ·refine loopK_up (fun k : Nat => [(7, vI ((k * (2 * s) : Nat) : Int)), (8, vI ((k * (2 * s) + 2 * s : Nat) : Int))]) (fun k => [(0, ⟨1, .row true 1 ((Srt.mix (ltz c) s k X).map encI)⟩)]) (fun k => k * (2 * s) ≤ X.length) (fun k => X.length - k * (2 * s)) 0 ?_
     simp only [↓reduceIte, go_sem]
     refine ⟨?_, by omega, ?_⟩
     ·simp only [↓reduceIte, go_sem]
      refine ⟨⟨?_, ?_⟩, rfl⟩
      ·rw [Nat.zero_mul]; rfl
      ·rw [Nat.zero_mul, Nat.zero_add]
     ·intro k hk
      simp only [↓reduceIte, go_sem, Srt.len_mix, w3]
      refine ⟨fun hle => ?_, fun hgt => ?_⟩
      ·obtain ⟨P, A, B, Q, m1, m2, m3, m4, m5, m6, m7⟩ := Srt.mix_step hw (s := s) (k := k) (l := X) (by omega)
       have g1 : (P ++ A ++ B ++ Q).length = X.length := by rw [← m6, Srt.len_mix]
       have g2 : (P ++ Srt.mrg (ltz c) A B ++ Q).length = X.length := by rw [← m7, Srt.len_mix]
       have wa : IntKind.i64.wrap (((k * (2 * s) : Nat) : Int) + (s : Int)) = ((k * (2 * s) + s : Nat) : Int) := wN (by omega)
       have wb : IntKind.i64.wrap (((k * (2 * s) + 2 * s : Nat) : Int) + ((2 * s : Nat) : Int)) = (((k + 1) * (2 * s) + 2 * s : Nat) : Int) := by
        rw [wN (by omega), Nat.succ_mul k (2 * s)]
       rw [m6]
       simp only [go_sem, wa]
       apply callIK_of (c_slices_symMergeZ f c hc hw _ P A B Q (Nat.le_refl _) m1 (m := k * (2 * s) + s) (b := k * (2 * s) + 2 * s) (by rw [List.length_append]; omega) (by rw [List.length_append, List.length_append]; omega) (by omega) (by omega) m4 m5)
       simp only [↓reduceIte, go_sem]
       have hj : (k + 1) * (2 * s) = k * (2 * s) + 2 * s := Nat.succ_mul k (2 * s)
       exact ⟨k + 1, ⟨⟨by rw [hj], by rw [w2, wb]⟩, by rw [m7]⟩, by omega, by omega⟩
      ·obtain ⟨i1, i2⟩ := Srt.mix_end hw (s := s) (k := k) (l := X) hk (by omega)
       have wa : IntKind.i64.wrap (((k * (2 * s) : Nat) : Int) + (s : Int)) = ((k * (2 * s) + s : Nat) : Int) := wN (by omega)
       simp only [go_sem, wa]
       refine ⟨fun hlt2 => ?_, fun hge2 => ?_⟩
       ·obtain ⟨P, A, B, m1, m2, m3, m4, m5, m6, m7⟩ := i1 (by omega)
        have g1 : (P ++ A ++ B ++ []).length = X.length := by rw [List.append_nil, ← m6, Srt.len_mix]
        have g2 : (P ++ Srt.mrg (ltz c) A B ++ []).length = X.length := by rw [List.append_nil, ← m7, Srt.len_blk (Nat.le_refl _)]
        rw [m6, ← List.append_nil (P ++ A ++ B)]
        apply callIK_of (c_slices_symMergeZ f c hc hw _ P A B [] (Nat.le_refl _) m1 (m := k * (2 * s) + s) (b := X.length) (by rw [List.length_append]; omega) (by rw [List.length_append, List.length_append]; omega) (by omega) (by omega) m4 m5)
        simp only [↓reduceIte, go_sem, w3]
        exact ⟨2 * s, ⟨rfl, by rw [m7]⟩, ⟨by omega, by omega⟩, by omega⟩
       ·exact ⟨2 * s, ⟨rfl, by rw [i2 (by omega)]⟩, ⟨by omega, by omega⟩, by omega⟩
    ·rw [Srt.blk_le (by omega)]
def m_slices_SortStableFunc_int_int : MC :=
(pr [.mv 4 (.s 0), .mv 5 (.s 0), .len 6 false (.s 5), .mv 7 (.s 1), .callI 8 [] (.f n_slices_stableCmpFunc_int) [.s 4, .s 6, .s 7] [0] []] [])
theorem c_slices_SortStableZ (X : List Int) (f : FuncId) {cs : List T} (c : Int → Int → Int) (hc : ∀ x y, Ctr Tryz.prog f (aI x :: aI y :: cs.map (fun t => (false, [t]))) [rI (c x y)]) (hw : Srt.Swo (ltz c)) : CtrI Tryz.prog n_slices_SortStableFunc_int_int [oL 1 (X.map encI), fC f cs] [some (1, (Srt.isort (ltz c) X).map encI)] [] := by
 refine ctrI_at (M := m_slices_SortStableFunc_int_int) (m := 0) (n := 9) (res := []) hmix Tryz.func302 rfl (by kernel_rfl) rfl (by kernel_rfl) (by kernel_rfl) (Nat.le_of_ble_eq_true rfl) rfl rfl ?_; unfold m_slices_SortStableFunc_int_int
 intro hbd
 have hl := len_of_bd hbd
 clear hbd
 simp only [roomB] at hl
 simp only [↓reduceIte, go_sem]
 apply callIK_of (c_slices_stableZ X f c hc hw)
 simp only [↓reduceIte, go_sem]
 try intros
 try trivial
end Go.Proofs.YtgkeplbnnjogiaaGreatR
namespace Go.Proofs.YtgkeplbnnjogiaaGreatR
open Go Go.RowKit Go.Proofs
open Nat (reduceEqDiff reduceLT reduceLeDiff reduceAdd reduceMul)
open List (reduceReplicate)
def modM (v : Int) : Int := (IntKind.i64.wrap (v.tmod 1000000 + 1000000)).tmod 1000000
theorem million_ne : ¬ (1000000 : Int) = 0 := by decide
def rankOf (d l : Int) : Int := modM (hashL [d, l])
def cmpR (d a b : Int) : Int := cmpI (rankOf d b) (rankOf d a)
def ltR (d a b : Int) : Bool := decide (rankOf d b < rankOf d a)
theorem ltR_eq (d : Int) : ltz (cmpR d) = ltR d := by
 funext a b
 by_cases h1 : rankOf d b < rankOf d a
 ·simp [ltz, cmpR, cmpI, ltR, h1]
 ·by_cases h2 : rankOf d a < rankOf d b <;> simp [ltz, cmpR, cmpI, ltR, h1, h2]
theorem swoR (d : Int) : Srt.Swo (ltz (cmpR d)) := by
 rw [ltR_eq]
 refine ⟨fun x y h => ?_, fun x y z h => ?_⟩
 ·simp only [ltR, decide_eq_true_eq, decide_eq_false_iff_not] at *; omega
 ·simp only [ltR, decide_eq_true_eq] at *; omega
def ordB (d a b : Int) : Bool := decide (rankOf d b < rankOf d a ∨ rankOf d a = rankOf d b ∧ a < b)
theorem swoB (d : Int) : Srt.Swo (ordB d) := by
 refine ⟨fun x y h => ?_, fun x y z h => ?_⟩
 ·simp only [ordB, decide_eq_true_eq, decide_eq_false_iff_not] at *; omega
 ·simp only [ordB, decide_eq_true_eq] at *; omega
theorem ordB_tot {d a b : Int} (h : a ≠ b) (hf : ordB d a b = false) : ordB d b a = true := by
 simp only [ordB, decide_eq_true_eq, decide_eq_false_iff_not] at *; omega
def ordFor (l : List Int) (d : Int) : List Int := Srt.isort (ltz (cmpR d)) (sortU l)
theorem ins_congr {α : Type} {p q : α → α → Bool} {x : α} : ∀ {A : List α}, (∀ z ∈ A, p x z = q x z) → Srt.ins p x A = Srt.ins q x A
 | [], _ => rfl
 | z :: A, h => by
  simp only [Srt.ins]
  rw [h z (by simp), ins_congr fun y hy => h y (by simp [hy])]
theorem isort_asc (d : Int) : ∀ (n : Nat) (l : List Int), l.length = n → l.Pairwise (· < ·) → Srt.isort (ltR d) l = Srt.isort (ordB d) l
 | 0, l, hn, _ => by
  obtain rfl := List.length_eq_zero_iff.1 hn
  rfl
 | n + 1, l, hn, h => by
  rcases List.eq_nil_or_concat l with rfl | ⟨s, x, rfl⟩
  ·rfl
  ·rw [List.concat_eq_append] at *
   rw [List.pairwise_append] at h
   rw [Srt.isort_snoc, Srt.isort_snoc, isort_asc d n s (by simpa using hn) h.1]
   refine ins_congr fun z hz => ?_
   have hz' : z ∈ s := by
    rcases Srt.mem_mrg.1 hz with k | k
    ·simp at k
    ·exact k
   have := h.2.2 z hz' x (by simp)
   simp only [ltR, ordB]
   rw [Bool.eq_iff_iff]
   simp only [decide_eq_true_eq]
   omega
def strictB (d : Int) (l : List Int) : Prop := l.Pairwise fun x y => ordB d x y = true
theorem strict_ins {d x : Int} : ∀ {l : List Int}, strictB d l → x ∉ l → strictB d (Srt.ins (ordB d) x l)
 | [], _, _ => by simp [Srt.ins, strictB]
 | z :: zs, h, hx => by
  unfold strictB at h ⊢
  rw [List.pairwise_cons] at h
  have hne : x ≠ z := fun e => hx (by simp [e])
  simp only [Srt.ins]
  split
  ·rename_i k
   rw [List.pairwise_cons, List.pairwise_cons]
   refine ⟨fun y hy => ?_, h⟩
   rcases List.mem_cons.1 hy with rfl | hy
   ·exact k
   ·exact (swoB d).tr k (h.1 y hy)
  ·rename_i k
   rw [List.pairwise_cons]
   refine ⟨fun y hy => ?_, strict_ins h.2 fun e => hx (by simp [e])⟩
   rcases Srt.mem_ins.1 hy with rfl | hy
   ·exact ordB_tot hne (by simpa using k)
   ·exact h.1 y hy
theorem strict_mrg {d : Int} : ∀ {B A : List Int}, strictB d A → B.Nodup → (∀ b ∈ B, b ∉ A) → strictB d (Srt.mrg (ordB d) A B)
 | [], A, h, _, _ => h
 | x :: B, A, h, hn, hd => by
  rw [List.nodup_cons] at hn
  rw [Srt.mrg_cons]
  refine strict_mrg (strict_ins h (hd x (by simp))) hn.2 fun b hb hm => ?_
  rcases Srt.mem_ins.1 hm with rfl | hm
  ·exact hn.1 hb
  ·exact hd b (by simp [hb]) hm
theorem strict_eq {d : Int} : ∀ {l m : List Int}, strictB d l → strictB d m → (∀ x, x ∈ l ↔ x ∈ m) → l = m
 | [], [], _, _, _ => rfl
 | [], b :: m, _, _, h => by have := (h b).2 (by simp); simp at this
 | a :: l, [], _, _, h => by have := (h a).1 (by simp); simp at this
 | a :: l, b :: m, h1, h2, h => by
  unfold strictB at h1 h2
  rw [List.pairwise_cons] at h1 h2
  have hir : ∀ x, ordB d x x = true → False := fun x hx => by have := (swoB d).asy x x hx; simp_all
  have hab : a = b := by
   rcases List.mem_cons.1 ((h a).1 (by simp)) with e | e
   ·exact e
   ·rcases List.mem_cons.1 ((h b).2 (by simp)) with e2 | e2
    ·exact e2.symm
    ·exact (hir a ((swoB d).tr (h1.1 b e2) (h2.1 a e))).elim
  subst hab
  congr 1
  refine strict_eq h1.2 h2.2 fun x => ⟨fun hx => ?_, fun hx => ?_⟩
  ·rcases List.mem_cons.1 ((h x).1 (by simp [hx])) with e | e
   ·subst e; exact (hir x (h1.1 x hx)).elim
   ·exact e
  ·rcases List.mem_cons.1 ((h x).2 (by simp [hx])) with e | e
   ·subst e; exact (hir x (h2.1 x hx)).elim
   ·exact e
def addO (d : Int) (out : List Int) (x : Int) : List Int := if out.contains x then out else Srt.ins (ordB d) x out
theorem addO_strict {d : Int} : ∀ (l out : List Int), strictB d out → strictB d (l.foldl (addO d) out) ∧ ∀ x, x ∈ l.foldl (addO d) out ↔ x ∈ out ∨ x ∈ l
 | [], out, h => ⟨h, by simp⟩
 | z :: l, out, h => by
  have hz : strictB d (addO d out z) ∧ ∀ x, x ∈ addO d out z ↔ x ∈ out ∨ x = z := by
   unfold addO
   split
   ·rename_i k
    have k' : z ∈ out := by simpa using k
    refine ⟨h, fun x => ⟨.inl, ?_⟩⟩
    rintro (k | rfl)
    ·exact k
    ·exact k'
   ·rename_i k
    have k' : z ∉ out := by simpa using k
    refine ⟨strict_ins h k', fun x => ?_⟩
    rw [Srt.mem_ins]
    constructor <;> rintro (k | k) <;> simp [k]
  obtain ⟨h1, h2⟩ := addO_strict l (addO d out z) hz.1
  refine ⟨h1, fun x => ?_⟩
  rw [List.foldl_cons, h2, hz.2, List.mem_cons]
  constructor
  ·rintro ((k | k) | k) <;> simp [k]
  ·rintro (k | k | k) <;> simp [k]
def ordS (l : List Int) (d : Int) : List Int := l.foldl (addO d) []
theorem ordS_eq (l : List Int) (d : Int) : ordS l d = ordFor l d := by
 obtain ⟨h1, h2⟩ := sortU_up l
 obtain ⟨h3, h4⟩ := addO_strict (d := d) l [] List.Pairwise.nil
 rw [ordFor, ltR_eq, isort_asc d _ _ rfl h1]
 refine strict_eq h3 (strict_mrg List.Pairwise.nil (h1.imp (fun h => by omega)) (by simp)) fun x => ?_
 rw [Srt.isort, Srt.mem_mrg, h2]
 exact h4 x
theorem ordS_snoc {l : List Int} {d : Int} {k : Nat} {x : Int} (h : l[k]? = some x) : ordS (l.take (k + 1)) d = addO d (ordS (l.take k) d) x := by
 rw [take_snoc h, ordS, List.foldl_append]; rfl
theorem ordFor_len (l : List Int) (d : Int) : (ordFor l d).length ≤ l.length := by
 rw [ordFor, Srt.len_isort, sortU_puts]; exact puts_len l
def placedL (l : List Int) (d k : Int) : List Int := (ordFor l d).take k.toNat
theorem c_impl_ModM (v : Int) : Ctr Tryz.prog n_impl_Mod [aI v, aI 1000000] [rI (modM v)] := by
 refine cA m_impl_Mod 0 15 [(.tmp 4, [false])] Tryz.func387 rfl rfl ?_; unfold m_impl_Mod
 intro hb
 clear hb
 simp only [↓reduceIte, go_sem]
 apply callK_of (c_impl_InRange _ _ _)
 simp only [↓reduceIte, go_sem, million_ne]
 refine And.intro ?_ ?_ <;> intro h
 ·exact absurd (by decide) h
 ·rfl
theorem c_spec_ModM (v : Int) : Ctr Tryz.prog n_spec_Mod [aI v, aI 1000000] [rI (modM v)] := by
 refine cA m_spec_Mod 0 15 [(.tmp 4, [false])] Tryz.func390 rfl rfl ?_; unfold m_spec_Mod
 intro hb
 clear hb
 simp only [↓reduceIte, go_sem]
 apply callK_of (c_spec_l1In _ _ _)
 simp only [↓reduceIte, go_sem, million_ne]
 refine And.intro ?_ ?_ <;> intro h
 ·exact absurd (by decide) h
 ·rfl
def m_impl_RankOf : MC :=
(.seq (pr [.mv 4 (ci 0)] [0,1])
(.seq (pr [.mv 5 (.s 0), .mv 6 (.s 1), .lit 7 0 1 8 [.s 5, .s 6], .call 8 [] (.f n_impl_Hash) [.s 7], .call 9 [] (.f n_impl_Mod) [.s 8, .c (.int .i64 1000000)], .mv 4 (.s 9)] [4])
.ret))
theorem c_impl_RankOf (d l : Int) : Ctr Tryz.prog n_impl_RankOf [aI d, aI l] [rI (rankOf d l)] := by
 refine cA m_impl_RankOf 1 10 [(.tmp 4, [false])] Tryz.func304 rfl rfl ?_; unfold m_impl_RankOf
 intro hb
 clear hb
 simp only [↓reduceIte, go_sem]
 refine ⟨⟨by simp, by decide⟩, ?_⟩
 apply callK_of (c_impl_Hash [d, l])
 simp only [↓reduceIte, go_sem]
 apply callK_of (c_impl_ModM _)
 simp only [↓reduceIte, go_sem]
 intros
 rfl
def m_spec_RankOf : MC :=
(.seq (pr [.mv 4 (ci 0)] [0,1])
(.seq (pr [.mv 5 (.s 0), .mv 6 (.s 1), .lit 7 0 1 8 [.s 5, .s 6], .call 8 [] (.f n_spec_Hash) [.s 7], .call 9 [] (.f n_spec_Mod) [.s 8, .c (.int .i64 1000000)], .mv 4 (.s 9)] [4])
.ret))
theorem c_spec_RankOf (d l : Int) : Ctr Tryz.prog n_spec_RankOf [aI d, aI l] [rI (rankOf d l)] := by
 refine cA m_spec_RankOf 1 10 [(.tmp 4, [false])] Tryz.func382 rfl rfl ?_; unfold m_spec_RankOf
 intro hb
 clear hb
 simp only [↓reduceIte, go_sem]
 refine ⟨⟨by simp, by decide⟩, ?_⟩
 apply callK_of (c_spec_Hash [d, l])
 simp only [↓reduceIte, go_sem]
 apply callK_of (c_spec_ModM _)
 simp only [↓reduceIte, go_sem]
 intros
 rfl
def m_impl_OrderFor_1 : MC :=
(.seq (pr [.mv 5 (ci 0)] [0,1,2])
(.seq (.dreg [Zc [7,9,10] (.load 6 false 1 (.s 2)), Zc [6,9,10] (.mv 7 (.s 1)), Zd [9,10] [0,1] (.call 8 [] (.f n_impl_RankOf) [.s 6, .s 7]), Zc [6,7,8,10] (.load 9 false 1 (.s 2)), Zc [6,7,8,9] (.mv 10 (.s 0)), Ze (.range 5) (.call 11 [] (.f n_impl_RankOf) [.s 9, .s 10]), Ze (.range 6) (.call 12 [] (.f n_cmp_Compare_int) [.s 8, .s 11]), Ze (.range 7) (.mv 5 (.s 12))] [5])
.ret))
theorem c_impl_OrderFor_1 (a b d : Int) : Ctr Tryz.prog n_impl_OrderFor_1 [aI a, aI b, (false, [.pb [tI d]])] [rI (cmpR d a b)] := by
 refine cA m_impl_OrderFor_1 0 13 [(.tmp 5, [false])] Tryz.func303 rfl rfl ?_; unfold m_impl_OrderFor_1
 intro hb
 clear hb
 simp only [↓reduceIte, go_sem]
 apply callK_of (c_impl_RankOf _ _)
 simp only [↓reduceIte, go_sem]
 intros
 apply callK_of (c_impl_RankOf _ _)
 simp only [↓reduceIte, go_sem]
 intros
 apply callK_of (c_cmp_Compare _ _)
 simp only [↓reduceIte, go_sem]
 intros
 rfl
def m_impl_OrderFor : MC :=
(.seq (pr [.box 3 0 (.s 1), .nilo 4 1 1] [0,3])
(.seq (pr [.mv 6 (.s 0), .call 7 [1] (.f n_impl_sorted) [.s 6], .mv 5 (.s 7)] [3,5])
(.seq (pr [.mv 8 (.s 5), .closF 9 n_impl_OrderFor_1 3, .callI 10 [] (.f n_slices_SortStableFunc_int_int) [.s 8, .s 9] [0,1] []] [5])
(.seq (pr [.mv 11 (.s 5), .mv 4 (.s 11)] [4])
.ret))))
theorem c_impl_OrderFor (l : List Int) (d : Int) (hl : l.length ≤ 1073741824) : Ctr Tryz.prog n_impl_OrderFor [aL 1 (l.map encI), aI d] [rL 1 ((ordFor l d).map encI)] := by
 refine cA m_impl_OrderFor 2 12 [(.tmp 4, [true])] Tryz.func190 rfl rfl ?_; unfold m_impl_OrderFor
 intro hb
 clear hb
 simp only [↓reduceIte, go_sem]
 apply callK_of (c_impl_sorted l hl)
 simp only [↓reduceIte, go_sem]
 intros
 apply callIK_of (c_slices_SortStableZ (cs := [.pb [tI d]]) (sortU l) _ (cmpR d) (fun x y => c_impl_OrderFor_1 x y d) (swoR d))
 simp only [↓reduceIte, go_sem]
 exact ⟨Srt.len_isort.symm, rfl⟩
def m_spec_l28Before : MC :=
(.seq (pr [.mv 6 cF] [0,1,2])
(.seq (pr [.mv 9 (.s 0), .mv 10 (.s 1), .call 11 [] (.f n_spec_RankOf) [.s 9, .s 10], .mv 7 (.s 11)] [0,1,2,7])
(.seq (pr [.mv 12 (.s 0), .mv 13 (.s 2), .call 14 [] (.f n_spec_RankOf) [.s 12, .s 13], .mv 8 (.s 14)] [1,2,7,8])
(.seq (.reg [Za (.mv 15 (.s 7)), Za (.mv 16 (.s 8)), Za (.bin 17 false .gtr (.s 15) (.s 16)), Za (.mv 18 (.s 17)), Zb 18 false (.mv 19 (.s 7)), Zb 18 false (.mv 20 (.s 8)), Zb 18 false (.bin 21 false .eql (.s 19) (.s 20)), Zb 18 false (.mv 22 (.s 21)), Zb 22 true (.mv 23 (.s 1)), Zb 22 true (.mv 24 (.s 2)), Zb 22 true (.bin 25 false .lss (.s 23) (.s 24)), Zb 18 false (.pick 26 (.s 22) (.s 25) cF), Za (.pick 27 (.s 18) cT (.s 26)), Za (.mv 6 (.s 27))] [6])
.ret))))
theorem c_spec_l28Before (d a b : Int) : Ctr Tryz.prog n_spec_l28Before [aI d, aI a, aI b] [rB (ordB d a b)] := by
 refine cA m_spec_l28Before 0 28 [(.tmp 6, [false])] Tryz.func294 rfl rfl ?_; unfold m_spec_l28Before
 intro hb
 clear hb
 simp only [↓reduceIte, go_sem]
 apply callK_of (c_spec_RankOf _ _)
 simp only [↓reduceIte, go_sem]
 intros
 apply callK_of (c_spec_RankOf _ _)
 simp only [↓reduceIte, go_sem]
 intros
 repeat' first
  | (refine And.intro ?_ ?_ <;> intro h)
 all_goals (unfold ordB; first | (symm; rw [decide_eq_false_iff_not]; omega) | (rw [Bool.eq_iff_iff]; simp only [decide_eq_true_eq]; omega) | (simp; omega))
def m_spec_OrderFor : MC :=
(.seq (pr [.nilo 4 0 1] [0,1])
(.seq (pr [.lit 9 0 1 8 [], .mv 5 (.s 9)] [0,1,5])
(.seq (.seq (pr [.mv 6 (ci 0)] [0,1,5,6])
(.block 0 (.loop ([0,1,5,6], [1,2]) (.seq (.seq (pr [.mv 10 (.s 6), .mv 11 (.s 0), .len 12 false (.s 11), .bin 13 false .lss (.s 10) (.s 12)] [0,1,5,6,13])
(.cond (.s 13) .skip (.exit 0)))
(.seq (.block 1 (.seq (pr [.mv 16 (.s 0), .mv 17 (.s 6), .idx 18 1 (.s 16) (.s 17), .load 19 false 1 (.s 18), .mv 7 (.s 19)] [0,1,5,6,7])
(.seq (.seq (pr [.mv 20 (.s 5), .mv 21 (.s 7), .call 22 [] (.f n_spec_l28Has) [.s 20, .s 21]] [0,1,5,6,7,22])
(.cond (.s 22) (.exit 1) .skip))
(.seq (pr [.mv 23 (.s 5), .len 24 false (.s 23), .mv 8 (.s 24)] [0,1,5,6,7,8])
(.seq (.block 2 (.loop ([0,1,5,6,7,8], [1,2]) (.seq (.seq (.reg [Za (.mv 25 (.s 8)), Za (.bin 26 false .gtr (.s 25) (ci 0)), Za (.mv 27 (.s 26)), Zb 27 true (.mv 28 (.s 1)), Zb 27 true (.mv 29 (.s 7)), Zb 27 true (.mv 30 (.s 5)), Zb 27 true (.mv 31 (.s 8)), Zb 27 true (.bin 32 false .sub (.s 31) (ci 1)), Zb 27 true (.idx 33 1 (.s 30) (.s 32)), Zb 27 true (.load 34 false 1 (.s 33)), Zb 27 true (.call 35 [] (.f n_spec_l28Before) [.s 28, .s 29, .s 34]), Za (.pick 36 (.s 27) (.s 35) cF)] [0,1,5,6,7,8,36])
(.cond (.s 36) .skip (.exit 2)))
(.block 3 (pr [.mv 37 (.s 8), .bin 38 false .sub (.s 37) (ci 1), .mv 8 (.s 38)] [0,1,5,6,7,8])))))
(.dreg [{ o := .lit 39 1 1 8 [], hs := [40,41,42,44,45,47,48,49], ho := [2], ws := [1] }, Zf [39,41,44,45,47,48,49] [1,2] (.mv 40 (.s 5)), Zf [39,40,44,45,47,48,49] [1,2] (.mv 41 (.s 8)), Zg [39,44,45,47,48,49] [1,2] [1,2] (.slc 42 1 (.s 40) none (some (.s 41)) none), { o := .app 43 1 1 8 (.s 39) (.s 42), hs := [44,45,47,48,49], ho := [2], ws := [1], bf := (.range 4) }, Zf [39,40,41,42,43,47,48,49] [1] (.mv 44 (.s 7)), { o := .lit 45 2 1 8 [.s 44], hs := [39,40,41,42,43,47,48,49], ho := [1], ws := [2], bf := [5] }, { o := .app 46 1 1 8 (.s 43) (.s 45), hs := [47,48,49], ws := [1], bf := (.range 7) }, Zf [39,40,41,42,43,44,45,46,48] [1,2] (.mv 47 (.s 5)), Zf [39,40,41,42,43,44,45,46,47] [1,2] (.mv 48 (.s 8)), Zg [39,40,41,42,43,44,45,46] [1,2] [8,9] (.slc 49 1 (.s 47) (some (.s 48)) none none), { o := .app 50 0 1 8 (.s 46) (.s 49), ws := [0,1], bf := (.range 11) }, Ze (.range 12) (.mv 5 (.s 50))] [0,1,5,6]))))))
(pr [.mv 14 (.s 6), .bin 15 false .add (.s 14) (ci 1), .mv 6 (.s 15)] [0,1,5,6]))))))
(.seq (pr [.mv 51 (.s 5), .mv 4 (.s 51)] [4])
.ret))))
set_option maxHeartbeats 1000000 in
theorem c_spec_OrderFor (l : List Int) (d : Int) (hl : l.length ≤ 1073741824) : Ctr Tryz.prog n_spec_OrderFor [aL 1 (l.map encI), aI d] [rL 1 ((ordFor l d).map encI)] := by
 refine cA m_spec_OrderFor 3 52 [(.tmp 4, [true])] Tryz.func179 rfl rfl ?_; unfold m_spec_OrderFor
 intro hb
 clear hb
 rw [← ordS_eq]
 simp only [↓reduceIte, go_sem]
 refine loopK_rng l (fun k => [(5, .val false [.ref 0 0 1 0 (ordS (l.take k) d).length]), (6, vI k)]) (fun k => [(0, ⟨0, .row true 1 ((ordS (l.take k) d).map encI)⟩)]) (fun _ => True) (by simp only [roomB]; omega) ?_
 simp only [↓reduceIte, go_sem]
 refine ⟨?_, trivial, ?_, ?_⟩
 ·simp only [↓reduceIte, go_sem, List.take_zero]
  exact ⟨rfl, rfl⟩
 ·intro i y hx _ h0 h1 hw
  have hi := len_at hx
  have hol : (ordS (l.take i) d).length ≤ l.length := by
   rw [ordS_eq]
   exact Nat.le_trans (ordFor_len _ _) (by rw [List.length_take]; omega)
  have hsr : Srt.srt (ordB d) (ordS (l.take i) d) := by
   have := (addO_strict (d := d) (l.take i) [] List.Pairwise.nil).1
   exact this.imp fun {a b} h => (swoB d).asy a b h
  have hst := ordS_snoc (d := d) hx
  rw [hst]
  generalize ordS (l.take i) d = out at *
  clear hst
  simp only [↓reduceIte, go_sem, bk_eq hx, h0, h1]
  apply callK_of (c_spec_l28Has out y)
  simp only [↓reduceIte, go_sem, hw]
  refine ⟨fun hc => ?_, fun hc => ?_⟩
  ·have e : addO d out y = out := by unfold addO; rw [if_pos hc]
   rw [e]
   exact ⟨rfl, rfl⟩
  ·have e : addO d out y = Srt.ins (ordB d) y out := by unfold addO; rw [if_neg (by rw [hc]; simp)]
   rw [e]
   refine loopK_up (fun n : Nat => [(8, vI n)]) (fun n => []) (fun n => n ≤ out.length ∧ ∀ z ∈ out.drop n, ordB d y z = true) (fun n => n) out.length ?_
   simp only [↓reduceIte, go_sem]
   refine ⟨?_, ⟨Nat.le_refl _, by simp⟩, ?_⟩
   ·simp only [↓reduceIte, go_sem]
   ·rintro n ⟨hn1, hn2⟩
    simp only [↓reduceIte, go_sem]
    refine ⟨fun hpos => ?_, fun hzero => ?_⟩
    ·obtain ⟨m, hm⟩ : ∃ m, m = n - 1 := ⟨_, rfl⟩
     obtain ⟨z, hz⟩ := at_some (show m < out.length by omega)
     have e1 : IntKind.i64.wrap ((n : Int) - 1) = (m : Int) := by rw [wI (by omega) (by omega)]; omega
     rw [e1]
     simp only [go_sem, bk_eq hz]
     refine ⟨⟨by omega, by omega⟩, ?_⟩
     apply callK_of (c_spec_l28Before d y z)
     simp only [↓reduceIte, go_sem]
     rw [e1]
     refine ⟨fun ht => ⟨m, rfl, ⟨by omega, ?_⟩, by omega⟩, fun hf => ?_⟩
     ·rw [hm]
      exact Srt.drop_step (by omega) (hm ▸ hz) hn2 ht
     ·have hstop : n = 0 ∨ ∃ y', out[n - 1]? = some y' ∧ ordB d y y' = false := .inr ⟨z, hm ▸ hz, hf⟩
      rw [cutA hn1]
      refine ⟨by omega, by omega, ?_⟩
      have hA : (out.take n).length = n := by rw [List.length_take]; omega
      have hB : out.length = n + (out.drop n).length := by rw [List.length_drop]; omega
      have eC := cutB (f := encI) hn1
      have e5 : List.map encI (out.take n) ++ [[T.sc (Value.int IntKind.i64 y)]] = (out.take n ++ [y]).map encI := by simp [encI]
      have e6 : ((out.take n ++ [y]).map encI).length = (out.take n).length + 1 := by simp
      simp only [↓reduceIte, go_sem, ↓flat_of (f := encI) (fun _ => rfl) (out.take n), ↓eC, ↓e5, ↓e6, ↓flat_of (f := encI) (fun _ => rfl) (out.drop n)]
      rw [Srt.ins_at (swoB d) hsr hn2 hstop]
      simp only [roomB]
      exact ⟨by omega, by omega, by omega, ⟨by omega, by omega, by omega⟩, by omega, by omega, ⟨by simp only [List.length_append, List.length_cons, List.length_nil], hw⟩, by rw [← List.map_append]⟩
    ·have hstop : n = 0 ∨ ∃ y', out[n - 1]? = some y' ∧ ordB d y y' = false := .inl (by omega)
     rw [cutA hn1]
     refine ⟨by omega, by omega, ?_⟩
     have hA : (out.take n).length = n := by rw [List.length_take]; omega
     have hB : out.length = n + (out.drop n).length := by rw [List.length_drop]; omega
     have eC := cutB (f := encI) hn1
     have e5 : List.map encI (out.take n) ++ [[T.sc (Value.int IntKind.i64 y)]] = (out.take n ++ [y]).map encI := by simp [encI]
     have e6 : ((out.take n ++ [y]).map encI).length = (out.take n).length + 1 := by simp
     simp only [↓reduceIte, go_sem, ↓flat_of (f := encI) (fun _ => rfl) (out.take n), ↓eC, ↓e5, ↓e6, ↓flat_of (f := encI) (fun _ => rfl) (out.drop n)]
     rw [Srt.ins_at (swoB d) hsr hn2 hstop]
     simp only [roomB]
     exact ⟨by omega, by omega, by omega, ⟨by omega, by omega, by omega⟩, by omega, by omega, ⟨by simp only [List.length_append, List.length_cons, List.length_nil], hw⟩, by rw [← List.map_append]⟩
 ·intro _
  simp only [↓reduceIte, go_sem, List.take_length]
theorem ord_take {l : List Int} {d : Int} {k : Int} {n : Nat} (h : (n : Int) = min (max k 0) (ordFor l d).length) : placedL l d k = (ordFor l d).take n := by
 unfold placedL
 by_cases hk : k.toNat ≤ (ordFor l d).length
 ·congr 1; omega
 ·rw [List.take_of_length_le (by omega), List.take_of_length_le (by omega)]
def m_impl_PlaceCopies : MC :=
(.seq (pr [.nilo 6 0 1] [0,1,2])
(.seq (pr [.mv 8 (.s 0), .mv 9 (.s 1), .call 10 [0] (.f n_impl_OrderFor) [.s 8, .s 9], .mv 7 (.s 10)] [2,7])
(.seq (pr [.mv 11 (.s 7), .mv 12 (.s 2), .mm 13 true (.s 12) (ci 0), .mv 14 (.s 7), .len 15 false (.s 14), .mm 16 false (.s 13) (.s 15), .slc 17 1 (.s 11) none (some (.s 16)) none, .mv 6 (.s 17)] [6])
(.trim 6 .ret))))
theorem c_impl_PlaceCopies (l : List Int) (d k : Int) (hl : l.length ≤ 1073741824) : Ctr Tryz.prog n_impl_PlaceCopies [aL 1 (l.map encI), aI d, aI k] [rL 1 ((placedL l d k).map encI)] := by
 refine cA m_impl_PlaceCopies 1 18 [(.tmp 6, [true])] Tryz.func100 rfl rfl ?_; unfold m_impl_PlaceCopies
 intro hb
 clear hb
 have hol := ordFor_len l d
 simp only [↓reduceIte, go_sem]
 apply callK_of (c_impl_OrderFor l d hl)
 simp only [↓reduceIte, go_sem]
 intros
 generalize hX : (if ((ordFor l d).length : Int) < (if (0 : Int) > k then 0 else k) then ((ordFor l d).length : Int) else (if (0 : Int) > k then 0 else k)) = X
 have hX2 : 0 ≤ X ∧ X ≤ (ordFor l d).length ∧ (X.toNat : Int) = min (max k 0) (ordFor l d).length := by
  rw [← hX]
  repeat' split
  all_goals omega
 rw [ord_take hX2.2.2]
 have e : (X - 0).toNat = X.toNat := by omega
 exact ⟨⟨by omega, by omega, by omega⟩, by omega, by rw [List.length_take, List.length_map]; omega, by rw [e, List.map_take]⟩
def m_spec_PlaceCopies : MC :=
(.seq (pr [.nilo 6 0 1] [0,1,2])
(.seq (pr [.mv 8 (.s 0), .mv 9 (.s 1), .call 10 [1] (.f n_spec_OrderFor) [.s 8, .s 9], .mv 7 (.s 10)] [2,7])
(.seq (pr [.lit 11 0 1 8 [], .mv 12 (.s 7), .mv 13 (.s 2), .mv 14 (.s 7), .len 15 false (.s 14), .call 16 [] (.f n_spec_Min) [.s 13, .s 15], .call 17 [] (.f n_spec_Max) [.c (.int .i64 0), .s 16], .slc 18 1 (.s 12) none (some (.s 17)) none, .app 19 0 1 8 (.s 11) (.s 18), .mv 6 (.s 19)] [6])
.ret)))
theorem c_spec_PlaceCopies (l : List Int) (d k : Int) (hl : l.length ≤ 1073741824) : Ctr Tryz.prog n_spec_PlaceCopies [aL 1 (l.map encI), aI d, aI k] [rL 1 ((placedL l d k).map encI)] := by
 refine cA m_spec_PlaceCopies 2 20 [(.tmp 6, [true])] Tryz.func94 rfl rfl ?_; unfold m_spec_PlaceCopies
 intro hb
 clear hb
 have hol := ordFor_len l d
 simp only [↓reduceIte, go_sem]
 apply callK_of (c_spec_OrderFor l d hl)
 simp only [↓reduceIte, go_sem]
 intros
 apply callK_of (c_spec_Min k _)
 simp only [↓reduceIte, go_sem]
 intros
 apply callK_of (c_spec_Max 0 _)
 simp only [↓reduceIte, go_sem]
 intros
 generalize hX : (if (if ((ordFor l d).length : Int) < k then ((ordFor l d).length : Int) else k) > 0 then (if ((ordFor l d).length : Int) < k then ((ordFor l d).length : Int) else k) else 0) = X
 have hX2 : 0 ≤ X ∧ X ≤ (ordFor l d).length ∧ (X.toNat : Int) = min (max k 0) (ordFor l d).length := by
  rw [← hX]
  repeat' split
  all_goals omega
 rw [ord_take hX2.2.2]
 obtain ⟨m, rfl⟩ := Int.eq_ofNat_of_zero_le hX2.1
 have hm : m ≤ (ordFor l d).length := by omega
 rw [cut_lo (f := encI) hm, Int.toNat_natCast]
 have hmt : ((ordFor l d).take m).length = m := by rw [List.length_take]; omega
 simp only [↓reduceIte, go_sem, ↓flat_of (f := encI) (fun _ => rfl) ((ordFor l d).take m), List.length_map, hmt]
 exact ⟨⟨by omega, by omega, by omega⟩, by omega, by simp only [roomB]; omega⟩
end Go.Proofs.YtgkeplbnnjogiaaGreatR
namespace Go.Proofs
open Go.Shelf
def Tryz.laysNm221_ren : Go.Shelf.Ren := ⟨fun | 21 => 192 | 27 => 305 | 28 => 306 | 35 => 388 | 39 => 426 | n => n, fun | 22 => 30 | 3 => 3 | 4 => 4 | 0 => 0 | n => n, fun | n => n⟩
theorem Tryz.laysNm221 : Go.Proofs.Lays2.n21 Tryz.prog Tryz.laysNm221_ren := {
 mixed := by kernel_rfl
 f21 := Tryz.func192.trans (congrArg some (by kernel_rfl))
 f27 := Tryz.func305.trans (congrArg some (by kernel_rfl))
 f28 := Tryz.func306.trans (congrArg some (by kernel_rfl))
 f35 := Tryz.func388.trans (congrArg some (by kernel_rfl))
 f39 := Tryz.func426.trans (congrArg some (by kernel_rfl))
 t0 := Tryz.underlying0
 a0 := Tryz.isAgg0
 z0 := Tryz.sizeOf0
 v0 := Tryz.zeroValue0
 t3 := Tryz.underlying3
 a3 := Tryz.isAgg3
 z3 := Tryz.sizeOf3
 v3 := Tryz.zeroValue3
 t4 := Tryz.underlying4
 a4 := Tryz.isAgg4
 z4 := Tryz.sizeOf4
 v4 := Tryz.zeroValue4
 t22 := Tryz.underlying30
 a22 := Tryz.isAgg30
 z22 := Tryz.sizeOf30
 v22 := Tryz.zeroValue30
 i3 := by kernel_rfl }
end Go.Proofs
namespace Go.Proofs.YtgkeplbnnjogiaaGreatR
open Go Go.RowKit Go.Proofs
open Nat (reduceEqDiff reduceLT reduceLeDiff reduceAdd reduceMul)
open List (reduceReplicate)
theorem argsI_ins {w : World} {X : Nat → Prop} {es es' : List (List T)} {k : Int} {vs : List Value} {G : List Nat} (h : ResVs w X [oL 1 es, iI k, oL 1 es'] vs G) : ∃ v u G1 G2, vs = [v, .int .i64 k, u] ∧ Ow w (.sl 1 es) v G1 ∧ Ow w (.sl 1 es') u G2 ∧ G = G1 ++ G2 := by
 match vs, h with
 | [v, i, u], ⟨Ga, Gb, h1, ⟨Gc, Gd, h2, ⟨Ge, Gf, h3, h4, e3⟩, e2⟩, e1⟩ =>
  obtain ⟨_, G1, G2, k1, k2, e4⟩ := h1
  obtain ⟨_, k3, k4⟩ := h2
  obtain ⟨_, G3, G4, k5, k6, e5⟩ := h3
  simp only [ResVs] at h4
  simp only [ResC] at k2 k4 k6
  simp only [Rd] at k3
  obtain ⟨rfl, _⟩ := k3
  subst h4 k2 k4 k6 e4 e5 e3 e2 e1
  exact ⟨v, u, G1, G3, rfl, k1, k5, by simp⟩
 | [], h => exact h.elim
 | [_], ⟨_, _, _, h, _⟩ => exact h.elim
 | [_, _], ⟨_, _, _, ⟨_, _, _, h, _⟩, _⟩ => exact h.elim
 | _ :: _ :: _ :: _ :: _, ⟨_, _, _, ⟨_, _, _, ⟨_, _, _, h, _⟩, _⟩, _⟩ => exact h.elim
theorem heap_setCells_own {b : Nat} {ty : TypeId} {fz : Nat × Nat} : ∀ (vs : List Value) (o : Nat) (w : World) (row : Array Value), w.heap[b]? = some (.cells row ty fz) → ∃ row', (w.setCells b o vs).heap[b]? = some (.cells row' ty fz) ∧ row'.size = row.size
 | [], _, _, row, h => ⟨row, h, rfl⟩
 | v :: r, o, w, row, h => by
  have hw : (w.setCell ⟨b, o, none⟩ v).heap[b]? = some (.cells (row.setIfInBounds o v) ty fz) := by simp [World.setCell, Array.getElem?_modify, h]
  obtain ⟨row', h1, h2⟩ := heap_setCells_own r (o + 1) (w.setCell ⟨b, o, none⟩ v) (row.setIfInBounds o v) hw
  exact ⟨row', h1, h2.trans (by simp)⟩
theorem bel_setCells {B : Nat → Prop} {b : Nat} (hb : ¬ B b) : ∀ (vs : List Value) (o : Nat) (w : World), Bel B w (w.setCells b o vs)
 | [], _, w => Bel.refl _ _
 | v :: r, o, w => by
  refine Bel.trans (b := w.setCell ⟨b, o, none⟩ v) ⟨rfl, rfl, rfl, by simp [World.setCell], fun k hk => ?_⟩ (bel_setCells hb r (o + 1) _)
  have hne : k ≠ b := fun e => hb (e ▸ hk)
  simp [World.setCell, Array.getElem?_modify, Ne.symm hne]
theorem ow_ints {w : World} {b off cap : Nat} {zs : List Int} {row : Array Value} {ty : TypeId} (hh : w.heap[b]? = some (.cells row ty (0, 0))) (hc : off + cap ≤ row.size) (hln : Ln zs.length cap)
  (hz : ∀ (j : Nat) (x : Int), zs[j]? = some x → w.cell? ⟨b, off + j, none⟩ = some (.int .i64 x) ∧ oneW (.int .i64 x) = true) : Ow w (.sl 1 (zs.map encI)) (.slice (some ⟨b, off, none⟩) zs.length cap) [b] := by
 unfold Ow
 exact ⟨some ⟨b, off, none⟩, cap, by rw [List.length_map], by rw [List.length_map]; exact hln, .inr ⟨b, off, row, ty, [], rfl, hh, by simpa using hc, owRow_int' hz, rfl⟩⟩
theorem at_mid {α : Type} {A B : List α} {x : α} {k j : Nat} {y : α} (hA : A.length = k) (h : (A ++ [x] ++ B)[j]? = some y) : (j < k ∧ A[j]? = some y) ∨ (j = k ∧ y = x) ∨ (k < j ∧ B[j - (k + 1)]? = some y) := by
 subst hA
 rw [List.append_assoc] at h
 by_cases h1 : j < A.length
 ·rw [List.getElem?_append_left h1] at h; exact .inl ⟨h1, h⟩
 ·rw [List.getElem?_append_right (by omega)] at h
  by_cases h2 : j = A.length
  ·subst h2
   simp at h
   exact .inr (.inl ⟨rfl, h.symm⟩)
  ·rw [List.getElem?_append_right (by simp; omega)] at h
   refine .inr (.inr ⟨by omega, ?_⟩)
   rw [← h]; simp only [List.length_cons, List.length_nil]; congr 1
theorem ins_len {α : Type} {zs : List α} {x : α} {k : Nat} (hk : k ≤ zs.length) : (zs.take k ++ [x] ++ zs.drop k).length = zs.length + 1 := by
 rw [List.length_append, List.length_append, List.length_take, List.length_drop, List.length_cons, List.length_nil]
 omega
theorem c_slices_Insert_int (zs : List Int) (k : Nat) (x : Int) (hk : k ≤ zs.length) (hl : zs.length ≤ 1073741824) : CtrI Tryz.prog n_slices_Insert_int_int [oL 1 (zs.map encI), iI k, oL 1 ([x].map encI)] [none, none] [rL 1 ((zs.take k ++ [x] ++ zs.drop k).map encI)] := by
 refine ⟨⟨Tryz.f192, Tryz.func192, by kernel_rfl, by kernel_rfl⟩, fun w X vs G ht h hG hGb => ?_⟩
 obtain ⟨v, u, G1, G2, rfl, hv, hu, rfl⟩ := argsI_ins h
 unfold Ow at hv hu
 obtain ⟨A, cap, rfl, hln, hv⟩ := hv
 obtain ⟨A2, vc, rfl, hln2, hu⟩ := hu
 rw [List.length_map] at hln ⊢
 simp only [List.length_map, List.length_cons, List.length_nil, Nat.zero_add] at hln2 ⊢
 rcases hu with ⟨_, h0, _⟩ | ⟨vb, voff, rowv, tyv, Gv, rfl, hhv, hcv, hrv, rfl⟩
 ·simp at h0
 obtain ⟨rfl, hzv⟩ := owRow_int hrv
 have hx1 := hzv 0 x rfl
 rw [Nat.add_zero] at hx1
 have hvbs : vb < w.heap.size := (hGb vb (by simp)).1
 have hvs : ∀ (j : Nat) (v : Value), [Value.int .i64 x][j]? = some v → w.cell? ⟨vb, voff + j, none⟩ = some v := fun j v hj => by
  cases j with
  | zero => simp only [List.getElem?_cons_zero, Option.some.injEq] at hj; rw [← hj]; exact hx1.1
  | succ j => simp at hj
 have h1v : ∀ v ∈ [Value.int .i64 x], v.oneCell' = true := fun v hv => by rw [List.mem_singleton.1 hv]; rfl
 have hlen := ins_len (x := x) hk
 have hcapB : cap ≤ 9223372036854775807 := hln.2.2
 have fin : ∀ (w' : World) (b2 off2 c2 : Nat) (row : Array Value) (ty : TypeId), Bel (fun b' => b' < w.heap.size ∧ b' ∉ G1 ++ [vb]) w w' → (b2 ∈ G1 ∨ w.heap.size ≤ b2) → w'.heap[b2]? = some (.cells row ty (0, 0)) → off2 + c2 ≤ row.size → zs.length + 1 ≤ c2 → c2 ≤ 9223372036854775807 →
   (∀ (j : Nat) (y : Int), j < k → zs[j]? = some y → w'.cell? ⟨b2, off2 + j, none⟩ = some (.int .i64 y)) → w'.cell? ⟨b2, off2 + k, none⟩ = some (.int .i64 x) →
   (∀ (j : Nat) (y : Int), (zs.drop k)[j]? = some y → w'.cell? ⟨b2, off2 + (k + 1) + j, none⟩ = some (.int .i64 y)) → (∀ y ∈ zs, oneW (.int .i64 y) = true) →
   Bel (fun b' => b' < w.heap.size ∧ b' ∉ G1 ++ [vb]) w w' ∧ ∃ us Ga Gb, (Value.slice (some ⟨b2, off2, none⟩) (zs.length + 1) c2) = tupV us ∧ OwOut w' [none, none] (ownVs [oL 1 (zs.map encI), iI k, oL 1 ([x].map encI)] [.slice A zs.length cap, .int .i64 k, .slice (some ⟨vb, voff, none⟩) 1 vc]) Ga ∧
    ResVs w' (fun b => (b < w.heap.size → X b ∨ b ∈ G1 ++ [vb]) ∧ b ∉ Ga ++ Gb) [rL 1 ((zs.take k ++ [x] ++ zs.drop k).map encI)] us Gb ∧ (Ga ++ Gb).Nodup ∧ ∀ b ∈ Ga ++ Gb, (b ∈ G1 ++ [vb] ∨ w.heap.size ≤ b) ∧ b < w'.heap.size := by
  intro w' b2 off2 c2 row ty hB hb2 hh hc hcl hcb q1 q2 q3 q4
  have hO := ow_ints hh hc (zs := zs.take k ++ [x] ++ zs.drop k) ⟨by omega, by simp only [roomB]; omega, hcb⟩ (fun j y hj => by
   rcases at_mid (A := zs.take k) (k := k) (by simp; omega) hj with ⟨h1, h2⟩ | ⟨rfl, rfl⟩ | ⟨h1, h2⟩
   ·rw [List.getElem?_take, if_pos h1] at h2
    exact ⟨q1 j y h1 h2, q4 y (at_mem h2)⟩
   ·exact ⟨q2, hx1.2⟩
   ·have := q3 _ y h2
    rw [show off2 + (k + 1) + (j - (k + 1)) = off2 + j by omega] at this
    rw [List.getElem?_drop] at h2
    exact ⟨this, q4 y (at_mem h2)⟩)
  rw [hlen] at hO
  refine ⟨hB, [_], [], [b2], rfl, rfl, ⟨[b2], [], ⟨⟨_, rfl⟩, [b2], [], hO, rfl, rfl⟩, rfl, rfl⟩, by simp, fun b' hb' => ?_⟩
  obtain rfl : b' = b2 := by simpa using hb'
  exact ⟨hb2.imp (fun h => by simp [h]) id, lt_of_block hh⟩
 rcases hv with ⟨rfl, hz0, rfl⟩ | ⟨b, off, row, ty, Gz, rfl, hh, hc, hrow, rfl⟩
 ·obtain rfl : zs = [] := by simpa using hz0
  obtain rfl : k = 0 := by simpa using hk
  refine (Any2.slices_Insert_int_end_grow Tryz.laysNm221 A 0 0 vb voff 1 vc [] [.int .i64 x] w (by omega) (by omega) (by omega) (by omega) rfl rfl (fun _ => rfl) (fun a _ j v hj => by simp at hj) hvs h1v).mono ?_
  rintro e w' ⟨rfl, rfl⟩
  refine fin _ _ _ _ _ _ ⟨rfl, rfl, rfl, by simp, fun b' hb' => ?_⟩ (.inr (Nat.le_refl _)) (heap_alloc_new w.drew _) ?_ (grownCap_ge w _ _ _) ?_ (fun j y hj _ => by omega) ?_ (fun j y hj => by simp at hj) (by simp)
  ·exact Below.heap_alloc w.drew _ b' hb'.1
  ·have := grownCap_ge w (0 + 1) 0 (Tryz.laysNm221_ren.t 3)
   simp [Builtin.zeroCells, Value.cells]
   omega
  ·have := grownCap_le_maxLen w (0 + 1) 0 (Tryz.laysNm221_ren.t 3) (by unfold maxLen; omega)
   unfold maxLen at this
   omega
  ·rw [World.cell?_alloc_at (w := w.drew) _ _ w.heap.size (0 + 0) rfl, Array.getElem?_append_left (by simp)]
   simp
 ·obtain ⟨rfl, hz⟩ := owRow_int hrow
  have hbs : b < w.heap.size := (hGb b (by simp)).1
  have hvb : vb ≠ b := by
   have := hG
   simp at this
   exact fun e => this e.symm
  have hcz : off + cap ≤ row.size := by simpa using hc
  have hzw : ∀ y ∈ zs, oneW (.int .i64 y) = true := fun y hy => by
   obtain ⟨j, hj⟩ := List.getElem?_of_mem hy
   exact (hz j y hj).2
  have hcl : (zs.map (Value.int .i64)).length = zs.length := by simp
  have hcs : ∀ (j : Nat) (v : Value), (zs.map (Value.int .i64))[j]? = some v → w.cell? ⟨b, off + j, none⟩ = some v := fun j v hj => by
   rw [List.getElem?_map] at hj
   obtain ⟨y, hy, rfl⟩ := Option.map_eq_some_iff.1 hj
   exact (hz j y hy).1
  have h1c : ∀ v ∈ zs.map (Value.int .i64), v.oneCell' = true := fun v hv => by
   obtain ⟨y, _, rfl⟩ := List.mem_map.1 hv
   rfl
  have hsome : ∀ j, j < cap → (w.cell? ⟨b, off + j, none⟩).isSome = true := fun j hj => by
   have : off + j < row.size := by omega
   simp [World.cell?, hh, this]
  have hfz : ∀ j, w.frozen? ⟨b, j, none⟩ = false := fun j => by simp [World.frozen?, hh]
  have hB0 : ∀ (o : Nat) (us : List Value) (w1 : World), Bel (fun b' => b' < w.heap.size ∧ b' ∉ [b] ++ [vb]) w1 (w1.setCells b o us) := fun o us w1 => bel_setCells (by simp) us o w1
  by_cases hkn : k = zs.length
  ·subst hkn
   by_cases hroom : zs.length + 1 ≤ cap
   ·refine (Any2.slices_Insert_int_end_room Tryz.laysNm221 b off zs.length cap vb voff 1 vc [.int .i64 x] w (by omega) hroom hcapB rfl (fun j hj => by rw [Nat.add_assoc]; exact hsome _ (by omega)) (fun j hj => hfz _) hvs h1v).mono ?_
    rintro e w' ⟨rfl, rfl⟩
    obtain ⟨row', hr1, hr2⟩ := heap_setCells_own [Value.int .i64 x] (off + zs.length) w row hh
    refine fin _ _ _ _ _ _ (hB0 _ _ _) (.inl (by simp)) hr1 (by omega) hroom hcapB (fun j y hj hy => ?_) ?_ (fun j y hj => by simp at hj) hzw
    ·rw [World.cell?_setCells_out b _ _ w _ (fun _ _ => by left; show off + j < off + zs.length; omega)]
     exact (hz j y hy).1
    ·have := World.cell?_setCells_in b [Value.int .i64 x] (off + zs.length) w (fun j hj => by rw [Nat.add_assoc]; exact hsome _ (by simp at hj; omega)) 0 (by simp)
     simpa using this
   ·have hce : cap = zs.length := by have := hln.1; omega
    refine (Any2.slices_Insert_int_end_grow Tryz.laysNm221 (some ⟨b, off, none⟩) zs.length cap vb voff 1 vc (zs.map (Value.int .i64)) [.int .i64 x] w (by omega) hln.1 (by omega) (by omega) hcl rfl (fun h => by cases h) (fun a ha j v hj => by
     obtain rfl := Option.some.inj ha
     rw [Addr.add_lit]; exact hcs j v hj) hvs h1v).mono ?_
    rintro e w' ⟨rfl, rfl⟩
    have hsz2 : ∀ j, j < zs.length + 1 → ((w.drew.alloc (.cells ((zs.map (Value.int .i64) ++ [Value.int .i64 x]).toArray ++ Builtin.zeroCells (Value.int .i64 0).cells (grownCap w (zs.length + 1) cap (Tryz.laysNm221_ren.t 3) - (zs.length + 1))) (Tryz.laysNm221_ren.t 3))).cell? ⟨w.heap.size, 0 + j, none⟩) = (zs.map (Value.int .i64) ++ [Value.int .i64 x])[j]? := fun j hj => by
     rw [World.cell?_alloc_at (w := w.drew) _ _ w.heap.size (0 + j) rfl, Array.getElem?_append_left (by simp; omega)]
     simp
    refine fin _ _ _ _ _ _ ⟨rfl, rfl, rfl, by simp, fun b' hb' => ?_⟩ (.inr (Nat.le_refl _)) (heap_alloc_new w.drew _) ?_ (grownCap_ge w _ _ _) ?_ (fun j y hj hy => ?_) ?_ (fun j y hj => by simp at hj) hzw
    ·exact Below.heap_alloc w.drew _ b' hb'.1
    ·have := grownCap_ge w (zs.length + 1) cap (Tryz.laysNm221_ren.t 3)
     simp [Builtin.zeroCells, Value.cells]
     omega
    ·have := grownCap_le_maxLen w (zs.length + 1) cap (Tryz.laysNm221_ren.t 3) (by unfold maxLen; omega)
     unfold maxLen at this
     omega
    ·rw [hsz2 j (by omega), List.getElem?_append_left (by simp; omega), List.getElem?_map, hy]; rfl
    ·rw [hsz2 _ (by omega), List.getElem?_append_right (by simp)]
     simp
  ·have hkl : k < zs.length := by omega
   have hdl : ((zs.map (Value.int .i64)).drop k).length = zs.length - k := by simp
   by_cases hroom : zs.length + 1 ≤ cap
   ·refine (Any2.slices_Insert_int_shift Tryz.laysNm221 b off zs.length cap k vb voff 1 vc (zs.map (Value.int .i64)) [.int .i64 x] w hkl (by omega) hroom hcapB hvb hcl rfl hcs (fun j hj => hsome j (by omega)) (fun j hj => hfz _) hvs h1c h1v tyv ty rowv.size row.size (by simp [World.shape?, hhv]) (by simp [World.shape?, hh]) (by omega) (by simp [World.frozen?, hhv]) (by simp [World.frozen?, hhv])).mono ?_
    rintro e w' ⟨rfl, rfl⟩
    obtain ⟨row', hr1, hr2⟩ := heap_setCells_own ((zs.map (Value.int .i64)).drop k) (off + (k + 1)) w.drew row hh
    obtain ⟨row2, hr3, hr4⟩ := heap_setCells_own [Value.int .i64 x] (off + k) _ row' hr1
    have hs2 : ∀ j, j < cap → ((w.drew.setCells b (off + (k + 1)) ((zs.map (Value.int .i64)).drop k)).cell? ⟨b, off + j, none⟩).isSome = true := fun j hj => by
     have : off + j < row'.size := by omega
     simp [World.cell?, hr1, this]
    refine fin _ _ _ _ _ _ ((Bel.drew (Bel.refl _ w)).trans ((hB0 _ _ _).trans (hB0 _ _ _))) (.inl (by simp)) hr3 (by omega) hroom hcapB (fun j y hj hy => ?_) ?_ (fun j y hj => ?_) hzw
    ·rw [World.cell?_setCells_out b _ _ _ _ (fun _ _ => by left; show off + j < off + k; omega), World.cell?_setCells_out b _ _ _ _ (fun _ _ => by left; show off + j < off + (k + 1); omega)]
     exact (hz j y hy).1
    ·have := World.cell?_setCells_in b [Value.int .i64 x] (off + k) (w.drew.setCells b (off + (k + 1)) ((zs.map (Value.int .i64)).drop k)) (fun j hj => by rw [Nat.add_assoc]; exact hs2 _ (by simp at hj; omega)) 0 (by simp)
     simpa using this
    ·have hjl := len_at hj
     rw [List.length_drop] at hjl
     rw [World.cell?_setCells_out b _ _ _ _ (fun _ _ => by right; show off + k + 1 ≤ off + (k + 1) + j; omega)]
     have := World.cell?_setCells_in b ((zs.map (Value.int .i64)).drop k) (off + (k + 1)) w.drew (fun j hj => by
      rw [hdl] at hj
      have := hsome (k + 1 + j) (by omega)
      rw [Nat.add_assoc]; exact this) j (by rw [hdl]; omega)
     rw [this]
     rw [List.getElem?_drop] at hj
     obtain ⟨hj1, hj2⟩ := List.getElem?_eq_some_iff.1 hj
     simp [← hj2]
   ·refine (Any2.slices_Insert_int_grow Tryz.laysNm221 b off zs.length cap k vb voff 1 vc (zs.map (Value.int .i64)) [.int .i64 x] w hkl (by omega) hln.1 (by omega) (by omega) hcl rfl hcs hvs h1c h1v).mono ?_
    rintro e w' ⟨rfl, rfl⟩
    obtain ⟨g, hg⟩ : ∃ g, g = grownCap w (zs.length + 1) cap (Tryz.laysNm221_ren.t 3) := ⟨_, rfl⟩
    have hg1 : zs.length + 1 ≤ g := hg ▸ grownCap_ge w _ _ _
    have hg2 : g ≤ 9223372036854775807 := by
     have := grownCap_le_maxLen w (zs.length + 1) cap (Tryz.laysNm221_ren.t 3) (by unfold maxLen; omega)
     unfold maxLen at this
     omega
    rw [← hg]
    obtain ⟨ROW, hROW⟩ : ∃ ROW : Array Value, ROW = ((zs.map (Value.int .i64)).take k).toArray ++ Builtin.zeroCells (Value.int .i64 0).cells (zs.length + 1 - k) ++ Builtin.zeroCells (Value.int .i64 0).cells (g - (zs.length + 1)) := ⟨_, rfl⟩
    rw [← hROW]
    have hRs : ROW.size = g := by
     rw [hROW]
     simp [Builtin.zeroCells, Value.cells]
     omega
    obtain ⟨w1, hw1⟩ : ∃ w1, w1 = (w.alloc (.cells ROW (Tryz.laysNm221_ren.t 3))).drew := ⟨_, rfl⟩
    have hh1 : w1.heap[w.heap.size]? = some (.cells ROW (Tryz.laysNm221_ren.t 3) (0, 0)) := by rw [hw1]; exact heap_alloc_new w _
    have hc1 : ∀ j, w1.cell? ⟨w.heap.size, j, none⟩ = ROW[j]? := fun j => by simp [World.cell?, hh1]
    rw [← hw1]
    obtain ⟨row', hr1, hr2⟩ := heap_setCells_own [Value.int .i64 x] k w1 ROW hh1
    obtain ⟨w2, hw2⟩ : ∃ w2, w2 = (w1.setCells w.heap.size k [Value.int .i64 x]).drew := ⟨_, rfl⟩
    rw [← hw2]
    have hh2 : w2.heap[w.heap.size]? = some (.cells row' (Tryz.laysNm221_ren.t 3) (0, 0)) := by rw [hw2]; exact hr1
    obtain ⟨row2, hr3, hr4⟩ := heap_setCells_own ((zs.map (Value.int .i64)).drop k) (k + 1) w2 row' hh2
    have hBs : ∀ (o : Nat) (us : List Value) (w3 : World), Bel (fun b' => b' < w.heap.size ∧ b' ∉ [b] ++ [vb]) w3 (w3.setCells w.heap.size o us) := fun o us w3 => bel_setCells (fun h => by have := h.1; omega) us o w3
    have hB1 : Bel (fun b' => b' < w.heap.size ∧ b' ∉ [b] ++ [vb]) w w1 := by
     rw [hw1]
     exact ((Bel.refl _ w).alloc (fun _ h => h.1) _).drew
    have hB2 : Bel (fun b' => b' < w.heap.size ∧ b' ∉ [b] ++ [vb]) w w2 := by
     rw [hw2]
     exact (hB1.trans (hBs _ _ _)).drew
    refine fin _ _ _ _ _ _ (hB2.trans (hBs _ _ _)) (.inr (Nat.le_refl _)) hr3 (by omega) hg1 hg2 (fun j y hj hy => ?_) ?_ (fun j y hj => ?_) hzw
    ·rw [World.cell?_setCells_out _ _ _ _ _ (fun _ _ => by left; show 0 + j < k + 1; omega)]
     have e : w2.cell? ⟨w.heap.size, 0 + j, none⟩ = (w1.setCells w.heap.size k [Value.int .i64 x]).cell? ⟨w.heap.size, 0 + j, none⟩ := by rw [hw2]; rfl
     rw [e, World.cell?_setCells_out _ _ _ _ _ (fun _ _ => by left; show 0 + j < k; omega), hc1, hROW, Nat.zero_add]
     have hjt : j < (List.take k (zs.map (Value.int .i64))).length := by simp; omega
     rw [Array.append_assoc, Array.getElem?_append_left (by simpa using hjt)]
     simp [hj, hy]
    ·rw [World.cell?_setCells_out _ _ _ _ _ (fun _ _ => by left; show 0 + k < k + 1; omega)]
     have e : w2.cell? ⟨w.heap.size, 0 + k, none⟩ = (w1.setCells w.heap.size k [Value.int .i64 x]).cell? ⟨w.heap.size, 0 + k, none⟩ := by rw [hw2]; rfl
     rw [e]
     have := World.cell?_setCells_in w.heap.size [Value.int .i64 x] k w1 (fun j hj => by rw [hc1]; simp at hj; rw [Array.getElem?_eq_getElem (by omega)]; rfl) 0 (by simp)
     simpa using this
    ·have hjl := len_at hj
     rw [List.length_drop] at hjl
     have := World.cell?_setCells_in w.heap.size ((zs.map (Value.int .i64)).drop k) (k + 1) w2 (fun j hj => by
      rw [hdl] at hj
      have h1 : k + 1 + j < row'.size := by omega
      simp [World.cell?, hh2, h1]) j (by rw [hdl]; omega)
     rw [Nat.zero_add, this]
     rw [List.getElem?_drop] at hj
     obtain ⟨hj1, hj2⟩ := List.getElem?_eq_some_iff.1 hj
     simp [← hj2]
def m_impl_withDigest : MC :=
(.seq (pr [.nilo 4 0 1] [0,1])
(.seq (pr [.mv 5 (ci 0)] [0,1,5])
(.seq (.block 0 (.loop ([0,1,5], [0,1,2]) (.seq (.seq (.reg [Za (.mv 6 (.s 5)), Za (.mv 7 (.s 0)), Za (.len 8 false (.s 7)), Za (.bin 9 false .lss (.s 6) (.s 8)), Za (.mv 10 (.s 9)), Zb 10 true (.mv 11 (.s 0)), Zb 10 true (.mv 12 (.s 5)), Zb 10 true (.idx 13 1 (.s 11) (.s 12)), Zb 10 true (.load 14 false 1 (.s 13)), Zb 10 true (.mv 15 (.s 1)), Zb 10 true (.bin 16 false .lss (.s 14) (.s 15)), Za (.pick 17 (.s 10) (.s 16) cF)] [0,1,5,17])
(.cond (.s 17) .skip (.exit 0)))
(.block 1 (pr [.mv 18 (.s 5), .bin 19 false .add (.s 18) (ci 1), .mv 5 (.s 19)] [0,1,5])))))
(.seq (.seq (.reg [Za (.mv 20 (.s 5)), Za (.mv 21 (.s 0)), Za (.len 22 false (.s 21)), Za (.bin 23 false .lss (.s 20) (.s 22)), Za (.mv 24 (.s 23)), Zb 24 true (.mv 25 (.s 0)), Zb 24 true (.mv 26 (.s 5)), Zb 24 true (.idx 27 1 (.s 25) (.s 26)), Zb 24 true (.load 28 false 1 (.s 27)), Zb 24 true (.mv 29 (.s 1)), Zb 24 true (.bin 30 false .eql (.s 28) (.s 29)), Za (.pick 31 (.s 24) (.s 30) cF)] [0,1,5,31])
(.cond (.s 31) (.seq (pr [.mv 32 (.s 0), .call 33 [0] (.f n_slices_Clone_int_int) [.s 32], .mv 4 (.s 33)] [4])
.ret) .skip))
(.seq (pr [.mv 34 (.s 0), .call 35 [1] (.f n_slices_Clone_int_int) [.s 34], .mv 36 (.s 5), .mv 37 (.s 1), .lit 38 2 1 8 [.s 37], .callI 39 [0] (.f n_slices_Insert_int_int) [.s 35, .s 36, .s 38] [1,2] [], .mv 4 (.s 39)] [4])
.ret)))))
theorem c_impl_withDigest (l : List Int) (n : Int) (hs : l.length ≤ 1073741824) : Ctr Tryz.prog n_impl_withDigest [aL 1 (l.map encI), aI n] [rL 1 ((put l n).map encI)] := by
 refine cA m_impl_withDigest 3 40 [(.tmp 4, [true])] Tryz.func102 rfl rfl ?_; unfold m_impl_withDigest
 intro hb
 clear hb
 simp only [↓reduceIte, go_sem]
 refine loopK_up (fun k : Nat => [(5, vI k)]) (fun k => []) (fun k => k ≤ l.length ∧ ∀ x ∈ l.take k, x < n) (fun k => l.length - k) 0 ?_
 simp only [↓reduceIte, go_sem]
 refine ⟨?_, ⟨by omega, by simp⟩, ?_⟩
 ·simp only [↓reduceIte, go_sem]
 ·rintro k ⟨hk, hlt⟩
  have hp := put_cut hlt
  by_cases hkl : k < l.length
  ·obtain ⟨x, hx⟩ := at_some hkl
   have h1 : (k : Int) < (l.length : Int) := by omega
   have h0 : (0 : Int) ≤ (k : Int) := by omega
   rw [drop_cons hx, put] at hp
   simp only [↓reduceIte, go_sem, h1, h0, bk_eq hx]
   refine ⟨fun hxn => ?_, fun hxn => ?_⟩
   ·refine ⟨k + 1, by rw [wI (by omega) (by omega)]; omega, ⟨by omega, fun y hy => ?_⟩, by omega⟩
    rw [take_snoc hx] at hy
    rcases List.mem_append.1 hy with hy | hy
    ·exact hlt y hy
    ·rw [List.mem_singleton.1 hy]; exact hxn
   ·rw [if_neg hxn] at hp
    refine ⟨fun he => ?_, fun he => ?_⟩
    ·rw [if_pos (by simpa using he), ← drop_cons hx, List.take_append_drop] at hp
     rw [hp]
     apply callK_of (c_slices_Clone_int l hs)
     simp only [↓reduceIte, go_sem]
    ·rw [if_neg (by simpa using he), ← drop_cons hx] at hp
     rw [hp]
     apply callK_of (c_slices_Clone_int l hs)
     simp only [↓reduceIte, go_sem]
     try intros
     refine ⟨by decide, ?_⟩
     apply callIK_of (c_slices_Insert_int l k n hk hs)
     simp only [↓reduceIte, go_sem]
     try simp
  ·have h1 : ¬ (k : Int) < (l.length : Int) := by omega
   obtain rfl : k = l.length := by omega
   rw [List.drop_length, List.take_length, put] at hp
   rw [hp]
   simp only [↓reduceIte, go_sem, h1]
   apply callK_of (c_slices_Clone_int l hs)
   simp only [↓reduceIte, go_sem]
   try intros
   refine ⟨by decide, ?_⟩
   apply callIK_of (c_slices_Insert_int l l.length n (Nat.le_refl _) hs)
   simp only [↓reduceIte, go_sem]
   try simp
end Go.Proofs.YtgkeplbnnjogiaaGreatR
namespace Go.Proofs.YtgkeplbnnjogiaaGreatR
open Go Go.RowKit Go.Proofs
open Nat (reduceEqDiff reduceLT reduceLeDiff reduceAdd reduceMul)
open List (reduceReplicate)
def tellTo (chosen : List Int) (root : Int) (x : GLibrary) : GLibrary := if chosen.contains x.Id then { x with Digests := put x.Digests root } else x
def tellL (chosen : List Int) (root : Int) (l : List GLibrary) : List GLibrary := l.map (tellTo chosen root)
def lastRoot (d : GDisk) : Int := match d.Containers[d.Containers.length - 1]? with
 | some y => y.Root
 | none => 0
def ups (l : List GLibrary) : List Int := (l.filter fun x => x.Up).map fun x => x.Id
def wroteLibs (a : GArchive) : List GLibrary := if (nextTo a.Disk).Containers.length = a.Disk.Containers.length then a.Libraries
 else tellL (placedL (ups a.Libraries) (lastRoot (nextTo a.Disk)) 3) (lastRoot (nextTo a.Disk)) a.Libraries
def wroteTo (a : GArchive) : GArchive := if nextOk a.Disk then { a with Disk := nextTo a.Disk, Libraries := wroteLibs a } else a
theorem tell_size {chosen : List Int} {root : Int} : ∀ {l : List GLibrary}, ((tellL chosen root l).map GLibrary.size).sum ≤ (l.map GLibrary.size).sum + l.length
 | [] => by simp [tellL]
 | x :: l => by
  have ih := tell_size (chosen := chosen) (root := root) (l := l)
  have hx : (tellTo chosen root x).size ≤ x.size + 1 := by
   unfold tellTo
   split
   ·simp only [GLibrary.size]; exact put_len
   ·omega
  simp only [tellL, List.map_cons, List.sum_cons, List.length_cons] at *
  omega
theorem wrote_size (a : GArchive) : (wroteTo a).size ≤ 3 * a.size := by
 unfold wroteTo
 split
 ·have h1 := next_size a.Disk
  have h2 : (wroteLibs a).length = a.Libraries.length ∧ ((wroteLibs a).map GLibrary.size).sum ≤ (a.Libraries.map GLibrary.size).sum + a.Libraries.length := by
   unfold wroteLibs
   split
   ·exact ⟨rfl, by omega⟩
   ·exact ⟨by simp [tellL], tell_size⟩
  simp only [GArchive.size] at *
  omega
 ·omega
theorem ups_len (l : List GLibrary) : (ups l).length ≤ l.length := by
 unfold ups; rw [List.length_map]; exact List.length_filter_le _ _
theorem tell_step {chosen : List Int} {root : Int} {l : List GLibrary} {k : Nat} {x : GLibrary} (h : l[k]? = some x) : (((tellL chosen root (l.take k)).map GLibrary.enc ++ (l.drop k).map GLibrary.enc).set k (tellTo chosen root x).enc) = (tellL chosen root (l.take (k + 1))).map GLibrary.enc ++ (l.drop (k + 1)).map GLibrary.enc := by
 have hl := len_at h
 rw [drop_cons h, take_snoc h, tellL, tellL, List.map_append, List.map_append, List.map_cons]
 rw [List.set_append_right _ _ (by simp; omega)]
 simp [tellTo, Nat.min_eq_left (Nat.le_of_lt hl)]
theorem tell_get {chosen : List Int} {root : Int} {l : List GLibrary} {k : Nat} {x : GLibrary} (h : l[k]? = some x) : ((tellL chosen root (l.take k)).map GLibrary.enc ++ (l.drop k).map GLibrary.enc)[k]? = some x.enc := by
 have hl := len_at h
 rw [List.getElem?_append_right (by simp [tellL]; omega), drop_cons h]
 simp [tellL, Nat.min_eq_left (Nat.le_of_lt hl)]
theorem tell_len {chosen : List Int} {root : Int} {l : List GLibrary} {k : Nat} : ((tellL chosen root (l.take k)).map GLibrary.enc ++ (l.drop k).map GLibrary.enc).length = l.length := by
 simp [tellL]; omega
theorem ups_yes {l : List GLibrary} {k : Nat} {x : GLibrary} (h : l[k]? = some x) (u : x.Up = true) : ups (l.take (k + 1)) = ups (l.take k) ++ [x.Id] := by
 rw [take_snoc h, ups, List.filter_append, List.map_append]; simp [ups, u]
theorem ups_no {l : List GLibrary} {k : Nat} {x : GLibrary} (h : l[k]? = some x) (u : x.Up = false) : ups (l.take (k + 1)) = ups (l.take k) := by
 rw [take_snoc h, ups, List.filter_append, List.map_append]; simp [ups, u]
theorem next_len (d : GDisk) : (nextTo d).Containers.length = d.Containers.length ∨ (nextTo d).Containers.length = d.Containers.length + 1 := by
 unfold nextTo
 split
 ·exact .inl rfl
 ·split
  ·exact .inl rfl
  ·split
   ·right; simp
   ·exact .inl rfl
theorem tell_same {chosen : List Int} {root : Int} {l : List GLibrary} {k : Nat} {x : GLibrary} (h : l[k]? = some x) (hc : chosen.contains x.Id = false) : (tellL chosen root (l.take k)).map GLibrary.enc ++ (l.drop k).map GLibrary.enc = (tellL chosen root (l.take (k + 1))).map GLibrary.enc ++ (l.drop (k + 1)).map GLibrary.enc := by
 have e : tellTo chosen root x = x := by unfold tellTo; rw [if_neg (by rw [hc]; simp)]
 rw [drop_cons h, take_snoc h]
 simp [tellL, e]
theorem wrote_yes {a : GArchive} {root : Int} (h : nextOk a.Disk = true) (h2 : ¬ (nextTo a.Disk).Containers.length = a.Disk.Containers.length) (hr : lastRoot (nextTo a.Disk) = root) : wroteTo a = { a with Disk := nextTo a.Disk, Libraries := tellL (placedL (ups a.Libraries) root 3) root a.Libraries } := by
 simp [wroteTo, h, wroteLibs, h2, hr]
def m_impl_StepWrite : MC :=
(.seq (pr [.box 1 0 (.s 0), .alloc 2 1 [.emp 9, .emp 4, .emp 4, .emp 6, .emp 4, .emp 5, .emp 4, .emp 1, .emp 4, pz], .mv 3 cF] [1,2])
(.seq (pr [.load 14 true 10 (.s 1), .call 15 [2, 3, 4, 5, 6, 7, 8, 9, 10] (.f n_impl_copyArchive) [.s 14], .alloc 4 11 [.emp 9, .emp 4, .emp 4, .emp 6, .emp 4, .emp 5, .emp 4, .emp 1, .emp 4, pz], .store 10 (.s 4) (.s 15)] [1,2,4])
(.seq (pr [.fld 17 (.s 1) 2, .load 18 true 3 (.s 17), .call 19 [12, 13, 14] (.f n_impl_WriteNext) [.s 18], .mv 16 (.s 19), .ext 20 (.s 16) 0, .ext 21 (.s 16) 1, .alloc 5 15 [.emp 4, .emp 6, .emp 4], .store 3 (.s 5) (.s 20), .mv 6 (.s 21)] [1,2,4,5,6])
(.seq (.seq (pr [.mv 22 (.s 6), .un 23 .not (.s 22)] [1,2,4,5,23])
(.cond (.s 23) (.seq (pr [.load 24 true 10 (.s 4), .store 10 (.s 2) (.s 24), .mv 3 cF] [2,3])
.ret) .skip))
(.seq (pr [.load 25 true 3 (.s 5), .fld 26 (.s 4) 2, .store 3 (.s 26) (.s 25)] [1,2,4,5])
(.seq (.seq (pr [.fld 27 (.s 5) 0, .load 28 false 1 (.s 27), .len 29 false (.s 28), .fld 30 (.s 1) 2, .fld 31 (.s 30) 0, .load 32 false 1 (.s 31), .len 33 false (.s 32), .bin 34 false .eql (.s 29) (.s 33)] [1,2,4,5,34])
(.cond (.s 34) (.seq (pr [.load 35 true 10 (.s 4), .store 10 (.s 2) (.s 35), .mv 3 cT] [2,3])
.ret) .skip))
(.seq (pr [.fld 36 (.s 5) 0, .load 37 false 1 (.s 36), .fld 38 (.s 5) 0, .load 39 false 1 (.s 38), .len 40 false (.s 39), .bin 41 false .sub (.s 40) (ci 1), .idx 42 4 (.s 37) (.s 41), .fld 43 (.s 42) 3, .load 44 false 1 (.s 43), .mv 7 (.s 44)] [1,2,4,7])
(.seq (pr [.nilo 8 16 1] [1,2,4,7,8])
(.seq (.seq (pr [.fld 45 (.s 1) 6, .load 46 false 1 (.s 45), .len 47 false (.s 46), .mv 48 (ci 0)] [2,4,7,8,46,47,48])
(.block 0 (.loop ([2,4,7,8,46,47,48], [0,15,17,18,19,20,21]) (.seq (pr [.bin 49 false .lss (.s 48) (.s 47)] [2,4,7,8,46,47,48,49])
(.seq (.cond (.s 49) .skip (.exit 0))
(.seq (.block 1 (.seq (pr [.idx 50 4 (.s 46) (.s 48), .load 51 true 4 (.s 50), .alloc 10 17 [pz, .emp 1, .pl (.sc (.bool false)), .pl (.sc (.bool false))], .store 4 (.s 10) (.s 51)] [2,4,7,8,10,46,47,48])
(.seq (pr [.fld 52 (.s 10) 2, .load 53 false 1 (.s 52)] [2,4,7,8,10,46,47,48,53])
(.cond (.s 53) (pr [.mv 54 (.s 8), .fld 55 (.s 10) 0, .load 56 false 1 (.s 55), .lit 57 18 1 8 [.s 56], .app 58 16 1 8 (.s 54) (.s 57), .mv 8 (.s 58)] [2,4,7,8,46,47,48]) .skip))))
(pr [.bin 59 false .add (.s 48) (ci 1), .mv 48 (.s 59)] [2,4,7,8,46,47,48])))))))
(.seq (pr [.mv 60 (.s 8), .mv 61 (.s 7), .call 62 [19] (.f n_impl_PlaceCopies) [.s 60, .s 61, .c (.int .i64 3)], .mv 11 (.s 62)] [2,4,7,11])
(.seq (.seq (pr [.fld 63 (.s 4) 6, .load 64 false 1 (.s 63), .len 65 false (.s 64), .mv 66 (ci 0)] [2,4,7,11,64,65,66])
(.block 2 (.loop ([2,4,7,11,64,65,66], [0,15,16,17,18,20,21]) (.seq (pr [.bin 67 false .lss (.s 66) (.s 65)] [2,4,7,11,64,65,66,67])
(.seq (.cond (.s 67) .skip (.exit 2))
(.seq (.block 3 (.seq (pr [.mv 68 (.s 66), .idx 69 4 (.s 64) (.s 66), .load 70 true 4 (.s 69), .alloc 13 20 [pz, .emp 1, .pl (.sc (.bool false)), .pl (.sc (.bool false))], .mv 12 (.s 68), .store 4 (.s 13) (.s 70)] [2,4,7,11,12,13,64,65,66])
(.seq (pr [.mv 71 (.s 11), .fld 72 (.s 13) 0, .load 73 false 1 (.s 72), .call 74 [] (.f n_slices_Contains_int_int) [.s 71, .s 73]] [2,4,7,11,12,13,64,65,66,74])
(.cond (.s 74) (.dreg [Zf [77,78,79,80,81] [21] (.fld 75 (.s 4) 6), Zg [77,78,79,80,81] [21] [0] (.load 76 false 1 (.s 75)), Zf [75,76,78,79,80,81] [21] (.mv 77 (.s 12)), Zc [75,76,77,80] (.fld 78 (.s 13) 1), Zd [75,76,77,80] [3] (.load 79 false 1 (.s 78)), Zc [75,76,77,78,79] (.mv 80 (.s 7)), { o := .call 81 [21] (.f n_impl_withDigest) [.s 79, .s 80], hs := [75,76,77], ws := [21], bf := [3,4,5] }, Ze (.range 7) (.idx 82 4 (.s 76) (.s 77)), Ze (.range 8) (.fld 83 (.s 82) 1), { o := .store 1 (.s 83) (.s 81), ws := [8,21], bf := (.range 9) }] [2,4,7,11,64,65,66]) .skip))))
(pr [.bin 84 false .add (.s 66) (ci 1), .mv 66 (.s 84)] [2,4,7,11,64,65,66])))))))
(.seq (pr [.load 85 true 10 (.s 4), .store 10 (.s 2) (.s 85), .mv 3 cT] [2,3])
.ret))))))))))))
set_option maxHeartbeats 2000000 in
theorem c_impl_StepWrite (a : GArchive) (hs : a.size ≤ 268435456) : Ctr Tryz.prog n_impl_StepWrite [aS a.enc] [rS (wroteTo a).enc, rB (nextOk a.Disk)] := by
 refine cA m_impl_StepWrite 22 86 [(.cell 2 true 10, [true, true, true, true, true, true, true, true, true, false]), (.tmp 3, [false])] Tryz.func27 rfl rfl ?_; unfold m_impl_StepWrite
 intro hb
 clear hb
 have hlib : a.Libraries.length ≤ 268435456 := by simp only [GArchive.size] at hs; omega
 simp only [↓reduceIte, go_sem]
 apply callK_of (c_impl_copyArchive a (by omega))
 simp only [↓reduceIte, go_sem]
 intros
 apply callK_of (c_impl_WriteNext a.Disk (by simp only [GArchive.size] at hs; omega))
 simp only [↓reduceIte, go_sem]
 intro hbd
 clear hbd
 refine ⟨fun hno => ?_, fun hyes => ⟨fun hsame => ?_, fun hmore => ?_⟩⟩
 ·simp [wroteTo, hno]
 ·have hs' : (nextTo a.Disk).Containers.length = a.Disk.Containers.length := by omega
  simp [wroteTo, hyes, wroteLibs, hs']
 ·have hm' : ¬ (nextTo a.Disk).Containers.length = a.Disk.Containers.length := by omega
  have hnl := next_len a.Disk
  have hns := next_size a.Disk
  have hdl : (nextTo a.Disk).Containers.length ≤ 536870912 := by simp only [GArchive.size, GDisk.size] at *; omega
  obtain ⟨y, hy⟩ := at_some (l := (nextTo a.Disk).Containers) (k := (nextTo a.Disk).Containers.length - 1) (by omega)
  have e1 : IntKind.i64.wrap (((nextTo a.Disk).Containers.length : Int) - 1) = (((nextTo a.Disk).Containers.length - 1 : Nat) : Int) := by rw [wI (by omega) (by omega)]; omega
  have hroot : lastRoot (nextTo a.Disk) = y.Root := by unfold lastRoot; rw [hy]
  have hW := wrote_yes hyes hm' hroot
  rw [hW, hyes]
  generalize nextTo a.Disk = D at *
  rw [e1, Int.toNat_natCast, hy]
  refine ⟨⟨by omega, by omega⟩, ?_⟩
  simp only [go_sem]
  refine loopK_rng a.Libraries (fun k => [(8, .val false [.ref 16 0 1 0 (ups (a.Libraries.take k)).length]), (48, vI k)]) (fun k => [(16, ⟨0, .row true 1 ((ups (a.Libraries.take k)).map encI)⟩)]) (fun _ => True) (by simp only [roomB]; omega) ?_
  simp only [↓reduceIte, go_sem]
  refine ⟨?_, trivial, ?_, ?_⟩
  ·simp only [↓reduceIte, go_sem, List.take_zero]
   exact ⟨rfl, rfl⟩
  ·intro k x hx _ h0 h1 hw
   have hul := ups_len (a.Libraries.take k)
   have hkl : (a.Libraries.take k).length ≤ a.Libraries.length := by rw [List.length_take]; omega
   simp only [↓reduceIte, go_sem, bk_eq hx, h0, h1, hw]
   refine ⟨fun u => ?_, fun u => ?_⟩
   ·rw [ups_yes hx u]
    simp only [roomB]
    simp [encI]
    omega
   ·rw [ups_no hx u]
    exact ⟨rfl, rfl⟩
  ·intro _
   have hul := ups_len a.Libraries
   simp only [↓reduceIte, go_sem, List.take_length]
   apply callK_of (c_impl_PlaceCopies (ups a.Libraries) y.Root 3 (by omega))
   simp only [↓reduceIte, go_sem]
   intros
   refine loopK_rng a.Libraries (fun k => [(66, vI k)]) (fun k => [(8, ⟨0, .row true 4 ((tellL (placedL (ups a.Libraries) y.Root 3) y.Root (a.Libraries.take k)).map GLibrary.enc ++ (a.Libraries.drop k).map GLibrary.enc)⟩)]) (fun _ => True) (by simp only [roomB]; omega) ?_
   simp only [↓reduceIte, go_sem]
   refine ⟨?_, trivial, ?_, ?_⟩
   ·simp only [↓reduceIte, go_sem, List.take_zero, List.drop_zero]
    simp [tellL]
   ·intro k x hx _ h0 h1 hw
    have hxl := mem_sum (f := GLibrary.size) (at_mem hx)
    have hxd : x.Digests.length ≤ 268435456 := by simp only [GLibrary.size] at hxl; simp only [GArchive.size] at hs; omega
    have hst := tell_step (chosen := placedL (ups a.Libraries) y.Root 3) (root := y.Root) hx
    simp only [↓reduceIte, go_sem, tell_len, bk_eq (tell_get hx), h0, h1]
    apply callK_of (c_slices_Contains (placedL (ups a.Libraries) y.Root 3) x.Id)
    simp only [↓reduceIte, go_sem, hw]
    refine ⟨fun hc => ?_, fun hc => ?_⟩
    ·have ex : tellTo (placedL (ups a.Libraries) y.Root 3) y.Root x = { x with Digests := put x.Digests y.Root } := by unfold tellTo; rw [if_pos hc]
     rw [ex] at hst
     apply callK_of (c_impl_withDigest x.Digests y.Root (by omega))
     simp only [↓reduceIte, go_sem, tell_len, bk_eq (tell_get hx), h0, h1, hw]
     intro _
     exact hst
    ·exact tell_same (root := y.Root) hx hc
   ·intro _
    simp only [↓reduceIte, go_sem, List.take_length, List.drop_length]
    simp [tellL]
def m_spec_StepWrite : MC :=
(.seq (pr [.box 1 0 (.s 0), .alloc 2 1 [.emp 9, .emp 4, .emp 4, .emp 6, .emp 4, .emp 5, .emp 4, .emp 1, .emp 4, pz], .mv 3 cF] [1,2])
(.seq (pr [.load 10 true 10 (.s 1), .call 11 [2, 3, 4, 5, 6, 7, 8, 9, 10] (.f n_spec_l32Copy) [.s 10], .alloc 4 11 [.emp 9, .emp 4, .emp 4, .emp 6, .emp 4, .emp 5, .emp 4, .emp 1, .emp 4, pz], .store 10 (.s 4) (.s 11)] [1,2,4])
(.seq (pr [.fld 13 (.s 1) 2, .load 14 true 3 (.s 13), .call 15 [12, 13, 14] (.f n_spec_WriteNext) [.s 14], .mv 12 (.s 15), .ext 16 (.s 12) 0, .ext 17 (.s 12) 1, .alloc 5 15 [.emp 4, .emp 6, .emp 4], .store 3 (.s 5) (.s 16), .mv 6 (.s 17)] [1,2,4,5,6])
(.seq (.seq (pr [.mv 18 (.s 6), .un 19 .not (.s 18)] [1,2,4,5,19])
(.cond (.s 19) (.seq (pr [.load 20 true 10 (.s 4), .store 10 (.s 2) (.s 20), .mv 3 cF] [2,3])
.ret) .skip))
(.seq (pr [.load 21 true 3 (.s 5), .fld 22 (.s 4) 2, .store 3 (.s 22) (.s 21)] [1,2,4,5])
(.seq (.seq (pr [.fld 23 (.s 5) 0, .load 24 false 1 (.s 23), .len 25 false (.s 24), .fld 26 (.s 1) 2, .fld 27 (.s 26) 0, .load 28 false 1 (.s 27), .len 29 false (.s 28), .bin 30 false .gtr (.s 25) (.s 29)] [1,2,4,5,30])
(.cond (.s 30) (.seq (pr [.fld 31 (.s 5) 0, .load 32 false 1 (.s 31), .fld 33 (.s 5) 0, .load 34 false 1 (.s 33), .len 35 false (.s 34), .bin 36 false .sub (.s 35) (ci 1), .idx 37 4 (.s 32) (.s 36), .fld 38 (.s 37) 3, .load 39 false 1 (.s 38), .mv 7 (.s 39)] [1,2,4,7])
(.seq (pr [.fld 40 (.s 1) 6, .load 41 false 1 (.s 40), .call 42 [16] (.f n_spec_l34Up) [.s 41], .mv 43 (.s 7), .call 44 [17] (.f n_spec_PlaceCopies) [.s 42, .s 43, .c (.int .i64 3)], .mv 8 (.s 44)] [2,4,7,8])
(.seq (pr [.mv 9 (ci 0)] [2,4,7,8,9])
(.block 0 (.loop ([2,4,7,8,9], [0,15,16,18]) (.seq (.seq (pr [.mv 45 (.s 9), .fld 46 (.s 4) 6, .load 47 false 1 (.s 46), .len 48 false (.s 47), .bin 49 false .lss (.s 45) (.s 48)] [2,4,7,8,9,49])
(.cond (.s 49) .skip (.exit 0)))
(.seq (.block 1 (.seq (pr [.mv 52 (.s 8), .fld 53 (.s 4) 6, .load 54 false 1 (.s 53), .mv 55 (.s 9), .idx 56 4 (.s 54) (.s 55), .fld 57 (.s 56) 0, .load 58 false 1 (.s 57), .call 59 [] (.f n_spec_l28Has) [.s 52, .s 58]] [2,4,7,8,9,59])
(.cond (.s 59) (.dreg [Zf [62,63,64,65,66,67,68,69,70] [18] (.fld 60 (.s 4) 6), Zg [62,63,64,65,66,67,68,69,70] [18] [0] (.load 61 false 1 (.s 60)), Zf [60,61,63,64,65,66,67,68,69,70] [18] (.mv 62 (.s 9)), Zc [60,61,62,65,69] (.fld 63 (.s 4) 6), Zd [60,61,62,65,69] [3] (.load 64 false 1 (.s 63)), Zc [60,61,62,63,64,69] (.mv 65 (.s 9)), Zd [60,61,62,69] [3,4,5] (.idx 66 4 (.s 64) (.s 65)), Zd [60,61,62,69] [3,4,5,6] (.fld 67 (.s 66) 1), Zd [60,61,62,69] [3,4,5,6,7] (.load 68 false 1 (.s 67)), Zc [60,61,62,63,64,65,66,67,68] (.mv 69 (.s 7)), { o := .call 70 [18] (.f n_spec_l9Put) [.s 68, .s 69], hs := [60,61,62], ws := [18], bf := [3,4,5,6,7,8,9] }, Ze (.range 11) (.idx 71 4 (.s 61) (.s 62)), Ze (.range 12) (.fld 72 (.s 71) 1), { o := .store 1 (.s 72) (.s 70), ws := [8,18], bf := (.range 13) }] [2,4,7,8,9]) .skip)))
(pr [.mv 50 (.s 9), .bin 51 false .add (.s 50) (ci 1), .mv 9 (.s 51)] [2,4,7,8,9])))))))) .skip))
(.seq (pr [.load 73 true 10 (.s 4), .store 10 (.s 2) (.s 73), .mv 3 cT] [2,3])
.ret)))))))
set_option maxHeartbeats 2000000 in
theorem c_spec_StepWrite (a : GArchive) (hs : a.size ≤ 268435456) : Ctr Tryz.prog n_spec_StepWrite [aS a.enc] [rS (wroteTo a).enc, rB (nextOk a.Disk)] := by
 refine cA m_spec_StepWrite 19 74 [(.cell 2 true 10, [true, true, true, true, true, true, true, true, true, false]), (.tmp 3, [false])] Tryz.func26 rfl rfl ?_; unfold m_spec_StepWrite
 intro hb
 clear hb
 have hlib : a.Libraries.length ≤ 268435456 := by simp only [GArchive.size] at hs; omega
 simp only [↓reduceIte, go_sem]
 apply callK_of (c_spec_l32Copy a (by omega))
 simp only [↓reduceIte, go_sem]
 intros
 apply callK_of (c_spec_WriteNext a.Disk (by simp only [GArchive.size] at hs; omega))
 simp only [↓reduceIte, go_sem]
 intro hbd
 clear hbd
 refine ⟨fun hno => ?_, fun hyes => ⟨fun hmore => ?_, fun hsame => ?_⟩⟩
 ·simp [wroteTo, hno]
 ·have hm' : ¬ (nextTo a.Disk).Containers.length = a.Disk.Containers.length := by omega
  have hnl := next_len a.Disk
  have hns := next_size a.Disk
  have hdl : (nextTo a.Disk).Containers.length ≤ 536870912 := by simp only [GArchive.size, GDisk.size] at *; omega
  obtain ⟨y, hy⟩ := at_some (l := (nextTo a.Disk).Containers) (k := (nextTo a.Disk).Containers.length - 1) (by omega)
  have e1 : IntKind.i64.wrap (((nextTo a.Disk).Containers.length : Int) - 1) = (((nextTo a.Disk).Containers.length - 1 : Nat) : Int) := by rw [wI (by omega) (by omega)]; omega
  have hroot : lastRoot (nextTo a.Disk) = y.Root := by unfold lastRoot; rw [hy]
  have hW := wrote_yes hyes hm' hroot
  rw [hW, hyes]
  generalize nextTo a.Disk = D at *
  rw [e1, Int.toNat_natCast, hy]
  refine ⟨⟨by omega, by omega⟩, ?_⟩
  simp only [go_sem]
  have hul := ups_len a.Libraries
  apply callK_of (c_spec_l34Up a.Libraries (by omega))
  simp only [↓reduceIte, go_sem]
  intros
  apply callK_of (c_spec_PlaceCopies (ups a.Libraries) y.Root 3 (by omega))
  simp only [↓reduceIte, go_sem]
  intros
  refine loopK_rng a.Libraries (fun k => [(9, vI k)]) (fun k => [(8, ⟨0, .row true 4 ((tellL (placedL (ups a.Libraries) y.Root 3) y.Root (a.Libraries.take k)).map GLibrary.enc ++ (a.Libraries.drop k).map GLibrary.enc)⟩)]) (fun _ => True) (by simp only [roomB]; omega) ?_
  simp only [↓reduceIte, go_sem]
  refine ⟨?_, trivial, ?_, ?_⟩
  ·simp only [↓reduceIte, go_sem, List.take_zero, List.drop_zero]
   simp [tellL]
  ·intro k x hx _ h0 h1 hw
   have hxl := mem_sum (f := GLibrary.size) (at_mem hx)
   have hxd : x.Digests.length ≤ 268435456 := by simp only [GLibrary.size] at hxl; simp only [GArchive.size] at hs; omega
   have hst := tell_step (chosen := placedL (ups a.Libraries) y.Root 3) (root := y.Root) hx
   simp only [↓reduceIte, go_sem, tell_len, bk_eq (tell_get hx), h0, h1]
   apply callK_of (c_spec_l28Has (placedL (ups a.Libraries) y.Root 3) x.Id)
   simp only [↓reduceIte, go_sem, tell_len, bk_eq (tell_get hx), h0, h1, hw]
   refine ⟨fun hc => ?_, fun hc => ?_⟩
   ·have ex : tellTo (placedL (ups a.Libraries) y.Root 3) y.Root x = { x with Digests := put x.Digests y.Root } := by unfold tellTo; rw [if_pos hc]
    rw [ex] at hst
    apply callK_of (c_spec_l9Put x.Digests y.Root (by omega))
    simp only [↓reduceIte, go_sem, tell_len, bk_eq (tell_get hx), h0, h1, hw]
    intro _
    exact hst
   ·exact tell_same (root := y.Root) hx hc
  ·intro _
   simp only [↓reduceIte, go_sem, List.take_length, List.drop_length]
   simp [tellL]
 ·have hnl := next_len a.Disk
  have hs' : (nextTo a.Disk).Containers.length = a.Disk.Containers.length := by omega
  simp [wroteTo, hyes, wroteLibs, hs']
end Go.Proofs.YtgkeplbnnjogiaaGreatR
namespace Go.Proofs.YtgkeplbnnjogiaaGreatR
open Go Go.RowKit Go.Proofs
open Nat (reduceEqDiff reduceLT reduceLeDiff reduceAdd reduceMul)
open List (reduceReplicate)
def m_laws_FnExactStepWrite : MC :=
(.seq (pr [.box 1 0 (.s 0), .mv 2 cF] [1])
(.seq (pr [.mv 3 (ci 1048576)] [1,3])
(.seq (pr [.load 14 true 10 (.s 1), .mv 15 (.s 3), .call 16 [] (.f n_laws_szArchive) [.s 14, .s 15], .mv 3 (.s 16)] [1,3])
(.seq (.seq (pr [.mv 17 (.s 3), .bin 18 false .lss (.s 17) (ci 0)] [1,18])
(.cond (.s 18) (.seq (pr [.mv 2 cT] [2])
.ret) .skip))
(.seq (pr [.load 20 true 10 (.s 1), .call 21 [1, 2, 3, 4, 5, 6, 7, 8, 9] (.f n_laws_toArchive) [.s 20], .call 22 [10, 11, 12, 13, 14, 15, 16, 17, 18] (.f n_spec_StepWrite) [.s 21], .mv 19 (.s 22), .ext 23 (.s 19) 0, .ext 24 (.s 19) 1, .alloc 4 19 [.emp 9, .emp 4, .emp 4, .emp 6, .emp 4, .emp 5, .emp 4, .emp 1, .emp 4, pz], .store 10 (.s 4) (.s 23), .mv 5 (.s 24)] [1,4,5])
(.seq (pr [.load 25 true 10 (.s 1), .call 26 [20, 21, 22, 23, 24, 25, 26, 27, 28] (.f n_laws_toArchive) [.s 25], .alloc 6 29 [.emp 9, .emp 4, .emp 4, .emp 6, .emp 4, .emp 5, .emp 4, .emp 1, .emp 4, pz], .store 10 (.s 6) (.s 26)] [1,4,5,6])
(.seq (pr [.load 28 true 10 (.s 6), .call 29 [30, 31, 32, 33, 34, 35, 36, 37, 38] (.f n_impl_StepWrite) [.s 28], .mv 27 (.s 29), .ext 30 (.s 27) 0, .ext 31 (.s 27) 1, .alloc 7 39 [.emp 9, .emp 4, .emp 4, .emp 6, .emp 4, .emp 5, .emp 4, .emp 1, .emp 4, pz], .store 10 (.s 7) (.s 30), .mv 8 (.s 31)] [1,4,5,6,7,8])
(.seq (.seq (.reg [Za (.load 32 true 10 (.s 7)), Za (.load 33 true 10 (.s 4)), Za (.call 34 [] (.f n_laws_eqArchive) [.s 32, .s 33]), Za (.un 35 .not (.s 34)), Za (.mv 36 (.s 35)), Zb 36 false (.mv 37 (.s 8)), Zb 36 false (.mv 38 (.s 5)), Zb 36 false (.bin 39 true .neq (.s 37) (.s 38)), Za (.pick 40 (.s 36) cT (.s 39))] [1,4,5,6,7,8,40])
(.cond (.s 40) (.seq (pr [.mv 2 cF] [2])
.ret) .skip))
(.seq (.seq (.dreg [Zf [42,43] [40,41,42,43,44,45,46,47,48] (.load 41 true 10 (.s 6)), Zc [41] (.load 42 true 10 (.s 1)), { o := .call 43 [40, 41, 42, 43, 44, 45, 46, 47, 48] (.f n_laws_toArchive) [.s 42], hs := [41], ws := [40,41,42,43,44,45,46,47,48], bf := [1] }, Ze [0,1,2] (.call 44 [] (.f n_laws_eqArchive) [.s 41, .s 43]), Ze (.range 4) (.un 45 .not (.s 44))] [1,4,5,6,7,8,45])
(.cond (.s 45) (.seq (pr [.mv 2 cF] [2])
.ret) .skip))
(.seq (pr [.mv 9 (ci 1)] [1,4,5,6,7,8,9])
(.seq (pr [.load 46 true 10 (.s 6), .mv 47 (.s 9), .callI 48 [] (.f n_laws_markArchive) [.s 46, .s 47] [20,21,22,23,24,25,26,27,28] [], .mv 9 (.s 48)] [1,4,5,7,8,9])
(.seq (.seq (.reg [Za (.mv 49 (.s 9)), Za (.bin 50 false .lss (.s 49) (ci 0)), Za (.mv 51 (.s 50)), Zb 51 false (.load 52 true 10 (.s 7)), Zb 51 false (.load 53 true 10 (.s 4)), Zb 51 false (.call 54 [] (.f n_laws_eqArchive) [.s 52, .s 53]), Zb 51 false (.un 55 .not (.s 54)), Za (.pick 56 (.s 51) cT (.s 55)), Za (.mv 57 (.s 56)), Zb 57 false (.mv 58 (.s 8)), Zb 57 false (.mv 59 (.s 5)), Zb 57 false (.bin 60 true .neq (.s 58) (.s 59)), Za (.pick 61 (.s 57) cT (.s 60))] [1,4,5,7,61])
(.cond (.s 61) (.seq (pr [.mv 2 cF] [2])
.ret) .skip))
(.seq (pr [.mv 10 (ci 1)] [1,4,5,7,10])
(.seq (pr [.load 62 true 10 (.s 7), .mv 63 (.s 10), .callI 64 [] (.f n_laws_markArchive) [.s 62, .s 63] [30,31,32,33,34,35,36,37,38] [], .mv 10 (.s 64)] [1,4,5,7,10])
(.seq (pr [.mv 11 (ci 1)] [1,4,5,7,10,11])
(.seq (pr [.load 65 true 10 (.s 7), .mv 66 (.s 11), .call 67 [] (.f n_laws_heldArchive) [.s 65, .s 66], .mv 11 (.s 67)] [1,4,5,7,10,11])
(.seq (.seq (pr [.mv 68 (.s 11), .bin 69 false .lss (.s 68) (ci 0)] [1,4,5,7,10,11,69])
(.cond (.s 69) (.seq (pr [.mv 2 cF] [2])
.ret) .skip))
(.seq (.seq (pr [.mv 70 (.s 11), .mv 71 (.s 10), .bin 72 false .neq (.s 70) (.s 71)] [1,4,5,7,10,72])
(.cond (.s 72) (.seq (pr [.mv 2 cF] [2])
.ret) .skip))
(.seq (pr [.load 74 true 10 (.s 1), .call 75 [49, 50, 51, 52, 53, 54, 55, 56, 57] (.f n_laws_toArchive) [.s 74], .call 76 [58, 59, 60, 61, 62, 63, 64, 65, 66] (.f n_impl_StepWrite) [.s 75], .mv 73 (.s 76), .ext 77 (.s 73) 0, .ext 78 (.s 73) 1, .alloc 12 67 [.emp 9, .emp 4, .emp 4, .emp 6, .emp 4, .emp 5, .emp 4, .emp 1, .emp 4, pz], .store 10 (.s 12) (.s 77), .mv 13 (.s 78)] [4,5,7,10,12,13])
(.seq (.seq (.reg [Za (.load 79 true 10 (.s 12)), Za (.load 80 true 10 (.s 4)), Za (.call 81 [] (.f n_laws_eqArchive) [.s 79, .s 80]), Za (.un 82 .not (.s 81)), Za (.mv 83 (.s 82)), Zb 83 false (.mv 84 (.s 13)), Zb 83 false (.mv 85 (.s 5)), Zb 83 false (.bin 86 true .neq (.s 84) (.s 85)), Za (.pick 87 (.s 83) cT (.s 86))] [7,10,87])
(.cond (.s 87) (.seq (pr [.mv 2 cF] [2])
.ret) .skip))
(.seq (pr [.mv 11 (ci 1)] [7,10,11])
(.seq (pr [.load 88 true 10 (.s 7), .mv 89 (.s 11), .call 90 [] (.f n_laws_heldArchive) [.s 88, .s 89], .mv 11 (.s 90)] [10,11])
(.seq (.seq (pr [.mv 91 (.s 11), .bin 92 false .lss (.s 91) (ci 0)] [10,11,92])
(.cond (.s 92) (.seq (pr [.mv 2 cF] [2])
.ret) .skip))
(.seq (.seq (pr [.mv 93 (.s 11), .mv 94 (.s 10), .bin 95 false .neq (.s 93) (.s 94)] [95])
(.cond (.s 95) (.seq (pr [.mv 2 cF] [2])
.ret) .skip))
(.seq (pr [.mv 2 cT] [2])
.ret)))))))))))))))))))))))))
theorem c_laws_FnExactStepWrite (a : GArchive) : Ctr Tryz.prog n_laws_FnExactStepWrite [aS a.enc] [rB true] := by
 refine cA m_laws_FnExactStepWrite 68 96 [(.tmp 2, [false])] Tryz.func6 rfl rfl ?_; unfold m_laws_FnExactStepWrite
 intro hb
 clear hb
 simp only [↓reduceIte, go_sem]
 apply callK_of (c_laws_szArchive a _ (by omega))
 simp only [↓reduceIte, go_sem]
 intro _ hz
 have hs := szr_ok hz
 have hc_a := GArchive.cts_le a
 have hr0 := GArchive.cts_le (wroteTo a)
 have hl_wrote_size := wrote_size a
 apply callK_of (c_laws_toArchive a (by omega))
 simp only [↓reduceIte, go_sem]
 try intros
 apply callK_of (c_spec_StepWrite a (by omega))
 simp only [↓reduceIte, go_sem]
 try intros
 apply callK_of (c_laws_toArchive a (by omega))
 simp only [↓reduceIte, go_sem]
 try intros
 apply callK_of (c_impl_StepWrite a (by omega))
 simp only [↓reduceIte, go_sem]
 try intros
 apply callK_of (c_laws_eqArchive (wroteTo a) (wroteTo a))
 simp only [↓reduceIte, go_sem]
 try intros
 apply callK_of (c_laws_toArchive a (by omega))
 simp only [↓reduceIte, go_sem]
 try intros
 apply callK_of (c_laws_eqArchive a a)
 simp only [↓reduceIte, go_sem]
 try intros
 apply callIK_of (c_laws_markArchive a (1) (by omega) (by omega))
 simp only [↓reduceIte, go_sem]
 try intros
 have hk : ¬ ((1 + ((a).cts : Nat) : Int)) < 0 := by omega
 simp only [go_sem, hk]
 try intros
 apply callK_of (c_laws_eqArchive (wroteTo a) (wroteTo a))
 simp only [↓reduceIte, go_sem]
 try intros
 apply callIK_of (c_laws_markArchive (wroteTo a) (1) (by omega) (by omega))
 simp only [↓reduceIte, go_sem]
 try intros
 apply callK_of (c_laws_heldArchive (wroteTo a) (1) (by omega) (by omega))
 simp only [↓reduceIte, go_sem]
 have hq0 : ¬ ((1 + ((wroteTo a).cts : Nat) : Int)) < 0 := by omega
 try simp only [go_sem, hq0]
 try intros
 apply callK_of (c_laws_toArchive a (by omega))
 simp only [↓reduceIte, go_sem]
 try intros
 apply callK_of (c_impl_StepWrite a (by omega))
 simp only [↓reduceIte, go_sem]
 try intros
 apply callK_of (c_laws_eqArchive (wroteTo a) (wroteTo a))
 simp only [↓reduceIte, go_sem]
 try intros
 apply callK_of (c_laws_heldArchive (wroteTo a) (1) (by omega) (by omega))
 simp only [↓reduceIte, go_sem]
 have hq0 : ¬ ((1 + ((wroteTo a).cts : Nat) : Int)) < 0 := by omega
 try simp only [go_sem, hq0]
 try intros
end Go.Proofs.YtgkeplbnnjogiaaGreatR
