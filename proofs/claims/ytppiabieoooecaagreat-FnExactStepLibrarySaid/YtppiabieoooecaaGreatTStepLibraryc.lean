/- What the functions compute that the law of StepLibrary reaches: contracts, function by function. Conditions stand in each theorem. -/
import Derived.Test.YtppiabieoooecaaGreatTStepLibraryb
namespace Go.Proofs.YtppiabieoooecaaGreatR
open Go Go.RowKit Go.Proofs
set_option linter.unusedSimpArgs false
set_option linter.unusedVariables false
theorem idxF_pos {α : Type} {p : α → Bool} : ∀ {l : List α}, ¬ idxF p l < 0 → ∃ (n : Nat) (x : α), idxF p l = n ∧ l[n]? = some x
  | l, h => by
    unfold idxF at h ⊢
    split at h
    · rename_i ha
      rw [if_pos ha]
      obtain ⟨x, hx, hp⟩ := List.any_eq_true.1 ha
      have key : ∀ l : List α, x ∈ l → (l.takeWhile fun x => !p x).length < l.length := by
        intro l
        induction l with
        | nil => intro h; simp at h
        | cons y l ih =>
          intro h
          rw [List.takeWhile_cons]
          split
          · rename_i hy
            rcases List.mem_cons.1 h with rfl | h
            · simp [hp] at hy
            · have := ih h; simp only [List.length_cons]; omega
          · simp
      obtain ⟨y, hy⟩ := at_some (key l hx)
      exact ⟨_, y, rfl, hy⟩
    · omega
def libP (id : Int) (up : Bool) (x : GLibrary) : Bool := x.Id == id && (x.Up != up)
def setUp (l : List GLibrary) (n : Nat) (up : Bool) : List GLibrary := match l[n]? with
  | some x => l.set n { x with Up := up }
  | none => l
def libOk (a : GArchive) (id : Int) (up : Bool) : Bool := decide (0 ≤ idxF (libP id up) a.Libraries)
def libTo (a : GArchive) (id : Int) (up : Bool) : GArchive := if libOk a id up then { a with Libraries := setUp a.Libraries (idxF (libP id up) a.Libraries).toNat up } else a
theorem set_map_up {l : List GLibrary} {n : Nat} {x : GLibrary} {up : Bool} (h : l[n]? = some x) : (l.map GLibrary.enc).set n (GLibrary.enc { x with Up := up }) = (setUp l n up).map GLibrary.enc := by
  unfold setUp
  rw [h]
  simp only
  rw [List.map_set]
theorem lib_end {a : GArchive} {id : Int} {up : Bool} {n : Nat} {x : GLibrary} (hn : idxF (libP id up) a.Libraries = n) (hx : a.Libraries[n]? = some x) (hT : libOk a id up = true) :
    a.Libraries.length = ((List.map GLibrary.enc a.Libraries).set n (GLibrary.enc { x with Up := up })).length ∧
    (List.map GVersion.enc a.Site = List.map GVersion.enc (libTo a id up).Site ∧ List.map GOp.enc a.Script = List.map GOp.enc (libTo a id up).Script ∧
      List.map GContainer.enc a.Disk.Containers = List.map GContainer.enc (libTo a id up).Disk.Containers ∧ List.map GFound.enc a.Disk.Index = List.map GFound.enc (libTo a id up).Disk.Index ∧
      List.map GContainer.enc a.Disk.Wanted = List.map GContainer.enc (libTo a id up).Disk.Wanted ∧ List.map GExclusion.enc a.Exclusions = List.map GExclusion.enc (libTo a id up).Exclusions ∧
      (List.map GLibrary.enc a.Libraries).set n (GLibrary.enc { x with Up := up }) = List.map GLibrary.enc (libTo a id up).Libraries ∧ List.map encI a.Keys = List.map encI (libTo a id up).Keys ∧
      List.map GStatement.enc a.Statements = List.map GStatement.enc (libTo a id up).Statements ∧ a.Now = (libTo a id up).Now) ∧ true = libOk a id up := by
  have e : libTo a id up = { a with Libraries := setUp a.Libraries n up } := by unfold libTo; rw [if_pos hT, hn]; rfl
  refine ⟨by simp, ?_, hT.symm⟩
  rw [e]
  exact ⟨rfl, rfl, rfl, rfl, rfl, rfl, set_map_up hx, rfl, rfl, rfl⟩
def m_impl_StepLibrary_1 : MC :=
(.seq (pr [.box 3 0 (.s 0), .mv 4 (.c (.bool false))] [1,2,3])
(.seq (.reg [{ o := .fld 5 (.s 3) 0 }, { o := .load 6 false 1 (.s 5) }, { o := .load 7 false 1 (.s 1) }, { o := .bin 8 false .eql (.s 6) (.s 7) }, { o := .mv 9 (.s 8) }, { o := .fld 10 (.s 3) 2, g := some (9, true) }, { o := .load 11 false 1 (.s 10), g := some (9, true) }, { o := .load 12 false 1 (.s 2), g := some (9, true) }, { o := .bin 13 true .neq (.s 11) (.s 12), g := some (9, true) }, { o := .pick 14 (.s 9) (.s 13) (.c (.bool false)) }, { o := .mv 4 (.s 14) }] [4])
.ret))
theorem c_impl_StepLibrary_1 (x : GLibrary) (id : Int) (up : Bool) : Ctr Tryz.prog n_impl_StepLibrary_1 [aS x.enc, (false, [.pb [tI id]]), (false, [.pb [tB up]])] [rB (libP id up x)] := by
  refine ctr_at (M := m_impl_StepLibrary_1) (m := 1) (n := 15) (res := [(.tmp 4, [false])]) hmix Tryz.func164 rfl (by kernel_rfl) rfl (by kernel_rfl) (by kernel_rfl) (Nat.le_of_ble_eq_true rfl) ?_; unfold m_impl_StepLibrary_1
  intro hb
  clear hb
  simp only [↓bk_bind, ↓bk_map, ↓bk_ite, ↓bk_some, ↓reduceIte, Nat.reduceEqDiff, Nat.reduceLT, Nat.reduceLeDiff, Nat.reduceAdd, Nat.reduceMul, reduceCtorEq, List.reduceReplicate, go_sem]
  repeat' first
    | (refine And.intro ?_ ?_ <;> intro h)
  all_goals (unfold libP; cases x.Up <;> cases up <;> simp_all)
def m_impl_StepLibrary : MC :=
(.seq (pr [.box 3 0 (.s 0), .box 4 1 (.s 1), .box 5 2 (.s 2), .alloc 6 3 [.emp 9, .emp 4, .emp 4, .emp 6, .emp 4, .emp 5, .emp 4, .emp 1, .emp 4, .pl (.sc (.int .i64 0))], .mv 7 (.c (.bool false))] [3,4,5,6])
(.seq (pr [.load 10 true 10 (.s 3), .call 11 [4, 5, 6, 7, 8, 9, 10, 11, 12] (.f n_impl_copyArchive) [.s 10], .alloc 8 13 [.emp 9, .emp 4, .emp 4, .emp 6, .emp 4, .emp 5, .emp 4, .emp 1, .emp 4, .pl (.sc (.int .i64 0))], .store 10 (.s 8) (.s 11)] [3,4,5,6,8])
(.seq (pr [.fld 12 (.s 3) 6, .load 13 false 1 (.s 12), .clos 14 n_impl_StepLibrary_1 [4, 5], .call 15 [] (.f n_slices_IndexFunc_impl_Library_impl_Library) [.s 13, .s 14], .mv 9 (.s 15)] [5,6,8,9])
(.seq (.seq (pr [.mv 16 (.s 9), .bin 17 false .lss (.s 16) (.c (.int .i64 0))] [5,6,8,9,17])
(.cond (.s 17) (.seq (pr [.load 18 true 10 (.s 8), .store 10 (.s 6) (.s 18), .mv 7 (.c (.bool false))] [6,7])
.ret) .skip))
(.seq (pr [.fld 19 (.s 8) 6, .load 20 false 1 (.s 19), .mv 21 (.s 9), .load 22 false 1 (.s 5), .idx 23 4 (.s 20) (.s 21), .fld 24 (.s 23) 2, .store 1 (.s 24) (.s 22)] [6,8])
(.seq (pr [.load 25 true 10 (.s 8), .store 10 (.s 6) (.s 25), .mv 7 (.c (.bool true))] [6,7])
.ret))))))
theorem c_impl_StepLibrary (a : GArchive) (id : Int) (up : Bool) (hs : a.size ≤ 1073741824) : Ctr Tryz.prog n_impl_StepLibrary [aS a.enc, aI id, aB up] [rS (libTo a id up).enc, rB (libOk a id up)] := by
  refine ctr_at (M := m_impl_StepLibrary) (m := 14) (n := 26) (res := [(.cell 6 true 10, [true, true, true, true, true, true, true, true, true, false]), (.tmp 7, [false])]) hmix Tryz.func69 rfl (by kernel_rfl) rfl (by kernel_rfl) (by kernel_rfl) (Nat.le_of_ble_eq_true rfl) ?_; unfold m_impl_StepLibrary
  intro hb
  clear hb
  simp only [↓bk_bind, ↓bk_map, ↓bk_ite, ↓bk_some, ↓reduceIte, Nat.reduceEqDiff, Nat.reduceLT, Nat.reduceLeDiff, Nat.reduceAdd, Nat.reduceMul, reduceCtorEq, List.reduceReplicate, go_sem]
  apply callK_of (c_impl_copyArchive a hs)
  simp only [↓bk_bind, ↓bk_map, ↓bk_ite, ↓bk_some, ↓reduceIte, Nat.reduceEqDiff, Nat.reduceLT, Nat.reduceLeDiff, Nat.reduceAdd, Nat.reduceMul, reduceCtorEq, List.reduceReplicate, go_sem]
  intros
  apply callK_of (c_slices_IndexFunc_Library a.Libraries _ [.pb [tI id], .pb [tB up]] (libP id up) fun x _ => c_impl_StepLibrary_1 x id up)
  simp only [↓bk_bind, ↓bk_map, ↓bk_ite, ↓bk_some, ↓reduceIte, Nat.reduceEqDiff, Nat.reduceLT, Nat.reduceLeDiff, Nat.reduceAdd, Nat.reduceMul, reduceCtorEq, List.reduceReplicate, go_sem]
  intros
  refine And.intro ?_ ?_ <;> intro h
  · have hT : libOk a id up = false := by unfold libOk; rw [decide_eq_false (by omega)]
    simp [libTo, hT]
  · have hT : libOk a id up = true := by unfold libOk; rw [decide_eq_true (by omega)]
    obtain ⟨n, x, hn, hx⟩ := idxF_pos h
    have hlt := len_at hx
    have h1 : (0 : Int) ≤ n := by omega
    have h2 : (n : Int) < a.Libraries.length := by omega
    simp only [↓bk_bind, ↓bk_map, ↓bk_ite, ↓bk_some, ↓reduceIte, Nat.reduceEqDiff, Nat.reduceLT, Nat.reduceLeDiff, Nat.reduceAdd, Nat.reduceMul, reduceCtorEq, List.reduceReplicate, go_sem, hn, bk_eq hx, h1, h2]
    exact lib_end hn hx hT
def m_spec_StepLibrary : MC :=
(.seq (pr [.box 3 0 (.s 0), .alloc 6 1 [.emp 9, .emp 4, .emp 4, .emp 6, .emp 4, .emp 5, .emp 4, .emp 1, .emp 4, .pl (.sc (.int .i64 0))], .mv 7 (.c (.bool false))] [1,2,3,6])
(.seq (pr [.load 10 true 10 (.s 3), .call 11 [2, 3, 4, 5, 6, 7, 8, 9, 10] (.f n_spec_l32Copy) [.s 10], .alloc 8 11 [.emp 9, .emp 4, .emp 4, .emp 6, .emp 4, .emp 5, .emp 4, .emp 1, .emp 4, .pl (.sc (.int .i64 0))], .store 10 (.s 8) (.s 11)] [1,2,3,6,8])
(.seq (.seq (pr [.mv 9 (.c (.int .i64 0))] [1,2,3,6,8,9])
(.block 0 (.loop ([1,2,3,6,8,9], []) (.seq (.seq (pr [.mv 12 (.s 9), .fld 13 (.s 3) 6, .load 14 false 1 (.s 13), .len 15 false (.s 14), .bin 16 false .lss (.s 12) (.s 15)] [1,2,3,6,8,9,16])
(.cond (.s 16) .skip (.exit 0)))
(.seq (.block 1 (.seq (.reg [{ o := .fld 19 (.s 3) 6 }, { o := .load 20 false 1 (.s 19) }, { o := .mv 21 (.s 9) }, { o := .idx 22 4 (.s 20) (.s 21) }, { o := .fld 23 (.s 22) 0 }, { o := .load 24 false 1 (.s 23) }, { o := .mv 25 (.s 1) }, { o := .bin 26 false .eql (.s 24) (.s 25) }, { o := .mv 27 (.s 26) }, { o := .fld 28 (.s 3) 6, g := some (27, true) }, { o := .load 29 false 1 (.s 28), g := some (27, true) }, { o := .mv 30 (.s 9), g := some (27, true) }, { o := .idx 31 4 (.s 29) (.s 30), g := some (27, true) }, { o := .fld 32 (.s 31) 2, g := some (27, true) }, { o := .load 33 false 1 (.s 32), g := some (27, true) }, { o := .mv 34 (.s 2), g := some (27, true) }, { o := .bin 35 true .neq (.s 33) (.s 34), g := some (27, true) }, { o := .pick 36 (.s 27) (.s 35) (.c (.bool false)) }] [1,2,3,6,8,9,36])
(.cond (.s 36) (.seq (pr [.fld 37 (.s 8) 6, .load 38 false 1 (.s 37), .mv 39 (.s 9), .mv 40 (.s 2), .idx 41 4 (.s 38) (.s 39), .fld 42 (.s 41) 2, .store 1 (.s 42) (.s 40)] [6,8])
(.seq (pr [.load 43 true 10 (.s 8), .store 10 (.s 6) (.s 43), .mv 7 (.c (.bool true))] [6,7])
.ret)) .skip)))
(pr [.mv 17 (.s 9), .bin 18 false .add (.s 17) (.c (.int .i64 1)), .mv 9 (.s 18)] [1,2,3,6,8,9]))))))
(.seq (pr [.load 44 true 10 (.s 8), .store 10 (.s 6) (.s 44), .mv 7 (.c (.bool false))] [6,7])
.ret))))
theorem c_spec_StepLibrary (a : GArchive) (id : Int) (up : Bool) (hs : a.size ≤ 1073741824) : Ctr Tryz.prog n_spec_StepLibrary [aS a.enc, aI id, aB up] [rS (libTo a id up).enc, rB (libOk a id up)] := by
  refine ctr_at (M := m_spec_StepLibrary) (m := 12) (n := 45) (res := [(.cell 6 true 10, [true, true, true, true, true, true, true, true, true, false]), (.tmp 7, [false])]) hmix Tryz.func68 rfl (by kernel_rfl) rfl (by kernel_rfl) (by kernel_rfl) (Nat.le_of_ble_eq_true rfl) ?_; unfold m_spec_StepLibrary
  intro hb
  clear hb
  have hl : a.Libraries.length ≤ roomB := by simp only [GArchive.size] at hs; simp only [roomB]; omega
  simp only [↓bk_bind, ↓bk_map, ↓bk_ite, ↓bk_some, ↓reduceIte, Nat.reduceEqDiff, Nat.reduceLT, Nat.reduceLeDiff, Nat.reduceAdd, Nat.reduceMul, reduceCtorEq, List.reduceReplicate, go_sem]
  apply callK_of (c_spec_l32Copy a hs)
  simp only [↓bk_bind, ↓bk_map, ↓bk_ite, ↓bk_some, ↓reduceIte, Nat.reduceEqDiff, Nat.reduceLT, Nat.reduceLeDiff, Nat.reduceAdd, Nat.reduceMul, reduceCtorEq, List.reduceReplicate, go_sem]
  intros
  refine loopK_rng a.Libraries (fun k => [(9, vI k)]) (fun k => []) (fun k => ((a.Libraries.take k).any (libP id up)) = false) hl ?_
  simp only [↓bk_bind, ↓bk_map, ↓bk_ite, ↓bk_some, ↓reduceIte, Nat.reduceEqDiff, Nat.reduceLT, Nat.reduceLeDiff, Nat.reduceAdd, Nat.reduceMul, reduceCtorEq, List.reduceReplicate, go_sem]
  refine ⟨?_, by simp, ?_, ?_⟩
  · simp only [↓bk_bind, ↓bk_map, ↓bk_ite, ↓bk_some, ↓reduceIte, Nat.reduceEqDiff, Nat.reduceLT, Nat.reduceLeDiff, Nat.reduceAdd, Nat.reduceMul, reduceCtorEq, List.reduceReplicate, go_sem]
    try trivial
  · intro k x hx hI h0 h1 hw
    simp only [↓bk_bind, ↓bk_map, ↓bk_ite, ↓bk_some, ↓reduceIte, Nat.reduceEqDiff, Nat.reduceLT, Nat.reduceLeDiff, Nat.reduceAdd, Nat.reduceMul, reduceCtorEq, List.reduceReplicate, go_sem, bk_eq hx, h0, h1, hw]
    refine ⟨fun h2 => ⟨fun h3 => ?_, fun h3 => ?_⟩, fun h2 => ?_⟩
    · have hn := idxF_here hx hI (p := libP id up) (by unfold libP; rw [h2, beq_self_eq_true, Bool.true_and]; exact bne_iff_ne.2 h3)
      exact lib_end hn hx (by unfold libOk; rw [hn, decide_eq_true (by omega)])
    · exact anyF_step hx hI (by unfold libP; rw [h3]; simp)
    · exact anyF_step hx hI (by unfold libP; simp [h2])
  · intro hI
    simp only [↓bk_bind, ↓bk_map, ↓bk_ite, ↓bk_some, ↓reduceIte, Nat.reduceEqDiff, Nat.reduceLT, Nat.reduceLeDiff, Nat.reduceAdd, Nat.reduceMul, reduceCtorEq, List.reduceReplicate, go_sem, List.take_length]
    rw [List.take_length] at hI
    have hT : libOk a id up = false := by unfold libOk; rw [idxF_none hI]; rfl
    simp [libTo, hT]
theorem sum_set {α : Type} {f : α → Nat} : ∀ {l : List α} {n : Nat} {x y : α}, l[n]? = some x → f y = f x → ((l.set n y).map f).sum = (l.map f).sum
  | [], n, x, y, h, _ => by simp at h
  | z :: l, 0, x, y, h, e => by simp at h; subst h; simp [e]
  | z :: l, n + 1, x, y, h, e => by
    have := sum_set (l := l) (n := n) (by simpa using h) e
    simp only [List.set_cons_succ, List.map_cons, List.sum_cons, this]
theorem lib_size (a : GArchive) (id : Int) (up : Bool) : (libTo a id up).size ≤ a.size := by
  unfold libTo
  split
  · unfold setUp
    split
    · rename_i x hx
      simp only [GArchive.size, List.length_set]
      rw [sum_set (y := { x with Up := up }) hx (f := GLibrary.size) rfl]
      omega
    · exact Nat.le_refl _
  · exact Nat.le_refl _
def m_laws_FnExactStepLibrary : MC :=
(.seq (pr [.box 3 0 (.s 0), .mv 6 (.c (.bool false))] [1,2,3])
(.seq (pr [.mv 7 (.c (.int .i64 1048576))] [1,2,3,7])
(.seq (pr [.load 18 true 10 (.s 3), .mv 19 (.s 7), .call 20 [] (.f n_laws_szArchive) [.s 18, .s 19], .mv 7 (.s 20)] [1,2,3,7])
(.seq (.seq (pr [.mv 21 (.s 7), .bin 22 false .lss (.s 21) (.c (.int .i64 0))] [1,2,3,22])
(.cond (.s 22) (.seq (pr [.mv 6 (.c (.bool true))] [6])
.ret) .skip))
(.seq (pr [.load 24 true 10 (.s 3), .call 25 [1, 2, 3, 4, 5, 6, 7, 8, 9] (.f n_laws_toArchive) [.s 24], .mv 26 (.s 1), .mv 27 (.s 2), .call 28 [10, 11, 12, 13, 14, 15, 16, 17, 18] (.f n_spec_StepLibrary) [.s 25, .s 26, .s 27], .mv 23 (.s 28), .ext 29 (.s 23) 0, .ext 30 (.s 23) 1, .alloc 8 19 [.emp 9, .emp 4, .emp 4, .emp 6, .emp 4, .emp 5, .emp 4, .emp 1, .emp 4, .pl (.sc (.int .i64 0))], .store 10 (.s 8) (.s 29), .mv 9 (.s 30)] [1,2,3,8,9])
(.seq (pr [.load 31 true 10 (.s 3), .call 32 [20, 21, 22, 23, 24, 25, 26, 27, 28] (.f n_laws_toArchive) [.s 31], .alloc 10 29 [.emp 9, .emp 4, .emp 4, .emp 6, .emp 4, .emp 5, .emp 4, .emp 1, .emp 4, .pl (.sc (.int .i64 0))], .store 10 (.s 10) (.s 32)] [1,2,3,8,9,10])
(.seq (pr [.load 34 true 10 (.s 10), .mv 35 (.s 1), .mv 36 (.s 2), .call 37 [30, 31, 32, 33, 34, 35, 36, 37, 38] (.f n_impl_StepLibrary) [.s 34, .s 35, .s 36], .mv 33 (.s 37), .ext 38 (.s 33) 0, .ext 39 (.s 33) 1, .alloc 11 39 [.emp 9, .emp 4, .emp 4, .emp 6, .emp 4, .emp 5, .emp 4, .emp 1, .emp 4, .pl (.sc (.int .i64 0))], .store 10 (.s 11) (.s 38), .mv 12 (.s 39)] [1,2,3,8,9,10,11,12])
(.seq (.seq (.reg [{ o := .load 40 true 10 (.s 11) }, { o := .load 41 true 10 (.s 8) }, { o := .call 42 [] (.f n_laws_eqArchive) [.s 40, .s 41] }, { o := .un 43 .not (.s 42) }, { o := .mv 44 (.s 43) }, { o := .mv 45 (.s 12), g := some (44, false) }, { o := .mv 46 (.s 9), g := some (44, false) }, { o := .bin 47 true .neq (.s 45) (.s 46), g := some (44, false) }, { o := .pick 48 (.s 44) (.c (.bool true)) (.s 47) }] [1,2,3,8,9,10,11,12,48])
(.cond (.s 48) (.seq (pr [.mv 6 (.c (.bool false))] [6])
.ret) .skip))
(.seq (.seq (.dreg [{ o := .load 49 true 10 (.s 10), hs := [50,51], ho := [40,41,42,43,44,45,46,47,48] }, { o := .load 50 true 10 (.s 3), hs := [49] }, { o := .call 51 [40, 41, 42, 43, 44, 45, 46, 47, 48] (.f n_laws_toArchive) [.s 50], hs := [49], ws := [40,41,42,43,44,45,46,47,48], bf := [1] }, { o := .call 52 [] (.f n_laws_eqArchive) [.s 49, .s 51], bf := [0,1,2] }, { o := .un 53 .not (.s 52), bf := [0,1,2,3] }] [1,2,3,8,9,10,11,12,53])
(.cond (.s 53) (.seq (pr [.mv 6 (.c (.bool false))] [6])
.ret) .skip))
(.seq (pr [.mv 13 (.c (.int .i64 1))] [1,2,3,8,9,10,11,12,13])
(.seq (pr [.load 54 true 10 (.s 10), .mv 55 (.s 13), .callI 56 [] (.f n_laws_markArchive) [.s 54, .s 55] [20,21,22,23,24,25,26,27,28] [], .mv 13 (.s 56)] [1,2,3,8,9,11,12,13])
(.seq (.seq (.reg [{ o := .mv 57 (.s 13) }, { o := .bin 58 false .lss (.s 57) (.c (.int .i64 0)) }, { o := .mv 59 (.s 58) }, { o := .load 60 true 10 (.s 11), g := some (59, false) }, { o := .load 61 true 10 (.s 8), g := some (59, false) }, { o := .call 62 [] (.f n_laws_eqArchive) [.s 60, .s 61], g := some (59, false) }, { o := .un 63 .not (.s 62), g := some (59, false) }, { o := .pick 64 (.s 59) (.c (.bool true)) (.s 63) }, { o := .mv 65 (.s 64) }, { o := .mv 66 (.s 12), g := some (65, false) }, { o := .mv 67 (.s 9), g := some (65, false) }, { o := .bin 68 true .neq (.s 66) (.s 67), g := some (65, false) }, { o := .pick 69 (.s 65) (.c (.bool true)) (.s 68) }] [1,2,3,8,9,11,69])
(.cond (.s 69) (.seq (pr [.mv 6 (.c (.bool false))] [6])
.ret) .skip))
(.seq (pr [.mv 14 (.c (.int .i64 1))] [1,2,3,8,9,11,14])
(.seq (pr [.load 70 true 10 (.s 11), .mv 71 (.s 14), .callI 72 [] (.f n_laws_markArchive) [.s 70, .s 71] [30,31,32,33,34,35,36,37,38] [], .mv 14 (.s 72)] [1,2,3,8,9,11,14])
(.seq (pr [.mv 15 (.c (.int .i64 1))] [1,2,3,8,9,11,14,15])
(.seq (pr [.load 73 true 10 (.s 11), .mv 74 (.s 15), .call 75 [] (.f n_laws_heldArchive) [.s 73, .s 74], .mv 15 (.s 75)] [1,2,3,8,9,11,14,15])
(.seq (.seq (pr [.mv 76 (.s 15), .bin 77 false .lss (.s 76) (.c (.int .i64 0))] [1,2,3,8,9,11,14,15,77])
(.cond (.s 77) (.seq (pr [.mv 6 (.c (.bool false))] [6])
.ret) .skip))
(.seq (.seq (pr [.mv 78 (.s 15), .mv 79 (.s 14), .bin 80 false .neq (.s 78) (.s 79)] [1,2,3,8,9,11,14,80])
(.cond (.s 80) (.seq (pr [.mv 6 (.c (.bool false))] [6])
.ret) .skip))
(.seq (pr [.load 82 true 10 (.s 3), .call 83 [49, 50, 51, 52, 53, 54, 55, 56, 57] (.f n_laws_toArchive) [.s 82], .mv 84 (.s 1), .mv 85 (.s 2), .call 86 [58, 59, 60, 61, 62, 63, 64, 65, 66] (.f n_impl_StepLibrary) [.s 83, .s 84, .s 85], .mv 81 (.s 86), .ext 87 (.s 81) 0, .ext 88 (.s 81) 1, .alloc 16 67 [.emp 9, .emp 4, .emp 4, .emp 6, .emp 4, .emp 5, .emp 4, .emp 1, .emp 4, .pl (.sc (.int .i64 0))], .store 10 (.s 16) (.s 87), .mv 17 (.s 88)] [8,9,11,14,16,17])
(.seq (.seq (.reg [{ o := .load 89 true 10 (.s 16) }, { o := .load 90 true 10 (.s 8) }, { o := .call 91 [] (.f n_laws_eqArchive) [.s 89, .s 90] }, { o := .un 92 .not (.s 91) }, { o := .mv 93 (.s 92) }, { o := .mv 94 (.s 17), g := some (93, false) }, { o := .mv 95 (.s 9), g := some (93, false) }, { o := .bin 96 true .neq (.s 94) (.s 95), g := some (93, false) }, { o := .pick 97 (.s 93) (.c (.bool true)) (.s 96) }] [11,14,97])
(.cond (.s 97) (.seq (pr [.mv 6 (.c (.bool false))] [6])
.ret) .skip))
(.seq (pr [.mv 15 (.c (.int .i64 1))] [11,14,15])
(.seq (pr [.load 98 true 10 (.s 11), .mv 99 (.s 15), .call 100 [] (.f n_laws_heldArchive) [.s 98, .s 99], .mv 15 (.s 100)] [14,15])
(.seq (.seq (pr [.mv 101 (.s 15), .bin 102 false .lss (.s 101) (.c (.int .i64 0))] [14,15,102])
(.cond (.s 102) (.seq (pr [.mv 6 (.c (.bool false))] [6])
.ret) .skip))
(.seq (.seq (pr [.mv 103 (.s 15), .mv 104 (.s 14), .bin 105 false .neq (.s 103) (.s 104)] [105])
(.cond (.s 105) (.seq (pr [.mv 6 (.c (.bool false))] [6])
.ret) .skip))
(.seq (pr [.mv 6 (.c (.bool true))] [6])
.ret)))))))))))))))))))))))))
theorem c_laws_FnExactStepLibrary (a : GArchive) (id : Int) (up : Bool) : Ctr Tryz.prog n_laws_FnExactStepLibrary [aS a.enc, aI id, aB up] [rB true] := by
  refine ctr_at (M := m_laws_FnExactStepLibrary) (m := 68) (n := 106) (res := [(.tmp 6, [false])]) hmix Tryz.func17 rfl (by kernel_rfl) rfl (by kernel_rfl) (by kernel_rfl) (Nat.le_of_ble_eq_true rfl) ?_; unfold m_laws_FnExactStepLibrary
  intro hb
  clear hb
  simp only [↓bk_bind, ↓bk_map, ↓bk_ite, ↓bk_some, ↓reduceIte, Nat.reduceEqDiff, Nat.reduceLT, Nat.reduceLeDiff, Nat.reduceAdd, Nat.reduceMul, reduceCtorEq, List.reduceReplicate, go_sem]
  apply callK_of (c_laws_szArchive a _ (by omega))
  simp only [↓bk_bind, ↓bk_map, ↓bk_ite, ↓bk_some, ↓reduceIte, Nat.reduceEqDiff, Nat.reduceLT, Nat.reduceLeDiff, Nat.reduceAdd, Nat.reduceMul, reduceCtorEq, List.reduceReplicate, go_sem]
  intro _ hz
  have hs := szr_ok hz
  have hc_a := GArchive.cts_le a
  have hr0 := GArchive.cts_le (libTo a id up)
  have hl_lib_size := lib_size a id up
  apply callK_of (c_laws_toArchive a (by omega))
  simp only [↓bk_bind, ↓bk_map, ↓bk_ite, ↓bk_some, ↓reduceIte, Nat.reduceEqDiff, Nat.reduceLT, Nat.reduceLeDiff, Nat.reduceAdd, Nat.reduceMul, reduceCtorEq, List.reduceReplicate, go_sem]
  intros
  apply callK_of (c_spec_StepLibrary a id up (by omega))
  simp only [↓bk_bind, ↓bk_map, ↓bk_ite, ↓bk_some, ↓reduceIte, Nat.reduceEqDiff, Nat.reduceLT, Nat.reduceLeDiff, Nat.reduceAdd, Nat.reduceMul, reduceCtorEq, List.reduceReplicate, go_sem]
  intros
  apply callK_of (c_laws_toArchive a (by omega))
  simp only [↓bk_bind, ↓bk_map, ↓bk_ite, ↓bk_some, ↓reduceIte, Nat.reduceEqDiff, Nat.reduceLT, Nat.reduceLeDiff, Nat.reduceAdd, Nat.reduceMul, reduceCtorEq, List.reduceReplicate, go_sem]
  intros
  apply callK_of (c_impl_StepLibrary a id up (by omega))
  simp only [↓bk_bind, ↓bk_map, ↓bk_ite, ↓bk_some, ↓reduceIte, Nat.reduceEqDiff, Nat.reduceLT, Nat.reduceLeDiff, Nat.reduceAdd, Nat.reduceMul, reduceCtorEq, List.reduceReplicate, go_sem]
  intros
  apply callK_of (c_laws_eqArchive (libTo a id up) (libTo a id up))
  simp only [↓bk_bind, ↓bk_map, ↓bk_ite, ↓bk_some, ↓reduceIte, Nat.reduceEqDiff, Nat.reduceLT, Nat.reduceLeDiff, Nat.reduceAdd, Nat.reduceMul, reduceCtorEq, List.reduceReplicate, go_sem]
  intros
  apply callK_of (c_laws_toArchive a (by omega))
  simp only [↓bk_bind, ↓bk_map, ↓bk_ite, ↓bk_some, ↓reduceIte, Nat.reduceEqDiff, Nat.reduceLT, Nat.reduceLeDiff, Nat.reduceAdd, Nat.reduceMul, reduceCtorEq, List.reduceReplicate, go_sem]
  intros
  apply callK_of (c_laws_eqArchive a a)
  simp only [↓bk_bind, ↓bk_map, ↓bk_ite, ↓bk_some, ↓reduceIte, Nat.reduceEqDiff, Nat.reduceLT, Nat.reduceLeDiff, Nat.reduceAdd, Nat.reduceMul, reduceCtorEq, List.reduceReplicate, go_sem]
  intros
  apply callIK_of (c_laws_markArchive a (1) (by omega) (by omega))
  simp only [↓bk_bind, ↓bk_map, ↓bk_ite, ↓bk_some, ↓reduceIte, Nat.reduceEqDiff, Nat.reduceLT, Nat.reduceLeDiff, Nat.reduceAdd, Nat.reduceMul, reduceCtorEq, List.reduceReplicate, go_sem]
  intros
  have hk : ¬ ((1 + ((a).cts : Nat) : Int)) < 0 := by omega
  simp only [↓bk_bind, ↓bk_map, ↓bk_ite, ↓bk_some, ↓reduceIte, Nat.reduceEqDiff, Nat.reduceLT, Nat.reduceLeDiff, Nat.reduceAdd, Nat.reduceMul, reduceCtorEq, List.reduceReplicate, go_sem, hk]
  try intros
  apply callK_of (c_laws_eqArchive (libTo a id up) (libTo a id up))
  simp only [↓bk_bind, ↓bk_map, ↓bk_ite, ↓bk_some, ↓reduceIte, Nat.reduceEqDiff, Nat.reduceLT, Nat.reduceLeDiff, Nat.reduceAdd, Nat.reduceMul, reduceCtorEq, List.reduceReplicate, go_sem]
  intros
  apply callIK_of (c_laws_markArchive (libTo a id up) (1) (by omega) (by omega))
  simp only [↓bk_bind, ↓bk_map, ↓bk_ite, ↓bk_some, ↓reduceIte, Nat.reduceEqDiff, Nat.reduceLT, Nat.reduceLeDiff, Nat.reduceAdd, Nat.reduceMul, reduceCtorEq, List.reduceReplicate, go_sem]
  intros
  apply callK_of (c_laws_heldArchive (libTo a id up) (1) (by omega) (by omega))
  simp only [↓bk_bind, ↓bk_map, ↓bk_ite, ↓bk_some, ↓reduceIte, Nat.reduceEqDiff, Nat.reduceLT, Nat.reduceLeDiff, Nat.reduceAdd, Nat.reduceMul, reduceCtorEq, List.reduceReplicate, go_sem]
  have hq0 : ¬ ((1 + ((libTo a id up).cts : Nat) : Int)) < 0 := by omega
  try simp only [↓bk_bind, ↓bk_map, ↓bk_ite, ↓bk_some, ↓reduceIte, Nat.reduceEqDiff, Nat.reduceLT, Nat.reduceLeDiff, Nat.reduceAdd, Nat.reduceMul, reduceCtorEq, List.reduceReplicate, go_sem, hq0]
  try intros
  apply callK_of (c_laws_toArchive a (by omega))
  simp only [↓bk_bind, ↓bk_map, ↓bk_ite, ↓bk_some, ↓reduceIte, Nat.reduceEqDiff, Nat.reduceLT, Nat.reduceLeDiff, Nat.reduceAdd, Nat.reduceMul, reduceCtorEq, List.reduceReplicate, go_sem]
  intros
  apply callK_of (c_impl_StepLibrary a id up (by omega))
  simp only [↓bk_bind, ↓bk_map, ↓bk_ite, ↓bk_some, ↓reduceIte, Nat.reduceEqDiff, Nat.reduceLT, Nat.reduceLeDiff, Nat.reduceAdd, Nat.reduceMul, reduceCtorEq, List.reduceReplicate, go_sem]
  intros
  apply callK_of (c_laws_eqArchive (libTo a id up) (libTo a id up))
  simp only [↓bk_bind, ↓bk_map, ↓bk_ite, ↓bk_some, ↓reduceIte, Nat.reduceEqDiff, Nat.reduceLT, Nat.reduceLeDiff, Nat.reduceAdd, Nat.reduceMul, reduceCtorEq, List.reduceReplicate, go_sem]
  intros
  apply callK_of (c_laws_heldArchive (libTo a id up) (1) (by omega) (by omega))
  simp only [↓bk_bind, ↓bk_map, ↓bk_ite, ↓bk_some, ↓reduceIte, Nat.reduceEqDiff, Nat.reduceLT, Nat.reduceLeDiff, Nat.reduceAdd, Nat.reduceMul, reduceCtorEq, List.reduceReplicate, go_sem]
  have hq0 : ¬ ((1 + ((libTo a id up).cts : Nat) : Int)) < 0 := by omega
  try simp only [↓bk_bind, ↓bk_map, ↓bk_ite, ↓bk_some, ↓reduceIte, Nat.reduceEqDiff, Nat.reduceLT, Nat.reduceLeDiff, Nat.reduceAdd, Nat.reduceMul, reduceCtorEq, List.reduceReplicate, go_sem, hq0]
  try intros
end Go.Proofs.YtppiabieoooecaaGreatR
