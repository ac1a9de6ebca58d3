/- The law FnExactFaultOf: FaultOf of the program and of the reference agree on all arguments. No condition. -/
import Derived.Test.YtpeabgkoknjojaaGreatDoorRows
import Derived.Test.YtpeabgkoknjojaaGreatDoorTFaultOfc
import Derived.WalkKit
import Derived.ProofKit
import Derived.OpenShut
import Derived.ShutString
import Derived.ChangeOld
import Derived.Below
import Derived.SizedLaws
import Derived.Handy
import Derived.Lay
import Derived.SevenTiedAt
import Derived.LaidMore
import Derived.Lib.LaidTab
import Derived.Lib.ItoaNum
import Derived.Test.YtpeabgkoknjojaaGreatDoorCards
import Derived.Test.YtpeabgkoknjojaaGreatDoorTie
namespace Go.Proofs.YtpeabgkoknjojaaGreatDoor.fnExactFaultOf
open Go.ChangeShapes Go.WideShapes Go.ChangeAt Go.RowKit Go.Proofs.YtpeabgkoknjojaaGreatDoorR
set_option linter.unusedVariables false
theorem own : ownKnob Tryz.prog.godebug = none := by kernel_rfl
set_option maxHeartbeats 4000000 in
def laidD : List (String × DataW Unit) := [("math/bits.deBruijn32tab", Rows.laid_math_bits_deBruijn32tab), ("math/bits.deBruijn64tab", Rows.laid_math_bits_deBruijn64tab), ("internal/strconv.uint64pow10", Rows.laid_internal_strconv_uint64pow10)]
theorem gTab : Tryz.prog.globalNamed "internal/strconv.uint64pow10" = some 1 := by kernel_rfl
theorem tTab : (Tryz.prog.globals[1]?).map (·.type) = some 302 := by kernel_rfl
theorem datum {H : Type} : (Rows.laid_internal_strconv_uint64pow10 : DataW H) = Lib.tabData .u64 Lib.pow10Tab := by rfl
theorem var_keep {P : Program} {W w : World} {n : String} {cs : Array Value} (h : W.var? P n = some cs) (hb : Below W.heap.size W w) : w.var? P n = some cs := by
  unfold World.var? at *
  obtain ⟨g, hg, h⟩ := Option.bind_eq_some_iff.1 h
  rw [hg, Option.bind_some]
  have hlt : g < W.heap.size := by
    rcases Nat.lt_or_ge g W.heap.size with h1 | h1
    · exact h1
    · rw [Array.getElem?_eq_none h1] at h; simp at h
  rw [hb.block g hlt]
  exact h
theorem tabD {W w : World} (h : laidMetH Tryz.prog laidD W) (hb : Below W.heap.size W w) : TabW w := by
  rw [MakeChecks.laidMetH_plain _ _ _ (by kernel_rfl)] at h
  obtain ⟨ps, ⟨g0, t0, cs0, f0, p0, q0, hg0, ht0, hv0, hd0, ⟨g1, t1, cs1, f1, p1, q1, hg1, ht1, hv1, hd1, ⟨g2, t2, cs2, f2, p2, q2, hg2, ht2, hv2, hd2, _, _⟩, _⟩, _⟩, _⟩ := h
  obtain rfl := Option.some.inj (gTab.symm.trans hg2)
  obtain rfl := Option.some.inj (tTab.symm.trans ht2)
  rw [datum] at hd2
  refine var_keep (W := W) ?_ hb
  rw [hv2, ← Lib.cells_of_tab Tryz.underlying302 Tryz.underlying258 (by kernel_rfl) (by kernel_rfl) hd2]
set_option maxRecDepth 100000 in
theorem lifted (os : Os) (started : os.Started) (H : Type) (enc : TypeId × Value → H) :
    ReturnsInHanded {} Tryz.checked os 3 .any (fun w args => (Rows.fnExactFaultOfSpec.pre enc Tryz.prog Tryz.f3 [] false w args ∧ laidMetH Tryz.prog laidD w) ∧ sizedMet enc Tryz.prog Tryz.f3 (OpenSpec.ofChange Rows.fnExactFaultOfSpec) false w args)
      (Rows.fnExactFaultOfSpec.post enc Tryz.prog Tryz.f3 false true false false) :=
  returnsInHanded_of_change_and (C := Tryz.checked) (X := fun w _ => laidMetH Tryz.prog laidD w) (fun _ _ _ hh h => h.of_heap hh) own started (by kernel_rfl) Tryz.func3
    (ChangeSpec.witness_shaped (enc := enc) (C := Tryz.checked) (os := os) (X := fun w _ => laidMetH Tryz.prog laidD w) false (World.laidAll Tryz.prog os laidD) #[.agg #[.slice none 0 0, .slice none 0 0, .slice none 0 0, .slice none 0 0, .slice none 0 0, .slice none 0 0, .slice none 0 0, .slice none 0 0, .slice none 0 0, .int .i64 0]] 8 (World.laidAll_os _ _ _)
      (World.shaped_of_ZipB (by kernel_rfl) (by kernel_rfl)) (by kernel_rfl) (by kernel_rfl) (by kernel_rfl)
      (by rw [MakeChecks.laidMetH_plain _ _ _ (by kernel_rfl)]; exact laidMet_laidAll _ (by kernel_rfl) (by kernel_rfl)))
    (law_contract_x (P := Tryz.prog) (X := fun w => laidMetH Tryz.prog laidD w) (fun W h w hb => tabD h hb) (tys := [GArchive.dt]) (tb := 4) (by kernel_rfl) rfl rfl Tryz.underlying4
      (fun ds hl => by obtain ⟨a0, rfl⟩ : ∃ a0, ds = [a0] := (match ds, hl with | [a0], _ => ⟨a0, rfl⟩); rfl)
      (fun ys h => by
        match ys, h with
        | [(_, _)], ⟨rfl, h0, _⟩ =>
          obtain ⟨a0, rfl⟩ := GArchive.of h0
          exact c_laws_FnExactFaultOf a0))
set_option maxRecDepth 100000
def io1 : List Char := ['h', 'a', 'r', 'n', 'e', 's', 's', ' ', 'd', 'd', 'b', '2', '8', 'a', '1', '9', '0', 'e', '3', '1', 'c', '3', '3', '8', '1', 'e', '2', 'e', 'c', 'a', '0', '9', '2', '5', '9', '8', '2', 'f', '7', 'c', '8', '9', 'a', '6', 'e', '3', '1', '5', 'c', 'a', '2', 'a', 'b', '8', '6', '0', 'a', '9', 'd', '5', '0', '2', '6', '4', 'c', '2', '2', 'd', '6', 'b', '9', '4', ' ', 'c', 'u', 't', ' ']
def io2 : List Char := ['a', 't', ' ', 'l', 'o', 'o', 'p', '.', 'e', 'x', 'a', 'm', 'p', 'l', 'e', '/', 'g', '0', '3', '0', '0', '2', '/', 'l', 'a', 'w', 's', '.', 'F', 'n', 'E', 'x', 'a', 'c', 't', 'F', 'a', 'u', 'l', 't', 'O', 'f']
theorem io : Tryz.pinned.checked.prog.initOrder = String.ofList (io1 ++ io2) := Eq.trans (b := "harness ddb28a190e31c3381e2eca0925982f7c89a6e315ca2ab860a9d50264c22d6b94 cut at loop.example/g03002/laws.FnExactFaultOf") (by kernel_rfl) (by rfl)
theorem cut : Cut Tryz.pinned.checked.prog := cut_of ['d', 'd', 'b', '2', '8', 'a', '1', '9', '0', 'e', '3', '1', 'c', '3', '3', '8', '1', 'e', '2', 'e', 'c', 'a', '0', '9', '2', '5', '9', '8', '2', 'f', '7', 'c', '8', '9', 'a', '6', 'e', '3', '1', '5', 'c', 'a', '2', 'a', 'b', '8', '6', '0', 'a', '9', 'd', '5', '0', '2', '6', '4', 'c', '2', '2', 'd', '6', 'b', '9', '4'] io1 io2 io (fun r => by kernel_rfl) (by kernel_rfl)
theorem lays : Tryz.pinned.checked.prog.laysLater = false := by kernel_rfl
theorem refl : Tryz.pinned.checked.prog.bearsReflect = false := by kernel_rfl
theorem rows : Tryz.pinned.checked.prog.doorFits [] = true := by kernel_rfl
theorem ips : Tryz.pinned.checked.prog.inPlace 3 = Rows.fnExactFaultOfRow.inPlace := by kernel_rfl
theorem unf : Tryz.pinned.checked.prog.unfollowed 3 = Rows.fnExactFaultOfRow.unfollowed := by kernel_rfl
theorem recs : Tryz.pinned.checked.prog.recurses 3 = true := by unfold Program.recurses; rw [unf]; rfl
theorem vns : Tryz.pinned.checked.prog.varsNamed 3 = Rows.fnExactFaultOfRow.named := by kernel_rfl
theorem closed : joinedFacts Tryz.pinned.checked.prog 3 Tryz.f3 Rows.fnExactFaultOfSpec Rows.fnExactFaultOfRow = true := by
  unfold joinedFacts
  rw [recs, ips, unf, vns, may_of2 cut lays refl rows, lif_of cut, mak_of cut]
  kernel_rfl
theorem over : Rows.fnExactFaultOfRow.holds Tryz.pinned (OpenSpec.ofChange Rows.fnExactFaultOfSpec) :=
  OpenClaim.holds_of_wide 3 Tryz.f3 rfl rfl rfl rfl rfl rfl rfl ⟨rfl, rfl, rfl, rfl, rfl⟩ rfl rfl rfl rfl rfl (by kernel_rfl) Tryz.func3 closed
    (of_decide_eq_true (by kernel_rfl)) (by unfold Func.isWrapper; first | (rw [if_pos (by decide +kernel)]; kernel_rfl) | (rw [if_neg (by decide +kernel)]; exact ⟨rfl, rfl⟩))
    (fun os started H enc _ => lifted os started H enc)
set_option maxRecDepth 100000 in
theorem card : Rows.FnExactFaultOfCardSaid :=
  Claim7.holds_tied_plain_at .later [] [.data, .data, .data] true Rows.fnExactFaultOfCard.stood.harness false over (fun _ h => by cases h) (by kernel_rfl) (fun _ h => by cases h) fnExactFaultOf_row_tie rfl ⟨rfl, rfl⟩ (by kernel_rfl) rfl
    (fun f fn hf hfn => by
      obtain rfl : f = 3 := Option.some.inj ((show Tryz.prog.funcNamed "loop.example/g03002/laws.FnExactFaultOf" = some 3 by kernel_rfl).symm.trans hf) |>.symm
      obtain rfl : fn = Tryz.f3 := (Option.some.inj (Tryz.func3.symm.trans hfn)).symm
      exact ⟨by kernel_rfl, fun j t ht => by
        rw [Tryz.params3] at ht
        have hm : t ∈ [33] := by simpa using Array.mem_of_getElem? ht
        have hall : ([33].all fun u => !Tryz.prog.wantsStandIn u) = true := by kernel_rfl
        exact (show Tryz.prog.wantsStandIn t = false by simpa using List.all_eq_true.1 hall t hm)⟩)
    (by kernel_rfl)
theorem proved : Rows.FnExactFaultOfCardSaid := card
#print axioms proved
end Go.Proofs.YtpeabgkoknjojaaGreatDoor.fnExactFaultOf
namespace Go.Proofs.YtpeabgkoknjojaaGreatDoor
/-- The row, under a short name, for the claim. -/
theorem fnExactFaultOf_holds : Rows.FnExactFaultOfCardSaid := fnExactFaultOf.proved
end Go.Proofs.YtpeabgkoknjojaaGreatDoor
