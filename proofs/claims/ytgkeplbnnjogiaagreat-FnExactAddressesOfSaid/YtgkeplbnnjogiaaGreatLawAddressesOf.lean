/- The law FnExactAddressesOf: AddressesOf of the program and of the reference agree on all arguments. No condition. -/
import Derived.Test.YtgkeplbnnjogiaaGreatRows
import Derived.Test.YtgkeplbnnjogiaaGreatTAddressesOfb
import Derived.WalkKit
import Derived.ProofKit
import Derived.OpenShut
import Derived.ShutString
import Derived.ChangeOld
import Derived.Below
import Derived.SizedLaws
namespace Go.Proofs.YtgkeplbnnjogiaaGreat.fnExactAddressesOf
open Go.ChangeShapes Go.WideShapes Go.ChangeAt Go.RowKit Go.Proofs.YtgkeplbnnjogiaaGreatR
set_option linter.unusedVariables false
theorem own : ownKnob Tryz.prog.godebug = none := by kernel_rfl
set_option maxHeartbeats 4000000 in
theorem lifted (os : Os) (started : os.Started) (H : Type) (enc : TypeId × Value → H) :
    ReturnsInHanded {} Tryz.checked os 5 .any (Rows.fnExactAddressesOfSpec.pre6 enc Tryz.prog Tryz.f5 Rows.fnExactAddressesOfRow.domain false) (Rows.fnExactAddressesOfSpec.post enc Tryz.prog Tryz.f5 false true false false) :=
  returnsInHanded_of_change_sized (C := Tryz.checked) own started (by kernel_rfl) Tryz.func5
    (ChangeSpec.witness6 (enc := enc) (C := Tryz.checked) false ⟨#[], #[.agg #[.slice none 0 0, .slice none 0 0, .slice none 0 0, .slice none 0 0, .slice none 0 0, .slice none 0 0, .slice none 0 0, .slice none 0 0, .slice none 0 0, .int .i64 0]], []⟩ 8 (by kernel_rfl) (by kernel_rfl) (by kernel_rfl) (by kernel_rfl))
    (law_contract (P := Tryz.prog) (fun _ => trivial) (tys := [GArchive.dt]) (tb := 4) (by kernel_rfl) rfl rfl Tryz.underlying4
      (fun ds hl => by obtain ⟨a0, rfl⟩ : ∃ a0, ds = [a0] := (match ds, hl with | [a0], _ => ⟨a0, rfl⟩); rfl)
      (fun ys h => by
        match ys, h with
        | [(_, _)], ⟨rfl, h0, _⟩ =>
          obtain ⟨a0, rfl⟩ := GArchive.of h0
          exact c_laws_FnExactAddressesOf a0))
set_option maxRecDepth 100000
def io1 : List Char := ['h', 'a', 'r', 'n', 'e', 's', 's', ' ', 'a', '6', '1', 'b', '0', '2', '1', '1', 'd', '8', '5', 'e', 'c', '8', 'e', '9', '6', '7', '4', 'b', '1', '7', '4', '2', '5', '4', '5', '8', '0', '9', '9', '1', '4', '7', '1', '2', 'd', 'f', '7', '7', '1', '3', '4', '5', 'f', '5', '4', 'b', '8', '8', '1', '0', 'b', 'f', '6', '4', 'b', 'b', 'b', '2', 'f', '4', 'a', '3', ' ', 'c', 'u', 't', ' ']
def io2 : List Char := ['a', 't', ' ', 'l', 'o', 'o', 'p', '.', 'e', 'x', 'a', 'm', 'p', 'l', 'e', '/', 'g', '0', '3', '0', '0', '2', '/', 'l', 'a', 'w', 's', '.', 'F', 'n', 'E', 'x', 'a', 'c', 't', 'I', 's', 'P', 'r', 'o', 'v', 'e', 'n', ' ', 'l', 'o', 'o', 'p', '.', 'e', 'x', 'a', 'm', 'p', 'l', 'e', '/', 'g', '0', '3', '0', '0', '2', '/', 'l', 'a', 'w', 's', '.', 'F', 'n', 'E', 'x', 'a', 'c', 't', 'S', 'a', 'v', 'e', 'd', 'B', 'y', ' ', 'l', 'o', 'o', 'p', '.', 'e', 'x', 'a', 'm', 'p', 'l', 'e', '/', 'g', '0', '3', '0', '0', '2', '/', 'l', 'a', 'w', 's', '.', 'F', 'n', 'E', 'x', 'a', 'c', 't', 'A', 'd', 'd', 'r', 'e', 's', 's', 'e', 's', 'O', 'f', ' ', 'l', 'o', 'o', 'p', '.', 'e', 'x', 'a', 'm', 'p', 'l', 'e', '/', 'g', '0', '3', '0', '0', '2', '/', 'l', 'a', 'w', 's', '.', 'F', 'n', 'E', 'x', 'a', 'c', 't', 'S', 't', 'e', 'p', 'W', 'r', 'i', 't', 'e', ' ', 'l', 'o', 'o', 'p', '.', 'e', 'x', 'a', 'm', 'p', 'l', 'e', '/', 'g', '0', '3', '0', '0', '2', '/', 'l', 'a', 'w', 's', '.', 'F', 'n', 'E', 'x', 'a', 'c', 't', 'S', 't', 'e', 'p', 'R', 'e', 'p', 'a', 'i', 'r', ' ', 'l', 'o', 'o', 'p', '.', 'e', 'x', 'a', 'm', 'p', 'l', 'e', '/', 'g', '0', '3', '0', '0', '2', '/', 'l', 'a', 'w', 's', '.', 'F', 'n', 'E', 'x', 'a', 'c', 't', 'P', 'a', 'r', 't', 's', 'O', 'f', ' ', 'l', 'o', 'o', 'p', '.', 'e', 'x', 'a', 'm', 'p', 'l', 'e', '/', 'g', '0', '3', '0', '0', '2', '/', 'l', 'a', 'w', 's', '.', 'F', 'n', 'E', 'x', 'a', 'c', 't', 'Q', 'u', 'a', 'l', 'i', 't', 'y', 'N', 'o', 'w', ' ', 'l', 'o', 'o', 'p', '.', 'e', 'x', 'a', 'm', 'p', 'l', 'e', '/', 'g', '0', '3', '0', '0', '2', '/', 'l', 'a', 'w', 's', '.', 'F', 'n', 'E', 'x', 'a', 'c', 't', 'R', 'e', 'a', 'd', 'P', 'a', 'g', 'e', ' ', 'l', 'o', 'o', 'p', '.', 'e', 'x', 'a', 'm', 'p', 'l', 'e', '/', 'g', '0', '3', '0', '0', '2', '/', 'l', 'a', 'w', 's', '.', 'F', 'n', 'E', 'x', 'a', 'c', 't', 'K', 'e', 'e', 'p', 'V', 'i', 's', 'i', 't', ' ', 'l', 'o', 'o', 'p', '.', 'e', 'x', 'a', 'm', 'p', 'l', 'e', '/', 'g', '0', '3', '0', '0', '2', '/', 'l', 'a', 'w', 's', '.', 'F', 'n', 'E', 'x', 'a', 'c', 't', 'S', 't', 'e', 'p', 'V', 'i', 's', 'i', 't']
theorem io : Tryz.pinned.checked.prog.initOrder = String.ofList (io1 ++ io2) := Eq.trans (b := "harness a61b0211d85ec8e9674b1742545809914712df771345f54b8810bf64bbb2f4a3 cut at loop.example/g03002/laws.FnExactIsProven loop.example/g03002/laws.FnExactSavedBy loop.example/g03002/laws.FnExactAddressesOf loop.example/g03002/laws.FnExactStepWrite loop.example/g03002/laws.FnExactStepRepair loop.example/g03002/laws.FnExactPartsOf loop.example/g03002/laws.FnExactQualityNow loop.example/g03002/laws.FnExactReadPage loop.example/g03002/laws.FnExactKeepVisit loop.example/g03002/laws.FnExactStepVisit") (by kernel_rfl) (by rfl)
theorem cut : Cut Tryz.pinned.checked.prog := cut_of ['a', '6', '1', 'b', '0', '2', '1', '1', 'd', '8', '5', 'e', 'c', '8', 'e', '9', '6', '7', '4', 'b', '1', '7', '4', '2', '5', '4', '5', '8', '0', '9', '9', '1', '4', '7', '1', '2', 'd', 'f', '7', '7', '1', '3', '4', '5', 'f', '5', '4', 'b', '8', '8', '1', '0', 'b', 'f', '6', '4', 'b', 'b', 'b', '2', 'f', '4', 'a', '3'] io1 io2 io (fun r => by kernel_rfl) (by kernel_rfl)
theorem lays : Tryz.pinned.checked.prog.laysLater = false := by kernel_rfl
theorem refl : Tryz.pinned.checked.prog.bearsReflect = false := by kernel_rfl
theorem rows : Tryz.pinned.checked.prog.doorRows = [] := by kernel_rfl
theorem ips : Tryz.pinned.checked.prog.inPlace 5 = Rows.fnExactAddressesOfRow.inPlace := by kernel_rfl
theorem unf : Tryz.pinned.checked.prog.unfollowed 5 = Rows.fnExactAddressesOfRow.unfollowed := by kernel_rfl
theorem recs : Tryz.pinned.checked.prog.recurses 5 = true := by unfold Program.recurses; rw [unf]; rfl
theorem vns : Tryz.pinned.checked.prog.varsNamed 5 = Rows.fnExactAddressesOfRow.named := by kernel_rfl
theorem closed : joinedFacts Tryz.pinned.checked.prog 5 Tryz.f5 Rows.fnExactAddressesOfSpec Rows.fnExactAddressesOfRow = true := by
  unfold joinedFacts
  rw [recs, ips, unf, vns, may_of cut lays refl rows, lif_of cut, mak_of cut]
  kernel_rfl
theorem over : Rows.fnExactAddressesOfRow.holds Tryz.pinned (OpenSpec.ofChange Rows.fnExactAddressesOfSpec) :=
  OpenClaim.holds_of_wide 5 Tryz.f5 rfl rfl rfl rfl rfl rfl rfl ⟨rfl, rfl, rfl, rfl, rfl⟩ rfl rfl rfl rfl rfl (by kernel_rfl) Tryz.func5 closed
    (of_decide_eq_true (by kernel_rfl)) (by unfold Func.isWrapper; first | (rw [if_pos (by decide +kernel)]; kernel_rfl) | (rw [if_neg (by decide +kernel)]; exact ⟨rfl, rfl⟩))
    (fun os started H enc _ => lifted os started H enc)
theorem proved : Rows.FnExactAddressesOfSaid := over
#print axioms proved
end Go.Proofs.YtgkeplbnnjogiaaGreat.fnExactAddressesOf
namespace Go.Proofs.YtgkeplbnnjogiaaGreat
/-- The row, under a short name, for the claim. -/
theorem fnExactAddressesOf_holds : Rows.FnExactAddressesOfSaid := fnExactAddressesOf.proved
end Go.Proofs.YtgkeplbnnjogiaaGreat
