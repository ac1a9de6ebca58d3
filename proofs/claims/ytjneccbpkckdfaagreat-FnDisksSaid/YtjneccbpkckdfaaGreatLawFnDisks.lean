/- The law FnDisks: it says true, whatever its input. No condition. -/
import Derived.Test.YtjneccbpkckdfaaGreatRows
import Derived.Test.YtjneccbpkckdfaaGreatTFnDisksb
import Derived.WalkKit
import Derived.ProofKit
import Derived.OpenShut
import Derived.ShutString
import Derived.ChangeOld
import Derived.Below
import Derived.SizedLaws
namespace Go.Proofs.YtjneccbpkckdfaaGreat.fnDisks
open Go.ChangeShapes Go.WideShapes Go.ChangeAt Go.RowKit Go.Proofs.YtjneccbpkckdfaaGreatR
set_option linter.unusedVariables false
theorem isA_nil {ys : List (Bool × List T)} (h : IsA [] ys) : ys = [] := by
  cases ys with
  | nil => rfl
  | cons y ys => exact h.elim
theorem isA_cons {ty : DT} {tys : List DT} {ys : List (Bool × List T)} (h : IsA (ty :: tys) ys) : ∃ x zs, ys = (isSt ty, x) :: zs ∧ IsT ty x ∧ IsA tys zs := by
  cases ys with
  | nil => exact h.elim
  | cons y ys => exact ⟨y.2, ys, by rw [← h.1], h.2.1, h.2.2⟩
theorem own : ownKnob Tryz.prog.godebug = none := by kernel_rfl
set_option maxHeartbeats 4000000 in
theorem lifted (os : Os) (started : os.Started) (H : Type) (enc : TypeId × Value → H) :
    ReturnsInHanded {} Tryz.checked os 7 .any (Rows.fnDisksSpec.pre6 enc Tryz.prog Tryz.f7 Rows.fnDisksRow.domain false) (Rows.fnDisksSpec.post enc Tryz.prog Tryz.f7 false true false false) :=
  returnsInHanded_of_change_sized (C := Tryz.checked) own started (by kernel_rfl) Tryz.func7
    (ChangeSpec.witness6 (enc := enc) (C := Tryz.checked) false ⟨#[], #[.slice none 0 0], []⟩ 8 (by kernel_rfl) (by kernel_rfl) (by kernel_rfl) (by kernel_rfl))
    (law_contract (P := Tryz.prog) (fun _ => trivial) (tys := [.sl .u8]) (tb := 4) (by kernel_rfl) rfl rfl Tryz.underlying4
      (fun ds hl => by obtain ⟨a0, rfl⟩ : ∃ a0, ds = [a0] := (match ds, hl with | [a0], _ => ⟨a0, rfl⟩); rfl)
      (fun ys h => by
          obtain ⟨x0, ys0, rfl, h0, h⟩ := isA_cons h
          obtain rfl := isA_nil h
          obtain ⟨e0, rfl, k0⟩ := h0
          obtain ⟨a0, rfl⟩ := list_of u8_of k0
          exact c_laws_FnDisks a0))
set_option maxRecDepth 100000
def io1 : List Char := ['h', 'a', 'r', 'n', 'e', 's', 's', ' ', 'b', 'f', '1', '2', '0', '9', '1', 'c', '7', '6', 'b', '7', '3', '8', '5', '3', '0', '8', '4', '3', '6', '9', '7', 'd', '1', '3', '8', '8', '4', 'b', 'f', 'f', 'e', '7', '1', '6', '0', '0', '4', '7', '1', 'e', 'c', 'e', '6', '5', '7', '0', 'd', 'a', '2', '4', '9', 'a', 'b', '7', '8', '5', '2', '7', '8', 'e', '4', '7', ' ', 'c', 'u', 't', ' ']
def io2 : List Char := ['a', 't', ' ', 'l', 'o', 'o', 'p', '.', 'e', 'x', 'a', 'm', 'p', 'l', 'e', '/', 'g', '0', '3', '0', '0', '2', '/', 'l', 'a', 'w', 's', '.', 'F', 'n', 'E', 'x', 'a', 'c', 't', 'A', 'p', 'p', 'l', 'y', 'E', 'v', 'e', 'n', 't', ' ', 'l', 'o', 'o', 'p', '.', 'e', 'x', 'a', 'm', 'p', 'l', 'e', '/', 'g', '0', '3', '0', '0', '2', '/', 'l', 'a', 'w', 's', '.', 'F', 'n', 'E', 'x', 'a', 'c', 't', 'R', 'u', 'n', 'E', 'v', 'e', 'n', 't', 's', ' ', 'l', 'o', 'o', 'p', '.', 'e', 'x', 'a', 'm', 'p', 'l', 'e', '/', 'g', '0', '3', '0', '0', '2', '/', 'l', 'a', 'w', 's', '.', 'F', 'n', 'E', 'x', 'a', 'c', 't', 'Q', 'u', 'a', 'l', 'i', 't', 'y', 'N', 'o', 'w', ' ', 'l', 'o', 'o', 'p', '.', 'e', 'x', 'a', 'm', 'p', 'l', 'e', '/', 'g', '0', '3', '0', '0', '2', '/', 'l', 'a', 'w', 's', '.', 'F', 'n', 'E', 'x', 'a', 'c', 't', 'R', 'e', 'a', 'd', 'P', 'a', 'g', 'e', ' ', 'l', 'o', 'o', 'p', '.', 'e', 'x', 'a', 'm', 'p', 'l', 'e', '/', 'g', '0', '3', '0', '0', '2', '/', 'l', 'a', 'w', 's', '.', 'F', 'n', 'D', 'i', 's', 'k', 's']
theorem io : Tryz.pinned.checked.prog.initOrder = String.ofList (io1 ++ io2) := Eq.trans (b := "harness bf12091c76b738530843697d13884bffe71600471ece6570da249ab785278e47 cut at loop.example/g03002/laws.FnExactApplyEvent loop.example/g03002/laws.FnExactRunEvents loop.example/g03002/laws.FnExactQualityNow loop.example/g03002/laws.FnExactReadPage loop.example/g03002/laws.FnDisks") (by kernel_rfl) (by rfl)
theorem cut : Cut Tryz.pinned.checked.prog := cut_of ['b', 'f', '1', '2', '0', '9', '1', 'c', '7', '6', 'b', '7', '3', '8', '5', '3', '0', '8', '4', '3', '6', '9', '7', 'd', '1', '3', '8', '8', '4', 'b', 'f', 'f', 'e', '7', '1', '6', '0', '0', '4', '7', '1', 'e', 'c', 'e', '6', '5', '7', '0', 'd', 'a', '2', '4', '9', 'a', 'b', '7', '8', '5', '2', '7', '8', 'e', '4', '7'] io1 io2 io (fun r => by kernel_rfl) (by kernel_rfl)
theorem lays : Tryz.pinned.checked.prog.laysLater = false := by kernel_rfl
theorem refl : Tryz.pinned.checked.prog.bearsReflect = false := by kernel_rfl
theorem rows : Tryz.pinned.checked.prog.doorRows = [] := by kernel_rfl
theorem ips : Tryz.pinned.checked.prog.inPlace 7 = Rows.fnDisksRow.inPlace := by kernel_rfl
theorem unf : Tryz.pinned.checked.prog.unfollowed 7 = Rows.fnDisksRow.unfollowed := by kernel_rfl
theorem recs : Tryz.pinned.checked.prog.recurses 7 = true := by unfold Program.recurses; rw [unf]; rfl
theorem vns : Tryz.pinned.checked.prog.varsNamed 7 = Rows.fnDisksRow.named := by kernel_rfl
theorem closed : joinedFacts Tryz.pinned.checked.prog 7 Tryz.f7 Rows.fnDisksSpec Rows.fnDisksRow = true := by
  unfold joinedFacts
  rw [recs, ips, unf, vns, may_of cut lays refl rows, lif_of cut, mak_of cut]
  kernel_rfl
theorem over : Rows.fnDisksRow.holds Tryz.pinned (OpenSpec.ofChange Rows.fnDisksSpec) :=
  OpenClaim.holds_of_wide 7 Tryz.f7 rfl rfl rfl rfl rfl rfl rfl ⟨rfl, rfl, rfl, rfl, rfl⟩ rfl rfl rfl rfl rfl (by kernel_rfl) Tryz.func7 closed
    (of_decide_eq_true (by kernel_rfl)) (by unfold Func.isWrapper; first | (rw [if_pos (by decide +kernel)]; kernel_rfl) | (rw [if_neg (by decide +kernel)]; exact ⟨rfl, rfl⟩))
    (fun os started H enc _ => lifted os started H enc)
theorem proved : Rows.FnDisksSaid := over
#print axioms proved
end Go.Proofs.YtjneccbpkckdfaaGreat.fnDisks
namespace Go.Proofs.YtjneccbpkckdfaaGreat
/-- The row, under a short name, for the claim. -/
theorem fnDisks_holds : Rows.FnDisksSaid := fnDisks.proved
end Go.Proofs.YtjneccbpkckdfaaGreat
