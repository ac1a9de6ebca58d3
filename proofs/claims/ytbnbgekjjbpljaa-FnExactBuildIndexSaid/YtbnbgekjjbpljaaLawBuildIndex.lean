/- The law FnExactBuildIndex: BuildIndex of the program and of the reference agree on all arguments. No condition. -/
import Derived.Test.YtbnbgekjjbpljaaRows
import Derived.Test.YtbnbgekjjbpljaaTBuildIndexb
import Derived.WalkKit
import Derived.ProofKit
import Derived.OpenShut
import Derived.ShutString
import Derived.ChangeOld
import Derived.Below
import Derived.SizedLaws
namespace Go.Proofs.Ytbnbgekjjbpljaa.fnExactBuildIndex
open Go.ChangeShapes Go.WideShapes Go.ChangeAt Go.RowKit Go.Proofs.YtbnbgekjjbpljaaR
set_option linter.unusedVariables false
theorem own : ownKnob Try.prog.godebug = none := by kernel_rfl
theorem lifted (os : Os) (started : os.Started) (H : Type) (enc : TypeId × Value → H) :
    ReturnsInHanded {} Try.checked os 4 .any (Rows.fnExactBuildIndexSpec.pre6 enc Try.prog Try.f4 Rows.fnExactBuildIndexRow.domain false) (Rows.fnExactBuildIndexSpec.post enc Try.prog Try.f4 false true false false) :=
  returnsInHanded_of_change_sized (C := Try.checked) own started (by kernel_rfl) Try.func4
    (ChangeSpec.witness6 (enc := enc) (C := Try.checked) false ⟨#[], #[.slice none 0 0], []⟩ 8 (by kernel_rfl) (by kernel_rfl) (by kernel_rfl) (by kernel_rfl))
    (law_contract (P := Try.prog) (fun _ => trivial) (tys := [.sl GContainer.dt]) (tb := 4) (by kernel_rfl) rfl rfl Try.underlying4
      (fun ds hl => by obtain ⟨a0, rfl⟩ : ∃ a0, ds = [a0] := (match ds, hl with | [a0], _ => ⟨a0, rfl⟩); rfl)
      (fun ys h => by
        match ys, h with
        | [(_, _)], ⟨rfl, h0, _⟩ =>
          obtain ⟨e0, rfl, k0⟩ := h0
          obtain ⟨a0, rfl⟩ := list_of GContainer.of k0
          exact c_laws_FnExactBuildIndex a0))
theorem over : Rows.fnExactBuildIndexRow.holds Try.pinned (OpenSpec.ofChange Rows.fnExactBuildIndexSpec) :=
  OpenClaim.holds_of_wide 4 Try.f4 rfl rfl rfl rfl rfl rfl rfl ⟨rfl, rfl, rfl, rfl, rfl⟩ rfl rfl rfl rfl rfl (by kernel_rfl) Try.func4 (by kernel_rfl)
    (of_decide_eq_true (by kernel_rfl)) (by unfold Func.isWrapper; first | (rw [if_pos (by decide +kernel)]; kernel_rfl) | (rw [if_neg (by decide +kernel)]; exact ⟨rfl, rfl⟩))
    (fun os started H enc _ => lifted os started H enc)
theorem proved : Rows.FnExactBuildIndexSaid := over
#print axioms proved
end Go.Proofs.Ytbnbgekjjbpljaa.fnExactBuildIndex
namespace Go.Proofs.Ytbnbgekjjbpljaa
/-- The row, under a short name, for the claim. -/
theorem fnExactBuildIndex_holds : Rows.FnExactBuildIndexSaid := fnExactBuildIndex.proved
end Go.Proofs.Ytbnbgekjjbpljaa
