/- The law FnExactExampleSite: ExampleSite of the program and of the reference agree on all arguments. No condition. -/
import Derived.Test.YtbnbgekjjbpljaaRows
import Derived.Test.YtbnbgekjjbpljaaTExampleSitea
import Derived.WalkKit
import Derived.ProofKit
import Derived.OpenShut
import Derived.ShutString
import Derived.ChangeOld
import Derived.Below
import Derived.SizedLaws
namespace Go.Proofs.Ytbnbgekjjbpljaa.fnExactExampleSite
open Go.ChangeShapes Go.WideShapes Go.ChangeAt Go.RowKit Go.Proofs.YtbnbgekjjbpljaaR
set_option linter.unusedVariables false
theorem own : ownKnob Try.prog.godebug = none := by kernel_rfl
theorem lifted (os : Os) (started : os.Started) (H : Type) (enc : TypeId × Value → H) :
    ReturnsInHanded {} Try.checked os 3 .any (Rows.fnExactExampleSiteSpec.pre6 enc Try.prog Try.f3 Rows.fnExactExampleSiteRow.domain false) (Rows.fnExactExampleSiteSpec.post enc Try.prog Try.f3 false true false false) :=
  returnsInHanded_of_change_sized (C := Try.checked) own started (by kernel_rfl) Try.func3
    (ChangeSpec.witness6 (enc := enc) (C := Try.checked) false ⟨#[], #[], []⟩ 8 (by kernel_rfl) (by kernel_rfl) (by kernel_rfl) (by kernel_rfl))
    (law_contract (P := Try.prog) (fun _ => trivial) (tys := []) (tb := 4) (by kernel_rfl) rfl rfl Try.underlying4
      (fun ds hl => by obtain rfl : ds = [] := List.length_eq_zero_iff.1 hl; rfl)
      (fun ys h => by
        match ys, h with
        | [], _ => exact c_laws_FnExactExampleSite))
theorem over : Rows.fnExactExampleSiteRow.holds Try.pinned (OpenSpec.ofChange Rows.fnExactExampleSiteSpec) :=
  OpenClaim.holds_of_wide 3 Try.f3 rfl rfl rfl rfl rfl rfl rfl ⟨rfl, rfl, rfl, rfl, rfl⟩ rfl rfl rfl rfl rfl (by kernel_rfl) Try.func3 (by kernel_rfl)
    (of_decide_eq_true (by kernel_rfl)) (by unfold Func.isWrapper; first | (rw [if_pos (by decide +kernel)]; kernel_rfl) | (rw [if_neg (by decide +kernel)]; exact ⟨rfl, rfl⟩))
    (fun os started H enc _ => lifted os started H enc)
theorem proved : Rows.FnExactExampleSiteSaid := over
#print axioms proved
end Go.Proofs.Ytbnbgekjjbpljaa.fnExactExampleSite
namespace Go.Proofs.Ytbnbgekjjbpljaa
/-- The row, under a short name, for the claim. -/
theorem fnExactExampleSite_holds : Rows.FnExactExampleSiteSaid := fnExactExampleSite.proved
end Go.Proofs.Ytbnbgekjjbpljaa
