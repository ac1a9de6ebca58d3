/- The law FnExactIsHeld: IsHeld of the program and of the reference agree on all arguments. No condition. -/
import Derived.Test.YtcbljemkihnmnaaRows
import Derived.Test.YtcbljemkihnmnaaTIsHelda
import Derived.WalkKit
import Derived.ProofKit
import Derived.OpenShut
import Derived.ShutString
import Derived.ChangeOld
import Derived.Below
import Derived.SizedLaws
namespace Go.Proofs.Ytcbljemkihnmnaa.fnExactIsHeld
open Go.ChangeShapes Go.WideShapes Go.ChangeAt Go.RowKit Go.Proofs.YtcbljemkihnmnaaR
set_option linter.unusedVariables false
theorem own : ownKnob Try.prog.godebug = none := by kernel_rfl
theorem lifted (os : Os) (started : os.Started) (H : Type) (enc : TypeId × Value → H) :
    ReturnsInHanded {} Try.checked os 8 .any (Rows.fnExactIsHeldSpec.pre6 enc Try.prog Try.f8 Rows.fnExactIsHeldRow.domain false) (Rows.fnExactIsHeldSpec.post enc Try.prog Try.f8 false true false false) :=
  returnsInHanded_of_change_sized (C := Try.checked) own started (by kernel_rfl) Try.func8
    (ChangeSpec.witness6 (enc := enc) (C := Try.checked) false ⟨#[], #[.agg #[.slice none 0 0, .slice none 0 0, .slice none 0 0, .slice none 0 0, .slice none 0 0, .slice none 0 0, .slice none 0 0, .slice none 0 0, .slice none 0 0, .int .i64 0]], []⟩ 8 (by kernel_rfl) (by kernel_rfl) (by kernel_rfl) (by kernel_rfl))
    (law_contract (P := Try.prog) (tys := [GArchive.dt]) (tb := 4) (by kernel_rfl) rfl rfl Try.underlying4
      (fun ds hl => by obtain ⟨a0, rfl⟩ : ∃ a0, ds = [a0] := (match ds, hl with | [a0], _ => ⟨a0, rfl⟩); rfl)
      (fun ys h => by
        match ys, h with
        | [(_, _)], ⟨rfl, h0, _⟩ =>
          obtain ⟨a0, rfl⟩ := GArchive.of h0
          exact c_laws_FnExactIsHeld a0))
theorem over : Rows.fnExactIsHeldRow.holds Try.pinned (OpenSpec.ofChange Rows.fnExactIsHeldSpec) :=
  OpenClaim.holds_of_wide 8 Try.f8 rfl rfl rfl rfl rfl rfl rfl ⟨rfl, rfl, rfl, rfl, rfl⟩ rfl rfl rfl rfl rfl (by kernel_rfl) Try.func8 (by kernel_rfl)
    (of_decide_eq_true (by kernel_rfl)) (by unfold Func.isWrapper; first | (rw [if_pos (by decide +kernel)]; kernel_rfl) | (rw [if_neg (by decide +kernel)]; exact ⟨rfl, rfl⟩))
    (fun os started H enc _ => lifted os started H enc)
theorem proved : Rows.FnExactIsHeldSaid := over
#print axioms proved
end Go.Proofs.Ytcbljemkihnmnaa.fnExactIsHeld
namespace Go.Proofs.Ytcbljemkihnmnaa
/-- The row, under a short name, for the claim. -/
theorem fnExactIsHeld_holds : Rows.FnExactIsHeldSaid := fnExactIsHeld.proved
end Go.Proofs.Ytcbljemkihnmnaa
