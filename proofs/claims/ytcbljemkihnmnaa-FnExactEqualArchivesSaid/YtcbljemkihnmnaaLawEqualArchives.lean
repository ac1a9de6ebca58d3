/- The law FnExactEqualArchives: EqualArchives of the program and of the reference agree on all arguments. No condition. -/
import Derived.Test.YtcbljemkihnmnaaRows
import Derived.Test.YtcbljemkihnmnaaTEqualArchivesb
import Derived.WalkKit
import Derived.ProofKit
import Derived.OpenShut
import Derived.ShutString
import Derived.ChangeOld
import Derived.Below
import Derived.SizedLaws
namespace Go.Proofs.Ytcbljemkihnmnaa.fnExactEqualArchives
open Go.ChangeShapes Go.WideShapes Go.ChangeAt Go.RowKit Go.Proofs.YtcbljemkihnmnaaR
set_option linter.unusedVariables false
theorem own : ownKnob Try.prog.godebug = none := by kernel_rfl
theorem lifted (os : Os) (started : os.Started) (H : Type) (enc : TypeId × Value → H) :
    ReturnsInHanded {} Try.checked os 9 .any (Rows.fnExactEqualArchivesSpec.pre6 enc Try.prog Try.f9 Rows.fnExactEqualArchivesRow.domain false) (Rows.fnExactEqualArchivesSpec.post enc Try.prog Try.f9 false true false false) :=
  returnsInHanded_of_change_sized (C := Try.checked) own started (by kernel_rfl) Try.func9
    (ChangeSpec.witness6 (enc := enc) (C := Try.checked) false ⟨#[], #[.agg #[.slice none 0 0, .slice none 0 0, .slice none 0 0, .slice none 0 0, .slice none 0 0, .slice none 0 0, .slice none 0 0, .slice none 0 0, .slice none 0 0, .int .i64 0], .agg #[.slice none 0 0, .slice none 0 0, .slice none 0 0, .slice none 0 0, .slice none 0 0, .slice none 0 0, .slice none 0 0, .slice none 0 0, .slice none 0 0, .int .i64 0]], []⟩ 8 (by kernel_rfl) (by kernel_rfl) (by kernel_rfl) (by kernel_rfl))
    (law_contract (P := Try.prog) (tys := [GArchive.dt, GArchive.dt]) (tb := 4) (by kernel_rfl) rfl rfl Try.underlying4
      (fun ds hl => by obtain ⟨a0, a1, rfl⟩ : ∃ a0 a1, ds = [a0, a1] := (match ds, hl with | [a0, a1], _ => ⟨a0, a1, rfl⟩); rfl)
      (fun ys h => by
        match ys, h with
        | [(_, _), (_, _)], ⟨rfl, h0, rfl, h1, _⟩ =>
          obtain ⟨a0, rfl⟩ := GArchive.of h0
          obtain ⟨a1, rfl⟩ := GArchive.of h1
          exact c_laws_FnExactEqualArchives a0 a1))
theorem over : Rows.fnExactEqualArchivesRow.holds Try.pinned (OpenSpec.ofChange Rows.fnExactEqualArchivesSpec) :=
  OpenClaim.holds_of_wide 9 Try.f9 rfl rfl rfl rfl rfl rfl rfl ⟨rfl, rfl, rfl, rfl, rfl⟩ rfl rfl rfl rfl rfl (by kernel_rfl) Try.func9 (by kernel_rfl)
    (of_decide_eq_true (by kernel_rfl)) (by unfold Func.isWrapper; first | (rw [if_pos (by decide +kernel)]; kernel_rfl) | (rw [if_neg (by decide +kernel)]; exact ⟨rfl, rfl⟩))
    (fun os started H enc _ => lifted os started H enc)
theorem proved : Rows.FnExactEqualArchivesSaid := over
#print axioms proved
end Go.Proofs.Ytcbljemkihnmnaa.fnExactEqualArchives
namespace Go.Proofs.Ytcbljemkihnmnaa
/-- The row, under a short name, for the claim. -/
theorem fnExactEqualArchives_holds : Rows.FnExactEqualArchivesSaid := fnExactEqualArchives.proved
end Go.Proofs.Ytcbljemkihnmnaa
