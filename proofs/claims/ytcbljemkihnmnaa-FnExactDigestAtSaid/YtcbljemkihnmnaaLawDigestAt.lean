/- The law FnExactDigestAt: DigestAt of the program and of the reference agree on all arguments. No condition. -/
import Derived.Test.YtcbljemkihnmnaaRows
import Derived.Test.YtcbljemkihnmnaaTDigestAta
import Derived.WalkKit
import Derived.ProofKit
import Derived.OpenShut
import Derived.ShutString
import Derived.ChangeOld
import Derived.Below
import Derived.SizedLaws
namespace Go.Proofs.Ytcbljemkihnmnaa.fnExactDigestAt
open Go.ChangeShapes Go.WideShapes Go.ChangeAt Go.RowKit Go.Proofs.YtcbljemkihnmnaaR
set_option linter.unusedVariables false
theorem own : ownKnob Try.prog.godebug = none := by kernel_rfl
theorem lifted (os : Os) (started : os.Started) (H : Type) (enc : TypeId × Value → H) :
    ReturnsInHanded {} Try.checked os 3 .any (Rows.fnExactDigestAtSpec.pre6 enc Try.prog Try.f3 Rows.fnExactDigestAtRow.domain false) (Rows.fnExactDigestAtSpec.post enc Try.prog Try.f3 false true false false) :=
  returnsInHanded_of_change_sized (C := Try.checked) own started (by kernel_rfl) Try.func3
    (ChangeSpec.witness6 (enc := enc) (C := Try.checked) false ⟨#[], #[.slice none 0 0, .int .i64 0], []⟩ 8 (by kernel_rfl) (by kernel_rfl) (by kernel_rfl) (by kernel_rfl))
    (law_contract (P := Try.prog) (tys := [.sl GChange.dt, .int]) (tb := 4) (by kernel_rfl) rfl rfl Try.underlying4
      (fun ds hl => by obtain ⟨a, b, rfl⟩ : ∃ a b, ds = [a, b] := (match ds, hl with | [a, b], _ => ⟨a, b, rfl⟩); rfl)
      (fun ys h => by
        match ys, h with
        | [(_, _), (_, _)], ⟨rfl, h0, rfl, h1, _⟩ =>
          obtain ⟨es, rfl, k0⟩ := h0
          obtain ⟨n, rfl⟩ := h1
          obtain ⟨xs, rfl⟩ := list_of GChange.of k0
          exact c_laws_FnExactDigestAt xs n))
theorem over : Rows.fnExactDigestAtRow.holds Try.pinned (OpenSpec.ofChange Rows.fnExactDigestAtSpec) :=
  OpenClaim.holds_of_wide 3 Try.f3 rfl rfl rfl rfl rfl rfl rfl ⟨rfl, rfl, rfl, rfl, rfl⟩ rfl rfl rfl rfl rfl (by kernel_rfl) Try.func3 (by kernel_rfl)
    (of_decide_eq_true (by kernel_rfl)) (by unfold Func.isWrapper; first | (rw [if_pos (by decide +kernel)]; kernel_rfl) | (rw [if_neg (by decide +kernel)]; exact ⟨rfl, rfl⟩))
    (fun os started H enc _ => lifted os started H enc)
theorem proved : Rows.FnExactDigestAtSaid := over
#print axioms proved
end Go.Proofs.Ytcbljemkihnmnaa.fnExactDigestAt
namespace Go.Proofs.Ytcbljemkihnmnaa
/-- The row, under a short name, for the claim. -/
theorem fnExactDigestAt_holds : Rows.FnExactDigestAtSaid := fnExactDigestAt.proved
end Go.Proofs.Ytcbljemkihnmnaa
