/- The law FnExactMayReplay: MayReplay of the program and of the reference agree on all arguments. No condition. -/
import Derived.Test.YtppiabieoooecaaRows
import Derived.Test.YtppiabieoooecaaTMayReplaya
import Derived.WalkKit
import Derived.ProofKit
import Derived.OpenShut
import Derived.ShutString
import Derived.ChangeOld
import Derived.Below
import Derived.SizedLaws
namespace Go.Proofs.Ytppiabieoooecaa.fnExactMayReplay
open Go.ChangeShapes Go.WideShapes Go.ChangeAt Go.RowKit Go.Proofs.YtppiabieoooecaaR
set_option linter.unusedVariables false
theorem own : ownKnob Try.prog.godebug = none := by kernel_rfl
theorem lifted (os : Os) (started : os.Started) (H : Type) (enc : TypeId × Value → H) :
    ReturnsInHanded {} Try.checked os 5 .any (Rows.fnExactMayReplaySpec.pre6 enc Try.prog Try.f5 Rows.fnExactMayReplayRow.domain false) (Rows.fnExactMayReplaySpec.post enc Try.prog Try.f5 false true false false) :=
  returnsInHanded_of_change_sized (C := Try.checked) own started (by kernel_rfl) Try.func5
    (ChangeSpec.witness6 (enc := enc) (C := Try.checked) false ⟨#[], #[.agg #[.slice none 0 0, .slice none 0 0, .slice none 0 0, .slice none 0 0, .slice none 0 0, .slice none 0 0, .slice none 0 0, .slice none 0 0, .slice none 0 0, .int .i64 0], .int .i64 0], []⟩ 8 (by kernel_rfl) (by kernel_rfl) (by kernel_rfl) (by kernel_rfl))
    (law_contract (P := Try.prog) (fun _ => trivial) (tys := [GArchive.dt, .int]) (tb := 4) (by kernel_rfl) rfl rfl Try.underlying4
      (fun ds hl => by obtain ⟨a0, a1, rfl⟩ : ∃ a0 a1, ds = [a0, a1] := (match ds, hl with | [a0, a1], _ => ⟨a0, a1, rfl⟩); rfl)
      (fun ys h => by
        match ys, h with
        | [(_, _), (_, _)], ⟨rfl, h0, rfl, h1, _⟩ =>
          obtain ⟨a0, rfl⟩ := GArchive.of h0
          obtain ⟨a1, rfl⟩ := h1
          exact c_laws_FnExactMayReplay a0 a1))
theorem over : Rows.fnExactMayReplayRow.holds Try.pinned (OpenSpec.ofChange Rows.fnExactMayReplaySpec) :=
  OpenClaim.holds_of_wide 5 Try.f5 rfl rfl rfl rfl rfl rfl rfl ⟨rfl, rfl, rfl, rfl, rfl⟩ rfl rfl rfl rfl rfl (by kernel_rfl) Try.func5 (by kernel_rfl)
    (of_decide_eq_true (by kernel_rfl)) (by unfold Func.isWrapper; first | (rw [if_pos (by decide +kernel)]; kernel_rfl) | (rw [if_neg (by decide +kernel)]; exact ⟨rfl, rfl⟩))
    (fun os started H enc _ => lifted os started H enc)
theorem proved : Rows.FnExactMayReplaySaid := over
#print axioms proved
end Go.Proofs.Ytppiabieoooecaa.fnExactMayReplay
namespace Go.Proofs.Ytppiabieoooecaa
/-- The row, under a short name, for the claim. -/
theorem fnExactMayReplay_holds : Rows.FnExactMayReplaySaid := fnExactMayReplay.proved
end Go.Proofs.Ytppiabieoooecaa
