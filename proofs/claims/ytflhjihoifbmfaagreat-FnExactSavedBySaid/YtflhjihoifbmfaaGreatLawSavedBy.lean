/- The law FnExactSavedBy: SavedBy of the program and of the reference agree on all arguments. No condition. -/
import Derived.Test.YtflhjihoifbmfaaGreatRows
import Derived.Test.YtflhjihoifbmfaaGreatTSavedByb
import Derived.WalkKit
import Derived.ProofKit
import Derived.OpenShut
import Derived.ShutString
import Derived.ChangeOld
import Derived.Below
import Derived.SizedLaws
namespace Go.Proofs.YtflhjihoifbmfaaGreat.fnExactSavedBy
open Go.ChangeShapes Go.WideShapes Go.ChangeAt Go.RowKit Go.Proofs.YtflhjihoifbmfaaGreatR
set_option linter.unusedVariables false
theorem own : ownKnob Tryz.prog.godebug = none := by kernel_rfl
set_option maxHeartbeats 4000000 in
theorem lifted (os : Os) (started : os.Started) (H : Type) (enc : TypeId × Value → H) :
    ReturnsInHanded {} Tryz.checked os 3 .any (Rows.fnExactSavedBySpec.pre6 enc Tryz.prog Tryz.f3 Rows.fnExactSavedByRow.domain false) (Rows.fnExactSavedBySpec.post enc Tryz.prog Tryz.f3 false true false false) :=
  returnsInHanded_of_change_sized (C := Tryz.checked) own started (by kernel_rfl) Tryz.func3
    (ChangeSpec.witness6 (enc := enc) (C := Tryz.checked) false ⟨#[], #[.agg #[.slice none 0 0, .slice none 0 0, .slice none 0 0, .slice none 0 0, .slice none 0 0, .slice none 0 0, .slice none 0 0, .slice none 0 0, .slice none 0 0, .int .i64 0]], []⟩ 8 (by kernel_rfl) (by kernel_rfl) (by kernel_rfl) (by kernel_rfl))
    (law_contract (P := Tryz.prog) (fun _ => trivial) (tys := [GArchive.dt]) (tb := 4) (by kernel_rfl) rfl rfl Tryz.underlying4
      (fun ds hl => by obtain ⟨a0, rfl⟩ : ∃ a0, ds = [a0] := (match ds, hl with | [a0], _ => ⟨a0, rfl⟩); rfl)
      (fun ys h => by
        match ys, h with
        | [(_, _)], ⟨rfl, h0, _⟩ =>
          obtain ⟨a0, rfl⟩ := GArchive.of h0
          exact c_laws_FnExactSavedBy a0))
set_option maxRecDepth 100000
def io1 : List Char := ['h', 'a', 'r', 'n', 'e', 's', 's', ' ', '3', '4', '5', '0', '1', 'a', '5', 'b', '3', '1', 'c', '9', '4', '0', '0', '5', '7', '0', '4', 'b', '0', '7', '5', '2', 'd', '6', '3', '4', 'd', 'b', '5', '9', '6', '3', '6', '6', '7', '4', '5', 'b', 'c', 'a', '9', '1', '0', 'b', 'd', '0', '6', '7', 'b', '4', '7', '6', '4', 'a', '3', 'b', 'b', 'b', '5', 'd', '4', 'd', ' ', 'c', 'u', 't', ' ']
def io2 : List Char := ['a', 't', ' ', 'l', 'o', 'o', 'p', '.', 'e', 'x', 'a', 'm', 'p', 'l', 'e', '/', 'g', '0', '3', '0', '0', '2', '/', 'l', 'a', 'w', 's', '.', 'F', 'n', 'E', 'x', 'a', 'c', 't', 'S', 'a', 'v', 'e', 'd', 'B', 'y', ' ', 'l', 'o', 'o', 'p', '.', 'e', 'x', 'a', 'm', 'p', 'l', 'e', '/', 'g', '0', '3', '0', '0', '2', '/', 'l', 'a', 'w', 's', '.', 'F', 'n', 'E', 'x', 'a', 'c', 't', 'P', 'a', 'r', 't', 's', 'O', 'f', ' ', 'l', 'o', 'o', 'p', '.', 'e', 'x', 'a', 'm', 'p', 'l', 'e', '/', 'g', '0', '3', '0', '0', '2', '/', 'l', 'a', 'w', 's', '.', 'F', 'n', 'E', 'x', 'a', 'c', 't', 'Q', 'u', 'a', 'l', 'i', 't', 'y', 'N', 'o', 'w', ' ', 'l', 'o', 'o', 'p', '.', 'e', 'x', 'a', 'm', 'p', 'l', 'e', '/', 'g', '0', '3', '0', '0', '2', '/', 'l', 'a', 'w', 's', '.', 'F', 'n', 'E', 'x', 'a', 'c', 't', 'R', 'e', 'a', 'd', 'P', 'a', 'g', 'e']
theorem io : Tryz.pinned.checked.prog.initOrder = String.ofList (io1 ++ io2) := Eq.trans (b := "harness 34501a5b31c94005704b0752d634db596366745bca910bd067b4764a3bbb5d4d cut at loop.example/g03002/laws.FnExactSavedBy loop.example/g03002/laws.FnExactPartsOf loop.example/g03002/laws.FnExactQualityNow loop.example/g03002/laws.FnExactReadPage") (by kernel_rfl) (by rfl)
theorem cut : Cut Tryz.pinned.checked.prog := cut_of ['3', '4', '5', '0', '1', 'a', '5', 'b', '3', '1', 'c', '9', '4', '0', '0', '5', '7', '0', '4', 'b', '0', '7', '5', '2', 'd', '6', '3', '4', 'd', 'b', '5', '9', '6', '3', '6', '6', '7', '4', '5', 'b', 'c', 'a', '9', '1', '0', 'b', 'd', '0', '6', '7', 'b', '4', '7', '6', '4', 'a', '3', 'b', 'b', 'b', '5', 'd', '4', 'd'] io1 io2 io (fun r => by kernel_rfl) (by kernel_rfl)
theorem lays : Tryz.pinned.checked.prog.laysLater = false := by kernel_rfl
theorem refl : Tryz.pinned.checked.prog.bearsReflect = false := by kernel_rfl
theorem rows : Tryz.pinned.checked.prog.doorRows = [] := by kernel_rfl
theorem ips : Tryz.pinned.checked.prog.inPlace 3 = Rows.fnExactSavedByRow.inPlace := by kernel_rfl
theorem unf : Tryz.pinned.checked.prog.unfollowed 3 = Rows.fnExactSavedByRow.unfollowed := by kernel_rfl
theorem recs : Tryz.pinned.checked.prog.recurses 3 = true := by unfold Program.recurses; rw [unf]; rfl
theorem vns : Tryz.pinned.checked.prog.varsNamed 3 = Rows.fnExactSavedByRow.named := by kernel_rfl
theorem closed : joinedFacts Tryz.pinned.checked.prog 3 Tryz.f3 Rows.fnExactSavedBySpec Rows.fnExactSavedByRow = true := by
  unfold joinedFacts
  rw [recs, ips, unf, vns, may_of cut lays refl rows, lif_of cut, mak_of cut]
  kernel_rfl
theorem over : Rows.fnExactSavedByRow.holds Tryz.pinned (OpenSpec.ofChange Rows.fnExactSavedBySpec) :=
  OpenClaim.holds_of_wide 3 Tryz.f3 rfl rfl rfl rfl rfl rfl rfl ⟨rfl, rfl, rfl, rfl, rfl⟩ rfl rfl rfl rfl rfl (by kernel_rfl) Tryz.func3 closed
    (of_decide_eq_true (by kernel_rfl)) (by unfold Func.isWrapper; first | (rw [if_pos (by decide +kernel)]; kernel_rfl) | (rw [if_neg (by decide +kernel)]; exact ⟨rfl, rfl⟩))
    (fun os started H enc _ => lifted os started H enc)
theorem proved : Rows.FnExactSavedBySaid := over
#print axioms proved
end Go.Proofs.YtflhjihoifbmfaaGreat.fnExactSavedBy
namespace Go.Proofs.YtflhjihoifbmfaaGreat
/-- The row, under a short name, for the claim. -/
theorem fnExactSavedBy_holds : Rows.FnExactSavedBySaid := fnExactSavedBy.proved
end Go.Proofs.YtflhjihoifbmfaaGreat
