/- What the functions compute that the law of FormatCapture reaches: contracts, function by function. Conditions stand in each theorem. -/
import Derived.Test.YtldjbgjcfncdjaaDoorProg
import Derived.KernelRfl
import Derived.Shelf.Lay
import Derived.Shelf.LaySoft
import Derived.Shelf.LaysM
import Derived.Shelf.Strconv.Itoa3
import Derived.Shelf.Strings.OnBuilder
import Derived.Test.YtldjbgjcfncdjaaDoorRac
set_option linter.unusedVariables false
set_option linter.unusedSimpArgs false
namespace Go.Proofs.YtldjbgjcfncdjaaDoorR
open Go Go.RowKit
def encI (n : Int) : List T := [tI n]
def encB (b : Bool) : List T := [tB b]
theorem int_of {ts : List T} (h : IsT .int ts) : ∃ n, ts = encI n := h
theorem list_of {α : Type} {enc : α → List T} {ty : DT} (h : ∀ {ts}, IsT ty ts → ∃ x, ts = enc x) : ∀ {es : List (List T)}, (∀ x ∈ es, IsT ty x) → ∃ xs : List α, es = xs.map enc
  | [], _ => ⟨[], rfl⟩
  | e :: es, k => by
    obtain ⟨x, rfl⟩ := h (k e (by simp))
    obtain ⟨xs, hx⟩ := list_of h (es := es) fun y hy => k y (by simp [hy])
    subst hx
    exact ⟨x :: xs, rfl⟩
theorem encI_inj {a b : Int} (h : encI a = encI b) : a = b := by simpa [encI] using h
structure GAddress where
  Host : Int
  Path : Int
  Query : Int
  deriving DecidableEq
def GAddress.enc (x : GAddress) : List T := [tI x.Host, tI x.Path, tI x.Query]
def GAddress.dt : DT := .st (.fc .int (.fc .int (.fc .int .fn)))
theorem GAddress.of {ts : List T} (h : IsT GAddress.dt ts) : ∃ x : GAddress, ts = x.enc := by
  simp only [GAddress.dt, IsT] at h
  obtain ⟨_, _, rfl, ⟨v0, rfl⟩, _, _, rfl, ⟨v1, rfl⟩, _, _, rfl, ⟨v2, rfl⟩, rfl⟩ := h
  exact ⟨⟨v0, v1, v2⟩, rfl⟩
theorem GAddress.eqv {x y : GAddress} : x = y ↔ x.Host = y.Host ∧ x.Path = y.Path ∧ x.Query = y.Query := by
  constructor
  · rintro rfl; simp
  · intro h
    rcases x with ⟨aHost, aPath, aQuery⟩
    rcases y with ⟨bHost, bPath, bQuery⟩
    simp only at h
    obtain ⟨rfl, rfl, rfl⟩ := h
    rfl
structure GResource where
  Kind : Int
  Body : List Int
  To : GAddress
  deriving DecidableEq
def GResource.enc (x : GResource) : List T := [tI x.Kind, .sl 1 (x.Body.map encI), tI x.To.Host, tI x.To.Path, tI x.To.Query]
def GResource.dt : DT := .st (.fc .int (.fc (.sl .int) (.fc GAddress.dt .fn)))
theorem GResource.of {ts : List T} (h : IsT GResource.dt ts) : ∃ x : GResource, ts = x.enc := by
  simp only [GResource.dt, IsT] at h
  obtain ⟨_, _, rfl, ⟨v0, rfl⟩, _, _, rfl, ⟨l1, rfl, k1⟩, _, _, rfl, k2, rfl⟩ := h
  obtain ⟨v1, rfl⟩ := list_of int_of k1
  obtain ⟨v2, rfl⟩ := GAddress.of k2
  exact ⟨⟨v0, v1, v2⟩, rfl⟩
theorem GResource.eqv {x y : GResource} : x = y ↔ x.Kind = y.Kind ∧ x.Body = y.Body ∧ x.To.Host = y.To.Host ∧ x.To.Path = y.To.Path ∧ x.To.Query = y.To.Query := by
  constructor
  · rintro rfl; simp
  · intro h
    rcases x with ⟨aKind, aBody, ⟨aToHost, aToPath, aToQuery⟩⟩
    rcases y with ⟨bKind, bBody, ⟨bToHost, bToPath, bToQuery⟩⟩
    simp only at h
    obtain ⟨rfl, rfl, rfl, rfl, rfl⟩ := h
    rfl
def GResource.size (x : GResource) : Nat := (x.Body.length)
structure GPart where
  Digest : Int
  Resource : GResource
  Uses : Int
  deriving DecidableEq
def GPart.enc (x : GPart) : List T := [tI x.Digest, tI x.Resource.Kind, .sl 1 (x.Resource.Body.map encI), tI x.Resource.To.Host, tI x.Resource.To.Path, tI x.Resource.To.Query, tI x.Uses]
def GPart.dt : DT := .st (.fc .int (.fc GResource.dt (.fc .int .fn)))
theorem GPart.of {ts : List T} (h : IsT GPart.dt ts) : ∃ x : GPart, ts = x.enc := by
  simp only [GPart.dt, IsT] at h
  obtain ⟨_, _, rfl, ⟨v0, rfl⟩, _, _, rfl, k1, _, _, rfl, ⟨v2, rfl⟩, rfl⟩ := h
  obtain ⟨v1, rfl⟩ := GResource.of k1
  exact ⟨⟨v0, v1, v2⟩, rfl⟩
theorem GPart.eqv {x y : GPart} : x = y ↔ x.Digest = y.Digest ∧ x.Resource.Kind = y.Resource.Kind ∧ x.Resource.Body = y.Resource.Body ∧ x.Resource.To.Host = y.Resource.To.Host ∧ x.Resource.To.Path = y.Resource.To.Path ∧ x.Resource.To.Query = y.Resource.To.Query ∧ x.Uses = y.Uses := by
  constructor
  · rintro rfl; simp
  · intro h
    rcases x with ⟨aDigest, ⟨aResourceKind, aResourceBody, ⟨aResourceToHost, aResourceToPath, aResourceToQuery⟩⟩, aUses⟩
    rcases y with ⟨bDigest, ⟨bResourceKind, bResourceBody, ⟨bResourceToHost, bResourceToPath, bResourceToQuery⟩⟩, bUses⟩
    simp only at h
    obtain ⟨rfl, rfl, rfl, rfl, rfl, rfl, rfl⟩ := h
    rfl
def GPart.size (x : GPart) : Nat := (x.Resource.size)
structure GPiece where
  From : Int
  Count : Int
  New : List Int
  deriving DecidableEq
def GPiece.enc (x : GPiece) : List T := [tI x.From, tI x.Count, .sl 1 (x.New.map encI)]
def GPiece.dt : DT := .st (.fc .int (.fc .int (.fc (.sl .int) .fn)))
theorem GPiece.of {ts : List T} (h : IsT GPiece.dt ts) : ∃ x : GPiece, ts = x.enc := by
  simp only [GPiece.dt, IsT] at h
  obtain ⟨_, _, rfl, ⟨v0, rfl⟩, _, _, rfl, ⟨v1, rfl⟩, _, _, rfl, ⟨l2, rfl, k2⟩, rfl⟩ := h
  obtain ⟨v2, rfl⟩ := list_of int_of k2
  exact ⟨⟨v0, v1, v2⟩, rfl⟩
theorem GPiece.eqv {x y : GPiece} : x = y ↔ x.From = y.From ∧ x.Count = y.Count ∧ x.New = y.New := by
  constructor
  · rintro rfl; simp
  · intro h
    rcases x with ⟨aFrom, aCount, aNew⟩
    rcases y with ⟨bFrom, bCount, bNew⟩
    simp only at h
    obtain ⟨rfl, rfl, rfl⟩ := h
    rfl
def GPiece.size (x : GPiece) : Nat := (x.New.length)
structure GVersion where
  Address : GAddress
  From : Int
  Resource : GResource
  deriving DecidableEq
def GVersion.enc (x : GVersion) : List T := [tI x.Address.Host, tI x.Address.Path, tI x.Address.Query, tI x.From, tI x.Resource.Kind, .sl 1 (x.Resource.Body.map encI), tI x.Resource.To.Host, tI x.Resource.To.Path, tI x.Resource.To.Query]
def GVersion.dt : DT := .st (.fc GAddress.dt (.fc .int (.fc GResource.dt .fn)))
theorem GVersion.of {ts : List T} (h : IsT GVersion.dt ts) : ∃ x : GVersion, ts = x.enc := by
  simp only [GVersion.dt, IsT] at h
  obtain ⟨_, _, rfl, k0, _, _, rfl, ⟨v1, rfl⟩, _, _, rfl, k2, rfl⟩ := h
  obtain ⟨v0, rfl⟩ := GAddress.of k0
  obtain ⟨v2, rfl⟩ := GResource.of k2
  exact ⟨⟨v0, v1, v2⟩, rfl⟩
theorem GVersion.eqv {x y : GVersion} : x = y ↔ x.Address.Host = y.Address.Host ∧ x.Address.Path = y.Address.Path ∧ x.Address.Query = y.Address.Query ∧ x.From = y.From ∧ x.Resource.Kind = y.Resource.Kind ∧ x.Resource.Body = y.Resource.Body ∧ x.Resource.To.Host = y.Resource.To.Host ∧ x.Resource.To.Path = y.Resource.To.Path ∧ x.Resource.To.Query = y.Resource.To.Query := by
  constructor
  · rintro rfl; simp
  · intro h
    rcases x with ⟨⟨aAddressHost, aAddressPath, aAddressQuery⟩, aFrom, ⟨aResourceKind, aResourceBody, ⟨aResourceToHost, aResourceToPath, aResourceToQuery⟩⟩⟩
    rcases y with ⟨⟨bAddressHost, bAddressPath, bAddressQuery⟩, bFrom, ⟨bResourceKind, bResourceBody, ⟨bResourceToHost, bResourceToPath, bResourceToQuery⟩⟩⟩
    simp only at h
    obtain ⟨rfl, rfl, rfl, rfl, rfl, rfl, rfl, rfl, rfl⟩ := h
    rfl
def GVersion.size (x : GVersion) : Nat := (x.Resource.size)
structure GOp where
  Kind : Int
  A : Int
  B : Int
  C : Int
  deriving DecidableEq
def GOp.enc (x : GOp) : List T := [tI x.Kind, tI x.A, tI x.B, tI x.C]
def GOp.dt : DT := .st (.fc .int (.fc .int (.fc .int (.fc .int .fn))))
theorem GOp.of {ts : List T} (h : IsT GOp.dt ts) : ∃ x : GOp, ts = x.enc := by
  simp only [GOp.dt, IsT] at h
  obtain ⟨_, _, rfl, ⟨v0, rfl⟩, _, _, rfl, ⟨v1, rfl⟩, _, _, rfl, ⟨v2, rfl⟩, _, _, rfl, ⟨v3, rfl⟩, rfl⟩ := h
  exact ⟨⟨v0, v1, v2, v3⟩, rfl⟩
theorem GOp.eqv {x y : GOp} : x = y ↔ x.Kind = y.Kind ∧ x.A = y.A ∧ x.B = y.B ∧ x.C = y.C := by
  constructor
  · rintro rfl; simp
  · intro h
    rcases x with ⟨aKind, aA, aB, aC⟩
    rcases y with ⟨bKind, bA, bB, bC⟩
    simp only at h
    obtain ⟨rfl, rfl, rfl, rfl⟩ := h
    rfl
structure GState where
  Pc : Int
  Regs : List Int
  Slots : List Int
  Nodes : List Int
  deriving DecidableEq
def GState.enc (x : GState) : List T := [tI x.Pc, .sl 1 (x.Regs.map encI), .sl 1 (x.Slots.map encI), .sl 1 (x.Nodes.map encI)]
def GState.dt : DT := .st (.fc .int (.fc (.sl .int) (.fc (.sl .int) (.fc (.sl .int) .fn))))
theorem GState.of {ts : List T} (h : IsT GState.dt ts) : ∃ x : GState, ts = x.enc := by
  simp only [GState.dt, IsT] at h
  obtain ⟨_, _, rfl, ⟨v0, rfl⟩, _, _, rfl, ⟨l1, rfl, k1⟩, _, _, rfl, ⟨l2, rfl, k2⟩, _, _, rfl, ⟨l3, rfl, k3⟩, rfl⟩ := h
  obtain ⟨v1, rfl⟩ := list_of int_of k1
  obtain ⟨v2, rfl⟩ := list_of int_of k2
  obtain ⟨v3, rfl⟩ := list_of int_of k3
  exact ⟨⟨v0, v1, v2, v3⟩, rfl⟩
theorem GState.eqv {x y : GState} : x = y ↔ x.Pc = y.Pc ∧ x.Regs = y.Regs ∧ x.Slots = y.Slots ∧ x.Nodes = y.Nodes := by
  constructor
  · rintro rfl; simp
  · intro h
    rcases x with ⟨aPc, aRegs, aSlots, aNodes⟩
    rcases y with ⟨bPc, bRegs, bSlots, bNodes⟩
    simp only at h
    obtain ⟨rfl, rfl, rfl, rfl⟩ := h
    rfl
def GState.size (x : GState) : Nat := (x.Regs.length) + (x.Slots.length) + (x.Nodes.length)
structure GVisit where
  Site : List GVersion
  Tick : Int
  Seed : Int
  Inputs : List Int
  deriving DecidableEq
def GVisit.enc (x : GVisit) : List T := [.sl 9 (x.Site.map GVersion.enc), tI x.Tick, tI x.Seed, .sl 1 (x.Inputs.map encI)]
def GVisit.dt : DT := .st (.fc (.sl GVersion.dt) (.fc .int (.fc .int (.fc (.sl .int) .fn))))
theorem GVisit.of {ts : List T} (h : IsT GVisit.dt ts) : ∃ x : GVisit, ts = x.enc := by
  simp only [GVisit.dt, IsT] at h
  obtain ⟨_, _, rfl, ⟨l0, rfl, k0⟩, _, _, rfl, ⟨v1, rfl⟩, _, _, rfl, ⟨v2, rfl⟩, _, _, rfl, ⟨l3, rfl, k3⟩, rfl⟩ := h
  obtain ⟨v0, rfl⟩ := list_of GVersion.of k0
  obtain ⟨v3, rfl⟩ := list_of int_of k3
  exact ⟨⟨v0, v1, v2, v3⟩, rfl⟩
theorem GVisit.eqv {x y : GVisit} : x = y ↔ x.Site = y.Site ∧ x.Tick = y.Tick ∧ x.Seed = y.Seed ∧ x.Inputs = y.Inputs := by
  constructor
  · rintro rfl; simp
  · intro h
    rcases x with ⟨aSite, aTick, aSeed, aInputs⟩
    rcases y with ⟨bSite, bTick, bSeed, bInputs⟩
    simp only at h
    obtain ⟨rfl, rfl, rfl, rfl⟩ := h
    rfl
def GVisit.size (x : GVisit) : Nat := (x.Site.length + (x.Site.map GVersion.size).sum) + (x.Inputs.length)
structure GWant where
  Kind : Int
  Address : GAddress
  deriving DecidableEq
def GWant.enc (x : GWant) : List T := [tI x.Kind, tI x.Address.Host, tI x.Address.Path, tI x.Address.Query]
def GWant.dt : DT := .st (.fc .int (.fc GAddress.dt .fn))
theorem GWant.of {ts : List T} (h : IsT GWant.dt ts) : ∃ x : GWant, ts = x.enc := by
  simp only [GWant.dt, IsT] at h
  obtain ⟨_, _, rfl, ⟨v0, rfl⟩, _, _, rfl, k1, rfl⟩ := h
  obtain ⟨v1, rfl⟩ := GAddress.of k1
  exact ⟨⟨v0, v1⟩, rfl⟩
theorem GWant.eqv {x y : GWant} : x = y ↔ x.Kind = y.Kind ∧ x.Address.Host = y.Address.Host ∧ x.Address.Path = y.Address.Path ∧ x.Address.Query = y.Address.Query := by
  constructor
  · rintro rfl; simp
  · intro h
    rcases x with ⟨aKind, ⟨aAddressHost, aAddressPath, aAddressQuery⟩⟩
    rcases y with ⟨bKind, ⟨bAddressHost, bAddressPath, bAddressQuery⟩⟩
    simp only at h
    obtain ⟨rfl, rfl, rfl, rfl⟩ := h
    rfl
structure GEntry where
  Kind : Int
  Address : GAddress
  Value : Int
  deriving DecidableEq
def GEntry.enc (x : GEntry) : List T := [tI x.Kind, tI x.Address.Host, tI x.Address.Path, tI x.Address.Query, tI x.Value]
def GEntry.dt : DT := .st (.fc .int (.fc GAddress.dt (.fc .int .fn)))
theorem GEntry.of {ts : List T} (h : IsT GEntry.dt ts) : ∃ x : GEntry, ts = x.enc := by
  simp only [GEntry.dt, IsT] at h
  obtain ⟨_, _, rfl, ⟨v0, rfl⟩, _, _, rfl, k1, _, _, rfl, ⟨v2, rfl⟩, rfl⟩ := h
  obtain ⟨v1, rfl⟩ := GAddress.of k1
  exact ⟨⟨v0, v1, v2⟩, rfl⟩
theorem GEntry.eqv {x y : GEntry} : x = y ↔ x.Kind = y.Kind ∧ x.Address.Host = y.Address.Host ∧ x.Address.Path = y.Address.Path ∧ x.Address.Query = y.Address.Query ∧ x.Value = y.Value := by
  constructor
  · rintro rfl; simp
  · intro h
    rcases x with ⟨aKind, ⟨aAddressHost, aAddressPath, aAddressQuery⟩, aValue⟩
    rcases y with ⟨bKind, ⟨bAddressHost, bAddressPath, bAddressQuery⟩, bValue⟩
    simp only at h
    obtain ⟨rfl, rfl, rfl, rfl, rfl⟩ := h
    rfl
structure GCapture where
  Address : GAddress
  Tick : Int
  Resource : GResource
  deriving DecidableEq
def GCapture.enc (x : GCapture) : List T := [tI x.Address.Host, tI x.Address.Path, tI x.Address.Query, tI x.Tick, tI x.Resource.Kind, .sl 1 (x.Resource.Body.map encI), tI x.Resource.To.Host, tI x.Resource.To.Path, tI x.Resource.To.Query]
def GCapture.dt : DT := .st (.fc GAddress.dt (.fc .int (.fc GResource.dt .fn)))
theorem GCapture.of {ts : List T} (h : IsT GCapture.dt ts) : ∃ x : GCapture, ts = x.enc := by
  simp only [GCapture.dt, IsT] at h
  obtain ⟨_, _, rfl, k0, _, _, rfl, ⟨v1, rfl⟩, _, _, rfl, k2, rfl⟩ := h
  obtain ⟨v0, rfl⟩ := GAddress.of k0
  obtain ⟨v2, rfl⟩ := GResource.of k2
  exact ⟨⟨v0, v1, v2⟩, rfl⟩
theorem GCapture.eqv {x y : GCapture} : x = y ↔ x.Address.Host = y.Address.Host ∧ x.Address.Path = y.Address.Path ∧ x.Address.Query = y.Address.Query ∧ x.Tick = y.Tick ∧ x.Resource.Kind = y.Resource.Kind ∧ x.Resource.Body = y.Resource.Body ∧ x.Resource.To.Host = y.Resource.To.Host ∧ x.Resource.To.Path = y.Resource.To.Path ∧ x.Resource.To.Query = y.Resource.To.Query := by
  constructor
  · rintro rfl; simp
  · intro h
    rcases x with ⟨⟨aAddressHost, aAddressPath, aAddressQuery⟩, aTick, ⟨aResourceKind, aResourceBody, ⟨aResourceToHost, aResourceToPath, aResourceToQuery⟩⟩⟩
    rcases y with ⟨⟨bAddressHost, bAddressPath, bAddressQuery⟩, bTick, ⟨bResourceKind, bResourceBody, ⟨bResourceToHost, bResourceToPath, bResourceToQuery⟩⟩⟩
    simp only at h
    obtain ⟨rfl, rfl, rfl, rfl, rfl, rfl, rfl, rfl, rfl⟩ := h
    rfl
def GCapture.size (x : GCapture) : Nat := (x.Resource.size)
structure GChoice where
  Rule : Int
  At : Int
  deriving DecidableEq
def GChoice.enc (x : GChoice) : List T := [tI x.Rule, tI x.At]
def GChoice.dt : DT := .st (.fc .int (.fc .int .fn))
theorem GChoice.of {ts : List T} (h : IsT GChoice.dt ts) : ∃ x : GChoice, ts = x.enc := by
  simp only [GChoice.dt, IsT] at h
  obtain ⟨_, _, rfl, ⟨v0, rfl⟩, _, _, rfl, ⟨v1, rfl⟩, rfl⟩ := h
  exact ⟨⟨v0, v1⟩, rfl⟩
theorem GChoice.eqv {x y : GChoice} : x = y ↔ x.Rule = y.Rule ∧ x.At = y.At := by
  constructor
  · rintro rfl; simp
  · intro h
    rcases x with ⟨aRule, aAt⟩
    rcases y with ⟨bRule, bAt⟩
    simp only at h
    obtain ⟨rfl, rfl⟩ := h
    rfl
structure GWander where
  State : GState
  Choices : List GChoice
  Labels : List Int
  Missing : Int
  deriving DecidableEq
def GWander.enc (x : GWander) : List T := [tI x.State.Pc, .sl 1 (x.State.Regs.map encI), .sl 1 (x.State.Slots.map encI), .sl 1 (x.State.Nodes.map encI), .sl 2 (x.Choices.map GChoice.enc), .sl 1 (x.Labels.map encI), tI x.Missing]
def GWander.dt : DT := .st (.fc GState.dt (.fc (.sl GChoice.dt) (.fc (.sl .int) (.fc .int .fn))))
theorem GWander.of {ts : List T} (h : IsT GWander.dt ts) : ∃ x : GWander, ts = x.enc := by
  simp only [GWander.dt, IsT] at h
  obtain ⟨_, _, rfl, k0, _, _, rfl, ⟨l1, rfl, k1⟩, _, _, rfl, ⟨l2, rfl, k2⟩, _, _, rfl, ⟨v3, rfl⟩, rfl⟩ := h
  obtain ⟨v0, rfl⟩ := GState.of k0
  obtain ⟨v1, rfl⟩ := list_of GChoice.of k1
  obtain ⟨v2, rfl⟩ := list_of int_of k2
  exact ⟨⟨v0, v1, v2, v3⟩, rfl⟩
theorem GWander.eqv {x y : GWander} : x = y ↔ x.State.Pc = y.State.Pc ∧ x.State.Regs = y.State.Regs ∧ x.State.Slots = y.State.Slots ∧ x.State.Nodes = y.State.Nodes ∧ x.Choices = y.Choices ∧ x.Labels = y.Labels ∧ x.Missing = y.Missing := by
  constructor
  · rintro rfl; simp
  · intro h
    rcases x with ⟨⟨aStatePc, aStateRegs, aStateSlots, aStateNodes⟩, aChoices, aLabels, aMissing⟩
    rcases y with ⟨⟨bStatePc, bStateRegs, bStateSlots, bStateNodes⟩, bChoices, bLabels, bMissing⟩
    simp only at h
    obtain ⟨rfl, rfl, rfl, rfl, rfl, rfl, rfl⟩ := h
    rfl
def GWander.size (x : GWander) : Nat := (x.State.size) + (x.Choices.length) + (x.Labels.length)
structure GModel where
  Base : Int
  Step : Int
  Seen : Int
  Fits : Bool
  deriving DecidableEq
def GModel.enc (x : GModel) : List T := [tI x.Base, tI x.Step, tI x.Seen, tB x.Fits]
def GModel.dt : DT := .st (.fc .int (.fc .int (.fc .int (.fc .bool .fn))))
theorem GModel.of {ts : List T} (h : IsT GModel.dt ts) : ∃ x : GModel, ts = x.enc := by
  simp only [GModel.dt, IsT] at h
  obtain ⟨_, _, rfl, ⟨v0, rfl⟩, _, _, rfl, ⟨v1, rfl⟩, _, _, rfl, ⟨v2, rfl⟩, _, _, rfl, ⟨v3, rfl⟩, rfl⟩ := h
  exact ⟨⟨v0, v1, v2, v3⟩, rfl⟩
theorem GModel.eqv {x y : GModel} : x = y ↔ x.Base = y.Base ∧ x.Step = y.Step ∧ x.Seen = y.Seen ∧ x.Fits = y.Fits := by
  constructor
  · rintro rfl; simp
  · intro h
    rcases x with ⟨aBase, aStep, aSeen, aFits⟩
    rcases y with ⟨bBase, bStep, bSeen, bFits⟩
    simp only at h
    obtain ⟨rfl, rfl, rfl, rfl⟩ := h
    rfl
structure GShown where
  Tick : Int
  Address : GAddress
  deriving DecidableEq
def GShown.enc (x : GShown) : List T := [tI x.Tick, tI x.Address.Host, tI x.Address.Path, tI x.Address.Query]
def GShown.dt : DT := .st (.fc .int (.fc GAddress.dt .fn))
theorem GShown.of {ts : List T} (h : IsT GShown.dt ts) : ∃ x : GShown, ts = x.enc := by
  simp only [GShown.dt, IsT] at h
  obtain ⟨_, _, rfl, ⟨v0, rfl⟩, _, _, rfl, k1, rfl⟩ := h
  obtain ⟨v1, rfl⟩ := GAddress.of k1
  exact ⟨⟨v0, v1⟩, rfl⟩
theorem GShown.eqv {x y : GShown} : x = y ↔ x.Tick = y.Tick ∧ x.Address.Host = y.Address.Host ∧ x.Address.Path = y.Address.Path ∧ x.Address.Query = y.Address.Query := by
  constructor
  · rintro rfl; simp
  · intro h
    rcases x with ⟨aTick, ⟨aAddressHost, aAddressPath, aAddressQuery⟩⟩
    rcases y with ⟨bTick, ⟨bAddressHost, bAddressPath, bAddressQuery⟩⟩
    simp only at h
    obtain ⟨rfl, rfl, rfl, rfl⟩ := h
    rfl
structure GLeaf where
  Value : Int
  Salt : Int
  Hidden : Bool
  Seal : Int
  deriving DecidableEq
def GLeaf.enc (x : GLeaf) : List T := [tI x.Value, tI x.Salt, tB x.Hidden, tI x.Seal]
def GLeaf.dt : DT := .st (.fc .int (.fc .int (.fc .bool (.fc .int .fn))))
theorem GLeaf.of {ts : List T} (h : IsT GLeaf.dt ts) : ∃ x : GLeaf, ts = x.enc := by
  simp only [GLeaf.dt, IsT] at h
  obtain ⟨_, _, rfl, ⟨v0, rfl⟩, _, _, rfl, ⟨v1, rfl⟩, _, _, rfl, ⟨v2, rfl⟩, _, _, rfl, ⟨v3, rfl⟩, rfl⟩ := h
  exact ⟨⟨v0, v1, v2, v3⟩, rfl⟩
theorem GLeaf.eqv {x y : GLeaf} : x = y ↔ x.Value = y.Value ∧ x.Salt = y.Salt ∧ x.Hidden = y.Hidden ∧ x.Seal = y.Seal := by
  constructor
  · rintro rfl; simp
  · intro h
    rcases x with ⟨aValue, aSalt, aHidden, aSeal⟩
    rcases y with ⟨bValue, bSalt, bHidden, bSeal⟩
    simp only at h
    obtain ⟨rfl, rfl, rfl, rfl⟩ := h
    rfl
structure GEdition where
  Captures : List GCapture
  From : Int
  Until : Int
  Hidden : List GAddress
  deriving DecidableEq
def GEdition.enc (x : GEdition) : List T := [.sl 9 (x.Captures.map GCapture.enc), tI x.From, tI x.Until, .sl 3 (x.Hidden.map GAddress.enc)]
def GEdition.dt : DT := .st (.fc (.sl GCapture.dt) (.fc .int (.fc .int (.fc (.sl GAddress.dt) .fn))))
theorem GEdition.of {ts : List T} (h : IsT GEdition.dt ts) : ∃ x : GEdition, ts = x.enc := by
  simp only [GEdition.dt, IsT] at h
  obtain ⟨_, _, rfl, ⟨l0, rfl, k0⟩, _, _, rfl, ⟨v1, rfl⟩, _, _, rfl, ⟨v2, rfl⟩, _, _, rfl, ⟨l3, rfl, k3⟩, rfl⟩ := h
  obtain ⟨v0, rfl⟩ := list_of GCapture.of k0
  obtain ⟨v3, rfl⟩ := list_of GAddress.of k3
  exact ⟨⟨v0, v1, v2, v3⟩, rfl⟩
theorem GEdition.eqv {x y : GEdition} : x = y ↔ x.Captures = y.Captures ∧ x.From = y.From ∧ x.Until = y.Until ∧ x.Hidden = y.Hidden := by
  constructor
  · rintro rfl; simp
  · intro h
    rcases x with ⟨aCaptures, aFrom, aUntil, aHidden⟩
    rcases y with ⟨bCaptures, bFrom, bUntil, bHidden⟩
    simp only at h
    obtain ⟨rfl, rfl, rfl, rfl⟩ := h
    rfl
def GEdition.size (x : GEdition) : Nat := (x.Captures.length + (x.Captures.map GCapture.size).sum) + (x.Hidden.length)
structure GExclusion where
  Host : Int
  Path : Int
  From : Int
  Until : Int
  Asked : Int
  deriving DecidableEq
def GExclusion.enc (x : GExclusion) : List T := [tI x.Host, tI x.Path, tI x.From, tI x.Until, tI x.Asked]
def GExclusion.dt : DT := .st (.fc .int (.fc .int (.fc .int (.fc .int (.fc .int .fn)))))
theorem GExclusion.of {ts : List T} (h : IsT GExclusion.dt ts) : ∃ x : GExclusion, ts = x.enc := by
  simp only [GExclusion.dt, IsT] at h
  obtain ⟨_, _, rfl, ⟨v0, rfl⟩, _, _, rfl, ⟨v1, rfl⟩, _, _, rfl, ⟨v2, rfl⟩, _, _, rfl, ⟨v3, rfl⟩, _, _, rfl, ⟨v4, rfl⟩, rfl⟩ := h
  exact ⟨⟨v0, v1, v2, v3, v4⟩, rfl⟩
theorem GExclusion.eqv {x y : GExclusion} : x = y ↔ x.Host = y.Host ∧ x.Path = y.Path ∧ x.From = y.From ∧ x.Until = y.Until ∧ x.Asked = y.Asked := by
  constructor
  · rintro rfl; simp
  · intro h
    rcases x with ⟨aHost, aPath, aFrom, aUntil, aAsked⟩
    rcases y with ⟨bHost, bPath, bFrom, bUntil, bAsked⟩
    simp only at h
    obtain ⟨rfl, rfl, rfl, rfl, rfl⟩ := h
    rfl
structure GStatement where
  Witness : Int
  Digest : Int
  Tick : Int
  Seal : Int
  deriving DecidableEq
def GStatement.enc (x : GStatement) : List T := [tI x.Witness, tI x.Digest, tI x.Tick, tI x.Seal]
def GStatement.dt : DT := .st (.fc .int (.fc .int (.fc .int (.fc .int .fn))))
theorem GStatement.of {ts : List T} (h : IsT GStatement.dt ts) : ∃ x : GStatement, ts = x.enc := by
  simp only [GStatement.dt, IsT] at h
  obtain ⟨_, _, rfl, ⟨v0, rfl⟩, _, _, rfl, ⟨v1, rfl⟩, _, _, rfl, ⟨v2, rfl⟩, _, _, rfl, ⟨v3, rfl⟩, rfl⟩ := h
  exact ⟨⟨v0, v1, v2, v3⟩, rfl⟩
theorem GStatement.eqv {x y : GStatement} : x = y ↔ x.Witness = y.Witness ∧ x.Digest = y.Digest ∧ x.Tick = y.Tick ∧ x.Seal = y.Seal := by
  constructor
  · rintro rfl; simp
  · intro h
    rcases x with ⟨aWitness, aDigest, aTick, aSeal⟩
    rcases y with ⟨bWitness, bDigest, bTick, bSeal⟩
    simp only at h
    obtain ⟨rfl, rfl, rfl, rfl⟩ := h
    rfl
structure GLibrary where
  Id : Int
  Digests : List Int
  Up : Bool
  Lies : Bool
  deriving DecidableEq
def GLibrary.enc (x : GLibrary) : List T := [tI x.Id, .sl 1 (x.Digests.map encI), tB x.Up, tB x.Lies]
def GLibrary.dt : DT := .st (.fc .int (.fc (.sl .int) (.fc .bool (.fc .bool .fn))))
theorem GLibrary.of {ts : List T} (h : IsT GLibrary.dt ts) : ∃ x : GLibrary, ts = x.enc := by
  simp only [GLibrary.dt, IsT] at h
  obtain ⟨_, _, rfl, ⟨v0, rfl⟩, _, _, rfl, ⟨l1, rfl, k1⟩, _, _, rfl, ⟨v2, rfl⟩, _, _, rfl, ⟨v3, rfl⟩, rfl⟩ := h
  obtain ⟨v1, rfl⟩ := list_of int_of k1
  exact ⟨⟨v0, v1, v2, v3⟩, rfl⟩
theorem GLibrary.eqv {x y : GLibrary} : x = y ↔ x.Id = y.Id ∧ x.Digests = y.Digests ∧ x.Up = y.Up ∧ x.Lies = y.Lies := by
  constructor
  · rintro rfl; simp
  · intro h
    rcases x with ⟨aId, aDigests, aUp, aLies⟩
    rcases y with ⟨bId, bDigests, bUp, bLies⟩
    simp only at h
    obtain ⟨rfl, rfl, rfl, rfl⟩ := h
    rfl
def GLibrary.size (x : GLibrary) : Nat := (x.Digests.length)
structure GContainer where
  Script : List GOp
  Entries : List GEntry
  Captures : List GCapture
  Root : Int
  deriving DecidableEq
def GContainer.enc (x : GContainer) : List T := [.sl 4 (x.Script.map GOp.enc), .sl 5 (x.Entries.map GEntry.enc), .sl 9 (x.Captures.map GCapture.enc), tI x.Root]
def GContainer.dt : DT := .st (.fc (.sl GOp.dt) (.fc (.sl GEntry.dt) (.fc (.sl GCapture.dt) (.fc .int .fn))))
theorem GContainer.of {ts : List T} (h : IsT GContainer.dt ts) : ∃ x : GContainer, ts = x.enc := by
  simp only [GContainer.dt, IsT] at h
  obtain ⟨_, _, rfl, ⟨l0, rfl, k0⟩, _, _, rfl, ⟨l1, rfl, k1⟩, _, _, rfl, ⟨l2, rfl, k2⟩, _, _, rfl, ⟨v3, rfl⟩, rfl⟩ := h
  obtain ⟨v0, rfl⟩ := list_of GOp.of k0
  obtain ⟨v1, rfl⟩ := list_of GEntry.of k1
  obtain ⟨v2, rfl⟩ := list_of GCapture.of k2
  exact ⟨⟨v0, v1, v2, v3⟩, rfl⟩
theorem GContainer.eqv {x y : GContainer} : x = y ↔ x.Script = y.Script ∧ x.Entries = y.Entries ∧ x.Captures = y.Captures ∧ x.Root = y.Root := by
  constructor
  · rintro rfl; simp
  · intro h
    rcases x with ⟨aScript, aEntries, aCaptures, aRoot⟩
    rcases y with ⟨bScript, bEntries, bCaptures, bRoot⟩
    simp only at h
    obtain ⟨rfl, rfl, rfl, rfl⟩ := h
    rfl
def GContainer.size (x : GContainer) : Nat := (x.Script.length) + (x.Entries.length) + (x.Captures.length + (x.Captures.map GCapture.size).sum)
structure GFound where
  Address : GAddress
  Tick : Int
  Container : Int
  At : Int
  deriving DecidableEq
def GFound.enc (x : GFound) : List T := [tI x.Address.Host, tI x.Address.Path, tI x.Address.Query, tI x.Tick, tI x.Container, tI x.At]
def GFound.dt : DT := .st (.fc GAddress.dt (.fc .int (.fc .int (.fc .int .fn))))
theorem GFound.of {ts : List T} (h : IsT GFound.dt ts) : ∃ x : GFound, ts = x.enc := by
  simp only [GFound.dt, IsT] at h
  obtain ⟨_, _, rfl, k0, _, _, rfl, ⟨v1, rfl⟩, _, _, rfl, ⟨v2, rfl⟩, _, _, rfl, ⟨v3, rfl⟩, rfl⟩ := h
  obtain ⟨v0, rfl⟩ := GAddress.of k0
  exact ⟨⟨v0, v1, v2, v3⟩, rfl⟩
theorem GFound.eqv {x y : GFound} : x = y ↔ x.Address.Host = y.Address.Host ∧ x.Address.Path = y.Address.Path ∧ x.Address.Query = y.Address.Query ∧ x.Tick = y.Tick ∧ x.Container = y.Container ∧ x.At = y.At := by
  constructor
  · rintro rfl; simp
  · intro h
    rcases x with ⟨⟨aAddressHost, aAddressPath, aAddressQuery⟩, aTick, aContainer, aAt⟩
    rcases y with ⟨⟨bAddressHost, bAddressPath, bAddressQuery⟩, bTick, bContainer, bAt⟩
    simp only at h
    obtain ⟨rfl, rfl, rfl, rfl, rfl, rfl⟩ := h
    rfl
structure GDisk where
  Containers : List GContainer
  Index : List GFound
  Wanted : List GContainer
  deriving DecidableEq
def GDisk.enc (x : GDisk) : List T := [.sl 4 (x.Containers.map GContainer.enc), .sl 6 (x.Index.map GFound.enc), .sl 4 (x.Wanted.map GContainer.enc)]
def GDisk.dt : DT := .st (.fc (.sl GContainer.dt) (.fc (.sl GFound.dt) (.fc (.sl GContainer.dt) .fn)))
theorem GDisk.of {ts : List T} (h : IsT GDisk.dt ts) : ∃ x : GDisk, ts = x.enc := by
  simp only [GDisk.dt, IsT] at h
  obtain ⟨_, _, rfl, ⟨l0, rfl, k0⟩, _, _, rfl, ⟨l1, rfl, k1⟩, _, _, rfl, ⟨l2, rfl, k2⟩, rfl⟩ := h
  obtain ⟨v0, rfl⟩ := list_of GContainer.of k0
  obtain ⟨v1, rfl⟩ := list_of GFound.of k1
  obtain ⟨v2, rfl⟩ := list_of GContainer.of k2
  exact ⟨⟨v0, v1, v2⟩, rfl⟩
theorem GDisk.eqv {x y : GDisk} : x = y ↔ x.Containers = y.Containers ∧ x.Index = y.Index ∧ x.Wanted = y.Wanted := by
  constructor
  · rintro rfl; simp
  · intro h
    rcases x with ⟨aContainers, aIndex, aWanted⟩
    rcases y with ⟨bContainers, bIndex, bWanted⟩
    simp only at h
    obtain ⟨rfl, rfl, rfl⟩ := h
    rfl
def GDisk.size (x : GDisk) : Nat := (x.Containers.length + (x.Containers.map GContainer.size).sum) + (x.Index.length) + (x.Wanted.length + (x.Wanted.map GContainer.size).sum)
structure GArchive where
  Site : List GVersion
  Script : List GOp
  Disk : GDisk
  Exclusions : List GExclusion
  Libraries : List GLibrary
  Keys : List Int
  Statements : List GStatement
  Now : Int
  deriving DecidableEq
def GArchive.enc (x : GArchive) : List T := [.sl 9 (x.Site.map GVersion.enc), .sl 4 (x.Script.map GOp.enc), .sl 4 (x.Disk.Containers.map GContainer.enc), .sl 6 (x.Disk.Index.map GFound.enc), .sl 4 (x.Disk.Wanted.map GContainer.enc), .sl 5 (x.Exclusions.map GExclusion.enc), .sl 4 (x.Libraries.map GLibrary.enc), .sl 1 (x.Keys.map encI), .sl 4 (x.Statements.map GStatement.enc), tI x.Now]
def GArchive.dt : DT := .st (.fc (.sl GVersion.dt) (.fc (.sl GOp.dt) (.fc GDisk.dt (.fc (.sl GExclusion.dt) (.fc (.sl GLibrary.dt) (.fc (.sl .int) (.fc (.sl GStatement.dt) (.fc .int .fn))))))))
theorem GArchive.of {ts : List T} (h : IsT GArchive.dt ts) : ∃ x : GArchive, ts = x.enc := by
  simp only [GArchive.dt, IsT] at h
  obtain ⟨_, _, rfl, ⟨l0, rfl, k0⟩, _, _, rfl, ⟨l1, rfl, k1⟩, _, _, rfl, k2, _, _, rfl, ⟨l3, rfl, k3⟩, _, _, rfl, ⟨l4, rfl, k4⟩, _, _, rfl, ⟨l5, rfl, k5⟩, _, _, rfl, ⟨l6, rfl, k6⟩, _, _, rfl, ⟨v7, rfl⟩, rfl⟩ := h
  obtain ⟨v0, rfl⟩ := list_of GVersion.of k0
  obtain ⟨v1, rfl⟩ := list_of GOp.of k1
  obtain ⟨v2, rfl⟩ := GDisk.of k2
  obtain ⟨v3, rfl⟩ := list_of GExclusion.of k3
  obtain ⟨v4, rfl⟩ := list_of GLibrary.of k4
  obtain ⟨v5, rfl⟩ := list_of int_of k5
  obtain ⟨v6, rfl⟩ := list_of GStatement.of k6
  exact ⟨⟨v0, v1, v2, v3, v4, v5, v6, v7⟩, rfl⟩
theorem GArchive.eqv {x y : GArchive} : x = y ↔ x.Site = y.Site ∧ x.Script = y.Script ∧ x.Disk.Containers = y.Disk.Containers ∧ x.Disk.Index = y.Disk.Index ∧ x.Disk.Wanted = y.Disk.Wanted ∧ x.Exclusions = y.Exclusions ∧ x.Libraries = y.Libraries ∧ x.Keys = y.Keys ∧ x.Statements = y.Statements ∧ x.Now = y.Now := by
  constructor
  · rintro rfl; simp
  · intro h
    rcases x with ⟨aSite, aScript, ⟨aDiskContainers, aDiskIndex, aDiskWanted⟩, aExclusions, aLibraries, aKeys, aStatements, aNow⟩
    rcases y with ⟨bSite, bScript, ⟨bDiskContainers, bDiskIndex, bDiskWanted⟩, bExclusions, bLibraries, bKeys, bStatements, bNow⟩
    simp only at h
    obtain ⟨rfl, rfl, rfl, rfl, rfl, rfl, rfl, rfl, rfl, rfl⟩ := h
    rfl
def GArchive.size (x : GArchive) : Nat := (x.Site.length + (x.Site.map GVersion.size).sum) + (x.Script.length) + (x.Disk.size) + (x.Exclusions.length) + (x.Libraries.length + (x.Libraries.map GLibrary.size).sum) + (x.Keys.length) + (x.Statements.length)
structure GEvent where
  Kind : Int
  N : Int
  Inputs : List Int
  Version : GVersion
  Exclusion : GExclusion
  deriving DecidableEq
def GEvent.enc (x : GEvent) : List T := [tI x.Kind, tI x.N, .sl 1 (x.Inputs.map encI), tI x.Version.Address.Host, tI x.Version.Address.Path, tI x.Version.Address.Query, tI x.Version.From, tI x.Version.Resource.Kind, .sl 1 (x.Version.Resource.Body.map encI), tI x.Version.Resource.To.Host, tI x.Version.Resource.To.Path, tI x.Version.Resource.To.Query, tI x.Exclusion.Host, tI x.Exclusion.Path, tI x.Exclusion.From, tI x.Exclusion.Until, tI x.Exclusion.Asked]
def GEvent.dt : DT := .st (.fc .int (.fc .int (.fc (.sl .int) (.fc GVersion.dt (.fc GExclusion.dt .fn)))))
theorem GEvent.of {ts : List T} (h : IsT GEvent.dt ts) : ∃ x : GEvent, ts = x.enc := by
  simp only [GEvent.dt, IsT] at h
  obtain ⟨_, _, rfl, ⟨v0, rfl⟩, _, _, rfl, ⟨v1, rfl⟩, _, _, rfl, ⟨l2, rfl, k2⟩, _, _, rfl, k3, _, _, rfl, k4, rfl⟩ := h
  obtain ⟨v2, rfl⟩ := list_of int_of k2
  obtain ⟨v3, rfl⟩ := GVersion.of k3
  obtain ⟨v4, rfl⟩ := GExclusion.of k4
  exact ⟨⟨v0, v1, v2, v3, v4⟩, rfl⟩
theorem GEvent.eqv {x y : GEvent} : x = y ↔ x.Kind = y.Kind ∧ x.N = y.N ∧ x.Inputs = y.Inputs ∧ x.Version.Address.Host = y.Version.Address.Host ∧ x.Version.Address.Path = y.Version.Address.Path ∧ x.Version.Address.Query = y.Version.Address.Query ∧ x.Version.From = y.Version.From ∧ x.Version.Resource.Kind = y.Version.Resource.Kind ∧ x.Version.Resource.Body = y.Version.Resource.Body ∧ x.Version.Resource.To.Host = y.Version.Resource.To.Host ∧ x.Version.Resource.To.Path = y.Version.Resource.To.Path ∧ x.Version.Resource.To.Query = y.Version.Resource.To.Query ∧ x.Exclusion.Host = y.Exclusion.Host ∧ x.Exclusion.Path = y.Exclusion.Path ∧ x.Exclusion.From = y.Exclusion.From ∧ x.Exclusion.Until = y.Exclusion.Until ∧ x.Exclusion.Asked = y.Exclusion.Asked := by
  constructor
  · rintro rfl; simp
  · intro h
    rcases x with ⟨aKind, aN, aInputs, ⟨⟨aVersionAddressHost, aVersionAddressPath, aVersionAddressQuery⟩, aVersionFrom, ⟨aVersionResourceKind, aVersionResourceBody, ⟨aVersionResourceToHost, aVersionResourceToPath, aVersionResourceToQuery⟩⟩⟩, ⟨aExclusionHost, aExclusionPath, aExclusionFrom, aExclusionUntil, aExclusionAsked⟩⟩
    rcases y with ⟨bKind, bN, bInputs, ⟨⟨bVersionAddressHost, bVersionAddressPath, bVersionAddressQuery⟩, bVersionFrom, ⟨bVersionResourceKind, bVersionResourceBody, ⟨bVersionResourceToHost, bVersionResourceToPath, bVersionResourceToQuery⟩⟩⟩, ⟨bExclusionHost, bExclusionPath, bExclusionFrom, bExclusionUntil, bExclusionAsked⟩⟩
    simp only at h
    obtain ⟨rfl, rfl, rfl, rfl, rfl, rfl, rfl, rfl, rfl, rfl, rfl, rfl, rfl, rfl, rfl, rfl, rfl⟩ := h
    rfl
def GEvent.size (x : GEvent) : Nat := (x.Inputs.length) + (x.Version.size)
structure GChange where
  Tick : Int
  Digest : Int
  deriving DecidableEq
def GChange.enc (x : GChange) : List T := [tI x.Tick, tI x.Digest]
def GChange.dt : DT := .st (.fc .int (.fc .int .fn))
theorem GChange.of {ts : List T} (h : IsT GChange.dt ts) : ∃ x : GChange, ts = x.enc := by
  simp only [GChange.dt, IsT] at h
  obtain ⟨_, _, rfl, ⟨v0, rfl⟩, _, _, rfl, ⟨v1, rfl⟩, rfl⟩ := h
  exact ⟨⟨v0, v1⟩, rfl⟩
theorem GChange.eqv {x y : GChange} : x = y ↔ x.Tick = y.Tick ∧ x.Digest = y.Digest := by
  constructor
  · rintro rfl; simp
  · intro h
    rcases x with ⟨aTick, aDigest⟩
    rcases y with ⟨bTick, bDigest⟩
    simp only at h
    obtain ⟨rfl, rfl⟩ := h
    rfl
structure GPlayed where
  Code : Int
  At : Int
  State : GState
  deriving DecidableEq
def GPlayed.enc (x : GPlayed) : List T := [tI x.Code, tI x.At, tI x.State.Pc, .sl 1 (x.State.Regs.map encI), .sl 1 (x.State.Slots.map encI), .sl 1 (x.State.Nodes.map encI)]
def GPlayed.dt : DT := .st (.fc .int (.fc .int (.fc GState.dt .fn)))
theorem GPlayed.of {ts : List T} (h : IsT GPlayed.dt ts) : ∃ x : GPlayed, ts = x.enc := by
  simp only [GPlayed.dt, IsT] at h
  obtain ⟨_, _, rfl, ⟨v0, rfl⟩, _, _, rfl, ⟨v1, rfl⟩, _, _, rfl, k2, rfl⟩ := h
  obtain ⟨v2, rfl⟩ := GState.of k2
  exact ⟨⟨v0, v1, v2⟩, rfl⟩
theorem GPlayed.eqv {x y : GPlayed} : x = y ↔ x.Code = y.Code ∧ x.At = y.At ∧ x.State.Pc = y.State.Pc ∧ x.State.Regs = y.State.Regs ∧ x.State.Slots = y.State.Slots ∧ x.State.Nodes = y.State.Nodes := by
  constructor
  · rintro rfl; simp
  · intro h
    rcases x with ⟨aCode, aAt, ⟨aStatePc, aStateRegs, aStateSlots, aStateNodes⟩⟩
    rcases y with ⟨bCode, bAt, ⟨bStatePc, bStateRegs, bStateSlots, bStateNodes⟩⟩
    simp only at h
    obtain ⟨rfl, rfl, rfl, rfl, rfl, rfl⟩ := h
    rfl
def GPlayed.size (x : GPlayed) : Nat := (x.State.size)
attribute [go_sem] encI encB GAddress.enc GResource.enc GPart.enc GPiece.enc GVersion.enc GOp.enc GState.enc GVisit.enc GWant.enc GEntry.enc GCapture.enc GChoice.enc GWander.enc GModel.enc GShown.enc GLeaf.enc GEdition.enc GExclusion.enc GStatement.enc GLibrary.enc GContainer.enc GFound.enc GDisk.enc GArchive.enc GEvent.enc GChange.enc GPlayed.enc
end Go.Proofs.YtldjbgjcfncdjaaDoorR
namespace Go.Proofs.YtldjbgjcfncdjaaDoorR
open Go Go.RowKit
/-- What is left of a bound. -/
def szr (n : Nat) (left : Int) : Int := if (n : Int) ≤ left then left - n else -1
theorem szr_neg {n : Nat} {left : Int} (_ : 0 ≤ left) : szr n left < 0 ↔ left < n := by unfold szr; split <;> omega
theorem szr_add {n m : Nat} {left : Int} (_ : 0 ≤ left) (h1 : ¬ szr n left < 0) : 0 ≤ szr n left ∧ szr n left ≤ left ∧ szr (n + m) left = szr m (szr n left) := by
  unfold szr at *
  split at h1
  · rename_i h2
    simp only [h2, if_true]
    refine ⟨by omega, by omega, ?_⟩
    split <;> split <;> omega
  · omega
theorem szr_bad {n m : Nat} {left : Int} (h : 0 ≤ left) (h1 : szr n left < 0) : szr (n + m) left = -1 := by
  rw [szr_neg h] at h1
  unfold szr
  rw [if_neg (by omega)]
/-- Cells of a result: lists are the caller's own. -/
def own : List T → List (Bool × T)
  | [] => []
  | .sl k es :: l => (true, .sl k es) :: own l
  | t :: l => (false, t) :: own l
@[go_sem] theorem own_nil : own [] = [] := rfl
@[go_sem] theorem own_sl {k es l} : own (.sl k es :: l) = (true, .sl k es) :: own l := rfl
@[go_sem] theorem own_sc {v l} : own (.sc v :: l) = (false, .sc v) :: own l := rfl
/-- A struct, a list as results of the caller's own. -/
abbrev rS (ts : List T) : RV := ⟨true, own ts⟩
abbrev rL (k : Nat) (es : List (List T)) : RV := ⟨false, [(true, .sl k es)]⟩
abbrev aS (ts : List T) : Bool × List T := (true, ts)
attribute [go_sem] rS rL aS
/-- A row that is being filled. -/
def filled {α : Type} (f : α → List T) (z : List T) (xs : List α) (k : Nat) : List (List T) := (xs.take k).map f ++ List.replicate (xs.length - k) z
section
variable {α : Type} {f : α → List T} {z : List T} {xs : List α} {k : Nat}
@[go_sem] theorem filled_len (h : k ≤ xs.length) : (filled f z xs k).length = xs.length := by simp [filled]; omega
theorem filled_zero : filled f z xs 0 = List.replicate xs.length z := by simp [filled]
theorem filled_all : filled f z xs xs.length = xs.map f := by simp [filled]
theorem filled_get (h : k < xs.length) : (filled f z xs k)[k]? = some z := by
  unfold filled
  rw [List.getElem?_append_right (by simp; omega), List.getElem?_replicate, if_pos (by simp; omega)]
theorem filled_set {x : α} (h : xs[k]? = some x) : (filled f z xs k).set k (f x) = filled f z xs (k + 1) := by
  have hk := len_at h
  unfold filled
  rw [List.set_append_right _ _ (by simp; omega), take_snoc h]
  have e : xs.length - k = (xs.length - (k + 1)) + 1 := by omega
  rw [e, List.replicate_succ]
  have e2 : k - (List.map f (List.take k xs)).length = 0 := by simp; omega
  rw [e2]
  simp
end
theorem replicate_toNat {n : Nat} {z : List T} : List.replicate (n : Int).toNat z = List.replicate n z := by simp
theorem take_eq_step {α : Type} {xs ys : List α} {k : Nat} {x y : α} (hx : xs[k]? = some x) (hy : ys[k]? = some y) (h : xs.take k = ys.take k) : xs.take (k + 1) = ys.take (k + 1) ↔ x = y := by
  rw [take_snoc hx, take_snoc hy, h]
  simp
theorem ne_at {α : Type} [DecidableEq α] {xs ys : List α} {k : Nat} {x y : α} (hx : xs[k]? = some x) (hy : ys[k]? = some y) (h : ¬ x = y) : false = decide (xs = ys) := by
  symm
  rw [decide_eq_false_iff_not]
  rintro rfl
  rw [hx] at hy
  exact h (Option.some.inj hy)
theorem ne_len {α : Type} [DecidableEq α] {xs ys : List α} (h : ¬ (xs.length : Int) = ys.length) : false = decide (xs = ys) := by
  symm
  rw [decide_eq_false_iff_not]
  rintro rfl
  exact h rfl
theorem eq_all {α : Type} [DecidableEq α] {xs ys : List α} (he : xs.take xs.length = ys.take xs.length) (hl : xs.length = ys.length) : true = decide (xs = ys) := by
  symm
  rw [decide_eq_true_iff]
  rw [List.take_length] at he
  rw [he, hl, List.take_length]
theorem szr_bad' {n N : Nat} {left : Int} (h0 : 0 ≤ left) (h : szr n left < 0) (hn : n ≤ N) : -1 = szr N left := by
  rw [szr_neg h0] at h
  unfold szr
  rw [if_neg (by omega)]
theorem szr_ok {n : Nat} {left : Int} (h : ¬ szr n left < 0) : (n : Int) ≤ left := by
  unfold szr at h
  split at h <;> omega
theorem sum_snoc {α : Type} {f : α → Nat} {l : List α} {k : Nat} {x : α} (h : l[k]? = some x) : ((l.take (k + 1)).map f).sum = ((l.take k).map f).sum + f x := by
  rw [take_snoc h]; simp
theorem sum_take_le {α : Type} {f : α → Nat} (l : List α) (k : Nat) : ((l.take k).map f).sum ≤ (l.map f).sum := by
  have h : (l.map f).sum = ((l.take k).map f).sum + ((l.drop k).map f).sum := by
    rw [← List.sum_append, ← List.map_append, List.take_append_drop]
  omega
theorem mem_sum {α : Type} {f : α → Nat} {l : List α} {x : α} (h : x ∈ l) : f x ≤ (l.map f).sum := by
  induction l with
  | nil => simp at h
  | cons y l ih =>
    rcases List.mem_cons.1 h with rfl | h
    · simp
    · have := ih h; simp; omega
theorem snoc_len {α : Type} {l : List α} {k : Nat} {x : α} (h : l[k]? = some x) : (l.take k).length + 1 = (l.take (k + 1)).length := by
  rw [take_snoc h]; simp
theorem snoc_map {α : Type} {f : α → List T} {l : List α} {k : Nat} {x : α} (h : l[k]? = some x) : (l.take k).map f ++ [f x] = (l.take (k + 1)).map f := by
  rw [take_snoc h]; simp
end Go.Proofs.YtldjbgjcfncdjaaDoorR
namespace Go.Proofs.YtldjbgjcfncdjaaDoorR
open Go Go.RowKit Go.Proofs
set_option linter.unusedSimpArgs false
set_option linter.unusedVariables false
theorem hmix : Tryd.prog.follows .mixedOrders = true := by kernel_rfl
abbrev n_laws_FnExactFormatCapture : Nat := 6
abbrev n_laws_toIntS : Nat := 10
abbrev n_laws_eqIntS : Nat := 12
abbrev n_laws_szCapture : Nat := 23
abbrev n_spec_FormatCapture : Nat := 24
abbrev n_laws_toCapture : Nat := 25
abbrev n_impl_FormatCapture : Nat := 26
abbrev n_laws_eqCapture : Nat := 27
abbrev n_spec_FormatInt : Nat := 42
abbrev n_impl_FormatInt : Nat := 45
abbrev n_laws_szResource : Nat := 49
abbrev n_spec_AddressText : Nat := 50
abbrev n_spec_ResourceText : Nat := 51
abbrev n_laws_toAddress : Nat := 52
abbrev n_laws_toResource : Nat := 53
abbrev n_impl_AddressText : Nat := 54
abbrev n_impl_ResourceText : Nat := 55
abbrev n_laws_eqAddress : Nat := 56
abbrev n_laws_eqResource : Nat := 57
abbrev n_laws_szIntS : Nat := 59
abbrev n_spec_l1In : Nat := 84
abbrev n_strconv_Itoa : Nat := 86
abbrev n_spec_IsAddress : Nat := 87
abbrev n_spec_IsResource : Nat := 88
abbrev n_impl_IsAddress : Nat := 89
abbrev n_impl_IsResource : Nat := 90
abbrev n_spec_l5Bytes : Nat := 115
abbrev n_impl_InRange : Nat := 116
abbrev n_impl_allIn : Nat := 117
abbrev n_math_bits_Len64 : Nat := 141
abbrev n_math_bits_TrailingZeros : Nat := 144
abbrev n_math_bits_TrailingZeros32 : Nat := 145
abbrev n_math_bits_TrailingZeros64 : Nat := 146
def m_laws_szIntS : MC :=
(.seq (pr [.mv 4 (.c (.int .i64 0))] [0,1])
(.seq (pr [.mv 5 (.s 1), .mv 6 (.s 0), .len 7 false (.s 6), .bin 8 false .sub (.s 5) (.s 7), .mv 1 (.s 8)] [1])
(.seq (.seq (pr [.mv 9 (.s 1), .bin 10 false .lss (.s 9) (.c (.int .i64 0))] [1,10])
(.cond (.s 10) (.seq (pr [.mv 4 (.c (.int .i64 (-1)))] [4])
.ret) .skip))
(.seq (pr [.mv 11 (.s 1), .mv 4 (.s 11)] [4])
.ret))))
theorem c_laws_szIntS (xs : List Int) (left : Int) (h0 : 0 ≤ left) : Ctr Tryd.prog n_laws_szIntS [aL 1 (xs.map encI), aI left] [rI (szr xs.length left)] := by
  refine ctr_at (M := m_laws_szIntS) (m := 0) (n := 12) (res := [(.tmp 4, [false])]) hmix Tryd.func59 rfl (by kernel_rfl) rfl (by kernel_rfl) (by kernel_rfl) (Nat.le_of_ble_eq_true rfl) ?_; unfold m_laws_szIntS
  intro hb
  simp only [bdA, bdL, bdT, bdR, bdR_map, wfB_i64, wfB_bool, wfB_str, roomB, and_true, true_and, List.length_map] at hb
  obtain ⟨⟨hl, -⟩, hn⟩ := hb
  simp only [↓bk_bind, ↓bk_map, ↓bk_ite, ↓bk_some, ↓reduceIte, Nat.reduceEqDiff, Nat.reduceLT, Nat.reduceLeDiff, Nat.reduceAdd, Nat.reduceMul, reduceCtorEq, List.reduceReplicate, go_sem]
  rw [wI (by omega) (by omega)]
  unfold szr
  refine ⟨fun h => ?_, fun h => ?_⟩
  · rw [if_neg (by omega)]
  · rw [if_pos (by omega)]
def m_laws_toIntS : MC :=
(.seq (pr [.nilo 2 0 1] [0])
(.seq (pr [.mv 5 (.s 0), .len 6 false (.s 5), .mk 7 0 1 8 [.sc (.int .i64 0)] (.s 6), .mv 3 (.s 7)] [0,3])
(.seq (.seq (pr [.mv 4 (.c (.int .i64 0))] [0,3,4])
(.block 0 (.loop ([0,3,4], []) (.seq (.seq (pr [.mv 8 (.s 4), .mv 9 (.s 0), .len 10 false (.s 9), .bin 11 false .lss (.s 8) (.s 10)] [0,3,4,11])
(.cond (.s 11) .skip (.exit 0)))
(.seq (.block 1 (pr [.mv 14 (.s 3), .mv 15 (.s 4), .mv 16 (.s 0), .mv 17 (.s 4), .idx 18 1 (.s 16) (.s 17), .load 19 false 1 (.s 18), .idx 20 1 (.s 14) (.s 15), .store 1 (.s 20) (.s 19)] [0,3,4]))
(pr [.mv 12 (.s 4), .bin 13 false .add (.s 12) (.c (.int .i64 1)), .mv 4 (.s 13)] [0,3,4]))))))
(.seq (pr [.mv 21 (.s 3), .mv 2 (.s 21)] [2])
.ret))))
theorem c_laws_toIntS (xs : List Int) (hs : xs.length ≤ 1073741824) : Ctr Tryd.prog n_laws_toIntS [aL 1 (xs.map encI)] [rL 1 (xs.map encI)] := by
  refine ctr_at (M := m_laws_toIntS) (m := 1) (n := 22) (res := [(.tmp 2, [true])]) hmix Tryd.func10 rfl (by kernel_rfl) rfl (by kernel_rfl) (by kernel_rfl) (Nat.le_of_ble_eq_true rfl) ?_; unfold m_laws_toIntS
  intro hb
  simp only [↓bk_bind, ↓bk_map, ↓bk_ite, ↓bk_some, ↓reduceIte, Nat.reduceEqDiff, Nat.reduceLT, Nat.reduceLeDiff, Nat.reduceAdd, Nat.reduceMul, reduceCtorEq, List.reduceReplicate, go_sem, replicate_toNat]
  refine ⟨⟨by omega, by simp only [roomB]; omega⟩, ?_⟩
  refine loopK_rng xs (fun k => [(4, vI k)]) (fun k => [(0, ⟨0, .row true 1 (filled encI [tI 0] xs k)⟩)]) (fun _ => True) (by simp only [roomB]; omega) ?_
  simp only [↓bk_bind, ↓bk_map, ↓bk_ite, ↓bk_some, ↓reduceIte, Nat.reduceEqDiff, Nat.reduceLT, Nat.reduceLeDiff, Nat.reduceAdd, Nat.reduceMul, reduceCtorEq, List.reduceReplicate, go_sem]
  refine ⟨?_, trivial, ?_, ?_⟩
  · simp only [↓bk_bind, ↓bk_map, ↓bk_ite, ↓bk_some, ↓reduceIte, Nat.reduceEqDiff, Nat.reduceLT, Nat.reduceLeDiff, Nat.reduceAdd, Nat.reduceMul, reduceCtorEq, List.reduceReplicate, go_sem, filled_zero]
    all_goals rfl
  · intro k x hx _ h0 h1 hw
    have h : k < xs.length := by omega
    simp only [↓bk_bind, ↓bk_map, ↓bk_ite, ↓bk_some, ↓reduceIte, Nat.reduceEqDiff, Nat.reduceLT, Nat.reduceLeDiff, Nat.reduceAdd, Nat.reduceMul, reduceCtorEq, List.reduceReplicate, go_sem, bk_eq hx, bk_eq (filled_get h), filled_len (Nat.le_of_lt h), h0, h1, hw]
    exact filled_set hx
  · intro _
    simp only [↓bk_bind, ↓bk_map, ↓bk_ite, ↓bk_some, ↓reduceIte, Nat.reduceEqDiff, Nat.reduceLT, Nat.reduceLeDiff, Nat.reduceAdd, Nat.reduceMul, reduceCtorEq, List.reduceReplicate, go_sem, filled_all]
def m_laws_eqIntS : MC :=
(.seq (pr [.mv 4 (.c (.bool false))] [0,1])
(.seq (.seq (pr [.mv 6 (.s 0), .len 7 false (.s 6), .mv 8 (.s 1), .len 9 false (.s 8), .bin 10 false .neq (.s 7) (.s 9)] [0,1,10])
(.cond (.s 10) (.seq (pr [.mv 4 (.c (.bool false))] [4])
.ret) .skip))
(.seq (.seq (pr [.mv 5 (.c (.int .i64 0))] [0,1,5])
(.block 0 (.loop ([0,1,5], []) (.seq (.seq (pr [.mv 11 (.s 5), .mv 12 (.s 0), .len 13 false (.s 12), .bin 14 false .lss (.s 11) (.s 13)] [0,1,5,14])
(.cond (.s 14) .skip (.exit 0)))
(.seq (.block 1 (.seq (.dreg [{ o := .mv 17 (.s 0), hs := [18,21,22,23,24] }, { o := .mv 18 (.s 5), hs := [17,21,22,23,24] }, { o := .idx 19 1 (.s 17) (.s 18), hs := [21,22,23,24], bf := [0,1] }, { o := .load 20 false 1 (.s 19), hs := [21,22,23,24], bf := [0,1,2] }, { o := .mv 21 (.s 1), hs := [17,18,19,20,22] }, { o := .mv 22 (.s 5), hs := [17,18,19,20,21] }, { o := .idx 23 1 (.s 21) (.s 22), hs := [17,18,19,20], bf := [4,5] }, { o := .load 24 false 1 (.s 23), hs := [17,18,19,20], bf := [4,5,6] }, { o := .bin 25 false .neq (.s 20) (.s 24), bf := [0,1,2,3,4,5,6,7] }] [0,1,5,25])
(.cond (.s 25) (.seq (pr [.mv 4 (.c (.bool false))] [4])
.ret) .skip)))
(pr [.mv 15 (.s 5), .bin 16 false .add (.s 15) (.c (.int .i64 1)), .mv 5 (.s 16)] [0,1,5]))))))
(.seq (pr [.mv 4 (.c (.bool true))] [4])
.ret))))
theorem c_laws_eqIntS (xs ys : List Int) : Ctr Tryd.prog n_laws_eqIntS [aL 1 (xs.map encI), aL 1 (ys.map encI)] [rB (decide (xs = ys))] := by
  refine ctr_at (M := m_laws_eqIntS) (m := 0) (n := 26) (res := [(.tmp 4, [false])]) hmix Tryd.func12 rfl (by kernel_rfl) rfl (by kernel_rfl) (by kernel_rfl) (Nat.le_of_ble_eq_true rfl) ?_; unfold m_laws_eqIntS
  intro hb
  simp only [bdA, bdL, bdT, bdR, bdR_map, wfB_i64, wfB_bool, wfB_str, roomB, and_true, true_and, List.length_map] at hb
  obtain ⟨⟨hl, -⟩, ⟨hl2, -⟩⟩ := hb
  simp only [↓bk_bind, ↓bk_map, ↓bk_ite, ↓bk_some, ↓reduceIte, Nat.reduceEqDiff, Nat.reduceLT, Nat.reduceLeDiff, Nat.reduceAdd, Nat.reduceMul, reduceCtorEq, List.reduceReplicate, go_sem]
  refine ⟨fun h => ne_len h, fun h => ?_⟩
  have hle : xs.length = ys.length := by omega
  refine loopK_rng xs (fun k => [(5, vI k)]) (fun k => []) (fun k => xs.take k = ys.take k) hl ?_
  simp only [↓bk_bind, ↓bk_map, ↓bk_ite, ↓bk_some, ↓reduceIte, Nat.reduceEqDiff, Nat.reduceLT, Nat.reduceLeDiff, Nat.reduceAdd, Nat.reduceMul, reduceCtorEq, List.reduceReplicate, go_sem]
  refine ⟨?_, rfl, ?_, ?_⟩
  · simp only [↓bk_bind, ↓bk_map, ↓bk_ite, ↓bk_some, ↓reduceIte, Nat.reduceEqDiff, Nat.reduceLT, Nat.reduceLeDiff, Nat.reduceAdd, Nat.reduceMul, reduceCtorEq, List.reduceReplicate, go_sem]
  · intro k x hx he h0 h1 hw
    obtain ⟨y, hy⟩ := at_some (show k < ys.length by omega)
    have h2 : (k : Int) < ys.length := by omega
    simp only [↓bk_bind, ↓bk_map, ↓bk_ite, ↓bk_some, ↓reduceIte, Nat.reduceEqDiff, Nat.reduceLT, Nat.reduceLeDiff, Nat.reduceAdd, Nat.reduceMul, reduceCtorEq, List.reduceReplicate, go_sem, bk_eq hx, bk_eq hy, h0, h1, h2, hw]
    exact ⟨fun hn => ne_at hx hy hn, fun hn => (take_eq_step hx hy he).2 hn⟩
  · intro he
    simp only [↓bk_bind, ↓bk_map, ↓bk_ite, ↓bk_some, ↓reduceIte, Nat.reduceEqDiff, Nat.reduceLT, Nat.reduceLeDiff, Nat.reduceAdd, Nat.reduceMul, reduceCtorEq, List.reduceReplicate, go_sem]
    exact eq_all he hle
def m_laws_toAddress : MC :=
(.seq (pr [.box 1 0 (.s 0), .alloc 2 1 [.pl (.sc (.int .i64 0)), .pl (.sc (.int .i64 0)), .pl (.sc (.int .i64 0))]] [1,2])
(.seq (pr [.alloc 3 2 [.pl (.sc (.int .i64 0)), .pl (.sc (.int .i64 0)), .pl (.sc (.int .i64 0))]] [1,2,3])
(.seq (pr [.fld 4 (.s 1) 0, .load 5 false 1 (.s 4), .fld 6 (.s 3) 0, .store 1 (.s 6) (.s 5)] [1,2,3])
(.seq (pr [.fld 7 (.s 1) 1, .load 8 false 1 (.s 7), .fld 9 (.s 3) 1, .store 1 (.s 9) (.s 8)] [1,2,3])
(.seq (pr [.fld 10 (.s 1) 2, .load 11 false 1 (.s 10), .fld 12 (.s 3) 2, .store 1 (.s 12) (.s 11)] [2,3])
(.seq (pr [.load 13 true 3 (.s 3), .store 3 (.s 2) (.s 13)] [2])
.ret))))))
theorem c_laws_toAddress (x : GAddress) : Ctr Tryd.prog n_laws_toAddress [aS x.enc] [rS x.enc] := by
  refine ctr_at (M := m_laws_toAddress) (m := 3) (n := 14) (res := [(.cell 2 true 3, [false, false, false])]) hmix Tryd.func52 rfl (by kernel_rfl) rfl (by kernel_rfl) (by kernel_rfl) (Nat.le_of_ble_eq_true rfl) ?_; unfold m_laws_toAddress
  intro hb
  simp only [↓bk_bind, ↓bk_map, ↓bk_ite, ↓bk_some, ↓reduceIte, Nat.reduceEqDiff, Nat.reduceLT, Nat.reduceLeDiff, Nat.reduceAdd, Nat.reduceMul, reduceCtorEq, List.reduceReplicate, go_sem]
def m_laws_eqAddress : MC :=
(.seq (pr [.box 2 0 (.s 0), .box 3 1 (.s 1), .mv 4 (.c (.bool false))] [2,3])
(.seq (.seq (pr [.fld 5 (.s 2) 0, .load 6 false 1 (.s 5), .fld 7 (.s 3) 0, .load 8 false 1 (.s 7), .bin 9 false .neq (.s 6) (.s 8)] [2,3,9])
(.cond (.s 9) (.seq (pr [.mv 4 (.c (.bool false))] [4])
.ret) .skip))
(.seq (.seq (pr [.fld 10 (.s 2) 1, .load 11 false 1 (.s 10), .fld 12 (.s 3) 1, .load 13 false 1 (.s 12), .bin 14 false .neq (.s 11) (.s 13)] [2,3,14])
(.cond (.s 14) (.seq (pr [.mv 4 (.c (.bool false))] [4])
.ret) .skip))
(.seq (.seq (pr [.fld 15 (.s 2) 2, .load 16 false 1 (.s 15), .fld 17 (.s 3) 2, .load 18 false 1 (.s 17), .bin 19 false .neq (.s 16) (.s 18)] [19])
(.cond (.s 19) (.seq (pr [.mv 4 (.c (.bool false))] [4])
.ret) .skip))
(.seq (pr [.mv 4 (.c (.bool true))] [4])
.ret)))))
theorem c_laws_eqAddress (x y : GAddress) : Ctr Tryd.prog n_laws_eqAddress [aS x.enc, aS y.enc] [rB (decide (x = y))] := by
  refine ctr_at (M := m_laws_eqAddress) (m := 2) (n := 20) (res := [(.tmp 4, [false])]) hmix Tryd.func56 rfl (by kernel_rfl) rfl (by kernel_rfl) (by kernel_rfl) (Nat.le_of_ble_eq_true rfl) ?_; unfold m_laws_eqAddress
  intro hb
  clear hb
  simp only [↓bk_bind, ↓bk_map, ↓bk_ite, ↓bk_some, ↓reduceIte, Nat.reduceEqDiff, Nat.reduceLT, Nat.reduceLeDiff, Nat.reduceAdd, Nat.reduceMul, reduceCtorEq, List.reduceReplicate, go_sem]
  refine ⟨fun h => ?_, fun h_Host => ?_⟩
  · symm
    rw [decide_eq_false_iff_not]
    rintro rfl
    exact h rfl
  refine ⟨fun h => ?_, fun h_Path => ?_⟩
  · symm
    rw [decide_eq_false_iff_not]
    rintro rfl
    exact h rfl
  refine ⟨fun h => ?_, fun h_Query => ?_⟩
  · symm
    rw [decide_eq_false_iff_not]
    rintro rfl
    exact h rfl
  cases x; cases y; simp_all
def m_laws_szResource : MC :=
(.seq (pr [.box 2 0 (.s 0), .mv 4 (.c (.int .i64 0))] [1,2])
(.seq (pr [.fld 5 (.s 2) 1, .load 6 false 1 (.s 5), .mv 7 (.s 1), .call 8 [] (.f n_laws_szIntS) [.s 6, .s 7], .mv 1 (.s 8)] [1])
(.seq (.seq (pr [.mv 9 (.s 1), .bin 10 false .lss (.s 9) (.c (.int .i64 0))] [1,10])
(.cond (.s 10) (.seq (pr [.mv 4 (.c (.int .i64 (-1)))] [4])
.ret) .skip))
(.seq (pr [.mv 11 (.s 1), .mv 4 (.s 11)] [4])
.ret))))
theorem c_laws_szResource (x : GResource) (left : Int) (h0 : 0 ≤ left) : Ctr Tryd.prog n_laws_szResource [aS x.enc, aI left] [rI (szr x.size left)] := by
  refine ctr_at (M := m_laws_szResource) (m := 1) (n := 12) (res := [(.tmp 4, [false])]) hmix Tryd.func49 rfl (by kernel_rfl) rfl (by kernel_rfl) (by kernel_rfl) (Nat.le_of_ble_eq_true rfl) ?_; unfold m_laws_szResource
  intro hb
  simp only [↓bk_bind, ↓bk_map, ↓bk_ite, ↓bk_some, ↓reduceIte, Nat.reduceEqDiff, Nat.reduceLT, Nat.reduceLeDiff, Nat.reduceAdd, Nat.reduceMul, reduceCtorEq, List.reduceReplicate, go_sem]
  refine callK_of (c_laws_szIntS x.Body left h0) ?_
  simp only [↓bk_bind, ↓bk_map, ↓bk_ite, ↓bk_some, ↓reduceIte, Nat.reduceEqDiff, Nat.reduceLT, Nat.reduceLeDiff, Nat.reduceAdd, Nat.reduceMul, reduceCtorEq, List.reduceReplicate, go_sem]
  intro _
  refine ⟨fun h => szr_bad' h0 h (by simp only [GResource.size]; omega), fun h1 => ?_⟩
  rfl
def m_laws_toResource : MC :=
(.seq (pr [.box 1 0 (.s 0), .alloc 2 1 [.pl (.sc (.int .i64 0)), .emp 1, .pl (.sc (.int .i64 0)), .pl (.sc (.int .i64 0)), .pl (.sc (.int .i64 0))]] [1,2])
(.seq (pr [.alloc 3 2 [.pl (.sc (.int .i64 0)), .emp 1, .pl (.sc (.int .i64 0)), .pl (.sc (.int .i64 0)), .pl (.sc (.int .i64 0))]] [1,2,3])
(.seq (pr [.fld 4 (.s 1) 0, .load 5 false 1 (.s 4), .fld 6 (.s 3) 0, .store 1 (.s 6) (.s 5)] [1,2,3])
(.seq (pr [.fld 7 (.s 1) 1, .load 8 false 1 (.s 7), .call 9 [3] (.f n_laws_toIntS) [.s 8], .fld 10 (.s 3) 1, .store 1 (.s 10) (.s 9)] [1,2,3])
(.seq (pr [.fld 11 (.s 1) 2, .load 12 true 3 (.s 11), .call 13 [] (.f n_laws_toAddress) [.s 12], .fld 14 (.s 3) 2, .store 3 (.s 14) (.s 13)] [2,3])
(.seq (pr [.load 15 true 5 (.s 3), .store 5 (.s 2) (.s 15)] [2])
.ret))))))
theorem c_laws_toResource (x : GResource) (hs : x.size ≤ 1073741824) : Ctr Tryd.prog n_laws_toResource [aS x.enc] [rS x.enc] := by
  refine ctr_at (M := m_laws_toResource) (m := 4) (n := 16) (res := [(.cell 2 true 5, [false, true, false, false, false])]) hmix Tryd.func53 rfl (by kernel_rfl) rfl (by kernel_rfl) (by kernel_rfl) (Nat.le_of_ble_eq_true rfl) ?_; unfold m_laws_toResource
  intro hb
  simp only [GResource.size] at hs
  simp only [↓bk_bind, ↓bk_map, ↓bk_ite, ↓bk_some, ↓reduceIte, Nat.reduceEqDiff, Nat.reduceLT, Nat.reduceLeDiff, Nat.reduceAdd, Nat.reduceMul, reduceCtorEq, List.reduceReplicate, go_sem]
  refine callK_of (c_laws_toIntS x.Body (by omega)) ?_
  simp only [↓bk_bind, ↓bk_map, ↓bk_ite, ↓bk_some, ↓reduceIte, Nat.reduceEqDiff, Nat.reduceLT, Nat.reduceLeDiff, Nat.reduceAdd, Nat.reduceMul, reduceCtorEq, List.reduceReplicate, go_sem]
  try intros
  refine callK_of (c_laws_toAddress x.To) ?_
  simp only [↓bk_bind, ↓bk_map, ↓bk_ite, ↓bk_some, ↓reduceIte, Nat.reduceEqDiff, Nat.reduceLT, Nat.reduceLeDiff, Nat.reduceAdd, Nat.reduceMul, reduceCtorEq, List.reduceReplicate, go_sem]
  try intros
def m_laws_eqResource : MC :=
(.seq (pr [.box 2 0 (.s 0), .box 3 1 (.s 1), .mv 4 (.c (.bool false))] [2,3])
(.seq (.seq (pr [.fld 5 (.s 2) 0, .load 6 false 1 (.s 5), .fld 7 (.s 3) 0, .load 8 false 1 (.s 7), .bin 9 false .neq (.s 6) (.s 8)] [2,3,9])
(.cond (.s 9) (.seq (pr [.mv 4 (.c (.bool false))] [4])
.ret) .skip))
(.seq (.seq (pr [.fld 10 (.s 2) 1, .load 11 false 1 (.s 10), .fld 12 (.s 3) 1, .load 13 false 1 (.s 12), .call 14 [] (.f n_laws_eqIntS) [.s 11, .s 13], .un 15 .not (.s 14)] [2,3,15])
(.cond (.s 15) (.seq (pr [.mv 4 (.c (.bool false))] [4])
.ret) .skip))
(.seq (.seq (pr [.fld 16 (.s 2) 2, .load 17 true 3 (.s 16), .fld 18 (.s 3) 2, .load 19 true 3 (.s 18), .call 20 [] (.f n_laws_eqAddress) [.s 17, .s 19], .un 21 .not (.s 20)] [21])
(.cond (.s 21) (.seq (pr [.mv 4 (.c (.bool false))] [4])
.ret) .skip))
(.seq (pr [.mv 4 (.c (.bool true))] [4])
.ret)))))
theorem c_laws_eqResource (x y : GResource) : Ctr Tryd.prog n_laws_eqResource [aS x.enc, aS y.enc] [rB (decide (x = y))] := by
  refine ctr_at (M := m_laws_eqResource) (m := 2) (n := 22) (res := [(.tmp 4, [false])]) hmix Tryd.func57 rfl (by kernel_rfl) rfl (by kernel_rfl) (by kernel_rfl) (Nat.le_of_ble_eq_true rfl) ?_; unfold m_laws_eqResource
  intro hb
  clear hb
  simp only [↓bk_bind, ↓bk_map, ↓bk_ite, ↓bk_some, ↓reduceIte, Nat.reduceEqDiff, Nat.reduceLT, Nat.reduceLeDiff, Nat.reduceAdd, Nat.reduceMul, reduceCtorEq, List.reduceReplicate, go_sem]
  refine ⟨fun h => ?_, fun h_Kind => ?_⟩
  · symm
    rw [decide_eq_false_iff_not]
    rintro rfl
    exact h rfl
  refine callK_of (c_laws_eqIntS x.Body y.Body) ?_
  simp only [↓bk_bind, ↓bk_map, ↓bk_ite, ↓bk_some, ↓reduceIte, Nat.reduceEqDiff, Nat.reduceLT, Nat.reduceLeDiff, Nat.reduceAdd, Nat.reduceMul, reduceCtorEq, List.reduceReplicate, go_sem]
  refine ⟨fun h => ?_, fun h_Body => ?_⟩
  · symm
    rw [decide_eq_false_iff_not]
    rintro rfl
    exact h rfl
  refine callK_of (c_laws_eqAddress x.To y.To) ?_
  simp only [↓bk_bind, ↓bk_map, ↓bk_ite, ↓bk_some, ↓reduceIte, Nat.reduceEqDiff, Nat.reduceLT, Nat.reduceLeDiff, Nat.reduceAdd, Nat.reduceMul, reduceCtorEq, List.reduceReplicate, go_sem]
  refine ⟨fun h => ?_, fun h_To => ?_⟩
  · symm
    rw [decide_eq_false_iff_not]
    rintro rfl
    exact h rfl
  cases x; cases y; simp_all
def m_laws_szCapture : MC :=
(.seq (pr [.box 2 0 (.s 0), .mv 4 (.c (.int .i64 0))] [1,2])
(.seq (pr [.fld 5 (.s 2) 4, .load 6 true 5 (.s 5), .mv 7 (.s 1), .call 8 [] (.f n_laws_szResource) [.s 6, .s 7], .mv 1 (.s 8)] [1])
(.seq (.seq (pr [.mv 9 (.s 1), .bin 10 false .lss (.s 9) (.c (.int .i64 0))] [1,10])
(.cond (.s 10) (.seq (pr [.mv 4 (.c (.int .i64 (-1)))] [4])
.ret) .skip))
(.seq (pr [.mv 11 (.s 1), .mv 4 (.s 11)] [4])
.ret))))
theorem c_laws_szCapture (x : GCapture) (left : Int) (h0 : 0 ≤ left) : Ctr Tryd.prog n_laws_szCapture [aS x.enc, aI left] [rI (szr x.size left)] := by
  refine ctr_at (M := m_laws_szCapture) (m := 1) (n := 12) (res := [(.tmp 4, [false])]) hmix Tryd.func23 rfl (by kernel_rfl) rfl (by kernel_rfl) (by kernel_rfl) (Nat.le_of_ble_eq_true rfl) ?_; unfold m_laws_szCapture
  intro hb
  simp only [↓bk_bind, ↓bk_map, ↓bk_ite, ↓bk_some, ↓reduceIte, Nat.reduceEqDiff, Nat.reduceLT, Nat.reduceLeDiff, Nat.reduceAdd, Nat.reduceMul, reduceCtorEq, List.reduceReplicate, go_sem]
  refine callK_of (c_laws_szResource x.Resource left h0) ?_
  simp only [↓bk_bind, ↓bk_map, ↓bk_ite, ↓bk_some, ↓reduceIte, Nat.reduceEqDiff, Nat.reduceLT, Nat.reduceLeDiff, Nat.reduceAdd, Nat.reduceMul, reduceCtorEq, List.reduceReplicate, go_sem]
  intro _
  refine ⟨fun h => szr_bad' h0 h (by simp only [GCapture.size]; omega), fun h1 => ?_⟩
  rfl
def m_laws_toCapture : MC :=
(.seq (pr [.box 1 0 (.s 0), .alloc 2 1 [.pl (.sc (.int .i64 0)), .pl (.sc (.int .i64 0)), .pl (.sc (.int .i64 0)), .pl (.sc (.int .i64 0)), .pl (.sc (.int .i64 0)), .emp 1, .pl (.sc (.int .i64 0)), .pl (.sc (.int .i64 0)), .pl (.sc (.int .i64 0))]] [1,2])
(.seq (pr [.alloc 3 2 [.pl (.sc (.int .i64 0)), .pl (.sc (.int .i64 0)), .pl (.sc (.int .i64 0)), .pl (.sc (.int .i64 0)), .pl (.sc (.int .i64 0)), .emp 1, .pl (.sc (.int .i64 0)), .pl (.sc (.int .i64 0)), .pl (.sc (.int .i64 0))]] [1,2,3])
(.seq (pr [.fld 4 (.s 1) 0, .load 5 true 3 (.s 4), .call 6 [] (.f n_laws_toAddress) [.s 5], .fld 7 (.s 3) 0, .store 3 (.s 7) (.s 6)] [1,2,3])
(.seq (pr [.fld 8 (.s 1) 3, .load 9 false 1 (.s 8), .fld 10 (.s 3) 3, .store 1 (.s 10) (.s 9)] [1,2,3])
(.seq (pr [.fld 11 (.s 1) 4, .load 12 true 5 (.s 11), .call 13 [3] (.f n_laws_toResource) [.s 12], .fld 14 (.s 3) 4, .store 5 (.s 14) (.s 13)] [2,3])
(.seq (pr [.load 15 true 9 (.s 3), .store 9 (.s 2) (.s 15)] [2])
.ret))))))
theorem c_laws_toCapture (x : GCapture) (hs : x.size ≤ 1073741824) : Ctr Tryd.prog n_laws_toCapture [aS x.enc] [rS x.enc] := by
  refine ctr_at (M := m_laws_toCapture) (m := 4) (n := 16) (res := [(.cell 2 true 9, [false, false, false, false, false, true, false, false, false])]) hmix Tryd.func25 rfl (by kernel_rfl) rfl (by kernel_rfl) (by kernel_rfl) (Nat.le_of_ble_eq_true rfl) ?_; unfold m_laws_toCapture
  intro hb
  simp only [GCapture.size] at hs
  simp only [↓bk_bind, ↓bk_map, ↓bk_ite, ↓bk_some, ↓reduceIte, Nat.reduceEqDiff, Nat.reduceLT, Nat.reduceLeDiff, Nat.reduceAdd, Nat.reduceMul, reduceCtorEq, List.reduceReplicate, go_sem]
  refine callK_of (c_laws_toAddress x.Address) ?_
  simp only [↓bk_bind, ↓bk_map, ↓bk_ite, ↓bk_some, ↓reduceIte, Nat.reduceEqDiff, Nat.reduceLT, Nat.reduceLeDiff, Nat.reduceAdd, Nat.reduceMul, reduceCtorEq, List.reduceReplicate, go_sem]
  try intros
  refine callK_of (c_laws_toResource x.Resource (by omega)) ?_
  simp only [↓bk_bind, ↓bk_map, ↓bk_ite, ↓bk_some, ↓reduceIte, Nat.reduceEqDiff, Nat.reduceLT, Nat.reduceLeDiff, Nat.reduceAdd, Nat.reduceMul, reduceCtorEq, List.reduceReplicate, go_sem]
  try intros
def m_laws_eqCapture : MC :=
(.seq (pr [.box 2 0 (.s 0), .box 3 1 (.s 1), .mv 4 (.c (.bool false))] [2,3])
(.seq (.seq (pr [.fld 5 (.s 2) 0, .load 6 true 3 (.s 5), .fld 7 (.s 3) 0, .load 8 true 3 (.s 7), .call 9 [] (.f n_laws_eqAddress) [.s 6, .s 8], .un 10 .not (.s 9)] [2,3,10])
(.cond (.s 10) (.seq (pr [.mv 4 (.c (.bool false))] [4])
.ret) .skip))
(.seq (.seq (pr [.fld 11 (.s 2) 3, .load 12 false 1 (.s 11), .fld 13 (.s 3) 3, .load 14 false 1 (.s 13), .bin 15 false .neq (.s 12) (.s 14)] [2,3,15])
(.cond (.s 15) (.seq (pr [.mv 4 (.c (.bool false))] [4])
.ret) .skip))
(.seq (.seq (pr [.fld 16 (.s 2) 4, .load 17 true 5 (.s 16), .fld 18 (.s 3) 4, .load 19 true 5 (.s 18), .call 20 [] (.f n_laws_eqResource) [.s 17, .s 19], .un 21 .not (.s 20)] [21])
(.cond (.s 21) (.seq (pr [.mv 4 (.c (.bool false))] [4])
.ret) .skip))
(.seq (pr [.mv 4 (.c (.bool true))] [4])
.ret)))))
theorem c_laws_eqCapture (x y : GCapture) : Ctr Tryd.prog n_laws_eqCapture [aS x.enc, aS y.enc] [rB (decide (x = y))] := by
  refine ctr_at (M := m_laws_eqCapture) (m := 2) (n := 22) (res := [(.tmp 4, [false])]) hmix Tryd.func27 rfl (by kernel_rfl) rfl (by kernel_rfl) (by kernel_rfl) (Nat.le_of_ble_eq_true rfl) ?_; unfold m_laws_eqCapture
  intro hb
  clear hb
  simp only [↓bk_bind, ↓bk_map, ↓bk_ite, ↓bk_some, ↓reduceIte, Nat.reduceEqDiff, Nat.reduceLT, Nat.reduceLeDiff, Nat.reduceAdd, Nat.reduceMul, reduceCtorEq, List.reduceReplicate, go_sem]
  refine callK_of (c_laws_eqAddress x.Address y.Address) ?_
  simp only [↓bk_bind, ↓bk_map, ↓bk_ite, ↓bk_some, ↓reduceIte, Nat.reduceEqDiff, Nat.reduceLT, Nat.reduceLeDiff, Nat.reduceAdd, Nat.reduceMul, reduceCtorEq, List.reduceReplicate, go_sem]
  refine ⟨fun h => ?_, fun h_Address => ?_⟩
  · symm
    rw [decide_eq_false_iff_not]
    rintro rfl
    exact h rfl
  refine ⟨fun h => ?_, fun h_Tick => ?_⟩
  · symm
    rw [decide_eq_false_iff_not]
    rintro rfl
    exact h rfl
  refine callK_of (c_laws_eqResource x.Resource y.Resource) ?_
  simp only [↓bk_bind, ↓bk_map, ↓bk_ite, ↓bk_some, ↓reduceIte, Nat.reduceEqDiff, Nat.reduceLT, Nat.reduceLeDiff, Nat.reduceAdd, Nat.reduceMul, reduceCtorEq, List.reduceReplicate, go_sem]
  refine ⟨fun h => ?_, fun h_Resource => ?_⟩
  · symm
    rw [decide_eq_false_iff_not]
    rintro rfl
    exact h rfl
  cases x; cases y; simp_all
end Go.Proofs.YtldjbgjcfncdjaaDoorR
namespace Go.Proofs.YtldjbgjcfncdjaaDoorR
open Go Go.RowKit Go.Proofs
set_option linter.unusedSimpArgs false
set_option linter.unusedVariables false
theorem ff {p : Prop} [Decidable p] (h : ¬ p) : false = decide p := (decide_eq_false h).symm
theorem tt {p : Prop} [Decidable p] (h : p) : true = decide p := (decide_eq_true h).symm
/-- No element of the first k is so. -/
theorem anyF_step {α : Type} {p : α → Bool} {l : List α} {k : Nat} {x : α} (hx : l[k]? = some x) (h : (l.take k).any p = false) (hn : p x = false) : (l.take (k + 1)).any p = false := by
  rw [take_snoc hx, List.any_append, h]
  simp [hn]
theorem any_here {α : Type} {p : α → Bool} {l : List α} {k : Nat} {x : α} (hx : l[k]? = some x) (hn : p x = true) : l.any p = true := List.any_eq_true.2 ⟨x, at_mem hx, hn⟩
/-- The place of the first element that is so. -/
def idxF {α : Type} (p : α → Bool) (l : List α) : Int := if l.any p then (l.takeWhile fun x => !p x).length else -1
theorem idxF_here {α : Type} {p : α → Bool} {l : List α} {k : Nat} {x : α} (hx : l[k]? = some x) (h : (l.take k).any p = false) (hn : p x = true) : idxF p l = k := by
  unfold idxF
  rw [any_here hx hn, if_pos rfl]
  congr 1
  have e : l = l.take k ++ x :: l.drop (k + 1) := take_drop_at hx
  rw [e, List.takeWhile_append_of_pos]
  · simp [hn]
    have := len_at hx
    omega
  · intro a ha
    have := List.any_eq_false.1 h a ha
    simpa using this
theorem idxF_none {α : Type} {p : α → Bool} {l : List α} (h : l.any p = false) : idxF p l = -1 := by
  unfold idxF; rw [h]; rfl
theorem idxF_ge {α : Type} {p : α → Bool} {l : List α} : decide (idxF p l ≥ 0) = l.any p := by
  unfold idxF
  cases l.any p <;> simp
/-- Are two lists alike, element by element? -/
def eqF {α : Type} (p : α → α → Bool) : List α → List α → Bool
  | [], [] => true
  | x :: xs, y :: ys => p x y && eqF p xs ys
  | _, _ => false
theorem eqF_len {α : Type} {p : α → α → Bool} : ∀ {xs ys : List α}, ¬ (xs.length : Int) = ys.length → false = eqF p xs ys
  | [], [], h => by simp at h
  | _ :: _, _ :: _, h => by
    simp only [eqF]
    rw [← eqF_len (fun e => h (by simp only [List.length_cons]; omega)), Bool.and_false]
  | [], _ :: _, _ => rfl
  | _ :: _, [], _ => rfl
theorem eqF_take {α : Type} {p : α → α → Bool} : ∀ {xs ys : List α} {k : Nat} {x y : α}, xs[k]? = some x → ys[k]? = some y → eqF p (xs.take k) (ys.take k) = true → eqF p (xs.take (k + 1)) (ys.take (k + 1)) = p x y
  | x0 :: xs, y0 :: ys, 0, x, y, hx, hy, _ => by
    simp at hx hy
    subst hx hy
    simp [eqF]
  | x0 :: xs, y0 :: ys, k + 1, x, y, hx, hy, h => by
    simp only [List.take_succ_cons, eqF, Bool.and_eq_true] at h ⊢
    rw [eqF_take (by simpa using hx) (by simpa using hy) h.2, h.1, Bool.true_and]
  | [], _, _, _, _, hx, _, _ => by simp at hx
  | _ :: _, [], _, _, _, _, hy, _ => by simp at hy
theorem eqF_false {α : Type} {p : α → α → Bool} : ∀ {xs ys : List α} {k : Nat} {x y : α}, xs[k]? = some x → ys[k]? = some y → p x y = false → false = eqF p xs ys
  | x0 :: xs, y0 :: ys, 0, x, y, hx, hy, h => by
    simp at hx hy
    subst hx hy
    simp [eqF, h]
  | x0 :: xs, y0 :: ys, k + 1, x, y, hx, hy, h => by
    simp only [eqF]
    rw [← eqF_false (by simpa using hx) (by simpa using hy) h, Bool.and_false]
  | [], _, _, _, _, hx, _, _ => by simp at hx
  | _ :: _, [], _, _, _, _, hy, _ => by simp at hy
theorem eqF_all {α : Type} {p : α → α → Bool} {xs ys : List α} (h : eqF p (xs.take xs.length) (ys.take xs.length) = true) (hl : xs.length = ys.length) : true = eqF p xs ys := by
  rw [List.take_length, hl, List.take_length] at h
  exact h.symm
theorem eqF_eq {α : Type} [DecidableEq α] : ∀ (xs ys : List α), eqF (fun x y => decide (x = y)) xs ys = decide (xs = ys)
  | [], [] => by simp [eqF]
  | x :: xs, y :: ys => by
    simp only [eqF, eqF_eq xs ys]
    by_cases h : x = y <;> by_cases h2 : xs = ys <;> simp [h, h2]
  | [], _ :: _ => by simp [eqF]
  | _ :: _, [] => by simp [eqF]
/-- The place of the first element that is it. -/
def idxO {α : Type} [DecidableEq α] (n : α) (l : List α) : Int := idxF (fun x => decide (n = x)) l
theorem idxO_ge {α : Type} [DecidableEq α] {n : α} {l : List α} : decide (idxO n l ≥ 0) = decide (n ∈ l) := by
  unfold idxO
  rw [idxF_ge]
  rw [Bool.eq_iff_iff]
  simp
def encS (s : ByteArray) : List T := [tS s]
attribute [go_sem] encS
abbrev aStr (s : ByteArray) : Bool × List T := (false, [tS s])
attribute [go_sem] aStr
end Go.Proofs.YtldjbgjcfncdjaaDoorR
namespace Go.Proofs.YtldjbgjcfncdjaaDoorR
open Go Go.RowKit Go.Proofs
set_option linter.unusedSimpArgs false
set_option linter.unusedVariables false
attribute [go_sem] eqB
def m_spec_l1In : MC :=
(.seq (pr [.mv 6 (.c (.bool false))] [0,1,2])
(.seq (.reg [{ o := .mv 7 (.s 0) }, { o := .mv 8 (.s 1) }, { o := .bin 9 false .geq (.s 7) (.s 8) }, { o := .mv 10 (.s 9) }, { o := .mv 11 (.s 0), g := some (10, true) }, { o := .mv 12 (.s 2), g := some (10, true) }, { o := .bin 13 false .leq (.s 11) (.s 12), g := some (10, true) }, { o := .pick 14 (.s 10) (.s 13) (.c (.bool false)) }, { o := .mv 6 (.s 14) }] [6])
.ret))
theorem c_spec_l1In (x a b : Int) : Ctr Tryd.prog n_spec_l1In [aI x, aI a, aI b] [rB (decide (a ≤ x ∧ x ≤ b))] := by
  refine ctr_at (M := m_spec_l1In) (m := 0) (n := 15) (res := [(.tmp 6, [false])]) hmix Tryd.func84 rfl (by kernel_rfl) rfl (by kernel_rfl) (by kernel_rfl) (Nat.le_of_ble_eq_true rfl) ?_; unfold m_spec_l1In
  intro hb
  clear hb
  simp only [↓bk_bind, ↓bk_map, ↓bk_ite, ↓bk_some, ↓reduceIte, Nat.reduceEqDiff, Nat.reduceLT, Nat.reduceLeDiff, Nat.reduceAdd, Nat.reduceMul, reduceCtorEq, List.reduceReplicate, go_sem]
  exact ⟨fun h => by simp [h], fun h => by simp; omega⟩
def m_impl_InRange : MC :=
(.seq (pr [.mv 6 (.c (.bool false))] [0,1,2])
(.seq (.reg [{ o := .mv 7 (.s 1) }, { o := .mv 8 (.s 0) }, { o := .bin 9 false .leq (.s 7) (.s 8) }, { o := .mv 10 (.s 9) }, { o := .mv 11 (.s 0), g := some (10, true) }, { o := .mv 12 (.s 2), g := some (10, true) }, { o := .bin 13 false .leq (.s 11) (.s 12), g := some (10, true) }, { o := .pick 14 (.s 10) (.s 13) (.c (.bool false)) }, { o := .mv 6 (.s 14) }] [6])
.ret))
theorem c_impl_InRange (x a b : Int) : Ctr Tryd.prog n_impl_InRange [aI x, aI a, aI b] [rB (decide (a ≤ x ∧ x ≤ b))] := by
  refine ctr_at (M := m_impl_InRange) (m := 0) (n := 15) (res := [(.tmp 6, [false])]) hmix Tryd.func116 rfl (by kernel_rfl) rfl (by kernel_rfl) (by kernel_rfl) (Nat.le_of_ble_eq_true rfl) ?_; unfold m_impl_InRange
  intro hb
  clear hb
  simp only [↓bk_bind, ↓bk_map, ↓bk_ite, ↓bk_some, ↓reduceIte, Nat.reduceEqDiff, Nat.reduceLT, Nat.reduceLeDiff, Nat.reduceAdd, Nat.reduceMul, reduceCtorEq, List.reduceReplicate, go_sem]
  exact ⟨fun h => by simp [h], fun h => by simp; omega⟩
def allIn (l : List Int) (a b : Int) : Bool := l.all fun x => decide (a ≤ x ∧ x ≤ b)
theorem all_step {α : Type} {p : α → Bool} {l : List α} {k : Nat} {x : α} (hx : l[k]? = some x) (h : (l.take k).all p = true) (hn : p x = true) : (l.take (k + 1)).all p = true := by
  rw [take_snoc hx, List.all_append, h]; simp [hn]
theorem all_not {α : Type} {p : α → Bool} {l : List α} {k : Nat} {x : α} (hx : l[k]? = some x) (hn : p x = false) : false = l.all p := by
  symm; rw [List.all_eq_false]; exact ⟨x, at_mem hx, by simp [hn]⟩
def m_impl_allIn : MC :=
(.seq (pr [.mv 6 (.c (.bool false))] [0,1,2])
(.seq (.seq (pr [.mv 9 (.s 0), .len 10 false (.s 9), .mv 11 (.c (.int .i64 0))] [1,2,9,10,11])
(.block 0 (.loop ([1,2,9,10,11], []) (.seq (pr [.bin 12 false .lss (.s 11) (.s 10)] [1,2,9,10,11,12])
(.seq (.cond (.s 12) .skip (.exit 0))
(.seq (.block 1 (.seq (pr [.idx 13 1 (.s 9) (.s 11), .load 14 false 1 (.s 13), .mv 8 (.s 14)] [1,2,8,9,10,11])
(.seq (pr [.mv 15 (.s 8), .mv 16 (.s 1), .mv 17 (.s 2), .call 18 [] (.f n_impl_InRange) [.s 15, .s 16, .s 17], .un 19 .not (.s 18)] [1,2,9,10,11,19])
(.cond (.s 19) (.seq (pr [.mv 6 (.c (.bool false))] [6])
.ret) .skip))))
(pr [.bin 20 false .add (.s 11) (.c (.int .i64 1)), .mv 11 (.s 20)] [1,2,9,10,11])))))))
(.seq (pr [.mv 6 (.c (.bool true))] [6])
.ret)))
theorem c_impl_allIn (l : List Int) (a b : Int) : Ctr Tryd.prog n_impl_allIn [aL 1 (l.map encI), aI a, aI b] [rB (allIn l a b)] := by
  refine ctr_at (M := m_impl_allIn) (m := 0) (n := 21) (res := [(.tmp 6, [false])]) hmix Tryd.func117 rfl (by kernel_rfl) rfl (by kernel_rfl) (by kernel_rfl) (Nat.le_of_ble_eq_true rfl) ?_; unfold m_impl_allIn
  intro hb
  simp only [bdA, bdL, bdT, bdR, bdR_map, wfB_i64, wfB_bool, wfB_str, roomB, and_true, true_and, List.length_map] at hb
  obtain ⟨⟨hl, -⟩, -⟩ := hb
  simp only [↓bk_bind, ↓bk_map, ↓bk_ite, ↓bk_some, ↓reduceIte, Nat.reduceEqDiff, Nat.reduceLT, Nat.reduceLeDiff, Nat.reduceAdd, Nat.reduceMul, reduceCtorEq, List.reduceReplicate, go_sem]
  refine loopK_rng l (fun k => [(11, vI k)]) (fun k => []) (fun k => ((l.take k).all fun x => decide (a ≤ x ∧ x ≤ b)) = true) hl ?_
  simp only [↓bk_bind, ↓bk_map, ↓bk_ite, ↓bk_some, ↓reduceIte, Nat.reduceEqDiff, Nat.reduceLT, Nat.reduceLeDiff, Nat.reduceAdd, Nat.reduceMul, reduceCtorEq, List.reduceReplicate, go_sem]
  refine ⟨?_, by simp, ?_, ?_⟩
  · simp only [↓bk_bind, ↓bk_map, ↓bk_ite, ↓bk_some, ↓reduceIte, Nat.reduceEqDiff, Nat.reduceLT, Nat.reduceLeDiff, Nat.reduceAdd, Nat.reduceMul, reduceCtorEq, List.reduceReplicate, go_sem]
  · intro k x hx h h0 h1 hw
    simp only [↓bk_bind, ↓bk_map, ↓bk_ite, ↓bk_some, ↓reduceIte, Nat.reduceEqDiff, Nat.reduceLT, Nat.reduceLeDiff, Nat.reduceAdd, Nat.reduceMul, reduceCtorEq, List.reduceReplicate, go_sem, bk_eq hx, h0, h1, hw]
    refine callK_of (c_impl_InRange _ _ _) ?_
    simp only [↓bk_bind, ↓bk_map, ↓bk_ite, ↓bk_some, ↓reduceIte, Nat.reduceEqDiff, Nat.reduceLT, Nat.reduceLeDiff, Nat.reduceAdd, Nat.reduceMul, reduceCtorEq, List.reduceReplicate, go_sem, hw]
    exact ⟨fun hn => all_not hx (by simpa using hn), fun hn => all_step hx h (by simpa using hn)⟩
  · intro h
    simp only [↓bk_bind, ↓bk_map, ↓bk_ite, ↓bk_some, ↓reduceIte, Nat.reduceEqDiff, Nat.reduceLT, Nat.reduceLeDiff, Nat.reduceAdd, Nat.reduceMul, reduceCtorEq, List.reduceReplicate, go_sem]
    rw [List.take_length] at h
    exact h.symm
def m_spec_l5Bytes : MC :=
(.seq (pr [.mv 2 (.c (.bool false))] [0])
(.seq (.seq (pr [.mv 3 (.c (.int .i64 0))] [0,3])
(.block 0 (.loop ([0,3], []) (.seq (.seq (pr [.mv 4 (.s 3), .mv 5 (.s 0), .len 6 false (.s 5), .bin 7 false .lss (.s 4) (.s 6)] [0,3,7])
(.cond (.s 7) .skip (.exit 0)))
(.seq (.block 1 (.seq (pr [.mv 10 (.s 0), .mv 11 (.s 3), .idx 12 1 (.s 10) (.s 11), .load 13 false 1 (.s 12), .call 14 [] (.f n_spec_l1In) [.s 13, .c (.int .i64 0), .c (.int .i64 255)], .un 15 .not (.s 14)] [0,3,15])
(.cond (.s 15) (.seq (pr [.mv 2 (.c (.bool false))] [2])
.ret) .skip)))
(pr [.mv 8 (.s 3), .bin 9 false .add (.s 8) (.c (.int .i64 1)), .mv 3 (.s 9)] [0,3]))))))
(.seq (pr [.mv 2 (.c (.bool true))] [2])
.ret)))
theorem c_spec_l5Bytes (l : List Int) : Ctr Tryd.prog n_spec_l5Bytes [aL 1 (l.map encI)] [rB (allIn l 0 255)] := by
  refine ctr_at (M := m_spec_l5Bytes) (m := 0) (n := 16) (res := [(.tmp 2, [false])]) hmix Tryd.func115 rfl (by kernel_rfl) rfl (by kernel_rfl) (by kernel_rfl) (Nat.le_of_ble_eq_true rfl) ?_; unfold m_spec_l5Bytes
  intro hb
  simp only [bdA, bdL, bdT, bdR, bdR_map, wfB_i64, wfB_bool, wfB_str, roomB, and_true, true_and, List.length_map] at hb
  obtain ⟨hl, -⟩ := hb
  simp only [↓bk_bind, ↓bk_map, ↓bk_ite, ↓bk_some, ↓reduceIte, Nat.reduceEqDiff, Nat.reduceLT, Nat.reduceLeDiff, Nat.reduceAdd, Nat.reduceMul, reduceCtorEq, List.reduceReplicate, go_sem]
  refine loopK_rng l (fun k => [(3, vI k)]) (fun k => []) (fun k => ((l.take k).all fun x => decide (0 ≤ x ∧ x ≤ 255)) = true) hl ?_
  simp only [↓bk_bind, ↓bk_map, ↓bk_ite, ↓bk_some, ↓reduceIte, Nat.reduceEqDiff, Nat.reduceLT, Nat.reduceLeDiff, Nat.reduceAdd, Nat.reduceMul, reduceCtorEq, List.reduceReplicate, go_sem]
  refine ⟨?_, by simp, ?_, ?_⟩
  · simp only [↓bk_bind, ↓bk_map, ↓bk_ite, ↓bk_some, ↓reduceIte, Nat.reduceEqDiff, Nat.reduceLT, Nat.reduceLeDiff, Nat.reduceAdd, Nat.reduceMul, reduceCtorEq, List.reduceReplicate, go_sem]
  · intro k x hx h h0 h1 hw
    simp only [↓bk_bind, ↓bk_map, ↓bk_ite, ↓bk_some, ↓reduceIte, Nat.reduceEqDiff, Nat.reduceLT, Nat.reduceLeDiff, Nat.reduceAdd, Nat.reduceMul, reduceCtorEq, List.reduceReplicate, go_sem, bk_eq hx, h0, h1, hw]
    refine callK_of (c_spec_l1In _ _ _) ?_
    simp only [↓bk_bind, ↓bk_map, ↓bk_ite, ↓bk_some, ↓reduceIte, Nat.reduceEqDiff, Nat.reduceLT, Nat.reduceLeDiff, Nat.reduceAdd, Nat.reduceMul, reduceCtorEq, List.reduceReplicate, go_sem, hw]
    exact ⟨fun hn => all_not hx (by simpa using hn), fun hn => all_step hx h (by simpa using hn)⟩
  · intro h
    simp only [↓bk_bind, ↓bk_map, ↓bk_ite, ↓bk_some, ↓reduceIte, Nat.reduceEqDiff, Nat.reduceLT, Nat.reduceLeDiff, Nat.reduceAdd, Nat.reduceMul, reduceCtorEq, List.reduceReplicate, go_sem]
    rw [List.take_length] at h
    exact h.symm
/-- Addresses within range. -/
def isAddr (a : GAddress) : Bool := decide (1 ≤ a.Host ∧ a.Host ≤ 9) && (decide (0 ≤ a.Path ∧ a.Path ≤ 99) && decide (0 ≤ a.Query ∧ a.Query ≤ 99))
def m_impl_IsAddress : MC :=
(.seq (pr [.box 1 0 (.s 0), .mv 2 (.c (.bool false))] [1])
(.seq (.reg [{ o := .fld 3 (.s 1) 0 }, { o := .load 4 false 1 (.s 3) }, { o := .call 5 [] (.f n_impl_InRange) [.s 4, .c (.int .i64 1), .c (.int .i64 9)] }, { o := .mv 6 (.s 5) }, { o := .fld 7 (.s 1) 1, g := some (6, true) }, { o := .load 8 false 1 (.s 7), g := some (6, true) }, { o := .call 9 [] (.f n_impl_InRange) [.s 8, .c (.int .i64 0), .c (.int .i64 99)], g := some (6, true) }, { o := .pick 10 (.s 6) (.s 9) (.c (.bool false)) }, { o := .mv 11 (.s 10) }, { o := .fld 12 (.s 1) 2, g := some (11, true) }, { o := .load 13 false 1 (.s 12), g := some (11, true) }, { o := .call 14 [] (.f n_impl_InRange) [.s 13, .c (.int .i64 0), .c (.int .i64 99)], g := some (11, true) }, { o := .pick 15 (.s 11) (.s 14) (.c (.bool false)) }, { o := .mv 2 (.s 15) }] [2])
.ret))
theorem c_impl_IsAddress (a : GAddress) : Ctr Tryd.prog n_impl_IsAddress [aS a.enc] [rB (isAddr a)] := by
  refine ctr_at (M := m_impl_IsAddress) (m := 1) (n := 16) (res := [(.tmp 2, [false])]) hmix Tryd.func89 rfl (by kernel_rfl) rfl (by kernel_rfl) (by kernel_rfl) (Nat.le_of_ble_eq_true rfl) ?_; unfold m_impl_IsAddress
  intro hb
  clear hb
  simp only [↓bk_bind, ↓bk_map, ↓bk_ite, ↓bk_some, ↓reduceIte, Nat.reduceEqDiff, Nat.reduceLT, Nat.reduceLeDiff, Nat.reduceAdd, Nat.reduceMul, reduceCtorEq, List.reduceReplicate, go_sem]
  refine callK_of (c_impl_InRange _ _ _) ?_
  simp only [↓bk_bind, ↓bk_map, ↓bk_ite, ↓bk_some, ↓reduceIte, Nat.reduceEqDiff, Nat.reduceLT, Nat.reduceLeDiff, Nat.reduceAdd, Nat.reduceMul, reduceCtorEq, List.reduceReplicate, go_sem]
  refine ⟨fun h => ?_, fun h => by unfold isAddr; rw [decide_eq_false h]; rfl⟩
  refine callK_of (c_impl_InRange _ _ _) ?_
  simp only [↓bk_bind, ↓bk_map, ↓bk_ite, ↓bk_some, ↓reduceIte, Nat.reduceEqDiff, Nat.reduceLT, Nat.reduceLeDiff, Nat.reduceAdd, Nat.reduceMul, reduceCtorEq, List.reduceReplicate, go_sem]
  refine ⟨fun h2 => ?_, fun h2 => by unfold isAddr; rw [decide_eq_false h2]; simp⟩
  refine callK_of (c_impl_InRange _ _ _) ?_
  simp only [↓bk_bind, ↓bk_map, ↓bk_ite, ↓bk_some, ↓reduceIte, Nat.reduceEqDiff, Nat.reduceLT, Nat.reduceLeDiff, Nat.reduceAdd, Nat.reduceMul, reduceCtorEq, List.reduceReplicate, go_sem]
  unfold isAddr; rw [decide_eq_true h, decide_eq_true h2]; rfl
def m_spec_IsAddress : MC :=
(.seq (pr [.box 1 0 (.s 0), .mv 2 (.c (.bool false))] [1])
(.seq (.reg [{ o := .fld 3 (.s 1) 0 }, { o := .load 4 false 1 (.s 3) }, { o := .call 5 [] (.f n_spec_l1In) [.s 4, .c (.int .i64 1), .c (.int .i64 9)] }, { o := .mv 6 (.s 5) }, { o := .fld 7 (.s 1) 1, g := some (6, true) }, { o := .load 8 false 1 (.s 7), g := some (6, true) }, { o := .call 9 [] (.f n_spec_l1In) [.s 8, .c (.int .i64 0), .c (.int .i64 99)], g := some (6, true) }, { o := .pick 10 (.s 6) (.s 9) (.c (.bool false)) }, { o := .mv 11 (.s 10) }, { o := .fld 12 (.s 1) 2, g := some (11, true) }, { o := .load 13 false 1 (.s 12), g := some (11, true) }, { o := .call 14 [] (.f n_spec_l1In) [.s 13, .c (.int .i64 0), .c (.int .i64 99)], g := some (11, true) }, { o := .pick 15 (.s 11) (.s 14) (.c (.bool false)) }, { o := .mv 2 (.s 15) }] [2])
.ret))
theorem c_spec_IsAddress (a : GAddress) : Ctr Tryd.prog n_spec_IsAddress [aS a.enc] [rB (isAddr a)] := by
  refine ctr_at (M := m_spec_IsAddress) (m := 1) (n := 16) (res := [(.tmp 2, [false])]) hmix Tryd.func87 rfl (by kernel_rfl) rfl (by kernel_rfl) (by kernel_rfl) (Nat.le_of_ble_eq_true rfl) ?_; unfold m_spec_IsAddress
  intro hb
  clear hb
  simp only [↓bk_bind, ↓bk_map, ↓bk_ite, ↓bk_some, ↓reduceIte, Nat.reduceEqDiff, Nat.reduceLT, Nat.reduceLeDiff, Nat.reduceAdd, Nat.reduceMul, reduceCtorEq, List.reduceReplicate, go_sem]
  refine callK_of (c_spec_l1In _ _ _) ?_
  simp only [↓bk_bind, ↓bk_map, ↓bk_ite, ↓bk_some, ↓reduceIte, Nat.reduceEqDiff, Nat.reduceLT, Nat.reduceLeDiff, Nat.reduceAdd, Nat.reduceMul, reduceCtorEq, List.reduceReplicate, go_sem]
  refine ⟨fun h => ?_, fun h => by unfold isAddr; rw [decide_eq_false h]; rfl⟩
  refine callK_of (c_spec_l1In _ _ _) ?_
  simp only [↓bk_bind, ↓bk_map, ↓bk_ite, ↓bk_some, ↓reduceIte, Nat.reduceEqDiff, Nat.reduceLT, Nat.reduceLeDiff, Nat.reduceAdd, Nat.reduceMul, reduceCtorEq, List.reduceReplicate, go_sem]
  refine ⟨fun h2 => ?_, fun h2 => by unfold isAddr; rw [decide_eq_false h2]; simp⟩
  refine callK_of (c_spec_l1In _ _ _) ?_
  simp only [↓bk_bind, ↓bk_map, ↓bk_ite, ↓bk_some, ↓reduceIte, Nat.reduceEqDiff, Nat.reduceLT, Nat.reduceLeDiff, Nat.reduceAdd, Nat.reduceMul, reduceCtorEq, List.reduceReplicate, go_sem]
  unfold isAddr; rw [decide_eq_true h, decide_eq_true h2]; rfl
def noAddr (a : GAddress) : Bool := a.Host == 0 && (a.Path == 0 && a.Query == 0)
/-- Resources within range. -/
def isRes (r : GResource) : Bool :=
  if r.Kind = 1 ∨ r.Kind = 2 then decide (r.Body.length ≤ 6) && (allIn r.Body 0 255 && noAddr r.To)
  else if r.Kind = 3 then decide (r.Body.length = 0) && isAddr r.To
  else if r.Kind = 4 then decide (r.Body.length = 0) && noAddr r.To else false
def m_impl_IsResource : MC :=
(.seq (pr [.box 1 0 (.s 0), .mv 2 (.c (.bool false))] [1])
(.seq (.seq (pr [.fld 3 (.s 1) 0, .load 4 false 1 (.s 3)] [1,4])
(.block 0 (.seq (.seq (pr [.bin 6 false .eql (.s 4) (.c (.int .i64 1)), .mv 5 (.s 6)] [1,4,5])
(.cond (.s 5) .skip (pr [.bin 7 false .eql (.s 4) (.c (.int .i64 2)), .mv 5 (.s 7)] [1,4,5])))
(.cond (.s 5) (.seq (.reg [{ o := .fld 8 (.s 1) 1 }, { o := .load 9 false 1 (.s 8) }, { o := .len 10 false (.s 9) }, { o := .bin 11 false .leq (.s 10) (.c (.int .i64 6)) }, { o := .mv 12 (.s 11) }, { o := .fld 13 (.s 1) 1, g := some (12, true) }, { o := .load 14 false 1 (.s 13), g := some (12, true) }, { o := .call 15 [] (.f n_impl_allIn) [.s 14, .c (.int .i64 0), .c (.int .i64 255)], g := some (12, true) }, { o := .pick 16 (.s 12) (.s 15) (.c (.bool false)) }, { o := .mv 17 (.s 16) }, { o := .fld 18 (.s 1) 2, g := some (17, true) }, { o := .load 19 true 3 (.s 18), g := some (17, true) }, { o := .build 20 [.pl (.sc (.int .i64 0)), .pl (.sc (.int .i64 0)), .pl (.sc (.int .i64 0))] [], g := some (17, true) }, { o := .eqA 21 false [.i .i64, .i .i64, .i .i64] (.s 19) (.s 20), g := some (17, true) }, { o := .pick 22 (.s 17) (.s 21) (.c (.bool false)) }, { o := .mv 2 (.s 22) }] [2])
.ret) (.seq (pr [.bin 24 false .eql (.s 4) (.c (.int .i64 3)), .mv 23 (.s 24)] [1,4,23])
(.cond (.s 23) (.seq (.reg [{ o := .fld 25 (.s 1) 1 }, { o := .load 26 false 1 (.s 25) }, { o := .len 27 false (.s 26) }, { o := .bin 28 false .eql (.s 27) (.c (.int .i64 0)) }, { o := .mv 29 (.s 28) }, { o := .fld 30 (.s 1) 2, g := some (29, true) }, { o := .load 31 true 3 (.s 30), g := some (29, true) }, { o := .call 32 [] (.f n_impl_IsAddress) [.s 31], g := some (29, true) }, { o := .pick 33 (.s 29) (.s 32) (.c (.bool false)) }, { o := .mv 2 (.s 33) }] [2])
.ret) (.seq (pr [.bin 35 false .eql (.s 4) (.c (.int .i64 4)), .mv 34 (.s 35)] [1,34])
(.cond (.s 34) (.seq (.reg [{ o := .fld 36 (.s 1) 1 }, { o := .load 37 false 1 (.s 36) }, { o := .len 38 false (.s 37) }, { o := .bin 39 false .eql (.s 38) (.c (.int .i64 0)) }, { o := .mv 40 (.s 39) }, { o := .fld 41 (.s 1) 2, g := some (40, true) }, { o := .load 42 true 3 (.s 41), g := some (40, true) }, { o := .build 43 [.pl (.sc (.int .i64 0)), .pl (.sc (.int .i64 0)), .pl (.sc (.int .i64 0))] [], g := some (40, true) }, { o := .eqA 44 false [.i .i64, .i .i64, .i .i64] (.s 42) (.s 43), g := some (40, true) }, { o := .pick 45 (.s 40) (.s 44) (.c (.bool false)) }, { o := .mv 2 (.s 45) }] [2])
.ret) .skip))))))))
(.seq (pr [.mv 2 (.c (.bool false))] [2])
.ret)))
theorem c_impl_IsResource (r : GResource) : Ctr Tryd.prog n_impl_IsResource [aS r.enc] [rB (isRes r)] := by
  refine ctr_at (M := m_impl_IsResource) (m := 1) (n := 46) (res := [(.tmp 2, [false])]) hmix Tryd.func90 rfl (by kernel_rfl) rfl (by kernel_rfl) (by kernel_rfl) (Nat.le_of_ble_eq_true rfl) ?_; unfold m_impl_IsResource
  intro hb
  clear hb
  have hcase : r.Kind = 1 ∨ r.Kind = 2 ∨ r.Kind = 3 ∨ r.Kind = 4 ∨ (¬ r.Kind = 1 ∧ ¬ r.Kind = 2 ∧ ¬ r.Kind = 3 ∧ ¬ r.Kind = 4) := by omega
  rcases hcase with hk | hk | hk | hk | ⟨h1, h2, h3, h4⟩
  · simp only [↓bk_bind, ↓bk_map, ↓bk_ite, ↓bk_some, ↓reduceIte, Nat.reduceEqDiff, Nat.reduceLT, Nat.reduceLeDiff, Nat.reduceAdd, Nat.reduceMul, reduceCtorEq, List.reduceReplicate, go_sem, hk, Int.reduceEq]
    refine ⟨fun h => ?_, fun h => ?_⟩
    · have h' : r.Body.length ≤ 6 := by omega
      refine callK_of (c_impl_allIn _ _ _) ?_
      simp only [↓bk_bind, ↓bk_map, ↓bk_ite, ↓bk_some, ↓reduceIte, Nat.reduceEqDiff, Nat.reduceLT, Nat.reduceLeDiff, Nat.reduceAdd, Nat.reduceMul, reduceCtorEq, List.reduceReplicate, go_sem, Int.reduceEq]
      exact ⟨fun h2 => by simp [isRes, noAddr, hk, h2, h'], fun h2 => by simp [isRes, noAddr, hk, h2]⟩
    · have h' : ¬ r.Body.length ≤ 6 := by omega
      simp [isRes, noAddr, hk, h']
  · simp only [↓bk_bind, ↓bk_map, ↓bk_ite, ↓bk_some, ↓reduceIte, Nat.reduceEqDiff, Nat.reduceLT, Nat.reduceLeDiff, Nat.reduceAdd, Nat.reduceMul, reduceCtorEq, List.reduceReplicate, go_sem, hk, Int.reduceEq]
    refine ⟨fun h => ?_, fun h => ?_⟩
    · have h' : r.Body.length ≤ 6 := by omega
      refine callK_of (c_impl_allIn _ _ _) ?_
      simp only [↓bk_bind, ↓bk_map, ↓bk_ite, ↓bk_some, ↓reduceIte, Nat.reduceEqDiff, Nat.reduceLT, Nat.reduceLeDiff, Nat.reduceAdd, Nat.reduceMul, reduceCtorEq, List.reduceReplicate, go_sem, Int.reduceEq]
      exact ⟨fun h2 => by simp [isRes, noAddr, hk, h2, h'], fun h2 => by simp [isRes, noAddr, hk, h2]⟩
    · have h' : ¬ r.Body.length ≤ 6 := by omega
      simp [isRes, noAddr, hk, h']
  · simp only [↓bk_bind, ↓bk_map, ↓bk_ite, ↓bk_some, ↓reduceIte, Nat.reduceEqDiff, Nat.reduceLT, Nat.reduceLeDiff, Nat.reduceAdd, Nat.reduceMul, reduceCtorEq, List.reduceReplicate, go_sem, hk, Int.reduceEq]
    refine ⟨fun h => ?_, fun h => ?_⟩
    · have h' : r.Body.length = 0 := by omega
      refine callK_of (c_impl_IsAddress r.To) ?_
      simp only [↓bk_bind, ↓bk_map, ↓bk_ite, ↓bk_some, ↓reduceIte, Nat.reduceEqDiff, Nat.reduceLT, Nat.reduceLeDiff, Nat.reduceAdd, Nat.reduceMul, reduceCtorEq, List.reduceReplicate, go_sem, Int.reduceEq]
      simp [isRes, hk, h']
    · have h' : ¬ r.Body.length = 0 := by omega
      unfold isRes
      rw [if_neg (by omega), if_pos hk, decide_eq_false h']
      rfl
  · simp only [↓bk_bind, ↓bk_map, ↓bk_ite, ↓bk_some, ↓reduceIte, Nat.reduceEqDiff, Nat.reduceLT, Nat.reduceLeDiff, Nat.reduceAdd, Nat.reduceMul, reduceCtorEq, List.reduceReplicate, go_sem, hk, Int.reduceEq]
    refine ⟨fun h => ?_, fun h => ?_⟩
    · have h' : r.Body.length = 0 := by omega
      unfold isRes
      rw [if_neg (by omega), if_neg (by omega), if_pos hk, decide_eq_true h']
      simp [noAddr]
    · have h' : ¬ r.Body.length = 0 := by omega
      unfold isRes
      rw [if_neg (by omega), if_neg (by omega), if_pos hk, decide_eq_false h']
      rfl
  · simp only [↓bk_bind, ↓bk_map, ↓bk_ite, ↓bk_some, ↓reduceIte, Nat.reduceEqDiff, Nat.reduceLT, Nat.reduceLeDiff, Nat.reduceAdd, Nat.reduceMul, reduceCtorEq, List.reduceReplicate, go_sem, h1, h2, h3, h4]
    unfold isRes
    rw [if_neg (by omega), if_neg (by omega), if_neg (by omega)]
def m_spec_IsResource : MC :=
(.seq (pr [.box 1 0 (.s 0), .mv 2 (.c (.bool false))] [1])
(.seq (.seq (.reg [{ o := .fld 3 (.s 1) 0 }, { o := .load 4 false 1 (.s 3) }, { o := .call 5 [] (.f n_spec_l1In) [.s 4, .c (.int .i64 1), .c (.int .i64 4)] }, { o := .un 6 .not (.s 5) }, { o := .mv 7 (.s 6) }, { o := .fld 8 (.s 1) 1, g := some (7, false) }, { o := .load 9 false 1 (.s 8), g := some (7, false) }, { o := .call 10 [] (.f n_spec_l5Bytes) [.s 9], g := some (7, false) }, { o := .un 11 .not (.s 10), g := some (7, false) }, { o := .pick 12 (.s 7) (.c (.bool true)) (.s 11) }, { o := .mv 13 (.s 12) }, { o := .fld 14 (.s 1) 1, g := some (13, false) }, { o := .load 15 false 1 (.s 14), g := some (13, false) }, { o := .len 16 false (.s 15), g := some (13, false) }, { o := .bin 17 false .gtr (.s 16) (.c (.int .i64 6)), g := some (13, false) }, { o := .pick 18 (.s 13) (.c (.bool true)) (.s 17) }] [1,18])
(.cond (.s 18) (.seq (pr [.mv 2 (.c (.bool false))] [2])
.ret) .skip))
(.seq (.seq (pr [.fld 19 (.s 1) 0, .load 20 false 1 (.s 19), .bin 21 false .eql (.s 20) (.c (.int .i64 3))] [1,21])
(.cond (.s 21) (.seq (.reg [{ o := .fld 22 (.s 1) 2 }, { o := .load 23 true 3 (.s 22) }, { o := .call 24 [] (.f n_spec_IsAddress) [.s 23] }, { o := .mv 25 (.s 24) }, { o := .fld 26 (.s 1) 1, g := some (25, true) }, { o := .load 27 false 1 (.s 26), g := some (25, true) }, { o := .len 28 false (.s 27), g := some (25, true) }, { o := .bin 29 false .eql (.s 28) (.c (.int .i64 0)), g := some (25, true) }, { o := .pick 30 (.s 25) (.s 29) (.c (.bool false)) }, { o := .mv 2 (.s 30) }] [2])
.ret) .skip))
(.seq (.reg [{ o := .fld 31 (.s 1) 2 }, { o := .load 32 true 3 (.s 31) }, { o := .build 33 [.pl (.sc (.int .i64 0)), .pl (.sc (.int .i64 0)), .pl (.sc (.int .i64 0))] [] }, { o := .eqA 34 false [.i .i64, .i .i64, .i .i64] (.s 32) (.s 33) }, { o := .mv 35 (.s 34) }, { o := .fld 36 (.s 1) 0, g := some (35, true) }, { o := .load 37 false 1 (.s 36), g := some (35, true) }, { o := .bin 38 false .neq (.s 37) (.c (.int .i64 4)), g := some (35, true) }, { o := .mv 39 (.s 38), g := some (35, true) }, { o := .fld 40 (.s 1) 1, g := some (39, false) }, { o := .load 41 false 1 (.s 40), g := some (39, false) }, { o := .len 42 false (.s 41), g := some (39, false) }, { o := .bin 43 false .eql (.s 42) (.c (.int .i64 0)), g := some (39, false) }, { o := .pick 44 (.s 39) (.c (.bool true)) (.s 43), g := some (35, true) }, { o := .pick 45 (.s 35) (.s 44) (.c (.bool false)) }, { o := .mv 2 (.s 45) }] [2])
.ret))))
theorem c_spec_IsResource (r : GResource) : Ctr Tryd.prog n_spec_IsResource [aS r.enc] [rB (isRes r)] := by
  refine ctr_at (M := m_spec_IsResource) (m := 1) (n := 46) (res := [(.tmp 2, [false])]) hmix Tryd.func88 rfl (by kernel_rfl) rfl (by kernel_rfl) (by kernel_rfl) (Nat.le_of_ble_eq_true rfl) ?_; unfold m_spec_IsResource
  intro hb
  clear hb
  simp only [↓bk_bind, ↓bk_map, ↓bk_ite, ↓bk_some, ↓reduceIte, Nat.reduceEqDiff, Nat.reduceLT, Nat.reduceLeDiff, Nat.reduceAdd, Nat.reduceMul, reduceCtorEq, List.reduceReplicate, go_sem]
  refine callK_of (c_spec_l1In _ _ _) ?_
  simp only [↓bk_bind, ↓bk_map, ↓bk_ite, ↓bk_some, ↓reduceIte, Nat.reduceEqDiff, Nat.reduceLT, Nat.reduceLeDiff, Nat.reduceAdd, Nat.reduceMul, reduceCtorEq, List.reduceReplicate, go_sem]
  refine ⟨fun h => ?_, fun h => ?_⟩
  · unfold isRes
    rw [if_neg (by omega), if_neg (by omega), if_neg (by omega)]
  · refine callK_of (c_spec_l5Bytes r.Body) ?_
    simp only [↓bk_bind, ↓bk_map, ↓bk_ite, ↓bk_some, ↓reduceIte, Nat.reduceEqDiff, Nat.reduceLT, Nat.reduceLeDiff, Nat.reduceAdd, Nat.reduceMul, reduceCtorEq, List.reduceReplicate, go_sem]
    refine ⟨fun ha => ?_, fun ha => ⟨fun hl => ?_, fun hl => ⟨fun hk => ?_, fun hk => ?_⟩⟩⟩
    · have h0 : ¬ r.Body.length = 0 := fun e => by
        rw [List.eq_nil_of_length_eq_zero e] at ha
        simp [allIn] at ha
      simp [isRes, ha, h0]
    · have h0 : ¬ r.Body.length = 0 := by omega
      have h1 : ¬ r.Body.length ≤ 6 := by omega
      simp [isRes, h0, h1]
    · refine callK_of (c_spec_IsAddress r.To) ?_
      simp only [↓bk_bind, ↓bk_map, ↓bk_ite, ↓bk_some, ↓reduceIte, Nat.reduceEqDiff, Nat.reduceLT, Nat.reduceLeDiff, Nat.reduceAdd, Nat.reduceMul, reduceCtorEq, List.reduceReplicate, go_sem]
      refine ⟨fun hi => ?_, fun hi => by simp [isRes, hk, hi]⟩
      unfold isRes
      rw [if_neg (by omega), if_pos hk, hi, Bool.and_true, Bool.eq_iff_iff]
      simp
    · have h1 : r.Body.length ≤ 6 := by omega
      refine ⟨fun ht => ?_, fun ht => ?_⟩
      · have hn : noAddr r.To = true := by
          unfold noAddr
          exact (Bool.eq_false_or_eq_true _).resolve_right fun e => ht e.symm
        refine ⟨fun k4 => ?_, fun k4 => ?_⟩
        · unfold isRes
          rw [if_pos (by omega), ha, hn, decide_eq_true h1]
          rfl
        · unfold isRes
          rw [if_neg (by omega), if_neg hk, if_pos k4, hn, Bool.and_true, Bool.eq_iff_iff]
          simp
      · have hn : noAddr r.To = false := ht.symm
        unfold isRes
        rw [hn, if_neg hk]
        split
        · simp
        · split <;> simp
end Go.Proofs.YtldjbgjcfncdjaaDoorR
namespace Go.Proofs
open Go.Shelf
def Tryd.lays156_ren : Go.Shelf.Ren := ⟨fun | 156 => 83 | 165 => 111 | 166 => 112 | 169 => 113 | 240 => 123 | 241 => 124 | 276 => 132 | 277 => 133 | n => n, fun | 31 => 144 | 9 => 9 | 3 => 3 | 4 => 4 | 0 => 0 | 20 => 20 | 72 => 188 | 76 => 192 | 70 => 186 | 37 => 147 | 75 => 191 | 127 => 213 | 164 => 221 | 5 => 5 | 80 => 194 | n => n, fun | n => n⟩
theorem Tryd.lays156 : Go.Proofs.Lays.n156 Tryd.prog Tryd.lays156_ren := {
  mixed := by kernel_rfl
  f156 := Tryd.func83.trans (congrArg some (by kernel_rfl))
  f165 := Tryd.func111.trans (congrArg some (by kernel_rfl))
  f166 := Tryd.func112.trans (congrArg some (by kernel_rfl))
  f169 := Tryd.func113.trans (congrArg some (by kernel_rfl))
  f240 := Tryd.func123.trans (congrArg some (by kernel_rfl))
  f241 := Tryd.func124.trans (congrArg some (by kernel_rfl))
  f276 := Tryd.func132.trans (congrArg some (by kernel_rfl))
  f277 := Tryd.func133.trans (congrArg some (by kernel_rfl))
  t0 := Tryd.underlying0
  a0 := Tryd.isAgg0
  z0 := Tryd.sizeOf0
  v0 := Tryd.zeroValue0
  t3 := Tryd.underlying3
  a3 := Tryd.isAgg3
  z3 := Tryd.sizeOf3
  v3 := Tryd.zeroValue3
  t4 := Tryd.underlying4
  a4 := Tryd.isAgg4
  z4 := Tryd.sizeOf4
  v4 := Tryd.zeroValue4
  t9 := Tryd.underlying9
  a9 := Tryd.isAgg9
  z9 := Tryd.sizeOf9
  v9 := Tryd.zeroValue9
  t20 := Tryd.underlying20
  a20 := Tryd.isAgg20
  z20 := Tryd.sizeOf20
  v20 := Tryd.zeroValue20
  t31 := Tryd.underlying144
  a31 := Tryd.isAgg144
  z31 := Tryd.sizeOf144
  v31 := Tryd.zeroValue144
  t37 := Tryd.underlying147
  a37 := Tryd.isAgg147
  z37 := Tryd.sizeOf147
  v37 := Tryd.zeroValue147
  t70 := Tryd.underlying186
  a70 := Tryd.isAgg186
  z70 := Tryd.sizeOf186
  v70 := Tryd.zeroValue186
  t72 := Tryd.underlying188
  a72 := Tryd.isAgg188
  z72 := Tryd.sizeOf188
  v72 := Tryd.zeroValue188
  t75 := Tryd.underlying191
  a75 := Tryd.isAgg191
  z75 := Tryd.sizeOf191
  v75 := Tryd.zeroValue191
  t76 := Tryd.underlying192
  a76 := Tryd.isAgg192
  z76 := Tryd.sizeOf192
  v76 := Tryd.zeroValue192
  t127 := Tryd.underlying213
  a127 := Tryd.isAgg213
  z127 := Tryd.sizeOf213
  v127 := Tryd.zeroValue213
  t164 := Tryd.underlying221
  a164 := Tryd.isAgg221
  z164 := Tryd.sizeOf221
  v164 := Tryd.zeroValue221 }
theorem Tryd.Builder_Extra_156 : Builder.Extra Tryd.prog Tryd.lays156_ren := {
  sizeBuilder := by kernel_rfl
  liesBuilder := by kernel_rfl
  t5 := Tryd.underlying5
  a5 := Tryd.isAgg5
  z5 := Tryd.sizeOf5
  v5 := Tryd.zeroValue5
  infoByte := by kernel_rfl
  cellsByte := by kernel_rfl
  sizeByte := by kernel_rfl
  neB5 := by decide }
open Go.RowKit in
theorem Tryd.strings_Join_none (a : Option Addr) (c : Nat) (sep : ByteArray) (w : World) :
    Calls Tryd.prog 83 #[.slice a 0 c, .string sep] w fun e w' => e = .returned (.string ⟨#[]⟩) ∧ w' = w := Any.strings_Join_none Tryd.lays156 Tryd.Builder_Extra_156 a c sep w
open Go.RowKit in
theorem Tryd.strings_Join (bk o c : Nat) (xs : List ByteArray) (sep : ByteArray) (w : World) (hcells : ∀ (j : Nat) x, xs[j]? = some x → w.cell? ⟨bk, o + j, none⟩ = some (.string x)) (hbk : bk < w.heap.size) (hN : xs.length ≤ 140737488355328) (hcap : xs.length ≤ c) (hlen : (Lib.join (xs.map (·.data.toList)) sep.data.toList).length ≤ 140737488355328) :
    Calls Tryd.prog 83 #[.slice (some ⟨bk, o, none⟩) xs.length c, .string sep] w fun e w' => e = .returned (.string ⟨(Lib.join (xs.map (·.data.toList)) sep.data.toList).toArray⟩) ∧ Below w.heap.size w w' := Any.strings_Join Tryd.lays156 Tryd.Builder_Extra_156 bk o c xs sep w hcells hbk hN hcap hlen
def Tryd.laysM171_ren : Go.Shelf.Ren := ⟨fun | 171 => 86 | 243 => 114 | 246 => 125 | 283 => 134 | 284 => 135 | 285 => 136 | 286 => 137 | 129 => 141 | 317 => 140 | 318 => 142 | 319 => 143 | 320 => 144 | 337 => 145 | 338 => 146 | n => n, fun | 3 => 3 | 9 => 9 | 2 => 2 | 4 => 4 | 171 => 224 | 0 => 0 | 53 => 225 | 37 => 147 | 5 => 5 | 173 => 228 | 212 => 238 | 51 => 239 | 20 => 20 | 213 => 240 | 46 => 242 | 232 => 245 | 233 => 246 | n => n, fun | 17 => 1 | 18 => 2 | 19 => 3 | n => n⟩
theorem Tryd.laysM171 : Go.Proofs.LaysM.n171 Tryd.prog Tryd.laysM171_ren := {
  mixed := by kernel_rfl
  f129 := Tryd.func141.trans (congrArg some (by kernel_rfl))
  f171 := Tryd.func86.trans (congrArg some (by kernel_rfl))
  f243 := Tryd.func114.trans (congrArg some (by kernel_rfl))
  f246 := Tryd.func125.trans (congrArg some (by kernel_rfl))
  f283 := Tryd.func134.trans (congrArg some (by kernel_rfl))
  f284 := Tryd.func135.trans (congrArg some (by kernel_rfl))
  f285 := Tryd.func136.trans (congrArg some (by kernel_rfl))
  f286 := Tryd.func137.trans (congrArg some (by kernel_rfl))
  f317 := Tryd.func140.trans (congrArg some (by kernel_rfl))
  f318 := Tryd.func142.trans (congrArg some (by kernel_rfl))
  f319 := Tryd.func143.trans (congrArg some (by kernel_rfl))
  f320 := Tryd.func144.trans (congrArg some (by kernel_rfl))
  f337 := Tryd.func145.trans (congrArg some (by kernel_rfl))
  f338 := Tryd.func146.trans (congrArg some (by kernel_rfl))
  t0 := Tryd.underlying0
  a0 := Tryd.isAgg0
  z0 := Tryd.sizeOf0
  v0 := Tryd.zeroValue0
  t2 := Tryd.underlying2
  a2 := Tryd.isAgg2
  z2 := Tryd.sizeOf2
  v2 := Tryd.zeroValue2
  t3 := Tryd.underlying3
  a3 := Tryd.isAgg3
  z3 := Tryd.sizeOf3
  v3 := Tryd.zeroValue3
  t4 := Tryd.underlying4
  a4 := Tryd.isAgg4
  z4 := Tryd.sizeOf4
  v4 := Tryd.zeroValue4
  t5 := Tryd.underlying5
  a5 := Tryd.isAgg5
  z5 := Tryd.sizeOf5
  v5 := Tryd.zeroValue5
  t9 := Tryd.underlying9
  a9 := Tryd.isAgg9
  z9 := Tryd.sizeOf9
  v9 := Tryd.zeroValue9
  t20 := Tryd.underlying20
  a20 := Tryd.isAgg20
  z20 := Tryd.sizeOf20
  v20 := Tryd.zeroValue20
  t37 := Tryd.underlying147
  a37 := Tryd.isAgg147
  z37 := Tryd.sizeOf147
  v37 := Tryd.zeroValue147
  t46 := Tryd.underlying242
  a46 := Tryd.isAgg242
  z46 := Tryd.sizeOf242
  v46 := Tryd.zeroValue242
  t51 := Tryd.underlying239
  a51 := Tryd.isAgg239
  z51 := Tryd.sizeOf239
  v51 := Tryd.zeroValue239
  t53 := Tryd.underlying225
  a53 := Tryd.isAgg225
  z53 := Tryd.sizeOf225
  v53 := Tryd.zeroValue225
  t171 := Tryd.underlying224
  a171 := Tryd.isAgg224
  z171 := Tryd.sizeOf224
  v171 := Tryd.zeroValue224
  t173 := Tryd.underlying228
  a173 := Tryd.isAgg228
  z173 := Tryd.sizeOf228
  v173 := Tryd.zeroValue228
  t212 := Tryd.underlying238
  a212 := Tryd.isAgg238
  z212 := Tryd.sizeOf238
  v212 := Tryd.zeroValue238
  t213 := Tryd.underlying240
  a213 := Tryd.isAgg240
  z213 := Tryd.sizeOf240
  t232 := Tryd.underlying245
  a232 := Tryd.isAgg245
  z232 := Tryd.sizeOf245
  v232 := Tryd.zeroValue245
  t233 := Tryd.underlying246
  a233 := Tryd.isAgg246
  z233 := Tryd.sizeOf246
  v233 := Tryd.zeroValue246
  g17 := by kernel_rfl
  g18 := by kernel_rfl
  g19 := by kernel_rfl
  i0 := by kernel_rfl
  i2 := by kernel_rfl
  i3 := by kernel_rfl
  i4 := by kernel_rfl
  i5 := by kernel_rfl
  i9 := by kernel_rfl
  i20 := by kernel_rfl
  i37 := by kernel_rfl
  i46 := by kernel_rfl
  i51 := by kernel_rfl
  i53 := by kernel_rfl
  i171 := by kernel_rfl
  i173 := by kernel_rfl
  i212 := by kernel_rfl
  i232 := by kernel_rfl
  i233 := by kernel_rfl
  m17 := by kernel_rfl
  m18 := by kernel_rfl
  m19 := by kernel_rfl }
open Go.RowKit Go.Sort Go.Lib in
theorem Tryd.strconv_Itoa (n : Int) (h0 : -9223372036854775808 ≤ n) (h1 : n ≤ 9223372036854775807) (w : World) (htab : Lib.TabIs Tryd.prog w "internal/strconv.uint64pow10" .u64 Lib.pow10Tab) :
    Calls Tryd.prog 86 #[.int .i64 n] w fun e w' => e = .returned (.string ⟨(Lib.itoa n).toArray⟩) ∧ ∃ k os, w' = grow (w.drewN k) os := Any.strconv_Itoa Tryd.laysM171 n h0 h1 w htab

end Go.Proofs
namespace Go.Proofs.YtldjbgjcfncdjaaDoorR
open Go Go.RowKit Go.Proofs
set_option linter.unusedSimpArgs false
set_option linter.unusedVariables false
/-- A string out of bytes. -/
def bs (l : List UInt8) : ByteArray := ⟨l.toArray⟩
theorem bs_size {l : List UInt8} : (bs l).size = l.length := by simp [bs, ByteArray.size]
theorem bs_app {l m : List UInt8} : bs l ++ bs m = bs (l ++ m) := by
  apply ByteArray.ext
  simp [bs]
@[go_sem] theorem bs_mk {l : List UInt8} : (⟨l.toArray⟩ : ByteArray) = bs l := rfl
attribute [go_sem] bs_size bs_app
abbrev rStr (s : ByteArray) : RV := ⟨false, [(false, tS s)]⟩
attribute [go_sem] rStr
theorem below_grow (w : World) (k : Nat) (os : Array Obj) : Below w.heap.size w (Go.Sort.grow (w.drewN k) os) := by
  refine ⟨rfl, rfl, rfl, ?_, fun i hi => ?_⟩
  · simp [Go.Sort.grow, World.drewN]
  · show (w.heap ++ os)[i]? = _
    rw [Array.getElem?_append_left hi]
theorem ctr_str {w w' : World} {X : Nat → Prop} {s : ByteArray} (hs : s.size ≤ 9223372036854775807) (hb : Below w.heap.size w w') :
    Below w.heap.size w w' ∧ ∃ us G, Value.string s = tupV us ∧ G.Nodup ∧ (∀ b ∈ G, w.heap.size ≤ b) ∧ ResVs w' (fun b => (b < w.heap.size → X b) ∧ b ∉ G) [rStr s] us G :=
  ⟨hb, [.string s], [], rfl, List.nodup_nil, by simp, [], [], ⟨⟨_, rfl⟩, ⟨rfl, oneW_str hs⟩, rfl⟩, rfl, rfl⟩
theorem args_one {w : World} {X : Nat → Prop} {t : T} {vs : List Value} (h : ArgsR w X [(false, [t])] vs) : ∃ v, vs = [v] ∧ Rd w X t v := by
  cases vs with
  | nil => exact h.elim
  | cons v vs =>
    cases vs with
    | cons _ _ => exact h.2.elim
    | nil =>
      obtain ⟨t', e, h1⟩ := h.1
      obtain rfl := (List.cons.inj e).1
      exact ⟨v, rfl, h1⟩
theorem args_two {w : World} {X : Nat → Prop} {t u : T} {vs : List Value} (h : ArgsR w X [(false, [t]), (false, [u])] vs) : ∃ v v', vs = [v, v'] ∧ Rd w X t v ∧ Rd w X u v' := by
  cases vs with
  | nil => exact h.elim
  | cons v vs =>
    obtain ⟨t', e, h1⟩ := h.1
    obtain rfl := (List.cons.inj e).1
    obtain ⟨v', rfl, h2⟩ := args_one h.2
    exact ⟨v, v', rfl, h1, h2⟩
theorem decDigits_len (u : Nat) : (Lib.decDigits u).length ≤ u + 1 := by
  induction u using Nat.strongRecOn with
  | _ u ih =>
    unfold Lib.decDigits
    split
    · simp
    · have := ih (u / 10) (by omega)
      simp only [List.length_append, List.length_cons, List.length_nil]
      omega
theorem decDigits_len' : ∀ (k u : Nat), u < 10 ^ (k + 1) → (Lib.decDigits u).length ≤ k + 1
  | 0, u, h => by
    unfold Lib.decDigits
    rw [dif_pos (by omega)]
    simp
  | k + 1, u, h => by
    unfold Lib.decDigits
    split
    · simp
    · have h2 : u / 10 < 10 ^ (k + 1) := by
        rw [Nat.div_lt_iff_lt_mul (by omega)]
        rw [Nat.pow_succ] at h
        exact h
      have := decDigits_len' k (u / 10) h2
      simp only [List.length_append, List.length_cons, List.length_nil]
      omega
theorem itoa_len (n : Int) : (Lib.itoa n).length ≤ n.natAbs + 2 := by
  unfold Lib.itoa
  split
  · have := decDigits_len n.natAbs; simp only [List.length_cons]; omega
  · have := decDigits_len n.toNat; omega
theorem itoa_len' {n : Int} (h0 : -9223372036854775808 ≤ n) (h1 : n ≤ 9223372036854775807) : (Lib.itoa n).length ≤ 20 := by
  unfold Lib.itoa
  split
  · have := decDigits_len' 18 n.natAbs (by have : (10 : Nat) ^ (18 + 1) = 10000000000000000000 := rfl; omega); simp only [List.length_cons]; omega
  · have := decDigits_len' 18 n.toNat (by have : (10 : Nat) ^ (18 + 1) = 10000000000000000000 := rfl; omega); omega
theorem c_strconv_Itoa (n : Int) : Ctr Tryd.prog n_strconv_Itoa [aI n] [rStr (bs (Lib.itoa n))] := by
  refine ⟨⟨Tryd.f86, Tryd.func86, by kernel_rfl, by kernel_rfl⟩, fun w X vs ht h => ?_⟩
  obtain ⟨v, rfl, hr⟩ := args_one h
  simp only [Rd] at hr
  obtain ⟨rfl, h1⟩ := hr
  have h2 := int_range (oneW_wf h1)
  simp only [i64_min, i64_max] at h2
  refine (Tryd.strconv_Itoa n h2.1 h2.2 w (ht w (Below.refl _ _))).mono ?_
  rintro e w' ⟨rfl, k, os, rfl⟩
  refine ctr_str (s := bs (Lib.itoa n)) ?_ (below_grow w k os)
  rw [bs_size]
  have h3 := itoa_len' h2.1 h2.2
  omega
end Go.Proofs.YtldjbgjcfncdjaaDoorR
namespace Go.Proofs.YtldjbgjcfncdjaaDoorR
open Go Go.RowKit Go.Proofs
set_option linter.unusedSimpArgs false
set_option linter.unusedVariables false
abbrev vStr' (s : List UInt8) : SV := .val false [.pl (tS (bs s))]
attribute [go_sem] vStr'
def m_impl_FormatInt : MC :=
(.seq (pr [.mv 2 (.c (.string ⟨#[]⟩))] [0])
(.seq (pr [.mv 3 (.s 0), .call 4 [] (.f n_strconv_Itoa) [.s 3], .mv 2 (.s 4)] [2])
.ret))
theorem c_impl_FormatInt (n : Int) : Ctr Tryd.prog n_impl_FormatInt [aI n] [rStr (bs (Lib.itoa n))] := by
  refine ctr_at (M := m_impl_FormatInt) (m := 0) (n := 5) (res := [(.tmp 2, [false])]) hmix Tryd.func45 rfl (by kernel_rfl) rfl (by kernel_rfl) (by kernel_rfl) (Nat.le_of_ble_eq_true rfl) ?_; unfold m_impl_FormatInt
  intro hb
  clear hb
  simp only [↓bk_bind, ↓bk_map, ↓bk_ite, ↓bk_some, ↓reduceIte, Nat.reduceEqDiff, Nat.reduceLT, Nat.reduceLeDiff, Nat.reduceAdd, Nat.reduceMul, reduceCtorEq, List.reduceReplicate, go_sem]
  refine callK_of (c_strconv_Itoa n) ?_
  simp only [↓bk_bind, ↓bk_map, ↓bk_ite, ↓bk_some, ↓reduceIte, Nat.reduceEqDiff, Nat.reduceLT, Nat.reduceLeDiff, Nat.reduceAdd, Nat.reduceMul, reduceCtorEq, List.reduceReplicate, go_sem]
theorem byteOf_nat {k : Nat} (h : k < 256) : byteOf [.sc (.int .u8 (k : Int))] = some (UInt8.ofNat k) := by
  show (if 0 ≤ (k : Int) ∧ (k : Int) < 256 then some (UInt8.ofNat (k : Int).toNat) else none) = _
  rw [if_pos (by omega)]
  simp
theorem tmod_ten (x : Int) : (x.tmod 10).natAbs = x.natAbs % 10 ∧ (x.tdiv 10).natAbs = x.natAbs / 10 ∧ (x.tmod 10 < 0 → x.tmod 10 = -((x.natAbs % 10 : Nat) : Int)) ∧ (¬ x.tmod 10 < 0 → x.tmod 10 = ((x.natAbs % 10 : Nat) : Int)) := by
  have h1 : (x.tmod 10).natAbs = x.natAbs % 10 := by rw [Int.natAbs_tmod]; rfl
  have h2 : (x.tdiv 10).natAbs = x.natAbs / 10 := by rw [Int.natAbs_tdiv]; rfl
  exact ⟨h1, h2, fun h => by omega, fun h => by omega⟩
theorem u8_wrap {k : Nat} (h : k < 256) : IntKind.u8.wrap (k : Int) = k := by
  rw [IntKind.wrap_u8]; omega
def m_spec_FormatInt : MC :=
(.seq (pr [.mv 2 (.c (.string ⟨#[]⟩))] [0])
(.seq (.seq (pr [.mv 6 (.s 0), .bin 7 false .eql (.s 6) (.c (.int .i64 0))] [0,7])
(.cond (.s 7) (.seq (pr [.mv 2 (.c (.string ⟨#[48]⟩))] [2])
.ret) .skip))
(.seq (pr [.mv 3 (.c (.string ⟨#[]⟩))] [0,3])
(.seq (.seq (pr [.mv 8 (.s 0), .mv 4 (.s 8)] [0,3,4])
(.block 0 (.loop ([0,3,4], [0]) (.seq (.seq (pr [.mv 9 (.s 4), .bin 10 false .neq (.s 9) (.c (.int .i64 0))] [0,3,4,10])
(.cond (.s 10) .skip (.exit 0)))
(.seq (.block 1 (.seq (pr [.mv 13 (.s 4), .bin 14 false .rem (.s 13) (.c (.int .i64 10)), .mv 5 (.s 14)] [0,3,4,5])
(.seq (.seq (pr [.mv 15 (.s 5), .bin 16 false .lss (.s 15) (.c (.int .i64 0))] [0,3,4,5,16])
(.cond (.s 16) (pr [.mv 17 (.s 5), .un 18 .neg (.s 17), .mv 5 (.s 18)] [0,3,4,5]) .skip))
(pr [.mv 19 (.s 5), .bin 20 false .add (.c (.int .i64 48)) (.s 19), .convI 21 .u8 (.s 20), .lit 22 0 1 1 [.s 21], .convS 23 (.s 22), .mv 24 (.s 3), .bin 25 false .add (.s 23) (.s 24), .mv 3 (.s 25)] [0,3,4]))))
(pr [.mv 11 (.s 4), .bin 12 false .quo (.s 11) (.c (.int .i64 10)), .mv 4 (.s 12)] [0,3,4]))))))
(.seq (.seq (pr [.mv 26 (.s 0), .bin 27 false .lss (.s 26) (.c (.int .i64 0))] [3,27])
(.cond (.s 27) (.seq (pr [.mv 28 (.s 3), .bin 29 false .add (.c (.string ⟨#[45]⟩)) (.s 28), .mv 2 (.s 29)] [2])
.ret) .skip))
(.seq (pr [.mv 30 (.s 3), .mv 2 (.s 30)] [2])
.ret))))))
theorem c_spec_FormatInt (n : Int) : Ctr Tryd.prog n_spec_FormatInt [aI n] [rStr (bs (Lib.itoa n))] := by
  refine ctr_at (M := m_spec_FormatInt) (m := 1) (n := 31) (res := [(.tmp 2, [false])]) hmix Tryd.func42 rfl (by kernel_rfl) rfl (by kernel_rfl) (by kernel_rfl) (Nat.le_of_ble_eq_true rfl) ?_; unfold m_spec_FormatInt
  intro hb
  simp only [bdA, bdL, bdT, bdR, bdR_map, wfB_i64, wfB_bool, wfB_str, roomB, and_true, true_and, List.length_map] at hb
  simp only [↓bk_bind, ↓bk_map, ↓bk_ite, ↓bk_some, ↓reduceIte, Nat.reduceEqDiff, Nat.reduceLT, Nat.reduceLeDiff, Nat.reduceAdd, Nat.reduceMul, reduceCtorEq, List.reduceReplicate, go_sem]
  refine ⟨fun h => by subst h; congr 1; unfold Lib.itoa Lib.decDigits; rfl, fun h => ?_⟩
  refine loopK_up (ι := Int × List UInt8) (fun i => [(3, vStr' i.2), (4, vI i.1)]) (fun _ => []) (fun i => (i.1 = 0 → i.2 = Lib.decDigits n.natAbs) ∧ (i.1 ≠ 0 → Lib.decDigits i.1.natAbs ++ i.2 = Lib.decDigits n.natAbs) ∧ -9223372036854775808 ≤ i.1 ∧ i.1 ≤ 9223372036854775807) (fun i => i.1.natAbs) (n, []) ?_
  simp only [↓bk_bind, ↓bk_map, ↓bk_ite, ↓bk_some, ↓reduceIte, Nat.reduceEqDiff, Nat.reduceLT, Nat.reduceLeDiff, Nat.reduceAdd, Nat.reduceMul, reduceCtorEq, List.reduceReplicate, go_sem]
  refine ⟨?_, ⟨fun h2 => absurd h2 h, fun _ => by simp, hb⟩, ?_⟩
  · simp only [↓bk_bind, ↓bk_map, ↓bk_ite, ↓bk_some, ↓reduceIte, Nat.reduceEqDiff, Nat.reduceLT, Nat.reduceLeDiff, Nat.reduceAdd, Nat.reduceMul, reduceCtorEq, List.reduceReplicate, go_sem]
  · rintro ⟨x, s⟩ ⟨h1, h2, h3, h4⟩
    simp only at h1 h2 h3 h4
    simp only [↓bk_bind, ↓bk_map, ↓bk_ite, ↓bk_some, ↓reduceIte, Nat.reduceEqDiff, Nat.reduceLT, Nat.reduceLeDiff, Nat.reduceAdd, Nat.reduceMul, reduceCtorEq, List.reduceReplicate, go_sem, Int.reduceEq]
    refine ⟨fun hx => ?_, fun hx => ?_⟩
    · obtain ⟨t1, t2, t3, t4⟩ := tmod_ten x
      have hd := h2 hx
      have hlen : s.length ≤ 20 := by
        have e1 := congrArg List.length hd
        have e2 := decDigits_len' 18 n.natAbs (by have : (10 : Nat) ^ (18 + 1) = 10000000000000000000 := rfl; omega)
        simp only [List.length_append] at e1
        omega
      have key : ∀ m : Int, m = ((48 + x.natAbs % 10 : Nat) : Int) → 1 ≤ roomB ∧ bk (byteOf [.sc (.int .u8 (IntKind.u8.wrap (IntKind.i64.wrap m)))]) fun a => 1 + s.length ≤ 9223372036854775807 ∧ ∃ j : Int × List UInt8, (bs (a :: s) = bs j.snd ∧ IntKind.i64.wrap (x.tdiv 10) = j.fst) ∧
          ((j.fst = 0 → j.snd = Lib.decDigits n.natAbs) ∧ (¬j.fst = 0 → Lib.decDigits j.fst.natAbs ++ j.snd = Lib.decDigits n.natAbs) ∧ -9223372036854775808 ≤ j.fst ∧ j.fst ≤ 9223372036854775807) ∧ j.fst.natAbs < x.natAbs := by
        rintro m rfl
        rw [wI (by omega) (by omega), u8_wrap (by omega), byteOf_nat (by omega)]
        have hb2 : -9223372036854775808 ≤ x.tdiv 10 ∧ x.tdiv 10 ≤ 9223372036854775807 := by omega
        refine ⟨by decide, _, rfl, by omega, (x.tdiv 10, _ :: s), ⟨rfl, wI hb2.1 hb2.2⟩, ⟨fun h0 => ?_, fun h0 => ?_, hb2⟩, by show (x.tdiv 10).natAbs < _; omega⟩
        · have h0' : x.tdiv 10 = 0 := h0
          have hlt : x.natAbs < 10 := by rw [h0'] at t2; simp at t2; omega
          rw [← hd, Lib.decDigits, dif_pos hlt, Nat.mod_eq_of_lt hlt]
          rfl
        · have h0' : ¬ x.tdiv 10 = 0 := h0
          show Lib.decDigits (x.tdiv 10).natAbs ++ _ :: s = _
          rw [← hd, t2]
          conv => rhs; rw [Lib.decDigits, dif_neg (by omega)]
          simp
      exact ⟨fun h0 => key _ (by rw [wI (by omega) (by omega), t3 h0]; omega), fun h0 => key _ (by rw [t4 h0]; omega)⟩
    · have h5 := h1 hx
      subst h5
      have e2 := decDigits_len' 18 n.natAbs (by have : (10 : Nat) ^ (18 + 1) = 10000000000000000000 := rfl; omega)
      refine ⟨fun hn => ⟨by omega, ?_⟩, fun hn => ?_⟩
      · unfold Lib.itoa; rw [if_pos hn]
      · unfold Lib.itoa; rw [if_neg hn, show n.toNat = n.natAbs by omega]
theorem joinTail_snoc (sep : List UInt8) (r : List (List UInt8)) (x : List UInt8) : Lib.joinTail sep (r ++ [x]) = Lib.joinTail sep r ++ (sep ++ x) := by simp [Lib.joinTail]
theorem join_snoc (sep x : List UInt8) (xs : List (List UInt8)) : Lib.join (xs ++ [x]) sep = if xs = [] then x else Lib.join xs sep ++ sep ++ x := by
  cases xs with
  | nil => simp [Lib.join_one]
  | cons y ys =>
    rw [List.cons_append, Lib.join_cons, joinTail_snoc, Lib.join_cons, if_neg (by simp)]
    simp
theorem join_len (c : Nat) (sep : List UInt8) : ∀ (xs : List (List UInt8)), (∀ x ∈ xs, x.length ≤ c) → (Lib.join xs sep).length ≤ xs.length * (c + sep.length)
  | [], _ => by simp [Lib.join_nil]
  | x :: xs, h => by
    have h2 : ∀ r : List (List UInt8), (∀ x ∈ r, x.length ≤ c) → (Lib.joinTail sep r).length ≤ r.length * (c + sep.length) := by
      intro r
      induction r with
      | nil => simp [Lib.joinTail]
      | cons y r ih =>
        intro hr
        have := ih fun x hx => hr x (by simp [hx])
        have h3 := hr y (by simp)
        simp only [Lib.joinTail, List.map_cons, List.flatten_cons, List.length_append, List.length_cons, Nat.add_mul, Nat.one_mul] at this ⊢
        omega
    rw [Lib.join_cons]
    have := h2 xs fun y hy => h y (by simp [hy])
    have h3 := h x (by simp)
    simp only [List.length_append, List.length_cons, Nat.add_mul, Nat.one_mul] at this ⊢
    omega
/-- Numbers in a row, blanks between. -/
def nums (l : List Int) : List UInt8 := Lib.join (l.map Lib.itoa) [32]
theorem nums_snoc {l : List Int} {k : Nat} {x : Int} (h : l[k]? = some x) : nums (l.take (k + 1)) = if k = 0 then Lib.itoa x else nums (l.take k) ++ [32] ++ Lib.itoa x := by
  unfold nums
  rw [take_snoc h, List.map_append, List.map_cons, List.map_nil, join_snoc]
  have hk := len_at h
  by_cases h0 : k = 0
  · subst h0; simp
  · rw [if_neg (by simp; constructor; omega; intro e; subst e; simp at hk), if_neg h0]
theorem nums_len {l : List Int} (h : ∀ x ∈ l, -9223372036854775808 ≤ x ∧ x ≤ 9223372036854775807) (k : Nat) : (nums (l.take k)).length ≤ k * 21 := by
  have := join_len 20 [32] ((l.take k).map Lib.itoa) (by
    intro x hx
    obtain ⟨n, hn, rfl⟩ := List.mem_map.1 hx
    have := h n (List.mem_of_mem_take hn)
    exact itoa_len' this.1 this.2)
  have hk := List.length_take_le k l
  simp only [List.length_map, List.length_cons, List.length_nil] at this
  unfold nums
  omega
end Go.Proofs.YtldjbgjcfncdjaaDoorR
namespace Go.Proofs.YtldjbgjcfncdjaaDoorR
open Go Go.RowKit Go.Proofs
set_option linter.unusedSimpArgs false
set_option linter.unusedVariables false
def listText (l : List Int) : List UInt8 := if l.length = 0 then [45] else nums l
end Go.Proofs.YtldjbgjcfncdjaaDoorR
namespace Go.Proofs.YtldjbgjcfncdjaaDoorR
open Go Go.RowKit Go.Proofs
set_option linter.unusedSimpArgs false
set_option linter.unusedVariables false
/-- The name with a number, out of a list of names. -/
def pickText (names : List (List UInt8)) (x : Int) : List UInt8 := if 0 ≤ x ∧ x < names.length then names.getD x.toNat [] else []
def playNames : List (List UInt8) := [[115, 97, 109, 101], [108, 101, 102, 116], [115, 104, 111, 114, 116]]
def ruleNames : List (List UInt8) := [[101, 120, 97, 99, 116], [116, 105, 109, 101], [113, 117, 101, 114, 121], [109, 105, 115, 115, 105, 110, 103]]
theorem pickText_not {names : List (List UInt8)} {x : Int} {n : Int} (hn : n = names.length) (h : ¬ (0 ≤ x ∧ x < n)) : [] = pickText names x := by
  unfold pickText; rw [if_neg (by rw [← hn]; exact h)]
theorem pick_at {names : List (List UInt8)} {x : Int} (h : 0 ≤ x ∧ x < names.length) : (names.map fun s => [T.sc (.string (bs s))])[x.toNat]? = some [T.sc (.string (bs (pickText names x)))] := by
  unfold pickText
  rw [if_pos h, List.getElem?_map, List.getD_eq_getElem?_getD, List.getElem?_eq_getElem (show x.toNat < names.length by omega)]
  rfl
theorem pick_len {names : List (List UInt8)} {x : Int} (h : ∀ s ∈ names, s.length ≤ 20) : (pickText names x).length ≤ 20 := by
  unfold pickText
  split
  · rename_i h1
    rw [List.getD_eq_getElem?_getD, List.getElem?_eq_getElem (show x.toNat < names.length by omega)]
    exact h _ (List.getElem_mem _)
  · simp
/-- Numbers, each behind a blank. -/
def spaced (l : List Int) : List UInt8 := (l.map fun n => 32 :: Lib.itoa n).flatten
theorem spaced_snoc {l : List Int} {k : Nat} {x : Int} (h : l[k]? = some x) : spaced (l.take (k + 1)) = spaced (l.take k) ++ 32 :: Lib.itoa x := by
  rw [take_snoc h, spaced, List.map_append, List.flatten_append]; simp [spaced]
theorem spaced_len {l : List Int} (h : ∀ x ∈ l, -9223372036854775808 ≤ x ∧ x ≤ 9223372036854775807) : (spaced l).length ≤ l.length * 21 := by
  induction l with
  | nil => simp [spaced]
  | cons x l ih =>
    have h1 := ih fun y hy => h y (by simp [hy])
    have h2 := h x (by simp)
    have h3 := itoa_len' h2.1 h2.2
    simp only [spaced, List.map_cons, List.flatten_cons, List.length_append, List.length_cons] at h1 ⊢
    omega
theorem spaced_len' {l : List Int} (h : ∀ x ∈ l, -9223372036854775808 ≤ x ∧ x ≤ 9223372036854775807) (k : Nat) : (spaced (l.take k)).length ≤ k * 21 := by
  have h1 := spaced_len (l := l.take k) fun x hx => h x (List.mem_of_mem_take hx)
  have h2 := List.length_take_le k l
  omega
def playHead (p : GPlayed) : List UInt8 := (if p.Code = 0 then pickText playNames p.Code else pickText playNames p.Code ++ 32 :: Lib.itoa p.At) ++ [32, 58]
def playText (p : GPlayed) : List UInt8 := playHead p ++ spaced p.State.Nodes
theorem playHead_len {p : GPlayed} (h : (-9223372036854775808 ≤ p.At ∧ p.At ≤ 9223372036854775807)) : (playHead p).length ≤ 50 := by
  have h1 := pick_len (names := playNames) (x := p.Code) (by decide)
  have h2 := itoa_len' h.1 h.2
  unfold playHead
  split <;> simp only [List.length_append, List.length_cons, List.length_nil] <;> omega
end Go.Proofs.YtldjbgjcfncdjaaDoorR
namespace Go.Proofs.YtldjbgjcfncdjaaDoorR
open Go Go.RowKit Go.Proofs
set_option linter.unusedSimpArgs false
set_option linter.unusedVariables false
def addrText (a : GAddress) : List UInt8 := if isAddr a = true then Lib.itoa a.Host ++ 47 :: Lib.itoa a.Path ++ (if a.Query = 0 then [] else 63 :: Lib.itoa a.Query) else []
def m_impl_AddressText : MC :=
(.seq (pr [.box 1 0 (.s 0), .mv 2 (.c (.string ⟨#[]⟩))] [1])
(.seq (.seq (pr [.load 4 true 3 (.s 1), .call 5 [] (.f n_impl_IsAddress) [.s 4], .un 6 .not (.s 5)] [1,6])
(.cond (.s 6) (.seq (pr [.mv 2 (.c (.string ⟨#[]⟩))] [2])
.ret) .skip))
(.seq (.dreg [{ o := .fld 7 (.s 1) 0, hs := [11,12] }, { o := .load 8 false 1 (.s 7), hs := [11,12], bf := [0] }, { o := .call 9 [] (.f n_impl_FormatInt) [.s 8], hs := [11,12], bf := [0,1] }, { o := .bin 10 false .add (.s 9) (.c (.string ⟨#[47]⟩)), hs := [11,12,13], bf := [0,1,2] }, { o := .fld 11 (.s 1) 1, hs := [7,8,9,10] }, { o := .load 12 false 1 (.s 11), hs := [7,8,9,10], bf := [4] }, { o := .call 13 [] (.f n_impl_FormatInt) [.s 12], hs := [10], bf := [0,1,2,4,5] }, { o := .bin 14 false .add (.s 10) (.s 13), bf := [0,1,2,3,4,5,6] }, { o := .mv 3 (.s 14), bf := [0,1,2,3,4,5,6,7] }] [1,3])
(.seq (.seq (pr [.fld 15 (.s 1) 2, .load 16 false 1 (.s 15), .bin 17 false .neq (.s 16) (.c (.int .i64 0))] [1,3,17])
(.cond (.s 17) (pr [.mv 18 (.s 3), .fld 19 (.s 1) 2, .load 20 false 1 (.s 19), .call 21 [] (.f n_impl_FormatInt) [.s 20], .bin 22 false .add (.c (.string ⟨#[63]⟩)) (.s 21), .bin 23 false .add (.s 18) (.s 22), .mv 3 (.s 23)] [3]) .skip))
(.seq (pr [.mv 24 (.s 3), .mv 2 (.s 24)] [2])
.ret)))))
theorem c_impl_AddressText (a : GAddress) : Ctr Tryd.prog n_impl_AddressText [aS a.enc] [rStr (bs (addrText a))] := by
  refine ctr_at (M := m_impl_AddressText) (m := 1) (n := 25) (res := [(.tmp 2, [false])]) hmix Tryd.func54 rfl (by kernel_rfl) rfl (by kernel_rfl) (by kernel_rfl) (Nat.le_of_ble_eq_true rfl) ?_; unfold m_impl_AddressText
  intro hb
  simp only [GAddress.enc, bdA, bdL, bdT, bdR, bdR_map, wfB_i64, wfB_bool, wfB_str, roomB, and_true, true_and, List.length_map] at hb
  obtain ⟨b1, b2, b3⟩ := hb
  have i1 := itoa_len' b1.1 b1.2
  have i2 := itoa_len' b2.1 b2.2
  have i3 := itoa_len' b3.1 b3.2
  simp only [↓bk_bind, ↓bk_map, ↓bk_ite, ↓bk_some, ↓reduceIte, Nat.reduceEqDiff, Nat.reduceLT, Nat.reduceLeDiff, Nat.reduceAdd, Nat.reduceMul, reduceCtorEq, List.reduceReplicate, go_sem]
  refine callK_of (c_impl_IsAddress a) ?_
  simp only [↓bk_bind, ↓bk_map, ↓bk_ite, ↓bk_some, ↓reduceIte, Nat.reduceEqDiff, Nat.reduceLT, Nat.reduceLeDiff, Nat.reduceAdd, Nat.reduceMul, reduceCtorEq, List.reduceReplicate, go_sem]
  refine ⟨fun h => by simp [addrText, h], fun h => ?_⟩
  refine callK_of (c_impl_FormatInt _) ?_
  simp only [↓bk_bind, ↓bk_map, ↓bk_ite, ↓bk_some, ↓reduceIte, Nat.reduceEqDiff, Nat.reduceLT, Nat.reduceLeDiff, Nat.reduceAdd, Nat.reduceMul, reduceCtorEq, List.reduceReplicate, go_sem]
  refine ⟨by omega, ?_⟩
  refine callK_of (c_impl_FormatInt _) ?_
  simp only [↓bk_bind, ↓bk_map, ↓bk_ite, ↓bk_some, ↓reduceIte, Nat.reduceEqDiff, Nat.reduceLT, Nat.reduceLeDiff, Nat.reduceAdd, Nat.reduceMul, reduceCtorEq, List.reduceReplicate, go_sem, List.length_append]
  refine ⟨by omega, ?_⟩
  intro _
  refine ⟨fun hq => ?_, fun hq => by simp [addrText, h, hq]⟩
  refine callK_of (c_impl_FormatInt _) ?_
  simp only [↓bk_bind, ↓bk_map, ↓bk_ite, ↓bk_some, ↓reduceIte, Nat.reduceEqDiff, Nat.reduceLT, Nat.reduceLeDiff, Nat.reduceAdd, Nat.reduceMul, reduceCtorEq, List.reduceReplicate, go_sem, List.length_append]
  exact ⟨by omega, by omega, fun _ => by simp [addrText, h, hq]⟩
def m_spec_AddressText : MC :=
(.seq (pr [.box 1 0 (.s 0), .mv 2 (.c (.string ⟨#[]⟩))] [1])
(.seq (.seq (pr [.load 4 true 3 (.s 1), .call 5 [] (.f n_spec_IsAddress) [.s 4], .un 6 .not (.s 5)] [1,6])
(.cond (.s 6) (.seq (pr [.mv 2 (.c (.string ⟨#[]⟩))] [2])
.ret) .skip))
(.seq (.dreg [{ o := .fld 7 (.s 1) 0, hs := [11,12] }, { o := .load 8 false 1 (.s 7), hs := [11,12], bf := [0] }, { o := .call 9 [] (.f n_spec_FormatInt) [.s 8], hs := [11,12], bf := [0,1] }, { o := .bin 10 false .add (.s 9) (.c (.string ⟨#[47]⟩)), hs := [11,12,13], bf := [0,1,2] }, { o := .fld 11 (.s 1) 1, hs := [7,8,9,10] }, { o := .load 12 false 1 (.s 11), hs := [7,8,9,10], bf := [4] }, { o := .call 13 [] (.f n_spec_FormatInt) [.s 12], hs := [10], bf := [0,1,2,4,5] }, { o := .bin 14 false .add (.s 10) (.s 13), bf := [0,1,2,3,4,5,6] }, { o := .mv 3 (.s 14), bf := [0,1,2,3,4,5,6,7] }] [1,3])
(.seq (.seq (pr [.fld 15 (.s 1) 2, .load 16 false 1 (.s 15), .bin 17 false .neq (.s 16) (.c (.int .i64 0))] [1,3,17])
(.cond (.s 17) (pr [.mv 18 (.s 3), .bin 19 false .add (.s 18) (.c (.string ⟨#[63]⟩)), .fld 20 (.s 1) 2, .load 21 false 1 (.s 20), .call 22 [] (.f n_spec_FormatInt) [.s 21], .bin 23 false .add (.s 19) (.s 22), .mv 3 (.s 23)] [3]) .skip))
(.seq (pr [.mv 24 (.s 3), .mv 2 (.s 24)] [2])
.ret)))))
theorem c_spec_AddressText (a : GAddress) : Ctr Tryd.prog n_spec_AddressText [aS a.enc] [rStr (bs (addrText a))] := by
  refine ctr_at (M := m_spec_AddressText) (m := 1) (n := 25) (res := [(.tmp 2, [false])]) hmix Tryd.func50 rfl (by kernel_rfl) rfl (by kernel_rfl) (by kernel_rfl) (Nat.le_of_ble_eq_true rfl) ?_; unfold m_spec_AddressText
  intro hb
  simp only [GAddress.enc, bdA, bdL, bdT, bdR, bdR_map, wfB_i64, wfB_bool, wfB_str, roomB, and_true, true_and, List.length_map] at hb
  obtain ⟨b1, b2, b3⟩ := hb
  have i1 := itoa_len' b1.1 b1.2
  have i2 := itoa_len' b2.1 b2.2
  have i3 := itoa_len' b3.1 b3.2
  simp only [↓bk_bind, ↓bk_map, ↓bk_ite, ↓bk_some, ↓reduceIte, Nat.reduceEqDiff, Nat.reduceLT, Nat.reduceLeDiff, Nat.reduceAdd, Nat.reduceMul, reduceCtorEq, List.reduceReplicate, go_sem]
  refine callK_of (c_spec_IsAddress a) ?_
  simp only [↓bk_bind, ↓bk_map, ↓bk_ite, ↓bk_some, ↓reduceIte, Nat.reduceEqDiff, Nat.reduceLT, Nat.reduceLeDiff, Nat.reduceAdd, Nat.reduceMul, reduceCtorEq, List.reduceReplicate, go_sem]
  refine ⟨fun h => by simp [addrText, h], fun h => ?_⟩
  refine callK_of (c_spec_FormatInt _) ?_
  simp only [↓bk_bind, ↓bk_map, ↓bk_ite, ↓bk_some, ↓reduceIte, Nat.reduceEqDiff, Nat.reduceLT, Nat.reduceLeDiff, Nat.reduceAdd, Nat.reduceMul, reduceCtorEq, List.reduceReplicate, go_sem]
  refine ⟨by omega, ?_⟩
  refine callK_of (c_spec_FormatInt _) ?_
  simp only [↓bk_bind, ↓bk_map, ↓bk_ite, ↓bk_some, ↓reduceIte, Nat.reduceEqDiff, Nat.reduceLT, Nat.reduceLeDiff, Nat.reduceAdd, Nat.reduceMul, reduceCtorEq, List.reduceReplicate, go_sem, List.length_append]
  refine ⟨by omega, ?_⟩
  intro _
  refine ⟨fun hq => ⟨by omega, ?_⟩, fun hq => by simp [addrText, h, hq]⟩
  refine callK_of (c_spec_FormatInt _) ?_
  simp only [↓bk_bind, ↓bk_map, ↓bk_ite, ↓bk_some, ↓reduceIte, Nat.reduceEqDiff, Nat.reduceLT, Nat.reduceLeDiff, Nat.reduceAdd, Nat.reduceMul, reduceCtorEq, List.reduceReplicate, go_sem, List.length_append]
  exact ⟨by omega, fun _ => by simp [addrText, h, hq]⟩
theorem addrText_len {a : GAddress} (b1 : -9223372036854775808 ≤ a.Host ∧ a.Host ≤ 9223372036854775807) (b2 : -9223372036854775808 ≤ a.Path ∧ a.Path ≤ 9223372036854775807) (b3 : -9223372036854775808 ≤ a.Query ∧ a.Query ≤ 9223372036854775807) : (addrText a).length ≤ 62 := by
  have i1 := itoa_len' b1.1 b1.2
  have i2 := itoa_len' b2.1 b2.2
  have i3 := itoa_len' b3.1 b3.2
  unfold addrText
  split
  · split <;> simp only [List.length_append, List.length_cons, List.length_nil] <;> omega
  · simp
def kindNames : List (List UInt8) := [[], [112, 97, 103, 101], [100, 97, 116, 97], [109, 111, 118, 101], [110, 111, 110, 101]]
def resText (r : GResource) : List UInt8 := if isRes r = true then (if r.Kind = 3 then [109, 111, 118, 101, 32] ++ addrText r.To else if r.Kind = 4 then [110, 111, 110, 101] else (if r.Kind = 1 then [112, 97, 103, 101] else [100, 97, 116, 97]) ++ spaced r.Body) else []
/-- What a good resource's kind may be. -/
theorem isRes_kind {r : GResource} (h : isRes r = true) : r.Kind = 1 ∨ r.Kind = 2 ∨ (r.Kind = 3 ∧ r.Body = []) ∨ (r.Kind = 4 ∧ r.Body = []) := by
  unfold isRes at h
  split at h
  · rename_i h1; rcases h1 with h1 | h1 <;> simp [h1]
  · split at h
    · rename_i h3; simp at h; exact .inr (.inr (.inl ⟨h3, h.1⟩))
    · split at h
      · rename_i h4; simp at h; exact .inr (.inr (.inr ⟨h4, h.1⟩))
      · simp at h
def m_impl_ResourceText : MC :=
(.seq (pr [.box 1 0 (.s 0), .mv 2 (.c (.string ⟨#[]⟩))] [1])
(.seq (.seq (pr [.load 6 true 5 (.s 1), .call 7 [] (.f n_impl_IsResource) [.s 6], .un 8 .not (.s 7)] [1,8])
(.cond (.s 8) (.seq (pr [.mv 2 (.c (.string ⟨#[]⟩))] [2])
.ret) .skip))
(.seq (pr [.mv 3 (.c (.string ⟨#[]⟩))] [1])
(.seq (.seq (pr [.fld 9 (.s 1) 0, .load 10 false 1 (.s 9)] [1,10])
(.block 0 (.seq (pr [.bin 12 false .eql (.s 10) (.c (.int .i64 3)), .mv 11 (.s 12)] [1,10,11])
(.cond (.s 11) (.seq (pr [.fld 13 (.s 1) 2, .load 14 true 3 (.s 13), .call 15 [] (.f n_impl_AddressText) [.s 14], .bin 16 false .add (.c (.string ⟨#[109, 111, 118, 101, 32]⟩)) (.s 15), .mv 2 (.s 16)] [2])
.ret) (.seq (pr [.bin 18 false .eql (.s 10) (.c (.int .i64 4)), .mv 17 (.s 18)] [1,10,17])
(.cond (.s 17) (.seq (pr [.mv 2 (.c (.string ⟨#[110, 111, 110, 101]⟩))] [2])
.ret) (.seq (pr [.bin 20 false .eql (.s 10) (.c (.int .i64 1)), .mv 19 (.s 20)] [1,19])
(.cond (.s 19) (pr [.mv 3 (.c (.string ⟨#[112, 97, 103, 101]⟩))] [1,3]) (pr [.mv 3 (.c (.string ⟨#[100, 97, 116, 97]⟩))] [1,3])))))))))
(.seq (.seq (pr [.fld 21 (.s 1) 1, .load 22 false 1 (.s 21), .len 23 false (.s 22), .mv 24 (.c (.int .i64 0))] [3,22,23,24])
(.block 1 (.loop ([3,22,23,24], [0]) (.seq (pr [.bin 25 false .lss (.s 24) (.s 23)] [3,22,23,24,25])
(.seq (.cond (.s 25) .skip (.exit 1))
(.seq (.block 2 (.seq (pr [.idx 26 1 (.s 22) (.s 24), .load 27 false 1 (.s 26), .mv 5 (.s 27)] [3,5,22,23,24])
(pr [.mv 28 (.s 3), .mv 29 (.s 5), .call 30 [] (.f n_impl_FormatInt) [.s 29], .bin 31 false .add (.c (.string ⟨#[32]⟩)) (.s 30), .bin 32 false .add (.s 28) (.s 31), .mv 3 (.s 32)] [3,22,23,24])))
(pr [.bin 33 false .add (.s 24) (.c (.int .i64 1)), .mv 24 (.s 33)] [3,22,23,24])))))))
(.seq (pr [.mv 34 (.s 3), .mv 2 (.s 34)] [2])
.ret))))))
theorem c_impl_ResourceText (r : GResource) : Ctr Tryd.prog n_impl_ResourceText [aS r.enc] [rStr (bs (resText r))] := by
  refine ctr_at (M := m_impl_ResourceText) (m := 1) (n := 35) (res := [(.tmp 2, [false])]) hmix Tryd.func55 rfl (by kernel_rfl) rfl (by kernel_rfl) (by kernel_rfl) (Nat.le_of_ble_eq_true rfl) ?_; unfold m_impl_ResourceText
  intro hb
  simp only [GResource.enc, encI, bdA, bdL, bdT, bdR, bdR_map, wfB_i64, wfB_bool, wfB_str, roomB, and_true, true_and, List.length_map] at hb
  obtain ⟨-, ⟨hl, hr⟩, b1, b2, b3⟩ := hb
  have hal := addrText_len b1 b2 b3
  simp only [↓bk_bind, ↓bk_map, ↓bk_ite, ↓bk_some, ↓reduceIte, Nat.reduceEqDiff, Nat.reduceLT, Nat.reduceLeDiff, Nat.reduceAdd, Nat.reduceMul, reduceCtorEq, List.reduceReplicate, go_sem]
  refine callK_of (c_impl_IsResource r) ?_
  simp only [↓bk_bind, ↓bk_map, ↓bk_ite, ↓bk_some, ↓reduceIte, Nat.reduceEqDiff, Nat.reduceLT, Nat.reduceLeDiff, Nat.reduceAdd, Nat.reduceMul, reduceCtorEq, List.reduceReplicate, go_sem]
  refine ⟨fun h => by simp [resText, h], fun h => ⟨fun k3 => ?_, fun k3 => ⟨fun k4 => by simp [resText, h, k4], fun k4 => ?_⟩⟩⟩
  · refine callK_of (c_impl_AddressText r.To) ?_
    simp only [↓bk_bind, ↓bk_map, ↓bk_ite, ↓bk_some, ↓reduceIte, Nat.reduceEqDiff, Nat.reduceLT, Nat.reduceLeDiff, Nat.reduceAdd, Nat.reduceMul, reduceCtorEq, List.reduceReplicate, go_sem, List.length_append]
    exact ⟨by omega, fun _ => by simp [resText, h, k3]⟩
  · refine ⟨fun k1 => ?_, fun k1 => ?_⟩
    · refine loopK_rng r.Body (fun k => [(3, vStr' ([112, 97, 103, 101] ++ spaced (r.Body.take k))), (24, vI k)]) (fun k => []) (fun _ => True) hl ?_
      simp only [↓bk_bind, ↓bk_map, ↓bk_ite, ↓bk_some, ↓reduceIte, Nat.reduceEqDiff, Nat.reduceLT, Nat.reduceLeDiff, Nat.reduceAdd, Nat.reduceMul, reduceCtorEq, List.reduceReplicate, go_sem]
      refine ⟨?_, trivial, ?_, ?_⟩
      · simp only [↓bk_bind, ↓bk_map, ↓bk_ite, ↓bk_some, ↓reduceIte, Nat.reduceEqDiff, Nat.reduceLT, Nat.reduceLeDiff, Nat.reduceAdd, Nat.reduceMul, reduceCtorEq, List.reduceReplicate, go_sem, List.take_zero]
        simp [spaced]
      · intro k x hx _ h0 h1 hw
        have hx2 := hr x (at_mem hx)
        have hi := itoa_len' hx2.1 hx2.2
        have hsl := spaced_len' hr k
        have hk2 := len_at hx
        simp only [↓bk_bind, ↓bk_map, ↓bk_ite, ↓bk_some, ↓reduceIte, Nat.reduceEqDiff, Nat.reduceLT, Nat.reduceLeDiff, Nat.reduceAdd, Nat.reduceMul, reduceCtorEq, List.reduceReplicate, go_sem, bk_eq hx, h0, h1, hw]
        refine callK_of (c_impl_FormatInt _) ?_
        simp only [↓bk_bind, ↓bk_map, ↓bk_ite, ↓bk_some, ↓reduceIte, Nat.reduceEqDiff, Nat.reduceLT, Nat.reduceLeDiff, Nat.reduceAdd, Nat.reduceMul, reduceCtorEq, List.reduceReplicate, go_sem, hw, List.length_append, spaced_snoc hx]
        exact ⟨by omega, by omega⟩
      · intro _
        simp only [↓bk_bind, ↓bk_map, ↓bk_ite, ↓bk_some, ↓reduceIte, Nat.reduceEqDiff, Nat.reduceLT, Nat.reduceLeDiff, Nat.reduceAdd, Nat.reduceMul, reduceCtorEq, List.reduceReplicate, go_sem, List.take_length]
        simp [resText, h, k3, k4, k1]
    · refine loopK_rng r.Body (fun k => [(3, vStr' ([100, 97, 116, 97] ++ spaced (r.Body.take k))), (24, vI k)]) (fun k => []) (fun _ => True) hl ?_
      simp only [↓bk_bind, ↓bk_map, ↓bk_ite, ↓bk_some, ↓reduceIte, Nat.reduceEqDiff, Nat.reduceLT, Nat.reduceLeDiff, Nat.reduceAdd, Nat.reduceMul, reduceCtorEq, List.reduceReplicate, go_sem]
      refine ⟨?_, trivial, ?_, ?_⟩
      · simp only [↓bk_bind, ↓bk_map, ↓bk_ite, ↓bk_some, ↓reduceIte, Nat.reduceEqDiff, Nat.reduceLT, Nat.reduceLeDiff, Nat.reduceAdd, Nat.reduceMul, reduceCtorEq, List.reduceReplicate, go_sem, List.take_zero]
        simp [spaced]
      · intro k x hx _ h0 h1 hw
        have hx2 := hr x (at_mem hx)
        have hi := itoa_len' hx2.1 hx2.2
        have hsl := spaced_len' hr k
        have hk2 := len_at hx
        simp only [↓bk_bind, ↓bk_map, ↓bk_ite, ↓bk_some, ↓reduceIte, Nat.reduceEqDiff, Nat.reduceLT, Nat.reduceLeDiff, Nat.reduceAdd, Nat.reduceMul, reduceCtorEq, List.reduceReplicate, go_sem, bk_eq hx, h0, h1, hw]
        refine callK_of (c_impl_FormatInt _) ?_
        simp only [↓bk_bind, ↓bk_map, ↓bk_ite, ↓bk_some, ↓reduceIte, Nat.reduceEqDiff, Nat.reduceLT, Nat.reduceLeDiff, Nat.reduceAdd, Nat.reduceMul, reduceCtorEq, List.reduceReplicate, go_sem, hw, List.length_append, spaced_snoc hx]
        exact ⟨by omega, by omega⟩
      · intro _
        simp only [↓bk_bind, ↓bk_map, ↓bk_ite, ↓bk_some, ↓reduceIte, Nat.reduceEqDiff, Nat.reduceLT, Nat.reduceLeDiff, Nat.reduceAdd, Nat.reduceMul, reduceCtorEq, List.reduceReplicate, go_sem, List.take_length]
        simp [resText, h, k3, k4, k1]
def m_spec_ResourceText : MC :=
(.seq (pr [.box 1 0 (.s 0), .mv 2 (.c (.string ⟨#[]⟩))] [1])
(.seq (.seq (pr [.load 5 true 5 (.s 1), .call 6 [] (.f n_spec_IsResource) [.s 5], .un 7 .not (.s 6)] [1,7])
(.cond (.s 7) (.seq (pr [.mv 2 (.c (.string ⟨#[]⟩))] [2])
.ret) .skip))
(.seq (pr [.lit 8 1 1 16 [.c (.string ⟨#[]⟩), .c (.string ⟨#[112, 97, 103, 101]⟩), .c (.string ⟨#[100, 97, 116, 97]⟩), .c (.string ⟨#[109, 111, 118, 101]⟩), .c (.string ⟨#[110, 111, 110, 101]⟩)], .fld 9 (.s 1) 0, .load 10 false 1 (.s 9), .idx 11 1 (.s 8) (.s 10), .load 12 false 1 (.s 11), .mv 3 (.s 12)] [1,3])
(.seq (.seq (pr [.fld 13 (.s 1) 0, .load 14 false 1 (.s 13), .bin 15 false .eql (.s 14) (.c (.int .i64 3))] [1,3,15])
(.cond (.s 15) (pr [.mv 16 (.s 3), .bin 17 false .add (.s 16) (.c (.string ⟨#[32]⟩)), .fld 18 (.s 1) 2, .load 19 true 3 (.s 18), .call 20 [] (.f n_spec_AddressText) [.s 19], .bin 21 false .add (.s 17) (.s 20), .mv 3 (.s 21)] [1,3]) .skip))
(.seq (.seq (pr [.mv 4 (.c (.int .i64 0))] [1,3,4])
(.block 0 (.loop ([1,3,4], [1]) (.seq (.seq (pr [.mv 22 (.s 4), .fld 23 (.s 1) 1, .load 24 false 1 (.s 23), .len 25 false (.s 24), .bin 26 false .lss (.s 22) (.s 25)] [1,3,4,26])
(.cond (.s 26) .skip (.exit 0)))
(.seq (.block 1 (pr [.mv 29 (.s 3), .bin 30 false .add (.s 29) (.c (.string ⟨#[32]⟩)), .fld 31 (.s 1) 1, .load 32 false 1 (.s 31), .mv 33 (.s 4), .idx 34 1 (.s 32) (.s 33), .load 35 false 1 (.s 34), .call 36 [] (.f n_spec_FormatInt) [.s 35], .bin 37 false .add (.s 30) (.s 36), .mv 3 (.s 37)] [1,3,4]))
(pr [.mv 27 (.s 4), .bin 28 false .add (.s 27) (.c (.int .i64 1)), .mv 4 (.s 28)] [1,3,4]))))))
(.seq (pr [.mv 38 (.s 3), .mv 2 (.s 38)] [2])
.ret))))))
theorem c_spec_ResourceText (r : GResource) : Ctr Tryd.prog n_spec_ResourceText [aS r.enc] [rStr (bs (resText r))] := by
  refine ctr_at (M := m_spec_ResourceText) (m := 2) (n := 39) (res := [(.tmp 2, [false])]) hmix Tryd.func51 rfl (by kernel_rfl) rfl (by kernel_rfl) (by kernel_rfl) (Nat.le_of_ble_eq_true rfl) ?_; unfold m_spec_ResourceText
  intro hb
  simp only [GResource.enc, encI, bdA, bdL, bdT, bdR, bdR_map, wfB_i64, wfB_bool, wfB_str, roomB, and_true, true_and, List.length_map] at hb
  obtain ⟨-, ⟨hl, hr⟩, b1, b2, b3⟩ := hb
  have hal := addrText_len b1 b2 b3
  have hpl := pick_len (names := kindNames) (x := r.Kind) (by decide)
  simp only [↓bk_bind, ↓bk_map, ↓bk_ite, ↓bk_some, ↓reduceIte, Nat.reduceEqDiff, Nat.reduceLT, Nat.reduceLeDiff, Nat.reduceAdd, Nat.reduceMul, reduceCtorEq, List.reduceReplicate, go_sem]
  refine callK_of (c_spec_IsResource r) ?_
  simp only [↓bk_bind, ↓bk_map, ↓bk_ite, ↓bk_some, ↓reduceIte, Nat.reduceEqDiff, Nat.reduceLT, Nat.reduceLeDiff, Nat.reduceAdd, Nat.reduceMul, reduceCtorEq, List.reduceReplicate, go_sem]
  refine ⟨fun h => by simp [resText, h], fun h => ?_⟩
  have hk := isRes_kind h
  have hk2 : 0 ≤ r.Kind ∧ r.Kind < 5 := by omega
  have h2 : [[T.sc (Value.string (bs []))], [T.sc (Value.string (bs [112, 97, 103, 101]))], [T.sc (Value.string (bs [100, 97, 116, 97]))], [T.sc (Value.string (bs [109, 111, 118, 101]))], [T.sc (Value.string (bs [110, 111, 110, 101]))]][r.Kind.toNat]? = some [T.sc (.string (bs (pickText kindNames r.Kind)))] := pick_at (names := kindNames) hk2
  simp only [↓bk_bind, ↓bk_map, ↓bk_ite, ↓bk_some, ↓reduceIte, Nat.reduceEqDiff, Nat.reduceLT, Nat.reduceLeDiff, Nat.reduceAdd, Nat.reduceMul, reduceCtorEq, List.reduceReplicate, go_sem, bk_eq h2]
  refine ⟨⟨by decide, by decide⟩, hk2, fun k3 => ⟨by omega, ?_⟩, fun k3 => ?_⟩
  · have hB : r.Body = [] := by
      rcases hk with hk | hk | hk | hk
      · omega
      · omega
      · exact hk.2
      · exact hk.2
    have hfin : resText r = pickText kindNames r.Kind ++ 32 :: addrText r.To ++ spaced r.Body := by simp [resText, h, k3, pickText, kindNames, hB, spaced]
    refine callK_of (c_spec_AddressText r.To) ?_
    simp only [↓bk_bind, ↓bk_map, ↓bk_ite, ↓bk_some, ↓reduceIte, Nat.reduceEqDiff, Nat.reduceLT, Nat.reduceLeDiff, Nat.reduceAdd, Nat.reduceMul, reduceCtorEq, List.reduceReplicate, go_sem, List.length_append]
    refine ⟨by omega, fun _ => ?_⟩
    refine loopK_rng r.Body (fun k => [(3, vStr' (pickText kindNames r.Kind ++ 32 :: addrText r.To ++ spaced (r.Body.take k))), (4, vI k)]) (fun k => []) (fun _ => True) hl ?_
    simp only [↓bk_bind, ↓bk_map, ↓bk_ite, ↓bk_some, ↓reduceIte, Nat.reduceEqDiff, Nat.reduceLT, Nat.reduceLeDiff, Nat.reduceAdd, Nat.reduceMul, reduceCtorEq, List.reduceReplicate, go_sem]
    refine ⟨?_, trivial, ?_, ?_⟩
    · simp only [↓bk_bind, ↓bk_map, ↓bk_ite, ↓bk_some, ↓reduceIte, Nat.reduceEqDiff, Nat.reduceLT, Nat.reduceLeDiff, Nat.reduceAdd, Nat.reduceMul, reduceCtorEq, List.reduceReplicate, go_sem, List.take_zero]
      simp [spaced]
    · intro k x hx _ h0 h1 hw
      have hx2 := hr x (at_mem hx)
      have hi := itoa_len' hx2.1 hx2.2
      have hsl := spaced_len' hr k
      have hk2 := len_at hx
      simp only [↓bk_bind, ↓bk_map, ↓bk_ite, ↓bk_some, ↓reduceIte, Nat.reduceEqDiff, Nat.reduceLT, Nat.reduceLeDiff, Nat.reduceAdd, Nat.reduceMul, reduceCtorEq, List.reduceReplicate, go_sem, bk_eq hx, h0, h1, hw]
      simp only [List.length_append, List.length_cons, List.length_nil]
      refine ⟨by omega, ?_⟩
      refine callK_of (c_spec_FormatInt _) ?_
      simp only [↓bk_bind, ↓bk_map, ↓bk_ite, ↓bk_some, ↓reduceIte, Nat.reduceEqDiff, Nat.reduceLT, Nat.reduceLeDiff, Nat.reduceAdd, Nat.reduceMul, reduceCtorEq, List.reduceReplicate, go_sem, hw, List.length_append, spaced_snoc hx]
      refine ⟨by omega, fun _ => ?_⟩
      simp
    · intro _
      simp only [↓bk_bind, ↓bk_map, ↓bk_ite, ↓bk_some, ↓reduceIte, Nat.reduceEqDiff, Nat.reduceLT, Nat.reduceLeDiff, Nat.reduceAdd, Nat.reduceMul, reduceCtorEq, List.reduceReplicate, go_sem, List.take_length]
      rw [hfin]
      try simp
  · have hfin : resText r = pickText kindNames r.Kind ++ spaced r.Body := by
      rcases hk with hk | hk | hk | hk
      · simp [resText, h, hk, pickText, kindNames]
      · simp [resText, h, hk, pickText, kindNames]
      · exact absurd hk.1 k3
      · simp [resText, h, hk, pickText, kindNames, spaced]
    refine loopK_rng r.Body (fun k => [(3, vStr' (pickText kindNames r.Kind ++ spaced (r.Body.take k))), (4, vI k)]) (fun k => []) (fun _ => True) hl ?_
    simp only [↓bk_bind, ↓bk_map, ↓bk_ite, ↓bk_some, ↓reduceIte, Nat.reduceEqDiff, Nat.reduceLT, Nat.reduceLeDiff, Nat.reduceAdd, Nat.reduceMul, reduceCtorEq, List.reduceReplicate, go_sem]
    refine ⟨?_, trivial, ?_, ?_⟩
    · simp only [↓bk_bind, ↓bk_map, ↓bk_ite, ↓bk_some, ↓reduceIte, Nat.reduceEqDiff, Nat.reduceLT, Nat.reduceLeDiff, Nat.reduceAdd, Nat.reduceMul, reduceCtorEq, List.reduceReplicate, go_sem, List.take_zero]
      simp [spaced]
    · intro k x hx _ h0 h1 hw
      have hx2 := hr x (at_mem hx)
      have hi := itoa_len' hx2.1 hx2.2
      have hsl := spaced_len' hr k
      have hk2 := len_at hx
      simp only [↓bk_bind, ↓bk_map, ↓bk_ite, ↓bk_some, ↓reduceIte, Nat.reduceEqDiff, Nat.reduceLT, Nat.reduceLeDiff, Nat.reduceAdd, Nat.reduceMul, reduceCtorEq, List.reduceReplicate, go_sem, bk_eq hx, h0, h1, hw]
      simp only [List.length_append, List.length_cons, List.length_nil]
      refine ⟨by omega, ?_⟩
      refine callK_of (c_spec_FormatInt _) ?_
      simp only [↓bk_bind, ↓bk_map, ↓bk_ite, ↓bk_some, ↓reduceIte, Nat.reduceEqDiff, Nat.reduceLT, Nat.reduceLeDiff, Nat.reduceAdd, Nat.reduceMul, reduceCtorEq, List.reduceReplicate, go_sem, hw, List.length_append, spaced_snoc hx]
      refine ⟨by omega, fun _ => ?_⟩
      simp
    · intro _
      simp only [↓bk_bind, ↓bk_map, ↓bk_ite, ↓bk_some, ↓reduceIte, Nat.reduceEqDiff, Nat.reduceLT, Nat.reduceLeDiff, Nat.reduceAdd, Nat.reduceMul, reduceCtorEq, List.reduceReplicate, go_sem, List.take_length]
      rw [hfin]
      try simp
theorem resText_len {r : GResource} (b1 : -9223372036854775808 ≤ r.To.Host ∧ r.To.Host ≤ 9223372036854775807) (b2 : -9223372036854775808 ≤ r.To.Path ∧ r.To.Path ≤ 9223372036854775807) (b3 : -9223372036854775808 ≤ r.To.Query ∧ r.To.Query ≤ 9223372036854775807) (hr : ∀ x ∈ r.Body, -9223372036854775808 ≤ x ∧ x ≤ 9223372036854775807) : (resText r).length ≤ 100 + r.Body.length * 21 := by
  have h1 := addrText_len b1 b2 b3
  have h2 := spaced_len hr
  unfold resText
  split
  · split
    · simp only [List.length_append, List.length_cons, List.length_nil]; omega
    · split
      · simp only [List.length_cons, List.length_nil]; omega
      · split <;> simp only [List.length_append, List.length_cons, List.length_nil] <;> omega
  · simp
def capText (c : GCapture) : List UInt8 := addrText c.Address ++ 64 :: Lib.itoa c.Tick ++ 32 :: resText c.Resource
def m_impl_FormatCapture : MC :=
(.seq (pr [.box 1 0 (.s 0), .mv 2 (.c (.string ⟨#[]⟩))] [1])
(.seq (.dreg [{ o := .fld 3 (.s 1) 0, hs := [7,8,12,13] }, { o := .load 4 true 3 (.s 3), hs := [7,8,12,13], bf := [0] }, { o := .call 5 [] (.f n_impl_AddressText) [.s 4], hs := [7,8,12,13], bf := [0,1] }, { o := .bin 6 false .add (.s 5) (.c (.string ⟨#[64]⟩)), hs := [7,8,9,12,13,14], bf := [0,1,2] }, { o := .fld 7 (.s 1) 3, hs := [3,4,5,6,12,13] }, { o := .load 8 false 1 (.s 7), hs := [3,4,5,6,12,13], bf := [4] }, { o := .call 9 [] (.f n_impl_FormatInt) [.s 8], hs := [6,12,13], bf := [0,1,2,4,5] }, { o := .bin 10 false .add (.s 6) (.s 9), hs := [12,13,14], bf := [0,1,2,3,4,5,6] }, { o := .bin 11 false .add (.s 10) (.c (.string ⟨#[32]⟩)), hs := [12,13,14], bf := [0,1,2,3,4,5,6,7] }, { o := .fld 12 (.s 1) 4, hs := [3,4,5,6,7,8,9,10,11] }, { o := .load 13 true 5 (.s 12), hs := [3,4,5,6,7,8,9,10,11], bf := [9] }, { o := .call 14 [] (.f n_impl_ResourceText) [.s 13], hs := [6,10,11], bf := [0,1,2,4,5,6,9,10] }, { o := .bin 15 false .add (.s 11) (.s 14), bf := [0,1,2,3,4,5,6,7,8,9,10,11] }, { o := .mv 2 (.s 15), bf := [0,1,2,3,4,5,6,7,8,9,10,11,12] }] [2])
.ret))
theorem c_impl_FormatCapture (c : GCapture) : Ctr Tryd.prog n_impl_FormatCapture [aS c.enc] [rStr (bs (capText c))] := by
  refine ctr_at (M := m_impl_FormatCapture) (m := 1) (n := 16) (res := [(.tmp 2, [false])]) hmix Tryd.func26 rfl (by kernel_rfl) rfl (by kernel_rfl) (by kernel_rfl) (Nat.le_of_ble_eq_true rfl) ?_; unfold m_impl_FormatCapture
  intro hb
  simp only [GCapture.enc, encI, bdA, bdL, bdT, bdR, bdR_map, wfB_i64, wfB_bool, wfB_str, roomB, and_true, true_and, List.length_map] at hb
  obtain ⟨a1, a2, a3, bt, -, ⟨hl, hr⟩, b1, b2, b3⟩ := hb
  have hal := addrText_len a1 a2 a3
  have hit := itoa_len' bt.1 bt.2
  have hrl := resText_len b1 b2 b3 hr
  simp only [↓bk_bind, ↓bk_map, ↓bk_ite, ↓bk_some, ↓reduceIte, Nat.reduceEqDiff, Nat.reduceLT, Nat.reduceLeDiff, Nat.reduceAdd, Nat.reduceMul, reduceCtorEq, List.reduceReplicate, go_sem]
  refine callK_of (c_impl_AddressText c.Address) ?_
  simp only [↓bk_bind, ↓bk_map, ↓bk_ite, ↓bk_some, ↓reduceIte, Nat.reduceEqDiff, Nat.reduceLT, Nat.reduceLeDiff, Nat.reduceAdd, Nat.reduceMul, reduceCtorEq, List.reduceReplicate, go_sem]
  refine ⟨by omega, ?_⟩
  refine callK_of (c_impl_FormatInt _) ?_
  simp only [↓bk_bind, ↓bk_map, ↓bk_ite, ↓bk_some, ↓reduceIte, Nat.reduceEqDiff, Nat.reduceLT, Nat.reduceLeDiff, Nat.reduceAdd, Nat.reduceMul, reduceCtorEq, List.reduceReplicate, go_sem, List.length_append]
  refine ⟨by omega, by omega, ?_⟩
  refine callK_of (c_impl_ResourceText c.Resource) ?_
  simp only [↓bk_bind, ↓bk_map, ↓bk_ite, ↓bk_some, ↓reduceIte, Nat.reduceEqDiff, Nat.reduceLT, Nat.reduceLeDiff, Nat.reduceAdd, Nat.reduceMul, reduceCtorEq, List.reduceReplicate, go_sem, List.length_append]
  exact ⟨by omega, fun _ => by simp [capText]⟩
def m_spec_FormatCapture : MC :=
(.seq (pr [.box 1 0 (.s 0), .mv 2 (.c (.string ⟨#[]⟩))] [1])
(.seq (.dreg [{ o := .fld 3 (.s 1) 0, hs := [7,8,12,13] }, { o := .load 4 true 3 (.s 3), hs := [7,8,12,13], bf := [0] }, { o := .call 5 [] (.f n_spec_AddressText) [.s 4], hs := [7,8,12,13], bf := [0,1] }, { o := .bin 6 false .add (.s 5) (.c (.string ⟨#[64]⟩)), hs := [7,8,9,12,13,14], bf := [0,1,2] }, { o := .fld 7 (.s 1) 3, hs := [3,4,5,6,12,13] }, { o := .load 8 false 1 (.s 7), hs := [3,4,5,6,12,13], bf := [4] }, { o := .call 9 [] (.f n_spec_FormatInt) [.s 8], hs := [6,12,13], bf := [0,1,2,4,5] }, { o := .bin 10 false .add (.s 6) (.s 9), hs := [12,13,14], bf := [0,1,2,3,4,5,6] }, { o := .bin 11 false .add (.s 10) (.c (.string ⟨#[32]⟩)), hs := [12,13,14], bf := [0,1,2,3,4,5,6,7] }, { o := .fld 12 (.s 1) 4, hs := [3,4,5,6,7,8,9,10,11] }, { o := .load 13 true 5 (.s 12), hs := [3,4,5,6,7,8,9,10,11], bf := [9] }, { o := .call 14 [] (.f n_spec_ResourceText) [.s 13], hs := [6,10,11], bf := [0,1,2,4,5,6,9,10] }, { o := .bin 15 false .add (.s 11) (.s 14), bf := [0,1,2,3,4,5,6,7,8,9,10,11] }, { o := .mv 2 (.s 15), bf := [0,1,2,3,4,5,6,7,8,9,10,11,12] }] [2])
.ret))
theorem c_spec_FormatCapture (c : GCapture) : Ctr Tryd.prog n_spec_FormatCapture [aS c.enc] [rStr (bs (capText c))] := by
  refine ctr_at (M := m_spec_FormatCapture) (m := 1) (n := 16) (res := [(.tmp 2, [false])]) hmix Tryd.func24 rfl (by kernel_rfl) rfl (by kernel_rfl) (by kernel_rfl) (Nat.le_of_ble_eq_true rfl) ?_; unfold m_spec_FormatCapture
  intro hb
  simp only [GCapture.enc, encI, bdA, bdL, bdT, bdR, bdR_map, wfB_i64, wfB_bool, wfB_str, roomB, and_true, true_and, List.length_map] at hb
  obtain ⟨a1, a2, a3, bt, -, ⟨hl, hr⟩, b1, b2, b3⟩ := hb
  have hal := addrText_len a1 a2 a3
  have hit := itoa_len' bt.1 bt.2
  have hrl := resText_len b1 b2 b3 hr
  simp only [↓bk_bind, ↓bk_map, ↓bk_ite, ↓bk_some, ↓reduceIte, Nat.reduceEqDiff, Nat.reduceLT, Nat.reduceLeDiff, Nat.reduceAdd, Nat.reduceMul, reduceCtorEq, List.reduceReplicate, go_sem]
  refine callK_of (c_spec_AddressText c.Address) ?_
  simp only [↓bk_bind, ↓bk_map, ↓bk_ite, ↓bk_some, ↓reduceIte, Nat.reduceEqDiff, Nat.reduceLT, Nat.reduceLeDiff, Nat.reduceAdd, Nat.reduceMul, reduceCtorEq, List.reduceReplicate, go_sem]
  refine ⟨by omega, ?_⟩
  refine callK_of (c_spec_FormatInt _) ?_
  simp only [↓bk_bind, ↓bk_map, ↓bk_ite, ↓bk_some, ↓reduceIte, Nat.reduceEqDiff, Nat.reduceLT, Nat.reduceLeDiff, Nat.reduceAdd, Nat.reduceMul, reduceCtorEq, List.reduceReplicate, go_sem, List.length_append]
  refine ⟨by omega, by omega, ?_⟩
  refine callK_of (c_spec_ResourceText c.Resource) ?_
  simp only [↓bk_bind, ↓bk_map, ↓bk_ite, ↓bk_some, ↓reduceIte, Nat.reduceEqDiff, Nat.reduceLT, Nat.reduceLeDiff, Nat.reduceAdd, Nat.reduceMul, reduceCtorEq, List.reduceReplicate, go_sem, List.length_append]
  exact ⟨by omega, fun _ => by simp [capText]⟩
def m_laws_FnExactFormatCapture : MC :=
(.seq (pr [.box 1 0 (.s 0), .mv 2 (.c (.bool false))] [1])
(.seq (pr [.mv 3 (.c (.int .i64 1048576))] [1,3])
(.seq (pr [.load 7 true 9 (.s 1), .mv 8 (.s 3), .call 9 [] (.f n_laws_szCapture) [.s 7, .s 8], .mv 3 (.s 9)] [1,3])
(.seq (.seq (pr [.mv 10 (.s 3), .bin 11 false .lss (.s 10) (.c (.int .i64 0))] [1,11])
(.cond (.s 11) (.seq (pr [.mv 2 (.c (.bool true))] [2])
.ret) .skip))
(.seq (pr [.load 12 true 9 (.s 1), .call 13 [1] (.f n_laws_toCapture) [.s 12], .call 14 [] (.f n_spec_FormatCapture) [.s 13], .mv 4 (.s 14)] [1,4])
(.seq (pr [.load 15 true 9 (.s 1), .call 16 [2] (.f n_laws_toCapture) [.s 15], .alloc 5 3 [.pl (.sc (.int .i64 0)), .pl (.sc (.int .i64 0)), .pl (.sc (.int .i64 0)), .pl (.sc (.int .i64 0)), .pl (.sc (.int .i64 0)), .emp 1, .pl (.sc (.int .i64 0)), .pl (.sc (.int .i64 0)), .pl (.sc (.int .i64 0))], .store 9 (.s 5) (.s 16)] [1,4,5])
(.seq (pr [.load 17 true 9 (.s 5), .call 18 [] (.f n_impl_FormatCapture) [.s 17], .mv 6 (.s 18)] [1,4,5,6])
(.seq (.seq (pr [.mv 19 (.s 6), .mv 20 (.s 4), .bin 21 false .neq (.s 19) (.s 20)] [1,5,21])
(.cond (.s 21) (.seq (pr [.mv 2 (.c (.bool false))] [2])
.ret) .skip))
(.seq (.seq (.dreg [{ o := .load 22 true 9 (.s 5), hs := [23,24], ho := [4] }, { o := .load 23 true 9 (.s 1), hs := [22] }, { o := .call 24 [4] (.f n_laws_toCapture) [.s 23], hs := [22], ws := [4], bf := [1] }, { o := .call 25 [] (.f n_laws_eqCapture) [.s 22, .s 24], bf := [0,1,2] }, { o := .un 26 .not (.s 25), bf := [0,1,2,3] }] [26])
(.cond (.s 26) (.seq (pr [.mv 2 (.c (.bool false))] [2])
.ret) .skip))
(.seq (pr [.mv 2 (.c (.bool true))] [2])
.ret))))))))))
theorem c_laws_FnExactFormatCapture (a : GCapture) : Ctr Tryd.prog n_laws_FnExactFormatCapture [aS a.enc] [rB true] := by
  refine ctr_at (M := m_laws_FnExactFormatCapture) (m := 5) (n := 27) (res := [(.tmp 2, [false])]) hmix Tryd.func6 rfl (by kernel_rfl) rfl (by kernel_rfl) (by kernel_rfl) (Nat.le_of_ble_eq_true rfl) ?_; unfold m_laws_FnExactFormatCapture
  intro hb
  clear hb
  simp only [↓bk_bind, ↓bk_map, ↓bk_ite, ↓bk_some, ↓reduceIte, Nat.reduceEqDiff, Nat.reduceLT, Nat.reduceLeDiff, Nat.reduceAdd, Nat.reduceMul, reduceCtorEq, List.reduceReplicate, go_sem]
  refine callK_of (c_laws_szCapture a _ (by omega)) ?_
  simp only [↓bk_bind, ↓bk_map, ↓bk_ite, ↓bk_some, ↓reduceIte, Nat.reduceEqDiff, Nat.reduceLT, Nat.reduceLeDiff, Nat.reduceAdd, Nat.reduceMul, reduceCtorEq, List.reduceReplicate, go_sem]
  intro _ hz
  have hs := szr_ok hz
  refine callK_of (c_laws_toCapture a (by omega)) ?_
  simp only [↓bk_bind, ↓bk_map, ↓bk_ite, ↓bk_some, ↓reduceIte, Nat.reduceEqDiff, Nat.reduceLT, Nat.reduceLeDiff, Nat.reduceAdd, Nat.reduceMul, reduceCtorEq, List.reduceReplicate, go_sem]
  refine callK_of (c_spec_FormatCapture a) ?_
  simp only [↓bk_bind, ↓bk_map, ↓bk_ite, ↓bk_some, ↓reduceIte, Nat.reduceEqDiff, Nat.reduceLT, Nat.reduceLeDiff, Nat.reduceAdd, Nat.reduceMul, reduceCtorEq, List.reduceReplicate, go_sem]
  intros
  refine callK_of (c_laws_toCapture a (by omega)) ?_
  simp only [↓bk_bind, ↓bk_map, ↓bk_ite, ↓bk_some, ↓reduceIte, Nat.reduceEqDiff, Nat.reduceLT, Nat.reduceLeDiff, Nat.reduceAdd, Nat.reduceMul, reduceCtorEq, List.reduceReplicate, go_sem]
  intros
  refine callK_of (c_impl_FormatCapture a) ?_
  simp only [↓bk_bind, ↓bk_map, ↓bk_ite, ↓bk_some, ↓reduceIte, Nat.reduceEqDiff, Nat.reduceLT, Nat.reduceLeDiff, Nat.reduceAdd, Nat.reduceMul, reduceCtorEq, List.reduceReplicate, go_sem]
  intros
  refine callK_of (c_laws_toCapture a (by omega)) ?_
  simp only [↓bk_bind, ↓bk_map, ↓bk_ite, ↓bk_some, ↓reduceIte, Nat.reduceEqDiff, Nat.reduceLT, Nat.reduceLeDiff, Nat.reduceAdd, Nat.reduceMul, reduceCtorEq, List.reduceReplicate, go_sem]
  refine callK_of (c_laws_eqCapture a a) ?_
  simp only [↓bk_bind, ↓bk_map, ↓bk_ite, ↓bk_some, ↓reduceIte, Nat.reduceEqDiff, Nat.reduceLT, Nat.reduceLeDiff, Nat.reduceAdd, Nat.reduceMul, reduceCtorEq, List.reduceReplicate, go_sem]
end Go.Proofs.YtldjbgjcfncdjaaDoorR
