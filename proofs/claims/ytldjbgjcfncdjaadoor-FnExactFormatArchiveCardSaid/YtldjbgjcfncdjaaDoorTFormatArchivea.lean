/- What the functions compute that the law of FormatArchive reaches: contracts, function by function. Conditions stand in each theorem. -/
import Derived.Test.YtldjbgjcfncdjaaDoorProg
import Derived.KernelRfl
import Derived.Shelf.Lay
import Derived.Shelf.LaySoft
import Derived.Shelf.LaysM
import Derived.Shelf.Strconv.Itoa3
import Derived.Shelf.Strings.OnBuilder
import Derived.Test.YtldjbgjcfncdjaaDoorRac
set_option linter.unusedVariables false
set_option linter.unusedSimpArgs false
namespace Go.Proofs.YtldjbgjcfncdjaaDoorR
open Go Go.RowKit
def encI (n : Int) : List T := [tI n]
def encB (b : Bool) : List T := [tB b]
theorem int_of {ts : List T} (h : IsT .int ts) : ∃ n, ts = encI n := h
theorem list_of {α : Type} {enc : α → List T} {ty : DT} (h : ∀ {ts}, IsT ty ts → ∃ x, ts = enc x) : ∀ {es : List (List T)}, (∀ x ∈ es, IsT ty x) → ∃ xs : List α, es = xs.map enc
  | [], _ => ⟨[], rfl⟩
  | e :: es, k => by
    obtain ⟨x, rfl⟩ := h (k e (by simp))
    obtain ⟨xs, hx⟩ := list_of h (es := es) fun y hy => k y (by simp [hy])
    subst hx
    exact ⟨x :: xs, rfl⟩
theorem encI_inj {a b : Int} (h : encI a = encI b) : a = b := by simpa [encI] using h
structure GAddress where
  Host : Int
  Path : Int
  Query : Int
  deriving DecidableEq
def GAddress.enc (x : GAddress) : List T := [tI x.Host, tI x.Path, tI x.Query]
def GAddress.dt : DT := .st (.fc .int (.fc .int (.fc .int .fn)))
theorem GAddress.of {ts : List T} (h : IsT GAddress.dt ts) : ∃ x : GAddress, ts = x.enc := by
  simp only [GAddress.dt, IsT] at h
  obtain ⟨_, _, rfl, ⟨v0, rfl⟩, _, _, rfl, ⟨v1, rfl⟩, _, _, rfl, ⟨v2, rfl⟩, rfl⟩ := h
  exact ⟨⟨v0, v1, v2⟩, rfl⟩
theorem GAddress.eqv {x y : GAddress} : x = y ↔ x.Host = y.Host ∧ x.Path = y.Path ∧ x.Query = y.Query := by
  constructor
  · rintro rfl; simp
  · intro h
    rcases x with ⟨aHost, aPath, aQuery⟩
    rcases y with ⟨bHost, bPath, bQuery⟩
    simp only at h
    obtain ⟨rfl, rfl, rfl⟩ := h
    rfl
structure GResource where
  Kind : Int
  Body : List Int
  To : GAddress
  deriving DecidableEq
def GResource.enc (x : GResource) : List T := [tI x.Kind, .sl 1 (x.Body.map encI), tI x.To.Host, tI x.To.Path, tI x.To.Query]
def GResource.dt : DT := .st (.fc .int (.fc (.sl .int) (.fc GAddress.dt .fn)))
theorem GResource.of {ts : List T} (h : IsT GResource.dt ts) : ∃ x : GResource, ts = x.enc := by
  simp only [GResource.dt, IsT] at h
  obtain ⟨_, _, rfl, ⟨v0, rfl⟩, _, _, rfl, ⟨l1, rfl, k1⟩, _, _, rfl, k2, rfl⟩ := h
  obtain ⟨v1, rfl⟩ := list_of int_of k1
  obtain ⟨v2, rfl⟩ := GAddress.of k2
  exact ⟨⟨v0, v1, v2⟩, rfl⟩
theorem GResource.eqv {x y : GResource} : x = y ↔ x.Kind = y.Kind ∧ x.Body = y.Body ∧ x.To.Host = y.To.Host ∧ x.To.Path = y.To.Path ∧ x.To.Query = y.To.Query := by
  constructor
  · rintro rfl; simp
  · intro h
    rcases x with ⟨aKind, aBody, ⟨aToHost, aToPath, aToQuery⟩⟩
    rcases y with ⟨bKind, bBody, ⟨bToHost, bToPath, bToQuery⟩⟩
    simp only at h
    obtain ⟨rfl, rfl, rfl, rfl, rfl⟩ := h
    rfl
def GResource.size (x : GResource) : Nat := (x.Body.length)
structure GPart where
  Digest : Int
  Resource : GResource
  Uses : Int
  deriving DecidableEq
def GPart.enc (x : GPart) : List T := [tI x.Digest, tI x.Resource.Kind, .sl 1 (x.Resource.Body.map encI), tI x.Resource.To.Host, tI x.Resource.To.Path, tI x.Resource.To.Query, tI x.Uses]
def GPart.dt : DT := .st (.fc .int (.fc GResource.dt (.fc .int .fn)))
theorem GPart.of {ts : List T} (h : IsT GPart.dt ts) : ∃ x : GPart, ts = x.enc := by
  simp only [GPart.dt, IsT] at h
  obtain ⟨_, _, rfl, ⟨v0, rfl⟩, _, _, rfl, k1, _, _, rfl, ⟨v2, rfl⟩, rfl⟩ := h
  obtain ⟨v1, rfl⟩ := GResource.of k1
  exact ⟨⟨v0, v1, v2⟩, rfl⟩
theorem GPart.eqv {x y : GPart} : x = y ↔ x.Digest = y.Digest ∧ x.Resource.Kind = y.Resource.Kind ∧ x.Resource.Body = y.Resource.Body ∧ x.Resource.To.Host = y.Resource.To.Host ∧ x.Resource.To.Path = y.Resource.To.Path ∧ x.Resource.To.Query = y.Resource.To.Query ∧ x.Uses = y.Uses := by
  constructor
  · rintro rfl; simp
  · intro h
    rcases x with ⟨aDigest, ⟨aResourceKind, aResourceBody, ⟨aResourceToHost, aResourceToPath, aResourceToQuery⟩⟩, aUses⟩
    rcases y with ⟨bDigest, ⟨bResourceKind, bResourceBody, ⟨bResourceToHost, bResourceToPath, bResourceToQuery⟩⟩, bUses⟩
    simp only at h
    obtain ⟨rfl, rfl, rfl, rfl, rfl, rfl, rfl⟩ := h
    rfl
def GPart.size (x : GPart) : Nat := (x.Resource.size)
structure GPiece where
  From : Int
  Count : Int
  New : List Int
  deriving DecidableEq
def GPiece.enc (x : GPiece) : List T := [tI x.From, tI x.Count, .sl 1 (x.New.map encI)]
def GPiece.dt : DT := .st (.fc .int (.fc .int (.fc (.sl .int) .fn)))
theorem GPiece.of {ts : List T} (h : IsT GPiece.dt ts) : ∃ x : GPiece, ts = x.enc := by
  simp only [GPiece.dt, IsT] at h
  obtain ⟨_, _, rfl, ⟨v0, rfl⟩, _, _, rfl, ⟨v1, rfl⟩, _, _, rfl, ⟨l2, rfl, k2⟩, rfl⟩ := h
  obtain ⟨v2, rfl⟩ := list_of int_of k2
  exact ⟨⟨v0, v1, v2⟩, rfl⟩
theorem GPiece.eqv {x y : GPiece} : x = y ↔ x.From = y.From ∧ x.Count = y.Count ∧ x.New = y.New := by
  constructor
  · rintro rfl; simp
  · intro h
    rcases x with ⟨aFrom, aCount, aNew⟩
    rcases y with ⟨bFrom, bCount, bNew⟩
    simp only at h
    obtain ⟨rfl, rfl, rfl⟩ := h
    rfl
def GPiece.size (x : GPiece) : Nat := (x.New.length)
structure GVersion where
  Address : GAddress
  From : Int
  Resource : GResource
  deriving DecidableEq
def GVersion.enc (x : GVersion) : List T := [tI x.Address.Host, tI x.Address.Path, tI x.Address.Query, tI x.From, tI x.Resource.Kind, .sl 1 (x.Resource.Body.map encI), tI x.Resource.To.Host, tI x.Resource.To.Path, tI x.Resource.To.Query]
def GVersion.dt : DT := .st (.fc GAddress.dt (.fc .int (.fc GResource.dt .fn)))
theorem GVersion.of {ts : List T} (h : IsT GVersion.dt ts) : ∃ x : GVersion, ts = x.enc := by
  simp only [GVersion.dt, IsT] at h
  obtain ⟨_, _, rfl, k0, _, _, rfl, ⟨v1, rfl⟩, _, _, rfl, k2, rfl⟩ := h
  obtain ⟨v0, rfl⟩ := GAddress.of k0
  obtain ⟨v2, rfl⟩ := GResource.of k2
  exact ⟨⟨v0, v1, v2⟩, rfl⟩
theorem GVersion.eqv {x y : GVersion} : x = y ↔ x.Address.Host = y.Address.Host ∧ x.Address.Path = y.Address.Path ∧ x.Address.Query = y.Address.Query ∧ x.From = y.From ∧ x.Resource.Kind = y.Resource.Kind ∧ x.Resource.Body = y.Resource.Body ∧ x.Resource.To.Host = y.Resource.To.Host ∧ x.Resource.To.Path = y.Resource.To.Path ∧ x.Resource.To.Query = y.Resource.To.Query := by
  constructor
  · rintro rfl; simp
  · intro h
    rcases x with ⟨⟨aAddressHost, aAddressPath, aAddressQuery⟩, aFrom, ⟨aResourceKind, aResourceBody, ⟨aResourceToHost, aResourceToPath, aResourceToQuery⟩⟩⟩
    rcases y with ⟨⟨bAddressHost, bAddressPath, bAddressQuery⟩, bFrom, ⟨bResourceKind, bResourceBody, ⟨bResourceToHost, bResourceToPath, bResourceToQuery⟩⟩⟩
    simp only at h
    obtain ⟨rfl, rfl, rfl, rfl, rfl, rfl, rfl, rfl, rfl⟩ := h
    rfl
def GVersion.size (x : GVersion) : Nat := (x.Resource.size)
structure GOp where
  Kind : Int
  A : Int
  B : Int
  C : Int
  deriving DecidableEq
def GOp.enc (x : GOp) : List T := [tI x.Kind, tI x.A, tI x.B, tI x.C]
def GOp.dt : DT := .st (.fc .int (.fc .int (.fc .int (.fc .int .fn))))
theorem GOp.of {ts : List T} (h : IsT GOp.dt ts) : ∃ x : GOp, ts = x.enc := by
  simp only [GOp.dt, IsT] at h
  obtain ⟨_, _, rfl, ⟨v0, rfl⟩, _, _, rfl, ⟨v1, rfl⟩, _, _, rfl, ⟨v2, rfl⟩, _, _, rfl, ⟨v3, rfl⟩, rfl⟩ := h
  exact ⟨⟨v0, v1, v2, v3⟩, rfl⟩
theorem GOp.eqv {x y : GOp} : x = y ↔ x.Kind = y.Kind ∧ x.A = y.A ∧ x.B = y.B ∧ x.C = y.C := by
  constructor
  · rintro rfl; simp
  · intro h
    rcases x with ⟨aKind, aA, aB, aC⟩
    rcases y with ⟨bKind, bA, bB, bC⟩
    simp only at h
    obtain ⟨rfl, rfl, rfl, rfl⟩ := h
    rfl
structure GState where
  Pc : Int
  Regs : List Int
  Slots : List Int
  Nodes : List Int
  deriving DecidableEq
def GState.enc (x : GState) : List T := [tI x.Pc, .sl 1 (x.Regs.map encI), .sl 1 (x.Slots.map encI), .sl 1 (x.Nodes.map encI)]
def GState.dt : DT := .st (.fc .int (.fc (.sl .int) (.fc (.sl .int) (.fc (.sl .int) .fn))))
theorem GState.of {ts : List T} (h : IsT GState.dt ts) : ∃ x : GState, ts = x.enc := by
  simp only [GState.dt, IsT] at h
  obtain ⟨_, _, rfl, ⟨v0, rfl⟩, _, _, rfl, ⟨l1, rfl, k1⟩, _, _, rfl, ⟨l2, rfl, k2⟩, _, _, rfl, ⟨l3, rfl, k3⟩, rfl⟩ := h
  obtain ⟨v1, rfl⟩ := list_of int_of k1
  obtain ⟨v2, rfl⟩ := list_of int_of k2
  obtain ⟨v3, rfl⟩ := list_of int_of k3
  exact ⟨⟨v0, v1, v2, v3⟩, rfl⟩
theorem GState.eqv {x y : GState} : x = y ↔ x.Pc = y.Pc ∧ x.Regs = y.Regs ∧ x.Slots = y.Slots ∧ x.Nodes = y.Nodes := by
  constructor
  · rintro rfl; simp
  · intro h
    rcases x with ⟨aPc, aRegs, aSlots, aNodes⟩
    rcases y with ⟨bPc, bRegs, bSlots, bNodes⟩
    simp only at h
    obtain ⟨rfl, rfl, rfl, rfl⟩ := h
    rfl
def GState.size (x : GState) : Nat := (x.Regs.length) + (x.Slots.length) + (x.Nodes.length)
structure GVisit where
  Site : List GVersion
  Tick : Int
  Seed : Int
  Inputs : List Int
  deriving DecidableEq
def GVisit.enc (x : GVisit) : List T := [.sl 9 (x.Site.map GVersion.enc), tI x.Tick, tI x.Seed, .sl 1 (x.Inputs.map encI)]
def GVisit.dt : DT := .st (.fc (.sl GVersion.dt) (.fc .int (.fc .int (.fc (.sl .int) .fn))))
theorem GVisit.of {ts : List T} (h : IsT GVisit.dt ts) : ∃ x : GVisit, ts = x.enc := by
  simp only [GVisit.dt, IsT] at h
  obtain ⟨_, _, rfl, ⟨l0, rfl, k0⟩, _, _, rfl, ⟨v1, rfl⟩, _, _, rfl, ⟨v2, rfl⟩, _, _, rfl, ⟨l3, rfl, k3⟩, rfl⟩ := h
  obtain ⟨v0, rfl⟩ := list_of GVersion.of k0
  obtain ⟨v3, rfl⟩ := list_of int_of k3
  exact ⟨⟨v0, v1, v2, v3⟩, rfl⟩
theorem GVisit.eqv {x y : GVisit} : x = y ↔ x.Site = y.Site ∧ x.Tick = y.Tick ∧ x.Seed = y.Seed ∧ x.Inputs = y.Inputs := by
  constructor
  · rintro rfl; simp
  · intro h
    rcases x with ⟨aSite, aTick, aSeed, aInputs⟩
    rcases y with ⟨bSite, bTick, bSeed, bInputs⟩
    simp only at h
    obtain ⟨rfl, rfl, rfl, rfl⟩ := h
    rfl
def GVisit.size (x : GVisit) : Nat := (x.Site.length + (x.Site.map GVersion.size).sum) + (x.Inputs.length)
structure GWant where
  Kind : Int
  Address : GAddress
  deriving DecidableEq
def GWant.enc (x : GWant) : List T := [tI x.Kind, tI x.Address.Host, tI x.Address.Path, tI x.Address.Query]
def GWant.dt : DT := .st (.fc .int (.fc GAddress.dt .fn))
theorem GWant.of {ts : List T} (h : IsT GWant.dt ts) : ∃ x : GWant, ts = x.enc := by
  simp only [GWant.dt, IsT] at h
  obtain ⟨_, _, rfl, ⟨v0, rfl⟩, _, _, rfl, k1, rfl⟩ := h
  obtain ⟨v1, rfl⟩ := GAddress.of k1
  exact ⟨⟨v0, v1⟩, rfl⟩
theorem GWant.eqv {x y : GWant} : x = y ↔ x.Kind = y.Kind ∧ x.Address.Host = y.Address.Host ∧ x.Address.Path = y.Address.Path ∧ x.Address.Query = y.Address.Query := by
  constructor
  · rintro rfl; simp
  · intro h
    rcases x with ⟨aKind, ⟨aAddressHost, aAddressPath, aAddressQuery⟩⟩
    rcases y with ⟨bKind, ⟨bAddressHost, bAddressPath, bAddressQuery⟩⟩
    simp only at h
    obtain ⟨rfl, rfl, rfl, rfl⟩ := h
    rfl
structure GEntry where
  Kind : Int
  Address : GAddress
  Value : Int
  deriving DecidableEq
def GEntry.enc (x : GEntry) : List T := [tI x.Kind, tI x.Address.Host, tI x.Address.Path, tI x.Address.Query, tI x.Value]
def GEntry.dt : DT := .st (.fc .int (.fc GAddress.dt (.fc .int .fn)))
theorem GEntry.of {ts : List T} (h : IsT GEntry.dt ts) : ∃ x : GEntry, ts = x.enc := by
  simp only [GEntry.dt, IsT] at h
  obtain ⟨_, _, rfl, ⟨v0, rfl⟩, _, _, rfl, k1, _, _, rfl, ⟨v2, rfl⟩, rfl⟩ := h
  obtain ⟨v1, rfl⟩ := GAddress.of k1
  exact ⟨⟨v0, v1, v2⟩, rfl⟩
theorem GEntry.eqv {x y : GEntry} : x = y ↔ x.Kind = y.Kind ∧ x.Address.Host = y.Address.Host ∧ x.Address.Path = y.Address.Path ∧ x.Address.Query = y.Address.Query ∧ x.Value = y.Value := by
  constructor
  · rintro rfl; simp
  · intro h
    rcases x with ⟨aKind, ⟨aAddressHost, aAddressPath, aAddressQuery⟩, aValue⟩
    rcases y with ⟨bKind, ⟨bAddressHost, bAddressPath, bAddressQuery⟩, bValue⟩
    simp only at h
    obtain ⟨rfl, rfl, rfl, rfl, rfl⟩ := h
    rfl
structure GCapture where
  Address : GAddress
  Tick : Int
  Resource : GResource
  deriving DecidableEq
def GCapture.enc (x : GCapture) : List T := [tI x.Address.Host, tI x.Address.Path, tI x.Address.Query, tI x.Tick, tI x.Resource.Kind, .sl 1 (x.Resource.Body.map encI), tI x.Resource.To.Host, tI x.Resource.To.Path, tI x.Resource.To.Query]
def GCapture.dt : DT := .st (.fc GAddress.dt (.fc .int (.fc GResource.dt .fn)))
theorem GCapture.of {ts : List T} (h : IsT GCapture.dt ts) : ∃ x : GCapture, ts = x.enc := by
  simp only [GCapture.dt, IsT] at h
  obtain ⟨_, _, rfl, k0, _, _, rfl, ⟨v1, rfl⟩, _, _, rfl, k2, rfl⟩ := h
  obtain ⟨v0, rfl⟩ := GAddress.of k0
  obtain ⟨v2, rfl⟩ := GResource.of k2
  exact ⟨⟨v0, v1, v2⟩, rfl⟩
theorem GCapture.eqv {x y : GCapture} : x = y ↔ x.Address.Host = y.Address.Host ∧ x.Address.Path = y.Address.Path ∧ x.Address.Query = y.Address.Query ∧ x.Tick = y.Tick ∧ x.Resource.Kind = y.Resource.Kind ∧ x.Resource.Body = y.Resource.Body ∧ x.Resource.To.Host = y.Resource.To.Host ∧ x.Resource.To.Path = y.Resource.To.Path ∧ x.Resource.To.Query = y.Resource.To.Query := by
  constructor
  · rintro rfl; simp
  · intro h
    rcases x with ⟨⟨aAddressHost, aAddressPath, aAddressQuery⟩, aTick, ⟨aResourceKind, aResourceBody, ⟨aResourceToHost, aResourceToPath, aResourceToQuery⟩⟩⟩
    rcases y with ⟨⟨bAddressHost, bAddressPath, bAddressQuery⟩, bTick, ⟨bResourceKind, bResourceBody, ⟨bResourceToHost, bResourceToPath, bResourceToQuery⟩⟩⟩
    simp only at h
    obtain ⟨rfl, rfl, rfl, rfl, rfl, rfl, rfl, rfl, rfl⟩ := h
    rfl
def GCapture.size (x : GCapture) : Nat := (x.Resource.size)
structure GChoice where
  Rule : Int
  At : Int
  deriving DecidableEq
def GChoice.enc (x : GChoice) : List T := [tI x.Rule, tI x.At]
def GChoice.dt : DT := .st (.fc .int (.fc .int .fn))
theorem GChoice.of {ts : List T} (h : IsT GChoice.dt ts) : ∃ x : GChoice, ts = x.enc := by
  simp only [GChoice.dt, IsT] at h
  obtain ⟨_, _, rfl, ⟨v0, rfl⟩, _, _, rfl, ⟨v1, rfl⟩, rfl⟩ := h
  exact ⟨⟨v0, v1⟩, rfl⟩
theorem GChoice.eqv {x y : GChoice} : x = y ↔ x.Rule = y.Rule ∧ x.At = y.At := by
  constructor
  · rintro rfl; simp
  · intro h
    rcases x with ⟨aRule, aAt⟩
    rcases y with ⟨bRule, bAt⟩
    simp only at h
    obtain ⟨rfl, rfl⟩ := h
    rfl
structure GWander where
  State : GState
  Choices : List GChoice
  Labels : List Int
  Missing : Int
  deriving DecidableEq
def GWander.enc (x : GWander) : List T := [tI x.State.Pc, .sl 1 (x.State.Regs.map encI), .sl 1 (x.State.Slots.map encI), .sl 1 (x.State.Nodes.map encI), .sl 2 (x.Choices.map GChoice.enc), .sl 1 (x.Labels.map encI), tI x.Missing]
def GWander.dt : DT := .st (.fc GState.dt (.fc (.sl GChoice.dt) (.fc (.sl .int) (.fc .int .fn))))
theorem GWander.of {ts : List T} (h : IsT GWander.dt ts) : ∃ x : GWander, ts = x.enc := by
  simp only [GWander.dt, IsT] at h
  obtain ⟨_, _, rfl, k0, _, _, rfl, ⟨l1, rfl, k1⟩, _, _, rfl, ⟨l2, rfl, k2⟩, _, _, rfl, ⟨v3, rfl⟩, rfl⟩ := h
  obtain ⟨v0, rfl⟩ := GState.of k0
  obtain ⟨v1, rfl⟩ := list_of GChoice.of k1
  obtain ⟨v2, rfl⟩ := list_of int_of k2
  exact ⟨⟨v0, v1, v2, v3⟩, rfl⟩
theorem GWander.eqv {x y : GWander} : x = y ↔ x.State.Pc = y.State.Pc ∧ x.State.Regs = y.State.Regs ∧ x.State.Slots = y.State.Slots ∧ x.State.Nodes = y.State.Nodes ∧ x.Choices = y.Choices ∧ x.Labels = y.Labels ∧ x.Missing = y.Missing := by
  constructor
  · rintro rfl; simp
  · intro h
    rcases x with ⟨⟨aStatePc, aStateRegs, aStateSlots, aStateNodes⟩, aChoices, aLabels, aMissing⟩
    rcases y with ⟨⟨bStatePc, bStateRegs, bStateSlots, bStateNodes⟩, bChoices, bLabels, bMissing⟩
    simp only at h
    obtain ⟨rfl, rfl, rfl, rfl, rfl, rfl, rfl⟩ := h
    rfl
def GWander.size (x : GWander) : Nat := (x.State.size) + (x.Choices.length) + (x.Labels.length)
structure GModel where
  Base : Int
  Step : Int
  Seen : Int
  Fits : Bool
  deriving DecidableEq
def GModel.enc (x : GModel) : List T := [tI x.Base, tI x.Step, tI x.Seen, tB x.Fits]
def GModel.dt : DT := .st (.fc .int (.fc .int (.fc .int (.fc .bool .fn))))
theorem GModel.of {ts : List T} (h : IsT GModel.dt ts) : ∃ x : GModel, ts = x.enc := by
  simp only [GModel.dt, IsT] at h
  obtain ⟨_, _, rfl, ⟨v0, rfl⟩, _, _, rfl, ⟨v1, rfl⟩, _, _, rfl, ⟨v2, rfl⟩, _, _, rfl, ⟨v3, rfl⟩, rfl⟩ := h
  exact ⟨⟨v0, v1, v2, v3⟩, rfl⟩
theorem GModel.eqv {x y : GModel} : x = y ↔ x.Base = y.Base ∧ x.Step = y.Step ∧ x.Seen = y.Seen ∧ x.Fits = y.Fits := by
  constructor
  · rintro rfl; simp
  · intro h
    rcases x with ⟨aBase, aStep, aSeen, aFits⟩
    rcases y with ⟨bBase, bStep, bSeen, bFits⟩
    simp only at h
    obtain ⟨rfl, rfl, rfl, rfl⟩ := h
    rfl
structure GShown where
  Tick : Int
  Address : GAddress
  deriving DecidableEq
def GShown.enc (x : GShown) : List T := [tI x.Tick, tI x.Address.Host, tI x.Address.Path, tI x.Address.Query]
def GShown.dt : DT := .st (.fc .int (.fc GAddress.dt .fn))
theorem GShown.of {ts : List T} (h : IsT GShown.dt ts) : ∃ x : GShown, ts = x.enc := by
  simp only [GShown.dt, IsT] at h
  obtain ⟨_, _, rfl, ⟨v0, rfl⟩, _, _, rfl, k1, rfl⟩ := h
  obtain ⟨v1, rfl⟩ := GAddress.of k1
  exact ⟨⟨v0, v1⟩, rfl⟩
theorem GShown.eqv {x y : GShown} : x = y ↔ x.Tick = y.Tick ∧ x.Address.Host = y.Address.Host ∧ x.Address.Path = y.Address.Path ∧ x.Address.Query = y.Address.Query := by
  constructor
  · rintro rfl; simp
  · intro h
    rcases x with ⟨aTick, ⟨aAddressHost, aAddressPath, aAddressQuery⟩⟩
    rcases y with ⟨bTick, ⟨bAddressHost, bAddressPath, bAddressQuery⟩⟩
    simp only at h
    obtain ⟨rfl, rfl, rfl, rfl⟩ := h
    rfl
structure GLeaf where
  Value : Int
  Salt : Int
  Hidden : Bool
  Seal : Int
  deriving DecidableEq
def GLeaf.enc (x : GLeaf) : List T := [tI x.Value, tI x.Salt, tB x.Hidden, tI x.Seal]
def GLeaf.dt : DT := .st (.fc .int (.fc .int (.fc .bool (.fc .int .fn))))
theorem GLeaf.of {ts : List T} (h : IsT GLeaf.dt ts) : ∃ x : GLeaf, ts = x.enc := by
  simp only [GLeaf.dt, IsT] at h
  obtain ⟨_, _, rfl, ⟨v0, rfl⟩, _, _, rfl, ⟨v1, rfl⟩, _, _, rfl, ⟨v2, rfl⟩, _, _, rfl, ⟨v3, rfl⟩, rfl⟩ := h
  exact ⟨⟨v0, v1, v2, v3⟩, rfl⟩
theorem GLeaf.eqv {x y : GLeaf} : x = y ↔ x.Value = y.Value ∧ x.Salt = y.Salt ∧ x.Hidden = y.Hidden ∧ x.Seal = y.Seal := by
  constructor
  · rintro rfl; simp
  · intro h
    rcases x with ⟨aValue, aSalt, aHidden, aSeal⟩
    rcases y with ⟨bValue, bSalt, bHidden, bSeal⟩
    simp only at h
    obtain ⟨rfl, rfl, rfl, rfl⟩ := h
    rfl
structure GEdition where
  Captures : List GCapture
  From : Int
  Until : Int
  Hidden : List GAddress
  deriving DecidableEq
def GEdition.enc (x : GEdition) : List T := [.sl 9 (x.Captures.map GCapture.enc), tI x.From, tI x.Until, .sl 3 (x.Hidden.map GAddress.enc)]
def GEdition.dt : DT := .st (.fc (.sl GCapture.dt) (.fc .int (.fc .int (.fc (.sl GAddress.dt) .fn))))
theorem GEdition.of {ts : List T} (h : IsT GEdition.dt ts) : ∃ x : GEdition, ts = x.enc := by
  simp only [GEdition.dt, IsT] at h
  obtain ⟨_, _, rfl, ⟨l0, rfl, k0⟩, _, _, rfl, ⟨v1, rfl⟩, _, _, rfl, ⟨v2, rfl⟩, _, _, rfl, ⟨l3, rfl, k3⟩, rfl⟩ := h
  obtain ⟨v0, rfl⟩ := list_of GCapture.of k0
  obtain ⟨v3, rfl⟩ := list_of GAddress.of k3
  exact ⟨⟨v0, v1, v2, v3⟩, rfl⟩
theorem GEdition.eqv {x y : GEdition} : x = y ↔ x.Captures = y.Captures ∧ x.From = y.From ∧ x.Until = y.Until ∧ x.Hidden = y.Hidden := by
  constructor
  · rintro rfl; simp
  · intro h
    rcases x with ⟨aCaptures, aFrom, aUntil, aHidden⟩
    rcases y with ⟨bCaptures, bFrom, bUntil, bHidden⟩
    simp only at h
    obtain ⟨rfl, rfl, rfl, rfl⟩ := h
    rfl
def GEdition.size (x : GEdition) : Nat := (x.Captures.length + (x.Captures.map GCapture.size).sum) + (x.Hidden.length)
structure GExclusion where
  Host : Int
  Path : Int
  From : Int
  Until : Int
  Asked : Int
  deriving DecidableEq
def GExclusion.enc (x : GExclusion) : List T := [tI x.Host, tI x.Path, tI x.From, tI x.Until, tI x.Asked]
def GExclusion.dt : DT := .st (.fc .int (.fc .int (.fc .int (.fc .int (.fc .int .fn)))))
theorem GExclusion.of {ts : List T} (h : IsT GExclusion.dt ts) : ∃ x : GExclusion, ts = x.enc := by
  simp only [GExclusion.dt, IsT] at h
  obtain ⟨_, _, rfl, ⟨v0, rfl⟩, _, _, rfl, ⟨v1, rfl⟩, _, _, rfl, ⟨v2, rfl⟩, _, _, rfl, ⟨v3, rfl⟩, _, _, rfl, ⟨v4, rfl⟩, rfl⟩ := h
  exact ⟨⟨v0, v1, v2, v3, v4⟩, rfl⟩
theorem GExclusion.eqv {x y : GExclusion} : x = y ↔ x.Host = y.Host ∧ x.Path = y.Path ∧ x.From = y.From ∧ x.Until = y.Until ∧ x.Asked = y.Asked := by
  constructor
  · rintro rfl; simp
  · intro h
    rcases x with ⟨aHost, aPath, aFrom, aUntil, aAsked⟩
    rcases y with ⟨bHost, bPath, bFrom, bUntil, bAsked⟩
    simp only at h
    obtain ⟨rfl, rfl, rfl, rfl, rfl⟩ := h
    rfl
structure GStatement where
  Witness : Int
  Digest : Int
  Tick : Int
  Seal : Int
  deriving DecidableEq
def GStatement.enc (x : GStatement) : List T := [tI x.Witness, tI x.Digest, tI x.Tick, tI x.Seal]
def GStatement.dt : DT := .st (.fc .int (.fc .int (.fc .int (.fc .int .fn))))
theorem GStatement.of {ts : List T} (h : IsT GStatement.dt ts) : ∃ x : GStatement, ts = x.enc := by
  simp only [GStatement.dt, IsT] at h
  obtain ⟨_, _, rfl, ⟨v0, rfl⟩, _, _, rfl, ⟨v1, rfl⟩, _, _, rfl, ⟨v2, rfl⟩, _, _, rfl, ⟨v3, rfl⟩, rfl⟩ := h
  exact ⟨⟨v0, v1, v2, v3⟩, rfl⟩
theorem GStatement.eqv {x y : GStatement} : x = y ↔ x.Witness = y.Witness ∧ x.Digest = y.Digest ∧ x.Tick = y.Tick ∧ x.Seal = y.Seal := by
  constructor
  · rintro rfl; simp
  · intro h
    rcases x with ⟨aWitness, aDigest, aTick, aSeal⟩
    rcases y with ⟨bWitness, bDigest, bTick, bSeal⟩
    simp only at h
    obtain ⟨rfl, rfl, rfl, rfl⟩ := h
    rfl
structure GLibrary where
  Id : Int
  Digests : List Int
  Up : Bool
  Lies : Bool
  deriving DecidableEq
def GLibrary.enc (x : GLibrary) : List T := [tI x.Id, .sl 1 (x.Digests.map encI), tB x.Up, tB x.Lies]
def GLibrary.dt : DT := .st (.fc .int (.fc (.sl .int) (.fc .bool (.fc .bool .fn))))
theorem GLibrary.of {ts : List T} (h : IsT GLibrary.dt ts) : ∃ x : GLibrary, ts = x.enc := by
  simp only [GLibrary.dt, IsT] at h
  obtain ⟨_, _, rfl, ⟨v0, rfl⟩, _, _, rfl, ⟨l1, rfl, k1⟩, _, _, rfl, ⟨v2, rfl⟩, _, _, rfl, ⟨v3, rfl⟩, rfl⟩ := h
  obtain ⟨v1, rfl⟩ := list_of int_of k1
  exact ⟨⟨v0, v1, v2, v3⟩, rfl⟩
theorem GLibrary.eqv {x y : GLibrary} : x = y ↔ x.Id = y.Id ∧ x.Digests = y.Digests ∧ x.Up = y.Up ∧ x.Lies = y.Lies := by
  constructor
  · rintro rfl; simp
  · intro h
    rcases x with ⟨aId, aDigests, aUp, aLies⟩
    rcases y with ⟨bId, bDigests, bUp, bLies⟩
    simp only at h
    obtain ⟨rfl, rfl, rfl, rfl⟩ := h
    rfl
def GLibrary.size (x : GLibrary) : Nat := (x.Digests.length)
structure GContainer where
  Script : List GOp
  Entries : List GEntry
  Captures : List GCapture
  Root : Int
  deriving DecidableEq
def GContainer.enc (x : GContainer) : List T := [.sl 4 (x.Script.map GOp.enc), .sl 5 (x.Entries.map GEntry.enc), .sl 9 (x.Captures.map GCapture.enc), tI x.Root]
def GContainer.dt : DT := .st (.fc (.sl GOp.dt) (.fc (.sl GEntry.dt) (.fc (.sl GCapture.dt) (.fc .int .fn))))
theorem GContainer.of {ts : List T} (h : IsT GContainer.dt ts) : ∃ x : GContainer, ts = x.enc := by
  simp only [GContainer.dt, IsT] at h
  obtain ⟨_, _, rfl, ⟨l0, rfl, k0⟩, _, _, rfl, ⟨l1, rfl, k1⟩, _, _, rfl, ⟨l2, rfl, k2⟩, _, _, rfl, ⟨v3, rfl⟩, rfl⟩ := h
  obtain ⟨v0, rfl⟩ := list_of GOp.of k0
  obtain ⟨v1, rfl⟩ := list_of GEntry.of k1
  obtain ⟨v2, rfl⟩ := list_of GCapture.of k2
  exact ⟨⟨v0, v1, v2, v3⟩, rfl⟩
theorem GContainer.eqv {x y : GContainer} : x = y ↔ x.Script = y.Script ∧ x.Entries = y.Entries ∧ x.Captures = y.Captures ∧ x.Root = y.Root := by
  constructor
  · rintro rfl; simp
  · intro h
    rcases x with ⟨aScript, aEntries, aCaptures, aRoot⟩
    rcases y with ⟨bScript, bEntries, bCaptures, bRoot⟩
    simp only at h
    obtain ⟨rfl, rfl, rfl, rfl⟩ := h
    rfl
def GContainer.size (x : GContainer) : Nat := (x.Script.length) + (x.Entries.length) + (x.Captures.length + (x.Captures.map GCapture.size).sum)
structure GFound where
  Address : GAddress
  Tick : Int
  Container : Int
  At : Int
  deriving DecidableEq
def GFound.enc (x : GFound) : List T := [tI x.Address.Host, tI x.Address.Path, tI x.Address.Query, tI x.Tick, tI x.Container, tI x.At]
def GFound.dt : DT := .st (.fc GAddress.dt (.fc .int (.fc .int (.fc .int .fn))))
theorem GFound.of {ts : List T} (h : IsT GFound.dt ts) : ∃ x : GFound, ts = x.enc := by
  simp only [GFound.dt, IsT] at h
  obtain ⟨_, _, rfl, k0, _, _, rfl, ⟨v1, rfl⟩, _, _, rfl, ⟨v2, rfl⟩, _, _, rfl, ⟨v3, rfl⟩, rfl⟩ := h
  obtain ⟨v0, rfl⟩ := GAddress.of k0
  exact ⟨⟨v0, v1, v2, v3⟩, rfl⟩
theorem GFound.eqv {x y : GFound} : x = y ↔ x.Address.Host = y.Address.Host ∧ x.Address.Path = y.Address.Path ∧ x.Address.Query = y.Address.Query ∧ x.Tick = y.Tick ∧ x.Container = y.Container ∧ x.At = y.At := by
  constructor
  · rintro rfl; simp
  · intro h
    rcases x with ⟨⟨aAddressHost, aAddressPath, aAddressQuery⟩, aTick, aContainer, aAt⟩
    rcases y with ⟨⟨bAddressHost, bAddressPath, bAddressQuery⟩, bTick, bContainer, bAt⟩
    simp only at h
    obtain ⟨rfl, rfl, rfl, rfl, rfl, rfl⟩ := h
    rfl
structure GDisk where
  Containers : List GContainer
  Index : List GFound
  Wanted : List GContainer
  deriving DecidableEq
def GDisk.enc (x : GDisk) : List T := [.sl 4 (x.Containers.map GContainer.enc), .sl 6 (x.Index.map GFound.enc), .sl 4 (x.Wanted.map GContainer.enc)]
def GDisk.dt : DT := .st (.fc (.sl GContainer.dt) (.fc (.sl GFound.dt) (.fc (.sl GContainer.dt) .fn)))
theorem GDisk.of {ts : List T} (h : IsT GDisk.dt ts) : ∃ x : GDisk, ts = x.enc := by
  simp only [GDisk.dt, IsT] at h
  obtain ⟨_, _, rfl, ⟨l0, rfl, k0⟩, _, _, rfl, ⟨l1, rfl, k1⟩, _, _, rfl, ⟨l2, rfl, k2⟩, rfl⟩ := h
  obtain ⟨v0, rfl⟩ := list_of GContainer.of k0
  obtain ⟨v1, rfl⟩ := list_of GFound.of k1
  obtain ⟨v2, rfl⟩ := list_of GContainer.of k2
  exact ⟨⟨v0, v1, v2⟩, rfl⟩
theorem GDisk.eqv {x y : GDisk} : x = y ↔ x.Containers = y.Containers ∧ x.Index = y.Index ∧ x.Wanted = y.Wanted := by
  constructor
  · rintro rfl; simp
  · intro h
    rcases x with ⟨aContainers, aIndex, aWanted⟩
    rcases y with ⟨bContainers, bIndex, bWanted⟩
    simp only at h
    obtain ⟨rfl, rfl, rfl⟩ := h
    rfl
def GDisk.size (x : GDisk) : Nat := (x.Containers.length + (x.Containers.map GContainer.size).sum) + (x.Index.length) + (x.Wanted.length + (x.Wanted.map GContainer.size).sum)
structure GArchive where
  Site : List GVersion
  Script : List GOp
  Disk : GDisk
  Exclusions : List GExclusion
  Libraries : List GLibrary
  Keys : List Int
  Statements : List GStatement
  Now : Int
  deriving DecidableEq
def GArchive.enc (x : GArchive) : List T := [.sl 9 (x.Site.map GVersion.enc), .sl 4 (x.Script.map GOp.enc), .sl 4 (x.Disk.Containers.map GContainer.enc), .sl 6 (x.Disk.Index.map GFound.enc), .sl 4 (x.Disk.Wanted.map GContainer.enc), .sl 5 (x.Exclusions.map GExclusion.enc), .sl 4 (x.Libraries.map GLibrary.enc), .sl 1 (x.Keys.map encI), .sl 4 (x.Statements.map GStatement.enc), tI x.Now]
def GArchive.dt : DT := .st (.fc (.sl GVersion.dt) (.fc (.sl GOp.dt) (.fc GDisk.dt (.fc (.sl GExclusion.dt) (.fc (.sl GLibrary.dt) (.fc (.sl .int) (.fc (.sl GStatement.dt) (.fc .int .fn))))))))
theorem GArchive.of {ts : List T} (h : IsT GArchive.dt ts) : ∃ x : GArchive, ts = x.enc := by
  simp only [GArchive.dt, IsT] at h
  obtain ⟨_, _, rfl, ⟨l0, rfl, k0⟩, _, _, rfl, ⟨l1, rfl, k1⟩, _, _, rfl, k2, _, _, rfl, ⟨l3, rfl, k3⟩, _, _, rfl, ⟨l4, rfl, k4⟩, _, _, rfl, ⟨l5, rfl, k5⟩, _, _, rfl, ⟨l6, rfl, k6⟩, _, _, rfl, ⟨v7, rfl⟩, rfl⟩ := h
  obtain ⟨v0, rfl⟩ := list_of GVersion.of k0
  obtain ⟨v1, rfl⟩ := list_of GOp.of k1
  obtain ⟨v2, rfl⟩ := GDisk.of k2
  obtain ⟨v3, rfl⟩ := list_of GExclusion.of k3
  obtain ⟨v4, rfl⟩ := list_of GLibrary.of k4
  obtain ⟨v5, rfl⟩ := list_of int_of k5
  obtain ⟨v6, rfl⟩ := list_of GStatement.of k6
  exact ⟨⟨v0, v1, v2, v3, v4, v5, v6, v7⟩, rfl⟩
theorem GArchive.eqv {x y : GArchive} : x = y ↔ x.Site = y.Site ∧ x.Script = y.Script ∧ x.Disk.Containers = y.Disk.Containers ∧ x.Disk.Index = y.Disk.Index ∧ x.Disk.Wanted = y.Disk.Wanted ∧ x.Exclusions = y.Exclusions ∧ x.Libraries = y.Libraries ∧ x.Keys = y.Keys ∧ x.Statements = y.Statements ∧ x.Now = y.Now := by
  constructor
  · rintro rfl; simp
  · intro h
    rcases x with ⟨aSite, aScript, ⟨aDiskContainers, aDiskIndex, aDiskWanted⟩, aExclusions, aLibraries, aKeys, aStatements, aNow⟩
    rcases y with ⟨bSite, bScript, ⟨bDiskContainers, bDiskIndex, bDiskWanted⟩, bExclusions, bLibraries, bKeys, bStatements, bNow⟩
    simp only at h
    obtain ⟨rfl, rfl, rfl, rfl, rfl, rfl, rfl, rfl, rfl, rfl⟩ := h
    rfl
def GArchive.size (x : GArchive) : Nat := (x.Site.length + (x.Site.map GVersion.size).sum) + (x.Script.length) + (x.Disk.size) + (x.Exclusions.length) + (x.Libraries.length + (x.Libraries.map GLibrary.size).sum) + (x.Keys.length) + (x.Statements.length)
structure GEvent where
  Kind : Int
  N : Int
  Inputs : List Int
  Version : GVersion
  Exclusion : GExclusion
  deriving DecidableEq
def GEvent.enc (x : GEvent) : List T := [tI x.Kind, tI x.N, .sl 1 (x.Inputs.map encI), tI x.Version.Address.Host, tI x.Version.Address.Path, tI x.Version.Address.Query, tI x.Version.From, tI x.Version.Resource.Kind, .sl 1 (x.Version.Resource.Body.map encI), tI x.Version.Resource.To.Host, tI x.Version.Resource.To.Path, tI x.Version.Resource.To.Query, tI x.Exclusion.Host, tI x.Exclusion.Path, tI x.Exclusion.From, tI x.Exclusion.Until, tI x.Exclusion.Asked]
def GEvent.dt : DT := .st (.fc .int (.fc .int (.fc (.sl .int) (.fc GVersion.dt (.fc GExclusion.dt .fn)))))
theorem GEvent.of {ts : List T} (h : IsT GEvent.dt ts) : ∃ x : GEvent, ts = x.enc := by
  simp only [GEvent.dt, IsT] at h
  obtain ⟨_, _, rfl, ⟨v0, rfl⟩, _, _, rfl, ⟨v1, rfl⟩, _, _, rfl, ⟨l2, rfl, k2⟩, _, _, rfl, k3, _, _, rfl, k4, rfl⟩ := h
  obtain ⟨v2, rfl⟩ := list_of int_of k2
  obtain ⟨v3, rfl⟩ := GVersion.of k3
  obtain ⟨v4, rfl⟩ := GExclusion.of k4
  exact ⟨⟨v0, v1, v2, v3, v4⟩, rfl⟩
theorem GEvent.eqv {x y : GEvent} : x = y ↔ x.Kind = y.Kind ∧ x.N = y.N ∧ x.Inputs = y.Inputs ∧ x.Version.Address.Host = y.Version.Address.Host ∧ x.Version.Address.Path = y.Version.Address.Path ∧ x.Version.Address.Query = y.Version.Address.Query ∧ x.Version.From = y.Version.From ∧ x.Version.Resource.Kind = y.Version.Resource.Kind ∧ x.Version.Resource.Body = y.Version.Resource.Body ∧ x.Version.Resource.To.Host = y.Version.Resource.To.Host ∧ x.Version.Resource.To.Path = y.Version.Resource.To.Path ∧ x.Version.Resource.To.Query = y.Version.Resource.To.Query ∧ x.Exclusion.Host = y.Exclusion.Host ∧ x.Exclusion.Path = y.Exclusion.Path ∧ x.Exclusion.From = y.Exclusion.From ∧ x.Exclusion.Until = y.Exclusion.Until ∧ x.Exclusion.Asked = y.Exclusion.Asked := by
  constructor
  · rintro rfl; simp
  · intro h
    rcases x with ⟨aKind, aN, aInputs, ⟨⟨aVersionAddressHost, aVersionAddressPath, aVersionAddressQuery⟩, aVersionFrom, ⟨aVersionResourceKind, aVersionResourceBody, ⟨aVersionResourceToHost, aVersionResourceToPath, aVersionResourceToQuery⟩⟩⟩, ⟨aExclusionHost, aExclusionPath, aExclusionFrom, aExclusionUntil, aExclusionAsked⟩⟩
    rcases y with ⟨bKind, bN, bInputs, ⟨⟨bVersionAddressHost, bVersionAddressPath, bVersionAddressQuery⟩, bVersionFrom, ⟨bVersionResourceKind, bVersionResourceBody, ⟨bVersionResourceToHost, bVersionResourceToPath, bVersionResourceToQuery⟩⟩⟩, ⟨bExclusionHost, bExclusionPath, bExclusionFrom, bExclusionUntil, bExclusionAsked⟩⟩
    simp only at h
    obtain ⟨rfl, rfl, rfl, rfl, rfl, rfl, rfl, rfl, rfl, rfl, rfl, rfl, rfl, rfl, rfl, rfl, rfl⟩ := h
    rfl
def GEvent.size (x : GEvent) : Nat := (x.Inputs.length) + (x.Version.size)
structure GChange where
  Tick : Int
  Digest : Int
  deriving DecidableEq
def GChange.enc (x : GChange) : List T := [tI x.Tick, tI x.Digest]
def GChange.dt : DT := .st (.fc .int (.fc .int .fn))
theorem GChange.of {ts : List T} (h : IsT GChange.dt ts) : ∃ x : GChange, ts = x.enc := by
  simp only [GChange.dt, IsT] at h
  obtain ⟨_, _, rfl, ⟨v0, rfl⟩, _, _, rfl, ⟨v1, rfl⟩, rfl⟩ := h
  exact ⟨⟨v0, v1⟩, rfl⟩
theorem GChange.eqv {x y : GChange} : x = y ↔ x.Tick = y.Tick ∧ x.Digest = y.Digest := by
  constructor
  · rintro rfl; simp
  · intro h
    rcases x with ⟨aTick, aDigest⟩
    rcases y with ⟨bTick, bDigest⟩
    simp only at h
    obtain ⟨rfl, rfl⟩ := h
    rfl
structure GPlayed where
  Code : Int
  At : Int
  State : GState
  deriving DecidableEq
def GPlayed.enc (x : GPlayed) : List T := [tI x.Code, tI x.At, tI x.State.Pc, .sl 1 (x.State.Regs.map encI), .sl 1 (x.State.Slots.map encI), .sl 1 (x.State.Nodes.map encI)]
def GPlayed.dt : DT := .st (.fc .int (.fc .int (.fc GState.dt .fn)))
theorem GPlayed.of {ts : List T} (h : IsT GPlayed.dt ts) : ∃ x : GPlayed, ts = x.enc := by
  simp only [GPlayed.dt, IsT] at h
  obtain ⟨_, _, rfl, ⟨v0, rfl⟩, _, _, rfl, ⟨v1, rfl⟩, _, _, rfl, k2, rfl⟩ := h
  obtain ⟨v2, rfl⟩ := GState.of k2
  exact ⟨⟨v0, v1, v2⟩, rfl⟩
theorem GPlayed.eqv {x y : GPlayed} : x = y ↔ x.Code = y.Code ∧ x.At = y.At ∧ x.State.Pc = y.State.Pc ∧ x.State.Regs = y.State.Regs ∧ x.State.Slots = y.State.Slots ∧ x.State.Nodes = y.State.Nodes := by
  constructor
  · rintro rfl; simp
  · intro h
    rcases x with ⟨aCode, aAt, ⟨aStatePc, aStateRegs, aStateSlots, aStateNodes⟩⟩
    rcases y with ⟨bCode, bAt, ⟨bStatePc, bStateRegs, bStateSlots, bStateNodes⟩⟩
    simp only at h
    obtain ⟨rfl, rfl, rfl, rfl, rfl, rfl⟩ := h
    rfl
def GPlayed.size (x : GPlayed) : Nat := (x.State.size)
attribute [go_sem] encI encB GAddress.enc GResource.enc GPart.enc GPiece.enc GVersion.enc GOp.enc GState.enc GVisit.enc GWant.enc GEntry.enc GCapture.enc GChoice.enc GWander.enc GModel.enc GShown.enc GLeaf.enc GEdition.enc GExclusion.enc GStatement.enc GLibrary.enc GContainer.enc GFound.enc GDisk.enc GArchive.enc GEvent.enc GChange.enc GPlayed.enc
end Go.Proofs.YtldjbgjcfncdjaaDoorR
namespace Go.Proofs.YtldjbgjcfncdjaaDoorR
open Go Go.RowKit
/-- What is left of a bound. -/
def szr (n : Nat) (left : Int) : Int := if (n : Int) ≤ left then left - n else -1
theorem szr_neg {n : Nat} {left : Int} (_ : 0 ≤ left) : szr n left < 0 ↔ left < n := by unfold szr; split <;> omega
theorem szr_add {n m : Nat} {left : Int} (_ : 0 ≤ left) (h1 : ¬ szr n left < 0) : 0 ≤ szr n left ∧ szr n left ≤ left ∧ szr (n + m) left = szr m (szr n left) := by
  unfold szr at *
  split at h1
  · rename_i h2
    simp only [h2, if_true]
    refine ⟨by omega, by omega, ?_⟩
    split <;> split <;> omega
  · omega
theorem szr_bad {n m : Nat} {left : Int} (h : 0 ≤ left) (h1 : szr n left < 0) : szr (n + m) left = -1 := by
  rw [szr_neg h] at h1
  unfold szr
  rw [if_neg (by omega)]
/-- Cells of a result: lists are the caller's own. -/
def own : List T → List (Bool × T)
  | [] => []
  | .sl k es :: l => (true, .sl k es) :: own l
  | t :: l => (false, t) :: own l
@[go_sem] theorem own_nil : own [] = [] := rfl
@[go_sem] theorem own_sl {k es l} : own (.sl k es :: l) = (true, .sl k es) :: own l := rfl
@[go_sem] theorem own_sc {v l} : own (.sc v :: l) = (false, .sc v) :: own l := rfl
/-- A struct, a list as results of the caller's own. -/
abbrev rS (ts : List T) : RV := ⟨true, own ts⟩
abbrev rL (k : Nat) (es : List (List T)) : RV := ⟨false, [(true, .sl k es)]⟩
abbrev aS (ts : List T) : Bool × List T := (true, ts)
attribute [go_sem] rS rL aS
/-- A row that is being filled. -/
def filled {α : Type} (f : α → List T) (z : List T) (xs : List α) (k : Nat) : List (List T) := (xs.take k).map f ++ List.replicate (xs.length - k) z
section
variable {α : Type} {f : α → List T} {z : List T} {xs : List α} {k : Nat}
@[go_sem] theorem filled_len (h : k ≤ xs.length) : (filled f z xs k).length = xs.length := by simp [filled]; omega
theorem filled_zero : filled f z xs 0 = List.replicate xs.length z := by simp [filled]
theorem filled_all : filled f z xs xs.length = xs.map f := by simp [filled]
theorem filled_get (h : k < xs.length) : (filled f z xs k)[k]? = some z := by
  unfold filled
  rw [List.getElem?_append_right (by simp; omega), List.getElem?_replicate, if_pos (by simp; omega)]
theorem filled_set {x : α} (h : xs[k]? = some x) : (filled f z xs k).set k (f x) = filled f z xs (k + 1) := by
  have hk := len_at h
  unfold filled
  rw [List.set_append_right _ _ (by simp; omega), take_snoc h]
  have e : xs.length - k = (xs.length - (k + 1)) + 1 := by omega
  rw [e, List.replicate_succ]
  have e2 : k - (List.map f (List.take k xs)).length = 0 := by simp; omega
  rw [e2]
  simp
end
theorem replicate_toNat {n : Nat} {z : List T} : List.replicate (n : Int).toNat z = List.replicate n z := by simp
theorem take_eq_step {α : Type} {xs ys : List α} {k : Nat} {x y : α} (hx : xs[k]? = some x) (hy : ys[k]? = some y) (h : xs.take k = ys.take k) : xs.take (k + 1) = ys.take (k + 1) ↔ x = y := by
  rw [take_snoc hx, take_snoc hy, h]
  simp
theorem ne_at {α : Type} [DecidableEq α] {xs ys : List α} {k : Nat} {x y : α} (hx : xs[k]? = some x) (hy : ys[k]? = some y) (h : ¬ x = y) : false = decide (xs = ys) := by
  symm
  rw [decide_eq_false_iff_not]
  rintro rfl
  rw [hx] at hy
  exact h (Option.some.inj hy)
theorem ne_len {α : Type} [DecidableEq α] {xs ys : List α} (h : ¬ (xs.length : Int) = ys.length) : false = decide (xs = ys) := by
  symm
  rw [decide_eq_false_iff_not]
  rintro rfl
  exact h rfl
theorem eq_all {α : Type} [DecidableEq α] {xs ys : List α} (he : xs.take xs.length = ys.take xs.length) (hl : xs.length = ys.length) : true = decide (xs = ys) := by
  symm
  rw [decide_eq_true_iff]
  rw [List.take_length] at he
  rw [he, hl, List.take_length]
theorem szr_bad' {n N : Nat} {left : Int} (h0 : 0 ≤ left) (h : szr n left < 0) (hn : n ≤ N) : -1 = szr N left := by
  rw [szr_neg h0] at h
  unfold szr
  rw [if_neg (by omega)]
theorem szr_ok {n : Nat} {left : Int} (h : ¬ szr n left < 0) : (n : Int) ≤ left := by
  unfold szr at h
  split at h <;> omega
theorem sum_snoc {α : Type} {f : α → Nat} {l : List α} {k : Nat} {x : α} (h : l[k]? = some x) : ((l.take (k + 1)).map f).sum = ((l.take k).map f).sum + f x := by
  rw [take_snoc h]; simp
theorem sum_take_le {α : Type} {f : α → Nat} (l : List α) (k : Nat) : ((l.take k).map f).sum ≤ (l.map f).sum := by
  have h : (l.map f).sum = ((l.take k).map f).sum + ((l.drop k).map f).sum := by
    rw [← List.sum_append, ← List.map_append, List.take_append_drop]
  omega
theorem mem_sum {α : Type} {f : α → Nat} {l : List α} {x : α} (h : x ∈ l) : f x ≤ (l.map f).sum := by
  induction l with
  | nil => simp at h
  | cons y l ih =>
    rcases List.mem_cons.1 h with rfl | h
    · simp
    · have := ih h; simp; omega
theorem snoc_len {α : Type} {l : List α} {k : Nat} {x : α} (h : l[k]? = some x) : (l.take k).length + 1 = (l.take (k + 1)).length := by
  rw [take_snoc h]; simp
theorem snoc_map {α : Type} {f : α → List T} {l : List α} {k : Nat} {x : α} (h : l[k]? = some x) : (l.take k).map f ++ [f x] = (l.take (k + 1)).map f := by
  rw [take_snoc h]; simp
end Go.Proofs.YtldjbgjcfncdjaaDoorR
namespace Go.Proofs.YtldjbgjcfncdjaaDoorR
open Go Go.RowKit Go.Proofs
set_option linter.unusedSimpArgs false
set_option linter.unusedVariables false
theorem hmix : Tryd.prog.follows .mixedOrders = true := by kernel_rfl
abbrev n_laws_FnExactFormatArchive : Nat := 8
abbrev n_laws_toIntS : Nat := 10
abbrev n_laws_eqIntS : Nat := 12
abbrev n_laws_szCapture : Nat := 23
abbrev n_laws_toCapture : Nat := 25
abbrev n_laws_eqCapture : Nat := 27
abbrev n_laws_szArchive : Nat := 33
abbrev n_spec_FormatArchive : Nat := 34
abbrev n_laws_toArchive : Nat := 35
abbrev n_impl_FormatArchive : Nat := 36
abbrev n_laws_eqArchive : Nat := 37
abbrev n_spec_l39Join : Nat := 38
abbrev n_impl_joinWith : Nat := 39
abbrev n_spec_FormatInt : Nat := 42
abbrev n_impl_FormatInt : Nat := 45
abbrev n_laws_szResource : Nat := 49
abbrev n_laws_toAddress : Nat := 52
abbrev n_laws_toResource : Nat := 53
abbrev n_laws_eqAddress : Nat := 56
abbrev n_laws_eqResource : Nat := 57
abbrev n_laws_szIntS : Nat := 59
abbrev n_laws_szVersionS : Nat := 64
abbrev n_laws_szOpS : Nat := 65
abbrev n_laws_szDisk : Nat := 66
abbrev n_laws_szExclusionS : Nat := 67
abbrev n_laws_szLibraryS : Nat := 68
abbrev n_laws_szStatementS : Nat := 69
abbrev n_spec_l34Up : Nat := 70
abbrev n_laws_toVersionS : Nat := 71
abbrev n_laws_toOpS : Nat := 72
abbrev n_laws_toDisk : Nat := 73
abbrev n_laws_toExclusionS : Nat := 74
abbrev n_laws_toLibraryS : Nat := 75
abbrev n_laws_toStatementS : Nat := 76
abbrev n_laws_eqVersionS : Nat := 77
abbrev n_laws_eqOpS : Nat := 78
abbrev n_laws_eqDisk : Nat := 79
abbrev n_laws_eqExclusionS : Nat := 80
abbrev n_laws_eqLibraryS : Nat := 81
abbrev n_laws_eqStatementS : Nat := 82
abbrev n_strings_Join : Nat := 83
abbrev n_strconv_Itoa : Nat := 86
abbrev n_laws_szVersion : Nat := 93
abbrev n_laws_szContainerS : Nat := 94
abbrev n_laws_szFoundS : Nat := 95
abbrev n_laws_szLibrary : Nat := 96
abbrev n_laws_toVersion : Nat := 97
abbrev n_laws_toOp : Nat := 98
abbrev n_laws_toContainerS : Nat := 99
abbrev n_laws_toFoundS : Nat := 100
abbrev n_laws_toExclusion : Nat := 101
abbrev n_laws_toLibrary : Nat := 102
abbrev n_laws_toStatement : Nat := 103
abbrev n_laws_eqVersion : Nat := 104
abbrev n_laws_eqOp : Nat := 105
abbrev n_laws_eqContainerS : Nat := 106
abbrev n_laws_eqFoundS : Nat := 107
abbrev n_laws_eqExclusion : Nat := 108
abbrev n_laws_eqLibrary : Nat := 109
abbrev n_laws_eqStatement : Nat := 110
abbrev n_laws_szContainer : Nat := 118
abbrev n_laws_toContainer : Nat := 119
abbrev n_laws_toFound : Nat := 120
abbrev n_laws_eqContainer : Nat := 121
abbrev n_laws_eqFound : Nat := 122
abbrev n_laws_szEntryS : Nat := 126
abbrev n_laws_szCaptureS : Nat := 127
abbrev n_laws_toEntryS : Nat := 128
abbrev n_laws_toCaptureS : Nat := 129
abbrev n_laws_eqEntryS : Nat := 130
abbrev n_laws_eqCaptureS : Nat := 131
abbrev n_laws_toEntry : Nat := 138
abbrev n_laws_eqEntry : Nat := 139
abbrev n_math_bits_Len64 : Nat := 141
abbrev n_math_bits_TrailingZeros : Nat := 144
abbrev n_math_bits_TrailingZeros32 : Nat := 145
abbrev n_math_bits_TrailingZeros64 : Nat := 146
def m_laws_szIntS : MC :=
(.seq (pr [.mv 4 (.c (.int .i64 0))] [0,1])
(.seq (pr [.mv 5 (.s 1), .mv 6 (.s 0), .len 7 false (.s 6), .bin 8 false .sub (.s 5) (.s 7), .mv 1 (.s 8)] [1])
(.seq (.seq (pr [.mv 9 (.s 1), .bin 10 false .lss (.s 9) (.c (.int .i64 0))] [1,10])
(.cond (.s 10) (.seq (pr [.mv 4 (.c (.int .i64 (-1)))] [4])
.ret) .skip))
(.seq (pr [.mv 11 (.s 1), .mv 4 (.s 11)] [4])
.ret))))
theorem c_laws_szIntS (xs : List Int) (left : Int) (h0 : 0 ≤ left) : Ctr Tryd.prog n_laws_szIntS [aL 1 (xs.map encI), aI left] [rI (szr xs.length left)] := by
  refine ctr_at (M := m_laws_szIntS) (m := 0) (n := 12) (res := [(.tmp 4, [false])]) hmix Tryd.func59 rfl (by kernel_rfl) rfl (by kernel_rfl) (by kernel_rfl) (Nat.le_of_ble_eq_true rfl) ?_; unfold m_laws_szIntS
  intro hb
  simp only [bdA, bdL, bdT, bdR, bdR_map, wfB_i64, wfB_bool, wfB_str, roomB, and_true, true_and, List.length_map] at hb
  obtain ⟨⟨hl, -⟩, hn⟩ := hb
  simp only [↓bk_bind, ↓bk_map, ↓bk_ite, ↓bk_some, ↓reduceIte, Nat.reduceEqDiff, Nat.reduceLT, Nat.reduceLeDiff, Nat.reduceAdd, Nat.reduceMul, reduceCtorEq, List.reduceReplicate, go_sem]
  rw [wI (by omega) (by omega)]
  unfold szr
  refine ⟨fun h => ?_, fun h => ?_⟩
  · rw [if_neg (by omega)]
  · rw [if_pos (by omega)]
def m_laws_toIntS : MC :=
(.seq (pr [.nilo 2 0 1] [0])
(.seq (pr [.mv 5 (.s 0), .len 6 false (.s 5), .mk 7 0 1 8 [.sc (.int .i64 0)] (.s 6), .mv 3 (.s 7)] [0,3])
(.seq (.seq (pr [.mv 4 (.c (.int .i64 0))] [0,3,4])
(.block 0 (.loop ([0,3,4], []) (.seq (.seq (pr [.mv 8 (.s 4), .mv 9 (.s 0), .len 10 false (.s 9), .bin 11 false .lss (.s 8) (.s 10)] [0,3,4,11])
(.cond (.s 11) .skip (.exit 0)))
(.seq (.block 1 (pr [.mv 14 (.s 3), .mv 15 (.s 4), .mv 16 (.s 0), .mv 17 (.s 4), .idx 18 1 (.s 16) (.s 17), .load 19 false 1 (.s 18), .idx 20 1 (.s 14) (.s 15), .store 1 (.s 20) (.s 19)] [0,3,4]))
(pr [.mv 12 (.s 4), .bin 13 false .add (.s 12) (.c (.int .i64 1)), .mv 4 (.s 13)] [0,3,4]))))))
(.seq (pr [.mv 21 (.s 3), .mv 2 (.s 21)] [2])
.ret))))
theorem c_laws_toIntS (xs : List Int) (hs : xs.length ≤ 1073741824) : Ctr Tryd.prog n_laws_toIntS [aL 1 (xs.map encI)] [rL 1 (xs.map encI)] := by
  refine ctr_at (M := m_laws_toIntS) (m := 1) (n := 22) (res := [(.tmp 2, [true])]) hmix Tryd.func10 rfl (by kernel_rfl) rfl (by kernel_rfl) (by kernel_rfl) (Nat.le_of_ble_eq_true rfl) ?_; unfold m_laws_toIntS
  intro hb
  simp only [↓bk_bind, ↓bk_map, ↓bk_ite, ↓bk_some, ↓reduceIte, Nat.reduceEqDiff, Nat.reduceLT, Nat.reduceLeDiff, Nat.reduceAdd, Nat.reduceMul, reduceCtorEq, List.reduceReplicate, go_sem, replicate_toNat]
  refine ⟨⟨by omega, by simp only [roomB]; omega⟩, ?_⟩
  refine loopK_rng xs (fun k => [(4, vI k)]) (fun k => [(0, ⟨0, .row true 1 (filled encI [tI 0] xs k)⟩)]) (fun _ => True) (by simp only [roomB]; omega) ?_
  simp only [↓bk_bind, ↓bk_map, ↓bk_ite, ↓bk_some, ↓reduceIte, Nat.reduceEqDiff, Nat.reduceLT, Nat.reduceLeDiff, Nat.reduceAdd, Nat.reduceMul, reduceCtorEq, List.reduceReplicate, go_sem]
  refine ⟨?_, trivial, ?_, ?_⟩
  · simp only [↓bk_bind, ↓bk_map, ↓bk_ite, ↓bk_some, ↓reduceIte, Nat.reduceEqDiff, Nat.reduceLT, Nat.reduceLeDiff, Nat.reduceAdd, Nat.reduceMul, reduceCtorEq, List.reduceReplicate, go_sem, filled_zero]
    all_goals rfl
  · intro k x hx _ h0 h1 hw
    have h : k < xs.length := by omega
    simp only [↓bk_bind, ↓bk_map, ↓bk_ite, ↓bk_some, ↓reduceIte, Nat.reduceEqDiff, Nat.reduceLT, Nat.reduceLeDiff, Nat.reduceAdd, Nat.reduceMul, reduceCtorEq, List.reduceReplicate, go_sem, bk_eq hx, bk_eq (filled_get h), filled_len (Nat.le_of_lt h), h0, h1, hw]
    exact filled_set hx
  · intro _
    simp only [↓bk_bind, ↓bk_map, ↓bk_ite, ↓bk_some, ↓reduceIte, Nat.reduceEqDiff, Nat.reduceLT, Nat.reduceLeDiff, Nat.reduceAdd, Nat.reduceMul, reduceCtorEq, List.reduceReplicate, go_sem, filled_all]
def m_laws_eqIntS : MC :=
(.seq (pr [.mv 4 (.c (.bool false))] [0,1])
(.seq (.seq (pr [.mv 6 (.s 0), .len 7 false (.s 6), .mv 8 (.s 1), .len 9 false (.s 8), .bin 10 false .neq (.s 7) (.s 9)] [0,1,10])
(.cond (.s 10) (.seq (pr [.mv 4 (.c (.bool false))] [4])
.ret) .skip))
(.seq (.seq (pr [.mv 5 (.c (.int .i64 0))] [0,1,5])
(.block 0 (.loop ([0,1,5], []) (.seq (.seq (pr [.mv 11 (.s 5), .mv 12 (.s 0), .len 13 false (.s 12), .bin 14 false .lss (.s 11) (.s 13)] [0,1,5,14])
(.cond (.s 14) .skip (.exit 0)))
(.seq (.block 1 (.seq (.dreg [{ o := .mv 17 (.s 0), hs := [18,21,22,23,24] }, { o := .mv 18 (.s 5), hs := [17,21,22,23,24] }, { o := .idx 19 1 (.s 17) (.s 18), hs := [21,22,23,24], bf := [0,1] }, { o := .load 20 false 1 (.s 19), hs := [21,22,23,24], bf := [0,1,2] }, { o := .mv 21 (.s 1), hs := [17,18,19,20,22] }, { o := .mv 22 (.s 5), hs := [17,18,19,20,21] }, { o := .idx 23 1 (.s 21) (.s 22), hs := [17,18,19,20], bf := [4,5] }, { o := .load 24 false 1 (.s 23), hs := [17,18,19,20], bf := [4,5,6] }, { o := .bin 25 false .neq (.s 20) (.s 24), bf := [0,1,2,3,4,5,6,7] }] [0,1,5,25])
(.cond (.s 25) (.seq (pr [.mv 4 (.c (.bool false))] [4])
.ret) .skip)))
(pr [.mv 15 (.s 5), .bin 16 false .add (.s 15) (.c (.int .i64 1)), .mv 5 (.s 16)] [0,1,5]))))))
(.seq (pr [.mv 4 (.c (.bool true))] [4])
.ret))))
theorem c_laws_eqIntS (xs ys : List Int) : Ctr Tryd.prog n_laws_eqIntS [aL 1 (xs.map encI), aL 1 (ys.map encI)] [rB (decide (xs = ys))] := by
  refine ctr_at (M := m_laws_eqIntS) (m := 0) (n := 26) (res := [(.tmp 4, [false])]) hmix Tryd.func12 rfl (by kernel_rfl) rfl (by kernel_rfl) (by kernel_rfl) (Nat.le_of_ble_eq_true rfl) ?_; unfold m_laws_eqIntS
  intro hb
  simp only [bdA, bdL, bdT, bdR, bdR_map, wfB_i64, wfB_bool, wfB_str, roomB, and_true, true_and, List.length_map] at hb
  obtain ⟨⟨hl, -⟩, ⟨hl2, -⟩⟩ := hb
  simp only [↓bk_bind, ↓bk_map, ↓bk_ite, ↓bk_some, ↓reduceIte, Nat.reduceEqDiff, Nat.reduceLT, Nat.reduceLeDiff, Nat.reduceAdd, Nat.reduceMul, reduceCtorEq, List.reduceReplicate, go_sem]
  refine ⟨fun h => ne_len h, fun h => ?_⟩
  have hle : xs.length = ys.length := by omega
  refine loopK_rng xs (fun k => [(5, vI k)]) (fun k => []) (fun k => xs.take k = ys.take k) hl ?_
  simp only [↓bk_bind, ↓bk_map, ↓bk_ite, ↓bk_some, ↓reduceIte, Nat.reduceEqDiff, Nat.reduceLT, Nat.reduceLeDiff, Nat.reduceAdd, Nat.reduceMul, reduceCtorEq, List.reduceReplicate, go_sem]
  refine ⟨?_, rfl, ?_, ?_⟩
  · simp only [↓bk_bind, ↓bk_map, ↓bk_ite, ↓bk_some, ↓reduceIte, Nat.reduceEqDiff, Nat.reduceLT, Nat.reduceLeDiff, Nat.reduceAdd, Nat.reduceMul, reduceCtorEq, List.reduceReplicate, go_sem]
  · intro k x hx he h0 h1 hw
    obtain ⟨y, hy⟩ := at_some (show k < ys.length by omega)
    have h2 : (k : Int) < ys.length := by omega
    simp only [↓bk_bind, ↓bk_map, ↓bk_ite, ↓bk_some, ↓reduceIte, Nat.reduceEqDiff, Nat.reduceLT, Nat.reduceLeDiff, Nat.reduceAdd, Nat.reduceMul, reduceCtorEq, List.reduceReplicate, go_sem, bk_eq hx, bk_eq hy, h0, h1, h2, hw]
    exact ⟨fun hn => ne_at hx hy hn, fun hn => (take_eq_step hx hy he).2 hn⟩
  · intro he
    simp only [↓bk_bind, ↓bk_map, ↓bk_ite, ↓bk_some, ↓reduceIte, Nat.reduceEqDiff, Nat.reduceLT, Nat.reduceLeDiff, Nat.reduceAdd, Nat.reduceMul, reduceCtorEq, List.reduceReplicate, go_sem]
    exact eq_all he hle
def m_laws_toAddress : MC :=
(.seq (pr [.box 1 0 (.s 0), .alloc 2 1 [.pl (.sc (.int .i64 0)), .pl (.sc (.int .i64 0)), .pl (.sc (.int .i64 0))]] [1,2])
(.seq (pr [.alloc 3 2 [.pl (.sc (.int .i64 0)), .pl (.sc (.int .i64 0)), .pl (.sc (.int .i64 0))]] [1,2,3])
(.seq (pr [.fld 4 (.s 1) 0, .load 5 false 1 (.s 4), .fld 6 (.s 3) 0, .store 1 (.s 6) (.s 5)] [1,2,3])
(.seq (pr [.fld 7 (.s 1) 1, .load 8 false 1 (.s 7), .fld 9 (.s 3) 1, .store 1 (.s 9) (.s 8)] [1,2,3])
(.seq (pr [.fld 10 (.s 1) 2, .load 11 false 1 (.s 10), .fld 12 (.s 3) 2, .store 1 (.s 12) (.s 11)] [2,3])
(.seq (pr [.load 13 true 3 (.s 3), .store 3 (.s 2) (.s 13)] [2])
.ret))))))
theorem c_laws_toAddress (x : GAddress) : Ctr Tryd.prog n_laws_toAddress [aS x.enc] [rS x.enc] := by
  refine ctr_at (M := m_laws_toAddress) (m := 3) (n := 14) (res := [(.cell 2 true 3, [false, false, false])]) hmix Tryd.func52 rfl (by kernel_rfl) rfl (by kernel_rfl) (by kernel_rfl) (Nat.le_of_ble_eq_true rfl) ?_; unfold m_laws_toAddress
  intro hb
  simp only [↓bk_bind, ↓bk_map, ↓bk_ite, ↓bk_some, ↓reduceIte, Nat.reduceEqDiff, Nat.reduceLT, Nat.reduceLeDiff, Nat.reduceAdd, Nat.reduceMul, reduceCtorEq, List.reduceReplicate, go_sem]
def m_laws_eqAddress : MC :=
(.seq (pr [.box 2 0 (.s 0), .box 3 1 (.s 1), .mv 4 (.c (.bool false))] [2,3])
(.seq (.seq (pr [.fld 5 (.s 2) 0, .load 6 false 1 (.s 5), .fld 7 (.s 3) 0, .load 8 false 1 (.s 7), .bin 9 false .neq (.s 6) (.s 8)] [2,3,9])
(.cond (.s 9) (.seq (pr [.mv 4 (.c (.bool false))] [4])
.ret) .skip))
(.seq (.seq (pr [.fld 10 (.s 2) 1, .load 11 false 1 (.s 10), .fld 12 (.s 3) 1, .load 13 false 1 (.s 12), .bin 14 false .neq (.s 11) (.s 13)] [2,3,14])
(.cond (.s 14) (.seq (pr [.mv 4 (.c (.bool false))] [4])
.ret) .skip))
(.seq (.seq (pr [.fld 15 (.s 2) 2, .load 16 false 1 (.s 15), .fld 17 (.s 3) 2, .load 18 false 1 (.s 17), .bin 19 false .neq (.s 16) (.s 18)] [19])
(.cond (.s 19) (.seq (pr [.mv 4 (.c (.bool false))] [4])
.ret) .skip))
(.seq (pr [.mv 4 (.c (.bool true))] [4])
.ret)))))
theorem c_laws_eqAddress (x y : GAddress) : Ctr Tryd.prog n_laws_eqAddress [aS x.enc, aS y.enc] [rB (decide (x = y))] := by
  refine ctr_at (M := m_laws_eqAddress) (m := 2) (n := 20) (res := [(.tmp 4, [false])]) hmix Tryd.func56 rfl (by kernel_rfl) rfl (by kernel_rfl) (by kernel_rfl) (Nat.le_of_ble_eq_true rfl) ?_; unfold m_laws_eqAddress
  intro hb
  clear hb
  simp only [↓bk_bind, ↓bk_map, ↓bk_ite, ↓bk_some, ↓reduceIte, Nat.reduceEqDiff, Nat.reduceLT, Nat.reduceLeDiff, Nat.reduceAdd, Nat.reduceMul, reduceCtorEq, List.reduceReplicate, go_sem]
  refine ⟨fun h => ?_, fun h_Host => ?_⟩
  · symm
    rw [decide_eq_false_iff_not]
    rintro rfl
    exact h rfl
  refine ⟨fun h => ?_, fun h_Path => ?_⟩
  · symm
    rw [decide_eq_false_iff_not]
    rintro rfl
    exact h rfl
  refine ⟨fun h => ?_, fun h_Query => ?_⟩
  · symm
    rw [decide_eq_false_iff_not]
    rintro rfl
    exact h rfl
  cases x; cases y; simp_all
def m_laws_szResource : MC :=
(.seq (pr [.box 2 0 (.s 0), .mv 4 (.c (.int .i64 0))] [1,2])
(.seq (pr [.fld 5 (.s 2) 1, .load 6 false 1 (.s 5), .mv 7 (.s 1), .call 8 [] (.f n_laws_szIntS) [.s 6, .s 7], .mv 1 (.s 8)] [1])
(.seq (.seq (pr [.mv 9 (.s 1), .bin 10 false .lss (.s 9) (.c (.int .i64 0))] [1,10])
(.cond (.s 10) (.seq (pr [.mv 4 (.c (.int .i64 (-1)))] [4])
.ret) .skip))
(.seq (pr [.mv 11 (.s 1), .mv 4 (.s 11)] [4])
.ret))))
theorem c_laws_szResource (x : GResource) (left : Int) (h0 : 0 ≤ left) : Ctr Tryd.prog n_laws_szResource [aS x.enc, aI left] [rI (szr x.size left)] := by
  refine ctr_at (M := m_laws_szResource) (m := 1) (n := 12) (res := [(.tmp 4, [false])]) hmix Tryd.func49 rfl (by kernel_rfl) rfl (by kernel_rfl) (by kernel_rfl) (Nat.le_of_ble_eq_true rfl) ?_; unfold m_laws_szResource
  intro hb
  simp only [↓bk_bind, ↓bk_map, ↓bk_ite, ↓bk_some, ↓reduceIte, Nat.reduceEqDiff, Nat.reduceLT, Nat.reduceLeDiff, Nat.reduceAdd, Nat.reduceMul, reduceCtorEq, List.reduceReplicate, go_sem]
  refine callK_of (c_laws_szIntS x.Body left h0) ?_
  simp only [↓bk_bind, ↓bk_map, ↓bk_ite, ↓bk_some, ↓reduceIte, Nat.reduceEqDiff, Nat.reduceLT, Nat.reduceLeDiff, Nat.reduceAdd, Nat.reduceMul, reduceCtorEq, List.reduceReplicate, go_sem]
  intro _
  refine ⟨fun h => szr_bad' h0 h (by simp only [GResource.size]; omega), fun h1 => ?_⟩
  rfl
def m_laws_toResource : MC :=
(.seq (pr [.box 1 0 (.s 0), .alloc 2 1 [.pl (.sc (.int .i64 0)), .emp 1, .pl (.sc (.int .i64 0)), .pl (.sc (.int .i64 0)), .pl (.sc (.int .i64 0))]] [1,2])
(.seq (pr [.alloc 3 2 [.pl (.sc (.int .i64 0)), .emp 1, .pl (.sc (.int .i64 0)), .pl (.sc (.int .i64 0)), .pl (.sc (.int .i64 0))]] [1,2,3])
(.seq (pr [.fld 4 (.s 1) 0, .load 5 false 1 (.s 4), .fld 6 (.s 3) 0, .store 1 (.s 6) (.s 5)] [1,2,3])
(.seq (pr [.fld 7 (.s 1) 1, .load 8 false 1 (.s 7), .call 9 [3] (.f n_laws_toIntS) [.s 8], .fld 10 (.s 3) 1, .store 1 (.s 10) (.s 9)] [1,2,3])
(.seq (pr [.fld 11 (.s 1) 2, .load 12 true 3 (.s 11), .call 13 [] (.f n_laws_toAddress) [.s 12], .fld 14 (.s 3) 2, .store 3 (.s 14) (.s 13)] [2,3])
(.seq (pr [.load 15 true 5 (.s 3), .store 5 (.s 2) (.s 15)] [2])
.ret))))))
theorem c_laws_toResource (x : GResource) (hs : x.size ≤ 1073741824) : Ctr Tryd.prog n_laws_toResource [aS x.enc] [rS x.enc] := by
  refine ctr_at (M := m_laws_toResource) (m := 4) (n := 16) (res := [(.cell 2 true 5, [false, true, false, false, false])]) hmix Tryd.func53 rfl (by kernel_rfl) rfl (by kernel_rfl) (by kernel_rfl) (Nat.le_of_ble_eq_true rfl) ?_; unfold m_laws_toResource
  intro hb
  simp only [GResource.size] at hs
  simp only [↓bk_bind, ↓bk_map, ↓bk_ite, ↓bk_some, ↓reduceIte, Nat.reduceEqDiff, Nat.reduceLT, Nat.reduceLeDiff, Nat.reduceAdd, Nat.reduceMul, reduceCtorEq, List.reduceReplicate, go_sem]
  refine callK_of (c_laws_toIntS x.Body (by omega)) ?_
  simp only [↓bk_bind, ↓bk_map, ↓bk_ite, ↓bk_some, ↓reduceIte, Nat.reduceEqDiff, Nat.reduceLT, Nat.reduceLeDiff, Nat.reduceAdd, Nat.reduceMul, reduceCtorEq, List.reduceReplicate, go_sem]
  try intros
  refine callK_of (c_laws_toAddress x.To) ?_
  simp only [↓bk_bind, ↓bk_map, ↓bk_ite, ↓bk_some, ↓reduceIte, Nat.reduceEqDiff, Nat.reduceLT, Nat.reduceLeDiff, Nat.reduceAdd, Nat.reduceMul, reduceCtorEq, List.reduceReplicate, go_sem]
  try intros
def m_laws_eqResource : MC :=
(.seq (pr [.box 2 0 (.s 0), .box 3 1 (.s 1), .mv 4 (.c (.bool false))] [2,3])
(.seq (.seq (pr [.fld 5 (.s 2) 0, .load 6 false 1 (.s 5), .fld 7 (.s 3) 0, .load 8 false 1 (.s 7), .bin 9 false .neq (.s 6) (.s 8)] [2,3,9])
(.cond (.s 9) (.seq (pr [.mv 4 (.c (.bool false))] [4])
.ret) .skip))
(.seq (.seq (pr [.fld 10 (.s 2) 1, .load 11 false 1 (.s 10), .fld 12 (.s 3) 1, .load 13 false 1 (.s 12), .call 14 [] (.f n_laws_eqIntS) [.s 11, .s 13], .un 15 .not (.s 14)] [2,3,15])
(.cond (.s 15) (.seq (pr [.mv 4 (.c (.bool false))] [4])
.ret) .skip))
(.seq (.seq (pr [.fld 16 (.s 2) 2, .load 17 true 3 (.s 16), .fld 18 (.s 3) 2, .load 19 true 3 (.s 18), .call 20 [] (.f n_laws_eqAddress) [.s 17, .s 19], .un 21 .not (.s 20)] [21])
(.cond (.s 21) (.seq (pr [.mv 4 (.c (.bool false))] [4])
.ret) .skip))
(.seq (pr [.mv 4 (.c (.bool true))] [4])
.ret)))))
theorem c_laws_eqResource (x y : GResource) : Ctr Tryd.prog n_laws_eqResource [aS x.enc, aS y.enc] [rB (decide (x = y))] := by
  refine ctr_at (M := m_laws_eqResource) (m := 2) (n := 22) (res := [(.tmp 4, [false])]) hmix Tryd.func57 rfl (by kernel_rfl) rfl (by kernel_rfl) (by kernel_rfl) (Nat.le_of_ble_eq_true rfl) ?_; unfold m_laws_eqResource
  intro hb
  clear hb
  simp only [↓bk_bind, ↓bk_map, ↓bk_ite, ↓bk_some, ↓reduceIte, Nat.reduceEqDiff, Nat.reduceLT, Nat.reduceLeDiff, Nat.reduceAdd, Nat.reduceMul, reduceCtorEq, List.reduceReplicate, go_sem]
  refine ⟨fun h => ?_, fun h_Kind => ?_⟩
  · symm
    rw [decide_eq_false_iff_not]
    rintro rfl
    exact h rfl
  refine callK_of (c_laws_eqIntS x.Body y.Body) ?_
  simp only [↓bk_bind, ↓bk_map, ↓bk_ite, ↓bk_some, ↓reduceIte, Nat.reduceEqDiff, Nat.reduceLT, Nat.reduceLeDiff, Nat.reduceAdd, Nat.reduceMul, reduceCtorEq, List.reduceReplicate, go_sem]
  refine ⟨fun h => ?_, fun h_Body => ?_⟩
  · symm
    rw [decide_eq_false_iff_not]
    rintro rfl
    exact h rfl
  refine callK_of (c_laws_eqAddress x.To y.To) ?_
  simp only [↓bk_bind, ↓bk_map, ↓bk_ite, ↓bk_some, ↓reduceIte, Nat.reduceEqDiff, Nat.reduceLT, Nat.reduceLeDiff, Nat.reduceAdd, Nat.reduceMul, reduceCtorEq, List.reduceReplicate, go_sem]
  refine ⟨fun h => ?_, fun h_To => ?_⟩
  · symm
    rw [decide_eq_false_iff_not]
    rintro rfl
    exact h rfl
  cases x; cases y; simp_all
def m_laws_szVersion : MC :=
(.seq (pr [.box 2 0 (.s 0), .mv 4 (.c (.int .i64 0))] [1,2])
(.seq (pr [.fld 5 (.s 2) 4, .load 6 true 5 (.s 5), .mv 7 (.s 1), .call 8 [] (.f n_laws_szResource) [.s 6, .s 7], .mv 1 (.s 8)] [1])
(.seq (.seq (pr [.mv 9 (.s 1), .bin 10 false .lss (.s 9) (.c (.int .i64 0))] [1,10])
(.cond (.s 10) (.seq (pr [.mv 4 (.c (.int .i64 (-1)))] [4])
.ret) .skip))
(.seq (pr [.mv 11 (.s 1), .mv 4 (.s 11)] [4])
.ret))))
theorem c_laws_szVersion (x : GVersion) (left : Int) (h0 : 0 ≤ left) : Ctr Tryd.prog n_laws_szVersion [aS x.enc, aI left] [rI (szr x.size left)] := by
  refine ctr_at (M := m_laws_szVersion) (m := 1) (n := 12) (res := [(.tmp 4, [false])]) hmix Tryd.func93 rfl (by kernel_rfl) rfl (by kernel_rfl) (by kernel_rfl) (Nat.le_of_ble_eq_true rfl) ?_; unfold m_laws_szVersion
  intro hb
  simp only [↓bk_bind, ↓bk_map, ↓bk_ite, ↓bk_some, ↓reduceIte, Nat.reduceEqDiff, Nat.reduceLT, Nat.reduceLeDiff, Nat.reduceAdd, Nat.reduceMul, reduceCtorEq, List.reduceReplicate, go_sem]
  refine callK_of (c_laws_szResource x.Resource left h0) ?_
  simp only [↓bk_bind, ↓bk_map, ↓bk_ite, ↓bk_some, ↓reduceIte, Nat.reduceEqDiff, Nat.reduceLT, Nat.reduceLeDiff, Nat.reduceAdd, Nat.reduceMul, reduceCtorEq, List.reduceReplicate, go_sem]
  intro _
  refine ⟨fun h => szr_bad' h0 h (by simp only [GVersion.size]; omega), fun h1 => ?_⟩
  rfl
def m_laws_toVersion : MC :=
(.seq (pr [.box 1 0 (.s 0), .alloc 2 1 [.pl (.sc (.int .i64 0)), .pl (.sc (.int .i64 0)), .pl (.sc (.int .i64 0)), .pl (.sc (.int .i64 0)), .pl (.sc (.int .i64 0)), .emp 1, .pl (.sc (.int .i64 0)), .pl (.sc (.int .i64 0)), .pl (.sc (.int .i64 0))]] [1,2])
(.seq (pr [.alloc 3 2 [.pl (.sc (.int .i64 0)), .pl (.sc (.int .i64 0)), .pl (.sc (.int .i64 0)), .pl (.sc (.int .i64 0)), .pl (.sc (.int .i64 0)), .emp 1, .pl (.sc (.int .i64 0)), .pl (.sc (.int .i64 0)), .pl (.sc (.int .i64 0))]] [1,2,3])
(.seq (pr [.fld 4 (.s 1) 0, .load 5 true 3 (.s 4), .call 6 [] (.f n_laws_toAddress) [.s 5], .fld 7 (.s 3) 0, .store 3 (.s 7) (.s 6)] [1,2,3])
(.seq (pr [.fld 8 (.s 1) 3, .load 9 false 1 (.s 8), .fld 10 (.s 3) 3, .store 1 (.s 10) (.s 9)] [1,2,3])
(.seq (pr [.fld 11 (.s 1) 4, .load 12 true 5 (.s 11), .call 13 [3] (.f n_laws_toResource) [.s 12], .fld 14 (.s 3) 4, .store 5 (.s 14) (.s 13)] [2,3])
(.seq (pr [.load 15 true 9 (.s 3), .store 9 (.s 2) (.s 15)] [2])
.ret))))))
theorem c_laws_toVersion (x : GVersion) (hs : x.size ≤ 1073741824) : Ctr Tryd.prog n_laws_toVersion [aS x.enc] [rS x.enc] := by
  refine ctr_at (M := m_laws_toVersion) (m := 4) (n := 16) (res := [(.cell 2 true 9, [false, false, false, false, false, true, false, false, false])]) hmix Tryd.func97 rfl (by kernel_rfl) rfl (by kernel_rfl) (by kernel_rfl) (Nat.le_of_ble_eq_true rfl) ?_; unfold m_laws_toVersion
  intro hb
  simp only [GVersion.size] at hs
  simp only [↓bk_bind, ↓bk_map, ↓bk_ite, ↓bk_some, ↓reduceIte, Nat.reduceEqDiff, Nat.reduceLT, Nat.reduceLeDiff, Nat.reduceAdd, Nat.reduceMul, reduceCtorEq, List.reduceReplicate, go_sem]
  refine callK_of (c_laws_toAddress x.Address) ?_
  simp only [↓bk_bind, ↓bk_map, ↓bk_ite, ↓bk_some, ↓reduceIte, Nat.reduceEqDiff, Nat.reduceLT, Nat.reduceLeDiff, Nat.reduceAdd, Nat.reduceMul, reduceCtorEq, List.reduceReplicate, go_sem]
  try intros
  refine callK_of (c_laws_toResource x.Resource (by omega)) ?_
  simp only [↓bk_bind, ↓bk_map, ↓bk_ite, ↓bk_some, ↓reduceIte, Nat.reduceEqDiff, Nat.reduceLT, Nat.reduceLeDiff, Nat.reduceAdd, Nat.reduceMul, reduceCtorEq, List.reduceReplicate, go_sem]
  try intros
def m_laws_eqVersion : MC :=
(.seq (pr [.box 2 0 (.s 0), .box 3 1 (.s 1), .mv 4 (.c (.bool false))] [2,3])
(.seq (.seq (pr [.fld 5 (.s 2) 0, .load 6 true 3 (.s 5), .fld 7 (.s 3) 0, .load 8 true 3 (.s 7), .call 9 [] (.f n_laws_eqAddress) [.s 6, .s 8], .un 10 .not (.s 9)] [2,3,10])
(.cond (.s 10) (.seq (pr [.mv 4 (.c (.bool false))] [4])
.ret) .skip))
(.seq (.seq (pr [.fld 11 (.s 2) 3, .load 12 false 1 (.s 11), .fld 13 (.s 3) 3, .load 14 false 1 (.s 13), .bin 15 false .neq (.s 12) (.s 14)] [2,3,15])
(.cond (.s 15) (.seq (pr [.mv 4 (.c (.bool false))] [4])
.ret) .skip))
(.seq (.seq (pr [.fld 16 (.s 2) 4, .load 17 true 5 (.s 16), .fld 18 (.s 3) 4, .load 19 true 5 (.s 18), .call 20 [] (.f n_laws_eqResource) [.s 17, .s 19], .un 21 .not (.s 20)] [21])
(.cond (.s 21) (.seq (pr [.mv 4 (.c (.bool false))] [4])
.ret) .skip))
(.seq (pr [.mv 4 (.c (.bool true))] [4])
.ret)))))
theorem c_laws_eqVersion (x y : GVersion) : Ctr Tryd.prog n_laws_eqVersion [aS x.enc, aS y.enc] [rB (decide (x = y))] := by
  refine ctr_at (M := m_laws_eqVersion) (m := 2) (n := 22) (res := [(.tmp 4, [false])]) hmix Tryd.func104 rfl (by kernel_rfl) rfl (by kernel_rfl) (by kernel_rfl) (Nat.le_of_ble_eq_true rfl) ?_; unfold m_laws_eqVersion
  intro hb
  clear hb
  simp only [↓bk_bind, ↓bk_map, ↓bk_ite, ↓bk_some, ↓reduceIte, Nat.reduceEqDiff, Nat.reduceLT, Nat.reduceLeDiff, Nat.reduceAdd, Nat.reduceMul, reduceCtorEq, List.reduceReplicate, go_sem]
  refine callK_of (c_laws_eqAddress x.Address y.Address) ?_
  simp only [↓bk_bind, ↓bk_map, ↓bk_ite, ↓bk_some, ↓reduceIte, Nat.reduceEqDiff, Nat.reduceLT, Nat.reduceLeDiff, Nat.reduceAdd, Nat.reduceMul, reduceCtorEq, List.reduceReplicate, go_sem]
  refine ⟨fun h => ?_, fun h_Address => ?_⟩
  · symm
    rw [decide_eq_false_iff_not]
    rintro rfl
    exact h rfl
  refine ⟨fun h => ?_, fun h_From => ?_⟩
  · symm
    rw [decide_eq_false_iff_not]
    rintro rfl
    exact h rfl
  refine callK_of (c_laws_eqResource x.Resource y.Resource) ?_
  simp only [↓bk_bind, ↓bk_map, ↓bk_ite, ↓bk_some, ↓reduceIte, Nat.reduceEqDiff, Nat.reduceLT, Nat.reduceLeDiff, Nat.reduceAdd, Nat.reduceMul, reduceCtorEq, List.reduceReplicate, go_sem]
  refine ⟨fun h => ?_, fun h_Resource => ?_⟩
  · symm
    rw [decide_eq_false_iff_not]
    rintro rfl
    exact h rfl
  cases x; cases y; simp_all
def m_laws_szVersionS : MC :=
(.seq (pr [.mv 4 (.c (.int .i64 0))] [0,1])
(.seq (pr [.mv 6 (.s 1), .mv 7 (.s 0), .len 8 false (.s 7), .bin 9 false .sub (.s 6) (.s 8), .mv 1 (.s 9)] [0,1])
(.seq (.seq (pr [.mv 10 (.s 1), .bin 11 false .lss (.s 10) (.c (.int .i64 0))] [0,1,11])
(.cond (.s 11) (.seq (pr [.mv 4 (.c (.int .i64 (-1)))] [4])
.ret) .skip))
(.seq (.seq (pr [.mv 5 (.c (.int .i64 0))] [0,1,5])
(.block 0 (.loop ([0,1,5], []) (.seq (.seq (pr [.mv 12 (.s 5), .mv 13 (.s 0), .len 14 false (.s 13), .bin 15 false .lss (.s 12) (.s 14)] [0,1,5,15])
(.cond (.s 15) .skip (.exit 0)))
(.seq (.block 1 (.seq (pr [.mv 18 (.s 0), .mv 19 (.s 5), .idx 20 9 (.s 18) (.s 19), .load 21 true 9 (.s 20), .mv 22 (.s 1), .call 23 [] (.f n_laws_szVersion) [.s 21, .s 22], .mv 1 (.s 23)] [0,1,5])
(.seq (pr [.mv 24 (.s 1), .bin 25 false .lss (.s 24) (.c (.int .i64 0))] [0,1,5,25])
(.cond (.s 25) (.seq (pr [.mv 4 (.c (.int .i64 (-1)))] [4])
.ret) .skip))))
(pr [.mv 16 (.s 5), .bin 17 false .add (.s 16) (.c (.int .i64 1)), .mv 5 (.s 17)] [0,1,5]))))))
(.seq (pr [.mv 26 (.s 1), .mv 4 (.s 26)] [4])
.ret)))))
theorem c_laws_szVersionS (xs : List GVersion) (left : Int) (h0 : 0 ≤ left) : Ctr Tryd.prog n_laws_szVersionS [aL 9 (xs.map GVersion.enc), aI left] [rI (szr (xs.length + (xs.map GVersion.size).sum) left)] := by
  refine ctr_at (M := m_laws_szVersionS) (m := 0) (n := 27) (res := [(.tmp 4, [false])]) hmix Tryd.func64 rfl (by kernel_rfl) rfl (by kernel_rfl) (by kernel_rfl) (Nat.le_of_ble_eq_true rfl) ?_; unfold m_laws_szVersionS
  intro hb
  simp only [bdA, bdL, bdT, bdR, bdR_map, wfB_i64, wfB_bool, wfB_str, roomB, and_true, true_and, List.length_map] at hb
  obtain ⟨⟨hl, -⟩, hn⟩ := hb
  simp only [↓bk_bind, ↓bk_map, ↓bk_ite, ↓bk_some, ↓reduceIte, Nat.reduceEqDiff, Nat.reduceLT, Nat.reduceLeDiff, Nat.reduceAdd, Nat.reduceMul, reduceCtorEq, List.reduceReplicate, go_sem]
  rw [wI (by omega) (by omega)]
  refine ⟨fun h => ?_, fun h => ?_⟩
  · exact szr_bad' (n := xs.length) h0 ((szr_neg h0).2 (by omega)) (by omega)
  · have hz : szr xs.length left = left - xs.length := by unfold szr; rw [if_pos (by omega)]
    rw [← hz] at h ⊢
    refine loopK_rng xs (fun k => [(1, vI (szr (xs.length + ((xs.take k).map GVersion.size).sum) left)), (5, vI k)]) (fun k => []) (fun k => ¬ szr (xs.length + ((xs.take k).map GVersion.size).sum) left < 0) hl ?_
    simp only [↓bk_bind, ↓bk_map, ↓bk_ite, ↓bk_some, ↓reduceIte, Nat.reduceEqDiff, Nat.reduceLT, Nat.reduceLeDiff, Nat.reduceAdd, Nat.reduceMul, reduceCtorEq, List.reduceReplicate, go_sem]
    refine ⟨?_, by simpa using h, ?_, ?_⟩
    · simp only [↓bk_bind, ↓bk_map, ↓bk_ite, ↓bk_some, ↓reduceIte, Nat.reduceEqDiff, Nat.reduceLT, Nat.reduceLeDiff, Nat.reduceAdd, Nat.reduceMul, reduceCtorEq, List.reduceReplicate, go_sem, List.take_zero, List.map_nil, List.sum_nil, Nat.add_zero]
      all_goals rfl
    · intro k x hx hs hk0 h1 hw
      obtain ⟨a1, a2, a3⟩ := szr_add (m := x.size) h0 hs
      rw [Nat.add_assoc, ← sum_snoc hx] at a3
      simp only [↓bk_bind, ↓bk_map, ↓bk_ite, ↓bk_some, ↓reduceIte, Nat.reduceEqDiff, Nat.reduceLT, Nat.reduceLeDiff, Nat.reduceAdd, Nat.reduceMul, reduceCtorEq, List.reduceReplicate, go_sem, bk_eq hx, hk0, h1, hw]
      refine callK_of (c_laws_szVersion x _ a1) ?_
      rw [← a3]
      simp only [↓bk_bind, ↓bk_map, ↓bk_ite, ↓bk_some, ↓reduceIte, Nat.reduceEqDiff, Nat.reduceLT, Nat.reduceLeDiff, Nat.reduceAdd, Nat.reduceMul, reduceCtorEq, List.reduceReplicate, go_sem, hw]
      intro _
      refine ⟨fun hn => ?_, fun hn => hn⟩
      have := sum_take_le (f := GVersion.size) xs (k + 1)
      exact szr_bad' h0 hn (by omega)
    · intro _
      simp only [↓bk_bind, ↓bk_map, ↓bk_ite, ↓bk_some, ↓reduceIte, Nat.reduceEqDiff, Nat.reduceLT, Nat.reduceLeDiff, Nat.reduceAdd, Nat.reduceMul, reduceCtorEq, List.reduceReplicate, go_sem, List.take_length]
def m_laws_toVersionS : MC :=
(.seq (pr [.nilo 2 0 9] [0])
(.seq (pr [.mv 5 (.s 0), .len 6 false (.s 5), .mk 7 0 9 88 [.sc (.int .i64 0), .sc (.int .i64 0), .sc (.int .i64 0), .sc (.int .i64 0), .sc (.int .i64 0), .sl 1 [], .sc (.int .i64 0), .sc (.int .i64 0), .sc (.int .i64 0)] (.s 6), .mv 3 (.s 7)] [0,3])
(.seq (.seq (pr [.mv 4 (.c (.int .i64 0))] [0,3,4])
(.block 0 (.loop ([0,3,4], [1]) (.seq (.seq (pr [.mv 8 (.s 4), .mv 9 (.s 0), .len 10 false (.s 9), .bin 11 false .lss (.s 8) (.s 10)] [0,3,4,11])
(.cond (.s 11) .skip (.exit 0)))
(.seq (.block 1 (pr [.mv 14 (.s 3), .mv 15 (.s 4), .mv 16 (.s 0), .mv 17 (.s 4), .idx 18 9 (.s 16) (.s 17), .load 19 true 9 (.s 18), .call 20 [1] (.f n_laws_toVersion) [.s 19], .idx 21 9 (.s 14) (.s 15), .store 9 (.s 21) (.s 20)] [0,3,4]))
(pr [.mv 12 (.s 4), .bin 13 false .add (.s 12) (.c (.int .i64 1)), .mv 4 (.s 13)] [0,3,4]))))))
(.seq (pr [.mv 22 (.s 3), .mv 2 (.s 22)] [2])
.ret))))
theorem c_laws_toVersionS (xs : List GVersion) (hs : xs.length + (xs.map GVersion.size).sum ≤ 1073741824) : Ctr Tryd.prog n_laws_toVersionS [aL 9 (xs.map GVersion.enc)] [rL 9 (xs.map GVersion.enc)] := by
  refine ctr_at (M := m_laws_toVersionS) (m := 2) (n := 23) (res := [(.tmp 2, [true])]) hmix Tryd.func71 rfl (by kernel_rfl) rfl (by kernel_rfl) (by kernel_rfl) (Nat.le_of_ble_eq_true rfl) ?_; unfold m_laws_toVersionS
  intro hb
  simp only [↓bk_bind, ↓bk_map, ↓bk_ite, ↓bk_some, ↓reduceIte, Nat.reduceEqDiff, Nat.reduceLT, Nat.reduceLeDiff, Nat.reduceAdd, Nat.reduceMul, reduceCtorEq, List.reduceReplicate, go_sem, replicate_toNat]
  refine ⟨⟨by omega, by simp only [roomB]; omega⟩, ?_⟩
  refine loopK_rng xs (fun k => [(4, vI k)]) (fun k => [(0, ⟨0, .row true 9 (filled GVersion.enc [tI 0, tI 0, tI 0, tI 0, tI 0, .sl 1 [], tI 0, tI 0, tI 0] xs k)⟩)]) (fun _ => True) (by simp only [roomB]; omega) ?_
  simp only [↓bk_bind, ↓bk_map, ↓bk_ite, ↓bk_some, ↓reduceIte, Nat.reduceEqDiff, Nat.reduceLT, Nat.reduceLeDiff, Nat.reduceAdd, Nat.reduceMul, reduceCtorEq, List.reduceReplicate, go_sem]
  refine ⟨?_, trivial, ?_, ?_⟩
  · simp only [↓bk_bind, ↓bk_map, ↓bk_ite, ↓bk_some, ↓reduceIte, Nat.reduceEqDiff, Nat.reduceLT, Nat.reduceLeDiff, Nat.reduceAdd, Nat.reduceMul, reduceCtorEq, List.reduceReplicate, go_sem, filled_zero]
    all_goals rfl
  · intro k x hx _ h0 h1 hw
    have h : k < xs.length := by omega
    simp only [↓bk_bind, ↓bk_map, ↓bk_ite, ↓bk_some, ↓reduceIte, Nat.reduceEqDiff, Nat.reduceLT, Nat.reduceLeDiff, Nat.reduceAdd, Nat.reduceMul, reduceCtorEq, List.reduceReplicate, go_sem, bk_eq hx, bk_eq (filled_get h), filled_len (Nat.le_of_lt h), h0, h1, hw]
    have hx1 := mem_sum (f := GVersion.size) (at_mem hx)
    refine callK_of (c_laws_toVersion x (by omega)) ?_
    simp only [↓bk_bind, ↓bk_map, ↓bk_ite, ↓bk_some, ↓reduceIte, Nat.reduceEqDiff, Nat.reduceLT, Nat.reduceLeDiff, Nat.reduceAdd, Nat.reduceMul, reduceCtorEq, List.reduceReplicate, go_sem, bk_eq hx, bk_eq (filled_get h), filled_len (Nat.le_of_lt h), h0, h1, hw]
    intros; exact filled_set hx
  · intro _
    simp only [↓bk_bind, ↓bk_map, ↓bk_ite, ↓bk_some, ↓reduceIte, Nat.reduceEqDiff, Nat.reduceLT, Nat.reduceLeDiff, Nat.reduceAdd, Nat.reduceMul, reduceCtorEq, List.reduceReplicate, go_sem, filled_all]
def m_laws_eqVersionS : MC :=
(.seq (pr [.mv 4 (.c (.bool false))] [0,1])
(.seq (.seq (pr [.mv 6 (.s 0), .len 7 false (.s 6), .mv 8 (.s 1), .len 9 false (.s 8), .bin 10 false .neq (.s 7) (.s 9)] [0,1,10])
(.cond (.s 10) (.seq (pr [.mv 4 (.c (.bool false))] [4])
.ret) .skip))
(.seq (.seq (pr [.mv 5 (.c (.int .i64 0))] [0,1,5])
(.block 0 (.loop ([0,1,5], []) (.seq (.seq (pr [.mv 11 (.s 5), .mv 12 (.s 0), .len 13 false (.s 12), .bin 14 false .lss (.s 11) (.s 13)] [0,1,5,14])
(.cond (.s 14) .skip (.exit 0)))
(.seq (.block 1 (.seq (.dreg [{ o := .mv 17 (.s 0), hs := [18,21,22,23,24] }, { o := .mv 18 (.s 5), hs := [17,21,22,23,24] }, { o := .idx 19 9 (.s 17) (.s 18), hs := [21,22,23,24], bf := [0,1] }, { o := .load 20 true 9 (.s 19), hs := [21,22,23,24], bf := [0,1,2] }, { o := .mv 21 (.s 1), hs := [17,18,19,20,22] }, { o := .mv 22 (.s 5), hs := [17,18,19,20,21] }, { o := .idx 23 9 (.s 21) (.s 22), hs := [17,18,19,20], bf := [4,5] }, { o := .load 24 true 9 (.s 23), hs := [17,18,19,20], bf := [4,5,6] }, { o := .call 25 [] (.f n_laws_eqVersion) [.s 20, .s 24], bf := [0,1,2,3,4,5,6,7] }, { o := .un 26 .not (.s 25), bf := [0,1,2,3,4,5,6,7,8] }] [0,1,5,26])
(.cond (.s 26) (.seq (pr [.mv 4 (.c (.bool false))] [4])
.ret) .skip)))
(pr [.mv 15 (.s 5), .bin 16 false .add (.s 15) (.c (.int .i64 1)), .mv 5 (.s 16)] [0,1,5]))))))
(.seq (pr [.mv 4 (.c (.bool true))] [4])
.ret))))
theorem c_laws_eqVersionS (xs ys : List GVersion) : Ctr Tryd.prog n_laws_eqVersionS [aL 9 (xs.map GVersion.enc), aL 9 (ys.map GVersion.enc)] [rB (decide (xs = ys))] := by
  refine ctr_at (M := m_laws_eqVersionS) (m := 0) (n := 27) (res := [(.tmp 4, [false])]) hmix Tryd.func77 rfl (by kernel_rfl) rfl (by kernel_rfl) (by kernel_rfl) (Nat.le_of_ble_eq_true rfl) ?_; unfold m_laws_eqVersionS
  intro hb
  simp only [bdA, bdL, bdT, bdR, bdR_map, wfB_i64, wfB_bool, wfB_str, roomB, and_true, true_and, List.length_map] at hb
  obtain ⟨⟨hl, -⟩, ⟨hl2, -⟩⟩ := hb
  simp only [↓bk_bind, ↓bk_map, ↓bk_ite, ↓bk_some, ↓reduceIte, Nat.reduceEqDiff, Nat.reduceLT, Nat.reduceLeDiff, Nat.reduceAdd, Nat.reduceMul, reduceCtorEq, List.reduceReplicate, go_sem]
  refine ⟨fun h => ne_len h, fun h => ?_⟩
  have hle : xs.length = ys.length := by omega
  refine loopK_rng xs (fun k => [(5, vI k)]) (fun k => []) (fun k => xs.take k = ys.take k) hl ?_
  simp only [↓bk_bind, ↓bk_map, ↓bk_ite, ↓bk_some, ↓reduceIte, Nat.reduceEqDiff, Nat.reduceLT, Nat.reduceLeDiff, Nat.reduceAdd, Nat.reduceMul, reduceCtorEq, List.reduceReplicate, go_sem]
  refine ⟨?_, rfl, ?_, ?_⟩
  · simp only [↓bk_bind, ↓bk_map, ↓bk_ite, ↓bk_some, ↓reduceIte, Nat.reduceEqDiff, Nat.reduceLT, Nat.reduceLeDiff, Nat.reduceAdd, Nat.reduceMul, reduceCtorEq, List.reduceReplicate, go_sem]
  · intro k x hx he h0 h1 hw
    obtain ⟨y, hy⟩ := at_some (show k < ys.length by omega)
    have h2 : (k : Int) < ys.length := by omega
    simp only [↓bk_bind, ↓bk_map, ↓bk_ite, ↓bk_some, ↓reduceIte, Nat.reduceEqDiff, Nat.reduceLT, Nat.reduceLeDiff, Nat.reduceAdd, Nat.reduceMul, reduceCtorEq, List.reduceReplicate, go_sem, bk_eq hx, bk_eq hy, h0, h1, h2, hw]
    refine callK_of (c_laws_eqVersion x y) ?_
    simp only [↓bk_bind, ↓bk_map, ↓bk_ite, ↓bk_some, ↓reduceIte, Nat.reduceEqDiff, Nat.reduceLT, Nat.reduceLeDiff, Nat.reduceAdd, Nat.reduceMul, reduceCtorEq, List.reduceReplicate, go_sem, hw]
    exact ⟨fun hn => ne_at hx hy hn, fun hn => (take_eq_step hx hy he).2 hn⟩
  · intro he
    simp only [↓bk_bind, ↓bk_map, ↓bk_ite, ↓bk_some, ↓reduceIte, Nat.reduceEqDiff, Nat.reduceLT, Nat.reduceLeDiff, Nat.reduceAdd, Nat.reduceMul, reduceCtorEq, List.reduceReplicate, go_sem]
    exact eq_all he hle
def m_laws_toOp : MC :=
(.seq (pr [.box 1 0 (.s 0), .alloc 2 1 [.pl (.sc (.int .i64 0)), .pl (.sc (.int .i64 0)), .pl (.sc (.int .i64 0)), .pl (.sc (.int .i64 0))]] [1,2])
(.seq (pr [.alloc 3 2 [.pl (.sc (.int .i64 0)), .pl (.sc (.int .i64 0)), .pl (.sc (.int .i64 0)), .pl (.sc (.int .i64 0))]] [1,2,3])
(.seq (pr [.fld 4 (.s 1) 0, .load 5 false 1 (.s 4), .fld 6 (.s 3) 0, .store 1 (.s 6) (.s 5)] [1,2,3])
(.seq (pr [.fld 7 (.s 1) 1, .load 8 false 1 (.s 7), .fld 9 (.s 3) 1, .store 1 (.s 9) (.s 8)] [1,2,3])
(.seq (pr [.fld 10 (.s 1) 2, .load 11 false 1 (.s 10), .fld 12 (.s 3) 2, .store 1 (.s 12) (.s 11)] [1,2,3])
(.seq (pr [.fld 13 (.s 1) 3, .load 14 false 1 (.s 13), .fld 15 (.s 3) 3, .store 1 (.s 15) (.s 14)] [2,3])
(.seq (pr [.load 16 true 4 (.s 3), .store 4 (.s 2) (.s 16)] [2])
.ret)))))))
theorem c_laws_toOp (x : GOp) : Ctr Tryd.prog n_laws_toOp [aS x.enc] [rS x.enc] := by
  refine ctr_at (M := m_laws_toOp) (m := 3) (n := 17) (res := [(.cell 2 true 4, [false, false, false, false])]) hmix Tryd.func98 rfl (by kernel_rfl) rfl (by kernel_rfl) (by kernel_rfl) (Nat.le_of_ble_eq_true rfl) ?_; unfold m_laws_toOp
  intro hb
  simp only [↓bk_bind, ↓bk_map, ↓bk_ite, ↓bk_some, ↓reduceIte, Nat.reduceEqDiff, Nat.reduceLT, Nat.reduceLeDiff, Nat.reduceAdd, Nat.reduceMul, reduceCtorEq, List.reduceReplicate, go_sem]
def m_laws_eqOp : MC :=
(.seq (pr [.box 2 0 (.s 0), .box 3 1 (.s 1), .mv 4 (.c (.bool false))] [2,3])
(.seq (.seq (pr [.fld 5 (.s 2) 0, .load 6 false 1 (.s 5), .fld 7 (.s 3) 0, .load 8 false 1 (.s 7), .bin 9 false .neq (.s 6) (.s 8)] [2,3,9])
(.cond (.s 9) (.seq (pr [.mv 4 (.c (.bool false))] [4])
.ret) .skip))
(.seq (.seq (pr [.fld 10 (.s 2) 1, .load 11 false 1 (.s 10), .fld 12 (.s 3) 1, .load 13 false 1 (.s 12), .bin 14 false .neq (.s 11) (.s 13)] [2,3,14])
(.cond (.s 14) (.seq (pr [.mv 4 (.c (.bool false))] [4])
.ret) .skip))
(.seq (.seq (pr [.fld 15 (.s 2) 2, .load 16 false 1 (.s 15), .fld 17 (.s 3) 2, .load 18 false 1 (.s 17), .bin 19 false .neq (.s 16) (.s 18)] [2,3,19])
(.cond (.s 19) (.seq (pr [.mv 4 (.c (.bool false))] [4])
.ret) .skip))
(.seq (.seq (pr [.fld 20 (.s 2) 3, .load 21 false 1 (.s 20), .fld 22 (.s 3) 3, .load 23 false 1 (.s 22), .bin 24 false .neq (.s 21) (.s 23)] [24])
(.cond (.s 24) (.seq (pr [.mv 4 (.c (.bool false))] [4])
.ret) .skip))
(.seq (pr [.mv 4 (.c (.bool true))] [4])
.ret))))))
theorem c_laws_eqOp (x y : GOp) : Ctr Tryd.prog n_laws_eqOp [aS x.enc, aS y.enc] [rB (decide (x = y))] := by
  refine ctr_at (M := m_laws_eqOp) (m := 2) (n := 25) (res := [(.tmp 4, [false])]) hmix Tryd.func105 rfl (by kernel_rfl) rfl (by kernel_rfl) (by kernel_rfl) (Nat.le_of_ble_eq_true rfl) ?_; unfold m_laws_eqOp
  intro hb
  clear hb
  simp only [↓bk_bind, ↓bk_map, ↓bk_ite, ↓bk_some, ↓reduceIte, Nat.reduceEqDiff, Nat.reduceLT, Nat.reduceLeDiff, Nat.reduceAdd, Nat.reduceMul, reduceCtorEq, List.reduceReplicate, go_sem]
  refine ⟨fun h => ?_, fun h_Kind => ?_⟩
  · symm
    rw [decide_eq_false_iff_not]
    rintro rfl
    exact h rfl
  refine ⟨fun h => ?_, fun h_A => ?_⟩
  · symm
    rw [decide_eq_false_iff_not]
    rintro rfl
    exact h rfl
  refine ⟨fun h => ?_, fun h_B => ?_⟩
  · symm
    rw [decide_eq_false_iff_not]
    rintro rfl
    exact h rfl
  refine ⟨fun h => ?_, fun h_C => ?_⟩
  · symm
    rw [decide_eq_false_iff_not]
    rintro rfl
    exact h rfl
  cases x; cases y; simp_all
def m_laws_szOpS : MC :=
(.seq (pr [.mv 4 (.c (.int .i64 0))] [0,1])
(.seq (pr [.mv 5 (.s 1), .mv 6 (.s 0), .len 7 false (.s 6), .bin 8 false .sub (.s 5) (.s 7), .mv 1 (.s 8)] [1])
(.seq (.seq (pr [.mv 9 (.s 1), .bin 10 false .lss (.s 9) (.c (.int .i64 0))] [1,10])
(.cond (.s 10) (.seq (pr [.mv 4 (.c (.int .i64 (-1)))] [4])
.ret) .skip))
(.seq (pr [.mv 11 (.s 1), .mv 4 (.s 11)] [4])
.ret))))
theorem c_laws_szOpS (xs : List GOp) (left : Int) (h0 : 0 ≤ left) : Ctr Tryd.prog n_laws_szOpS [aL 4 (xs.map GOp.enc), aI left] [rI (szr xs.length left)] := by
  refine ctr_at (M := m_laws_szOpS) (m := 0) (n := 12) (res := [(.tmp 4, [false])]) hmix Tryd.func65 rfl (by kernel_rfl) rfl (by kernel_rfl) (by kernel_rfl) (Nat.le_of_ble_eq_true rfl) ?_; unfold m_laws_szOpS
  intro hb
  simp only [bdA, bdL, bdT, bdR, bdR_map, wfB_i64, wfB_bool, wfB_str, roomB, and_true, true_and, List.length_map] at hb
  obtain ⟨⟨hl, -⟩, hn⟩ := hb
  simp only [↓bk_bind, ↓bk_map, ↓bk_ite, ↓bk_some, ↓reduceIte, Nat.reduceEqDiff, Nat.reduceLT, Nat.reduceLeDiff, Nat.reduceAdd, Nat.reduceMul, reduceCtorEq, List.reduceReplicate, go_sem]
  rw [wI (by omega) (by omega)]
  unfold szr
  refine ⟨fun h => ?_, fun h => ?_⟩
  · rw [if_neg (by omega)]
  · rw [if_pos (by omega)]
def m_laws_toOpS : MC :=
(.seq (pr [.nilo 2 0 4] [0])
(.seq (pr [.mv 5 (.s 0), .len 6 false (.s 5), .mk 7 0 4 32 [.sc (.int .i64 0), .sc (.int .i64 0), .sc (.int .i64 0), .sc (.int .i64 0)] (.s 6), .mv 3 (.s 7)] [0,3])
(.seq (.seq (pr [.mv 4 (.c (.int .i64 0))] [0,3,4])
(.block 0 (.loop ([0,3,4], []) (.seq (.seq (pr [.mv 8 (.s 4), .mv 9 (.s 0), .len 10 false (.s 9), .bin 11 false .lss (.s 8) (.s 10)] [0,3,4,11])
(.cond (.s 11) .skip (.exit 0)))
(.seq (.block 1 (pr [.mv 14 (.s 3), .mv 15 (.s 4), .mv 16 (.s 0), .mv 17 (.s 4), .idx 18 4 (.s 16) (.s 17), .load 19 true 4 (.s 18), .call 20 [] (.f n_laws_toOp) [.s 19], .idx 21 4 (.s 14) (.s 15), .store 4 (.s 21) (.s 20)] [0,3,4]))
(pr [.mv 12 (.s 4), .bin 13 false .add (.s 12) (.c (.int .i64 1)), .mv 4 (.s 13)] [0,3,4]))))))
(.seq (pr [.mv 22 (.s 3), .mv 2 (.s 22)] [2])
.ret))))
theorem c_laws_toOpS (xs : List GOp) (hs : xs.length ≤ 1073741824) : Ctr Tryd.prog n_laws_toOpS [aL 4 (xs.map GOp.enc)] [rL 4 (xs.map GOp.enc)] := by
  refine ctr_at (M := m_laws_toOpS) (m := 1) (n := 23) (res := [(.tmp 2, [true])]) hmix Tryd.func72 rfl (by kernel_rfl) rfl (by kernel_rfl) (by kernel_rfl) (Nat.le_of_ble_eq_true rfl) ?_; unfold m_laws_toOpS
  intro hb
  simp only [↓bk_bind, ↓bk_map, ↓bk_ite, ↓bk_some, ↓reduceIte, Nat.reduceEqDiff, Nat.reduceLT, Nat.reduceLeDiff, Nat.reduceAdd, Nat.reduceMul, reduceCtorEq, List.reduceReplicate, go_sem, replicate_toNat]
  refine ⟨⟨by omega, by simp only [roomB]; omega⟩, ?_⟩
  refine loopK_rng xs (fun k => [(4, vI k)]) (fun k => [(0, ⟨0, .row true 4 (filled GOp.enc [tI 0, tI 0, tI 0, tI 0] xs k)⟩)]) (fun _ => True) (by simp only [roomB]; omega) ?_
  simp only [↓bk_bind, ↓bk_map, ↓bk_ite, ↓bk_some, ↓reduceIte, Nat.reduceEqDiff, Nat.reduceLT, Nat.reduceLeDiff, Nat.reduceAdd, Nat.reduceMul, reduceCtorEq, List.reduceReplicate, go_sem]
  refine ⟨?_, trivial, ?_, ?_⟩
  · simp only [↓bk_bind, ↓bk_map, ↓bk_ite, ↓bk_some, ↓reduceIte, Nat.reduceEqDiff, Nat.reduceLT, Nat.reduceLeDiff, Nat.reduceAdd, Nat.reduceMul, reduceCtorEq, List.reduceReplicate, go_sem, filled_zero]
    all_goals rfl
  · intro k x hx _ h0 h1 hw
    have h : k < xs.length := by omega
    simp only [↓bk_bind, ↓bk_map, ↓bk_ite, ↓bk_some, ↓reduceIte, Nat.reduceEqDiff, Nat.reduceLT, Nat.reduceLeDiff, Nat.reduceAdd, Nat.reduceMul, reduceCtorEq, List.reduceReplicate, go_sem, bk_eq hx, bk_eq (filled_get h), filled_len (Nat.le_of_lt h), h0, h1, hw]
    refine callK_of (c_laws_toOp x) ?_
    simp only [↓bk_bind, ↓bk_map, ↓bk_ite, ↓bk_some, ↓reduceIte, Nat.reduceEqDiff, Nat.reduceLT, Nat.reduceLeDiff, Nat.reduceAdd, Nat.reduceMul, reduceCtorEq, List.reduceReplicate, go_sem, bk_eq hx, bk_eq (filled_get h), filled_len (Nat.le_of_lt h), h0, h1, hw]
    intros; exact filled_set hx
  · intro _
    simp only [↓bk_bind, ↓bk_map, ↓bk_ite, ↓bk_some, ↓reduceIte, Nat.reduceEqDiff, Nat.reduceLT, Nat.reduceLeDiff, Nat.reduceAdd, Nat.reduceMul, reduceCtorEq, List.reduceReplicate, go_sem, filled_all]
def m_laws_eqOpS : MC :=
(.seq (pr [.mv 4 (.c (.bool false))] [0,1])
(.seq (.seq (pr [.mv 6 (.s 0), .len 7 false (.s 6), .mv 8 (.s 1), .len 9 false (.s 8), .bin 10 false .neq (.s 7) (.s 9)] [0,1,10])
(.cond (.s 10) (.seq (pr [.mv 4 (.c (.bool false))] [4])
.ret) .skip))
(.seq (.seq (pr [.mv 5 (.c (.int .i64 0))] [0,1,5])
(.block 0 (.loop ([0,1,5], []) (.seq (.seq (pr [.mv 11 (.s 5), .mv 12 (.s 0), .len 13 false (.s 12), .bin 14 false .lss (.s 11) (.s 13)] [0,1,5,14])
(.cond (.s 14) .skip (.exit 0)))
(.seq (.block 1 (.seq (.dreg [{ o := .mv 17 (.s 0), hs := [18,21,22,23,24] }, { o := .mv 18 (.s 5), hs := [17,21,22,23,24] }, { o := .idx 19 4 (.s 17) (.s 18), hs := [21,22,23,24], bf := [0,1] }, { o := .load 20 true 4 (.s 19), hs := [21,22,23,24], bf := [0,1,2] }, { o := .mv 21 (.s 1), hs := [17,18,19,20,22] }, { o := .mv 22 (.s 5), hs := [17,18,19,20,21] }, { o := .idx 23 4 (.s 21) (.s 22), hs := [17,18,19,20], bf := [4,5] }, { o := .load 24 true 4 (.s 23), hs := [17,18,19,20], bf := [4,5,6] }, { o := .call 25 [] (.f n_laws_eqOp) [.s 20, .s 24], bf := [0,1,2,3,4,5,6,7] }, { o := .un 26 .not (.s 25), bf := [0,1,2,3,4,5,6,7,8] }] [0,1,5,26])
(.cond (.s 26) (.seq (pr [.mv 4 (.c (.bool false))] [4])
.ret) .skip)))
(pr [.mv 15 (.s 5), .bin 16 false .add (.s 15) (.c (.int .i64 1)), .mv 5 (.s 16)] [0,1,5]))))))
(.seq (pr [.mv 4 (.c (.bool true))] [4])
.ret))))
theorem c_laws_eqOpS (xs ys : List GOp) : Ctr Tryd.prog n_laws_eqOpS [aL 4 (xs.map GOp.enc), aL 4 (ys.map GOp.enc)] [rB (decide (xs = ys))] := by
  refine ctr_at (M := m_laws_eqOpS) (m := 0) (n := 27) (res := [(.tmp 4, [false])]) hmix Tryd.func78 rfl (by kernel_rfl) rfl (by kernel_rfl) (by kernel_rfl) (Nat.le_of_ble_eq_true rfl) ?_; unfold m_laws_eqOpS
  intro hb
  simp only [bdA, bdL, bdT, bdR, bdR_map, wfB_i64, wfB_bool, wfB_str, roomB, and_true, true_and, List.length_map] at hb
  obtain ⟨⟨hl, -⟩, ⟨hl2, -⟩⟩ := hb
  simp only [↓bk_bind, ↓bk_map, ↓bk_ite, ↓bk_some, ↓reduceIte, Nat.reduceEqDiff, Nat.reduceLT, Nat.reduceLeDiff, Nat.reduceAdd, Nat.reduceMul, reduceCtorEq, List.reduceReplicate, go_sem]
  refine ⟨fun h => ne_len h, fun h => ?_⟩
  have hle : xs.length = ys.length := by omega
  refine loopK_rng xs (fun k => [(5, vI k)]) (fun k => []) (fun k => xs.take k = ys.take k) hl ?_
  simp only [↓bk_bind, ↓bk_map, ↓bk_ite, ↓bk_some, ↓reduceIte, Nat.reduceEqDiff, Nat.reduceLT, Nat.reduceLeDiff, Nat.reduceAdd, Nat.reduceMul, reduceCtorEq, List.reduceReplicate, go_sem]
  refine ⟨?_, rfl, ?_, ?_⟩
  · simp only [↓bk_bind, ↓bk_map, ↓bk_ite, ↓bk_some, ↓reduceIte, Nat.reduceEqDiff, Nat.reduceLT, Nat.reduceLeDiff, Nat.reduceAdd, Nat.reduceMul, reduceCtorEq, List.reduceReplicate, go_sem]
  · intro k x hx he h0 h1 hw
    obtain ⟨y, hy⟩ := at_some (show k < ys.length by omega)
    have h2 : (k : Int) < ys.length := by omega
    simp only [↓bk_bind, ↓bk_map, ↓bk_ite, ↓bk_some, ↓reduceIte, Nat.reduceEqDiff, Nat.reduceLT, Nat.reduceLeDiff, Nat.reduceAdd, Nat.reduceMul, reduceCtorEq, List.reduceReplicate, go_sem, bk_eq hx, bk_eq hy, h0, h1, h2, hw]
    refine callK_of (c_laws_eqOp x y) ?_
    simp only [↓bk_bind, ↓bk_map, ↓bk_ite, ↓bk_some, ↓reduceIte, Nat.reduceEqDiff, Nat.reduceLT, Nat.reduceLeDiff, Nat.reduceAdd, Nat.reduceMul, reduceCtorEq, List.reduceReplicate, go_sem, hw]
    exact ⟨fun hn => ne_at hx hy hn, fun hn => (take_eq_step hx hy he).2 hn⟩
  · intro he
    simp only [↓bk_bind, ↓bk_map, ↓bk_ite, ↓bk_some, ↓reduceIte, Nat.reduceEqDiff, Nat.reduceLT, Nat.reduceLeDiff, Nat.reduceAdd, Nat.reduceMul, reduceCtorEq, List.reduceReplicate, go_sem]
    exact eq_all he hle
def m_laws_toEntry : MC :=
(.seq (pr [.box 1 0 (.s 0), .alloc 2 1 [.pl (.sc (.int .i64 0)), .pl (.sc (.int .i64 0)), .pl (.sc (.int .i64 0)), .pl (.sc (.int .i64 0)), .pl (.sc (.int .i64 0))]] [1,2])
(.seq (pr [.alloc 3 2 [.pl (.sc (.int .i64 0)), .pl (.sc (.int .i64 0)), .pl (.sc (.int .i64 0)), .pl (.sc (.int .i64 0)), .pl (.sc (.int .i64 0))]] [1,2,3])
(.seq (pr [.fld 4 (.s 1) 0, .load 5 false 1 (.s 4), .fld 6 (.s 3) 0, .store 1 (.s 6) (.s 5)] [1,2,3])
(.seq (pr [.fld 7 (.s 1) 1, .load 8 true 3 (.s 7), .call 9 [] (.f n_laws_toAddress) [.s 8], .fld 10 (.s 3) 1, .store 3 (.s 10) (.s 9)] [1,2,3])
(.seq (pr [.fld 11 (.s 1) 4, .load 12 false 1 (.s 11), .fld 13 (.s 3) 4, .store 1 (.s 13) (.s 12)] [2,3])
(.seq (pr [.load 14 true 5 (.s 3), .store 5 (.s 2) (.s 14)] [2])
.ret))))))
theorem c_laws_toEntry (x : GEntry) : Ctr Tryd.prog n_laws_toEntry [aS x.enc] [rS x.enc] := by
  refine ctr_at (M := m_laws_toEntry) (m := 3) (n := 15) (res := [(.cell 2 true 5, [false, false, false, false, false])]) hmix Tryd.func138 rfl (by kernel_rfl) rfl (by kernel_rfl) (by kernel_rfl) (Nat.le_of_ble_eq_true rfl) ?_; unfold m_laws_toEntry
  intro hb
  simp only [↓bk_bind, ↓bk_map, ↓bk_ite, ↓bk_some, ↓reduceIte, Nat.reduceEqDiff, Nat.reduceLT, Nat.reduceLeDiff, Nat.reduceAdd, Nat.reduceMul, reduceCtorEq, List.reduceReplicate, go_sem]
  refine callK_of (c_laws_toAddress x.Address) ?_
  simp only [↓bk_bind, ↓bk_map, ↓bk_ite, ↓bk_some, ↓reduceIte, Nat.reduceEqDiff, Nat.reduceLT, Nat.reduceLeDiff, Nat.reduceAdd, Nat.reduceMul, reduceCtorEq, List.reduceReplicate, go_sem]
  try intros
def m_laws_eqEntry : MC :=
(.seq (pr [.box 2 0 (.s 0), .box 3 1 (.s 1), .mv 4 (.c (.bool false))] [2,3])
(.seq (.seq (pr [.fld 5 (.s 2) 0, .load 6 false 1 (.s 5), .fld 7 (.s 3) 0, .load 8 false 1 (.s 7), .bin 9 false .neq (.s 6) (.s 8)] [2,3,9])
(.cond (.s 9) (.seq (pr [.mv 4 (.c (.bool false))] [4])
.ret) .skip))
(.seq (.seq (pr [.fld 10 (.s 2) 1, .load 11 true 3 (.s 10), .fld 12 (.s 3) 1, .load 13 true 3 (.s 12), .call 14 [] (.f n_laws_eqAddress) [.s 11, .s 13], .un 15 .not (.s 14)] [2,3,15])
(.cond (.s 15) (.seq (pr [.mv 4 (.c (.bool false))] [4])
.ret) .skip))
(.seq (.seq (pr [.fld 16 (.s 2) 4, .load 17 false 1 (.s 16), .fld 18 (.s 3) 4, .load 19 false 1 (.s 18), .bin 20 false .neq (.s 17) (.s 19)] [20])
(.cond (.s 20) (.seq (pr [.mv 4 (.c (.bool false))] [4])
.ret) .skip))
(.seq (pr [.mv 4 (.c (.bool true))] [4])
.ret)))))
theorem c_laws_eqEntry (x y : GEntry) : Ctr Tryd.prog n_laws_eqEntry [aS x.enc, aS y.enc] [rB (decide (x = y))] := by
  refine ctr_at (M := m_laws_eqEntry) (m := 2) (n := 21) (res := [(.tmp 4, [false])]) hmix Tryd.func139 rfl (by kernel_rfl) rfl (by kernel_rfl) (by kernel_rfl) (Nat.le_of_ble_eq_true rfl) ?_; unfold m_laws_eqEntry
  intro hb
  clear hb
  simp only [↓bk_bind, ↓bk_map, ↓bk_ite, ↓bk_some, ↓reduceIte, Nat.reduceEqDiff, Nat.reduceLT, Nat.reduceLeDiff, Nat.reduceAdd, Nat.reduceMul, reduceCtorEq, List.reduceReplicate, go_sem]
  refine ⟨fun h => ?_, fun h_Kind => ?_⟩
  · symm
    rw [decide_eq_false_iff_not]
    rintro rfl
    exact h rfl
  refine callK_of (c_laws_eqAddress x.Address y.Address) ?_
  simp only [↓bk_bind, ↓bk_map, ↓bk_ite, ↓bk_some, ↓reduceIte, Nat.reduceEqDiff, Nat.reduceLT, Nat.reduceLeDiff, Nat.reduceAdd, Nat.reduceMul, reduceCtorEq, List.reduceReplicate, go_sem]
  refine ⟨fun h => ?_, fun h_Address => ?_⟩
  · symm
    rw [decide_eq_false_iff_not]
    rintro rfl
    exact h rfl
  refine ⟨fun h => ?_, fun h_Value => ?_⟩
  · symm
    rw [decide_eq_false_iff_not]
    rintro rfl
    exact h rfl
  cases x; cases y; simp_all
def m_laws_szEntryS : MC :=
(.seq (pr [.mv 4 (.c (.int .i64 0))] [0,1])
(.seq (pr [.mv 5 (.s 1), .mv 6 (.s 0), .len 7 false (.s 6), .bin 8 false .sub (.s 5) (.s 7), .mv 1 (.s 8)] [1])
(.seq (.seq (pr [.mv 9 (.s 1), .bin 10 false .lss (.s 9) (.c (.int .i64 0))] [1,10])
(.cond (.s 10) (.seq (pr [.mv 4 (.c (.int .i64 (-1)))] [4])
.ret) .skip))
(.seq (pr [.mv 11 (.s 1), .mv 4 (.s 11)] [4])
.ret))))
theorem c_laws_szEntryS (xs : List GEntry) (left : Int) (h0 : 0 ≤ left) : Ctr Tryd.prog n_laws_szEntryS [aL 5 (xs.map GEntry.enc), aI left] [rI (szr xs.length left)] := by
  refine ctr_at (M := m_laws_szEntryS) (m := 0) (n := 12) (res := [(.tmp 4, [false])]) hmix Tryd.func126 rfl (by kernel_rfl) rfl (by kernel_rfl) (by kernel_rfl) (Nat.le_of_ble_eq_true rfl) ?_; unfold m_laws_szEntryS
  intro hb
  simp only [bdA, bdL, bdT, bdR, bdR_map, wfB_i64, wfB_bool, wfB_str, roomB, and_true, true_and, List.length_map] at hb
  obtain ⟨⟨hl, -⟩, hn⟩ := hb
  simp only [↓bk_bind, ↓bk_map, ↓bk_ite, ↓bk_some, ↓reduceIte, Nat.reduceEqDiff, Nat.reduceLT, Nat.reduceLeDiff, Nat.reduceAdd, Nat.reduceMul, reduceCtorEq, List.reduceReplicate, go_sem]
  rw [wI (by omega) (by omega)]
  unfold szr
  refine ⟨fun h => ?_, fun h => ?_⟩
  · rw [if_neg (by omega)]
  · rw [if_pos (by omega)]
def m_laws_toEntryS : MC :=
(.seq (pr [.nilo 2 0 5] [0])
(.seq (pr [.mv 5 (.s 0), .len 6 false (.s 5), .mk 7 0 5 40 [.sc (.int .i64 0), .sc (.int .i64 0), .sc (.int .i64 0), .sc (.int .i64 0), .sc (.int .i64 0)] (.s 6), .mv 3 (.s 7)] [0,3])
(.seq (.seq (pr [.mv 4 (.c (.int .i64 0))] [0,3,4])
(.block 0 (.loop ([0,3,4], []) (.seq (.seq (pr [.mv 8 (.s 4), .mv 9 (.s 0), .len 10 false (.s 9), .bin 11 false .lss (.s 8) (.s 10)] [0,3,4,11])
(.cond (.s 11) .skip (.exit 0)))
(.seq (.block 1 (pr [.mv 14 (.s 3), .mv 15 (.s 4), .mv 16 (.s 0), .mv 17 (.s 4), .idx 18 5 (.s 16) (.s 17), .load 19 true 5 (.s 18), .call 20 [] (.f n_laws_toEntry) [.s 19], .idx 21 5 (.s 14) (.s 15), .store 5 (.s 21) (.s 20)] [0,3,4]))
(pr [.mv 12 (.s 4), .bin 13 false .add (.s 12) (.c (.int .i64 1)), .mv 4 (.s 13)] [0,3,4]))))))
(.seq (pr [.mv 22 (.s 3), .mv 2 (.s 22)] [2])
.ret))))
theorem c_laws_toEntryS (xs : List GEntry) (hs : xs.length ≤ 1073741824) : Ctr Tryd.prog n_laws_toEntryS [aL 5 (xs.map GEntry.enc)] [rL 5 (xs.map GEntry.enc)] := by
  refine ctr_at (M := m_laws_toEntryS) (m := 1) (n := 23) (res := [(.tmp 2, [true])]) hmix Tryd.func128 rfl (by kernel_rfl) rfl (by kernel_rfl) (by kernel_rfl) (Nat.le_of_ble_eq_true rfl) ?_; unfold m_laws_toEntryS
  intro hb
  simp only [↓bk_bind, ↓bk_map, ↓bk_ite, ↓bk_some, ↓reduceIte, Nat.reduceEqDiff, Nat.reduceLT, Nat.reduceLeDiff, Nat.reduceAdd, Nat.reduceMul, reduceCtorEq, List.reduceReplicate, go_sem, replicate_toNat]
  refine ⟨⟨by omega, by simp only [roomB]; omega⟩, ?_⟩
  refine loopK_rng xs (fun k => [(4, vI k)]) (fun k => [(0, ⟨0, .row true 5 (filled GEntry.enc [tI 0, tI 0, tI 0, tI 0, tI 0] xs k)⟩)]) (fun _ => True) (by simp only [roomB]; omega) ?_
  simp only [↓bk_bind, ↓bk_map, ↓bk_ite, ↓bk_some, ↓reduceIte, Nat.reduceEqDiff, Nat.reduceLT, Nat.reduceLeDiff, Nat.reduceAdd, Nat.reduceMul, reduceCtorEq, List.reduceReplicate, go_sem]
  refine ⟨?_, trivial, ?_, ?_⟩
  · simp only [↓bk_bind, ↓bk_map, ↓bk_ite, ↓bk_some, ↓reduceIte, Nat.reduceEqDiff, Nat.reduceLT, Nat.reduceLeDiff, Nat.reduceAdd, Nat.reduceMul, reduceCtorEq, List.reduceReplicate, go_sem, filled_zero]
    all_goals rfl
  · intro k x hx _ h0 h1 hw
    have h : k < xs.length := by omega
    simp only [↓bk_bind, ↓bk_map, ↓bk_ite, ↓bk_some, ↓reduceIte, Nat.reduceEqDiff, Nat.reduceLT, Nat.reduceLeDiff, Nat.reduceAdd, Nat.reduceMul, reduceCtorEq, List.reduceReplicate, go_sem, bk_eq hx, bk_eq (filled_get h), filled_len (Nat.le_of_lt h), h0, h1, hw]
    refine callK_of (c_laws_toEntry x) ?_
    simp only [↓bk_bind, ↓bk_map, ↓bk_ite, ↓bk_some, ↓reduceIte, Nat.reduceEqDiff, Nat.reduceLT, Nat.reduceLeDiff, Nat.reduceAdd, Nat.reduceMul, reduceCtorEq, List.reduceReplicate, go_sem, bk_eq hx, bk_eq (filled_get h), filled_len (Nat.le_of_lt h), h0, h1, hw]
    intros; exact filled_set hx
  · intro _
    simp only [↓bk_bind, ↓bk_map, ↓bk_ite, ↓bk_some, ↓reduceIte, Nat.reduceEqDiff, Nat.reduceLT, Nat.reduceLeDiff, Nat.reduceAdd, Nat.reduceMul, reduceCtorEq, List.reduceReplicate, go_sem, filled_all]
def m_laws_eqEntryS : MC :=
(.seq (pr [.mv 4 (.c (.bool false))] [0,1])
(.seq (.seq (pr [.mv 6 (.s 0), .len 7 false (.s 6), .mv 8 (.s 1), .len 9 false (.s 8), .bin 10 false .neq (.s 7) (.s 9)] [0,1,10])
(.cond (.s 10) (.seq (pr [.mv 4 (.c (.bool false))] [4])
.ret) .skip))
(.seq (.seq (pr [.mv 5 (.c (.int .i64 0))] [0,1,5])
(.block 0 (.loop ([0,1,5], []) (.seq (.seq (pr [.mv 11 (.s 5), .mv 12 (.s 0), .len 13 false (.s 12), .bin 14 false .lss (.s 11) (.s 13)] [0,1,5,14])
(.cond (.s 14) .skip (.exit 0)))
(.seq (.block 1 (.seq (.dreg [{ o := .mv 17 (.s 0), hs := [18,21,22,23,24] }, { o := .mv 18 (.s 5), hs := [17,21,22,23,24] }, { o := .idx 19 5 (.s 17) (.s 18), hs := [21,22,23,24], bf := [0,1] }, { o := .load 20 true 5 (.s 19), hs := [21,22,23,24], bf := [0,1,2] }, { o := .mv 21 (.s 1), hs := [17,18,19,20,22] }, { o := .mv 22 (.s 5), hs := [17,18,19,20,21] }, { o := .idx 23 5 (.s 21) (.s 22), hs := [17,18,19,20], bf := [4,5] }, { o := .load 24 true 5 (.s 23), hs := [17,18,19,20], bf := [4,5,6] }, { o := .call 25 [] (.f n_laws_eqEntry) [.s 20, .s 24], bf := [0,1,2,3,4,5,6,7] }, { o := .un 26 .not (.s 25), bf := [0,1,2,3,4,5,6,7,8] }] [0,1,5,26])
(.cond (.s 26) (.seq (pr [.mv 4 (.c (.bool false))] [4])
.ret) .skip)))
(pr [.mv 15 (.s 5), .bin 16 false .add (.s 15) (.c (.int .i64 1)), .mv 5 (.s 16)] [0,1,5]))))))
(.seq (pr [.mv 4 (.c (.bool true))] [4])
.ret))))
theorem c_laws_eqEntryS (xs ys : List GEntry) : Ctr Tryd.prog n_laws_eqEntryS [aL 5 (xs.map GEntry.enc), aL 5 (ys.map GEntry.enc)] [rB (decide (xs = ys))] := by
  refine ctr_at (M := m_laws_eqEntryS) (m := 0) (n := 27) (res := [(.tmp 4, [false])]) hmix Tryd.func130 rfl (by kernel_rfl) rfl (by kernel_rfl) (by kernel_rfl) (Nat.le_of_ble_eq_true rfl) ?_; unfold m_laws_eqEntryS
  intro hb
  simp only [bdA, bdL, bdT, bdR, bdR_map, wfB_i64, wfB_bool, wfB_str, roomB, and_true, true_and, List.length_map] at hb
  obtain ⟨⟨hl, -⟩, ⟨hl2, -⟩⟩ := hb
  simp only [↓bk_bind, ↓bk_map, ↓bk_ite, ↓bk_some, ↓reduceIte, Nat.reduceEqDiff, Nat.reduceLT, Nat.reduceLeDiff, Nat.reduceAdd, Nat.reduceMul, reduceCtorEq, List.reduceReplicate, go_sem]
  refine ⟨fun h => ne_len h, fun h => ?_⟩
  have hle : xs.length = ys.length := by omega
  refine loopK_rng xs (fun k => [(5, vI k)]) (fun k => []) (fun k => xs.take k = ys.take k) hl ?_
  simp only [↓bk_bind, ↓bk_map, ↓bk_ite, ↓bk_some, ↓reduceIte, Nat.reduceEqDiff, Nat.reduceLT, Nat.reduceLeDiff, Nat.reduceAdd, Nat.reduceMul, reduceCtorEq, List.reduceReplicate, go_sem]
  refine ⟨?_, rfl, ?_, ?_⟩
  · simp only [↓bk_bind, ↓bk_map, ↓bk_ite, ↓bk_some, ↓reduceIte, Nat.reduceEqDiff, Nat.reduceLT, Nat.reduceLeDiff, Nat.reduceAdd, Nat.reduceMul, reduceCtorEq, List.reduceReplicate, go_sem]
  · intro k x hx he h0 h1 hw
    obtain ⟨y, hy⟩ := at_some (show k < ys.length by omega)
    have h2 : (k : Int) < ys.length := by omega
    simp only [↓bk_bind, ↓bk_map, ↓bk_ite, ↓bk_some, ↓reduceIte, Nat.reduceEqDiff, Nat.reduceLT, Nat.reduceLeDiff, Nat.reduceAdd, Nat.reduceMul, reduceCtorEq, List.reduceReplicate, go_sem, bk_eq hx, bk_eq hy, h0, h1, h2, hw]
    refine callK_of (c_laws_eqEntry x y) ?_
    simp only [↓bk_bind, ↓bk_map, ↓bk_ite, ↓bk_some, ↓reduceIte, Nat.reduceEqDiff, Nat.reduceLT, Nat.reduceLeDiff, Nat.reduceAdd, Nat.reduceMul, reduceCtorEq, List.reduceReplicate, go_sem, hw]
    exact ⟨fun hn => ne_at hx hy hn, fun hn => (take_eq_step hx hy he).2 hn⟩
  · intro he
    simp only [↓bk_bind, ↓bk_map, ↓bk_ite, ↓bk_some, ↓reduceIte, Nat.reduceEqDiff, Nat.reduceLT, Nat.reduceLeDiff, Nat.reduceAdd, Nat.reduceMul, reduceCtorEq, List.reduceReplicate, go_sem]
    exact eq_all he hle
def m_laws_szCapture : MC :=
(.seq (pr [.box 2 0 (.s 0), .mv 4 (.c (.int .i64 0))] [1,2])
(.seq (pr [.fld 5 (.s 2) 4, .load 6 true 5 (.s 5), .mv 7 (.s 1), .call 8 [] (.f n_laws_szResource) [.s 6, .s 7], .mv 1 (.s 8)] [1])
(.seq (.seq (pr [.mv 9 (.s 1), .bin 10 false .lss (.s 9) (.c (.int .i64 0))] [1,10])
(.cond (.s 10) (.seq (pr [.mv 4 (.c (.int .i64 (-1)))] [4])
.ret) .skip))
(.seq (pr [.mv 11 (.s 1), .mv 4 (.s 11)] [4])
.ret))))
theorem c_laws_szCapture (x : GCapture) (left : Int) (h0 : 0 ≤ left) : Ctr Tryd.prog n_laws_szCapture [aS x.enc, aI left] [rI (szr x.size left)] := by
  refine ctr_at (M := m_laws_szCapture) (m := 1) (n := 12) (res := [(.tmp 4, [false])]) hmix Tryd.func23 rfl (by kernel_rfl) rfl (by kernel_rfl) (by kernel_rfl) (Nat.le_of_ble_eq_true rfl) ?_; unfold m_laws_szCapture
  intro hb
  simp only [↓bk_bind, ↓bk_map, ↓bk_ite, ↓bk_some, ↓reduceIte, Nat.reduceEqDiff, Nat.reduceLT, Nat.reduceLeDiff, Nat.reduceAdd, Nat.reduceMul, reduceCtorEq, List.reduceReplicate, go_sem]
  refine callK_of (c_laws_szResource x.Resource left h0) ?_
  simp only [↓bk_bind, ↓bk_map, ↓bk_ite, ↓bk_some, ↓reduceIte, Nat.reduceEqDiff, Nat.reduceLT, Nat.reduceLeDiff, Nat.reduceAdd, Nat.reduceMul, reduceCtorEq, List.reduceReplicate, go_sem]
  intro _
  refine ⟨fun h => szr_bad' h0 h (by simp only [GCapture.size]; omega), fun h1 => ?_⟩
  rfl
def m_laws_toCapture : MC :=
(.seq (pr [.box 1 0 (.s 0), .alloc 2 1 [.pl (.sc (.int .i64 0)), .pl (.sc (.int .i64 0)), .pl (.sc (.int .i64 0)), .pl (.sc (.int .i64 0)), .pl (.sc (.int .i64 0)), .emp 1, .pl (.sc (.int .i64 0)), .pl (.sc (.int .i64 0)), .pl (.sc (.int .i64 0))]] [1,2])
(.seq (pr [.alloc 3 2 [.pl (.sc (.int .i64 0)), .pl (.sc (.int .i64 0)), .pl (.sc (.int .i64 0)), .pl (.sc (.int .i64 0)), .pl (.sc (.int .i64 0)), .emp 1, .pl (.sc (.int .i64 0)), .pl (.sc (.int .i64 0)), .pl (.sc (.int .i64 0))]] [1,2,3])
(.seq (pr [.fld 4 (.s 1) 0, .load 5 true 3 (.s 4), .call 6 [] (.f n_laws_toAddress) [.s 5], .fld 7 (.s 3) 0, .store 3 (.s 7) (.s 6)] [1,2,3])
(.seq (pr [.fld 8 (.s 1) 3, .load 9 false 1 (.s 8), .fld 10 (.s 3) 3, .store 1 (.s 10) (.s 9)] [1,2,3])
(.seq (pr [.fld 11 (.s 1) 4, .load 12 true 5 (.s 11), .call 13 [3] (.f n_laws_toResource) [.s 12], .fld 14 (.s 3) 4, .store 5 (.s 14) (.s 13)] [2,3])
(.seq (pr [.load 15 true 9 (.s 3), .store 9 (.s 2) (.s 15)] [2])
.ret))))))
theorem c_laws_toCapture (x : GCapture) (hs : x.size ≤ 1073741824) : Ctr Tryd.prog n_laws_toCapture [aS x.enc] [rS x.enc] := by
  refine ctr_at (M := m_laws_toCapture) (m := 4) (n := 16) (res := [(.cell 2 true 9, [false, false, false, false, false, true, false, false, false])]) hmix Tryd.func25 rfl (by kernel_rfl) rfl (by kernel_rfl) (by kernel_rfl) (Nat.le_of_ble_eq_true rfl) ?_; unfold m_laws_toCapture
  intro hb
  simp only [GCapture.size] at hs
  simp only [↓bk_bind, ↓bk_map, ↓bk_ite, ↓bk_some, ↓reduceIte, Nat.reduceEqDiff, Nat.reduceLT, Nat.reduceLeDiff, Nat.reduceAdd, Nat.reduceMul, reduceCtorEq, List.reduceReplicate, go_sem]
  refine callK_of (c_laws_toAddress x.Address) ?_
  simp only [↓bk_bind, ↓bk_map, ↓bk_ite, ↓bk_some, ↓reduceIte, Nat.reduceEqDiff, Nat.reduceLT, Nat.reduceLeDiff, Nat.reduceAdd, Nat.reduceMul, reduceCtorEq, List.reduceReplicate, go_sem]
  try intros
  refine callK_of (c_laws_toResource x.Resource (by omega)) ?_
  simp only [↓bk_bind, ↓bk_map, ↓bk_ite, ↓bk_some, ↓reduceIte, Nat.reduceEqDiff, Nat.reduceLT, Nat.reduceLeDiff, Nat.reduceAdd, Nat.reduceMul, reduceCtorEq, List.reduceReplicate, go_sem]
  try intros
def m_laws_eqCapture : MC :=
(.seq (pr [.box 2 0 (.s 0), .box 3 1 (.s 1), .mv 4 (.c (.bool false))] [2,3])
(.seq (.seq (pr [.fld 5 (.s 2) 0, .load 6 true 3 (.s 5), .fld 7 (.s 3) 0, .load 8 true 3 (.s 7), .call 9 [] (.f n_laws_eqAddress) [.s 6, .s 8], .un 10 .not (.s 9)] [2,3,10])
(.cond (.s 10) (.seq (pr [.mv 4 (.c (.bool false))] [4])
.ret) .skip))
(.seq (.seq (pr [.fld 11 (.s 2) 3, .load 12 false 1 (.s 11), .fld 13 (.s 3) 3, .load 14 false 1 (.s 13), .bin 15 false .neq (.s 12) (.s 14)] [2,3,15])
(.cond (.s 15) (.seq (pr [.mv 4 (.c (.bool false))] [4])
.ret) .skip))
(.seq (.seq (pr [.fld 16 (.s 2) 4, .load 17 true 5 (.s 16), .fld 18 (.s 3) 4, .load 19 true 5 (.s 18), .call 20 [] (.f n_laws_eqResource) [.s 17, .s 19], .un 21 .not (.s 20)] [21])
(.cond (.s 21) (.seq (pr [.mv 4 (.c (.bool false))] [4])
.ret) .skip))
(.seq (pr [.mv 4 (.c (.bool true))] [4])
.ret)))))
theorem c_laws_eqCapture (x y : GCapture) : Ctr Tryd.prog n_laws_eqCapture [aS x.enc, aS y.enc] [rB (decide (x = y))] := by
  refine ctr_at (M := m_laws_eqCapture) (m := 2) (n := 22) (res := [(.tmp 4, [false])]) hmix Tryd.func27 rfl (by kernel_rfl) rfl (by kernel_rfl) (by kernel_rfl) (Nat.le_of_ble_eq_true rfl) ?_; unfold m_laws_eqCapture
  intro hb
  clear hb
  simp only [↓bk_bind, ↓bk_map, ↓bk_ite, ↓bk_some, ↓reduceIte, Nat.reduceEqDiff, Nat.reduceLT, Nat.reduceLeDiff, Nat.reduceAdd, Nat.reduceMul, reduceCtorEq, List.reduceReplicate, go_sem]
  refine callK_of (c_laws_eqAddress x.Address y.Address) ?_
  simp only [↓bk_bind, ↓bk_map, ↓bk_ite, ↓bk_some, ↓reduceIte, Nat.reduceEqDiff, Nat.reduceLT, Nat.reduceLeDiff, Nat.reduceAdd, Nat.reduceMul, reduceCtorEq, List.reduceReplicate, go_sem]
  refine ⟨fun h => ?_, fun h_Address => ?_⟩
  · symm
    rw [decide_eq_false_iff_not]
    rintro rfl
    exact h rfl
  refine ⟨fun h => ?_, fun h_Tick => ?_⟩
  · symm
    rw [decide_eq_false_iff_not]
    rintro rfl
    exact h rfl
  refine callK_of (c_laws_eqResource x.Resource y.Resource) ?_
  simp only [↓bk_bind, ↓bk_map, ↓bk_ite, ↓bk_some, ↓reduceIte, Nat.reduceEqDiff, Nat.reduceLT, Nat.reduceLeDiff, Nat.reduceAdd, Nat.reduceMul, reduceCtorEq, List.reduceReplicate, go_sem]
  refine ⟨fun h => ?_, fun h_Resource => ?_⟩
  · symm
    rw [decide_eq_false_iff_not]
    rintro rfl
    exact h rfl
  cases x; cases y; simp_all
def m_laws_szCaptureS : MC :=
(.seq (pr [.mv 4 (.c (.int .i64 0))] [0,1])
(.seq (pr [.mv 6 (.s 1), .mv 7 (.s 0), .len 8 false (.s 7), .bin 9 false .sub (.s 6) (.s 8), .mv 1 (.s 9)] [0,1])
(.seq (.seq (pr [.mv 10 (.s 1), .bin 11 false .lss (.s 10) (.c (.int .i64 0))] [0,1,11])
(.cond (.s 11) (.seq (pr [.mv 4 (.c (.int .i64 (-1)))] [4])
.ret) .skip))
(.seq (.seq (pr [.mv 5 (.c (.int .i64 0))] [0,1,5])
(.block 0 (.loop ([0,1,5], []) (.seq (.seq (pr [.mv 12 (.s 5), .mv 13 (.s 0), .len 14 false (.s 13), .bin 15 false .lss (.s 12) (.s 14)] [0,1,5,15])
(.cond (.s 15) .skip (.exit 0)))
(.seq (.block 1 (.seq (pr [.mv 18 (.s 0), .mv 19 (.s 5), .idx 20 9 (.s 18) (.s 19), .load 21 true 9 (.s 20), .mv 22 (.s 1), .call 23 [] (.f n_laws_szCapture) [.s 21, .s 22], .mv 1 (.s 23)] [0,1,5])
(.seq (pr [.mv 24 (.s 1), .bin 25 false .lss (.s 24) (.c (.int .i64 0))] [0,1,5,25])
(.cond (.s 25) (.seq (pr [.mv 4 (.c (.int .i64 (-1)))] [4])
.ret) .skip))))
(pr [.mv 16 (.s 5), .bin 17 false .add (.s 16) (.c (.int .i64 1)), .mv 5 (.s 17)] [0,1,5]))))))
(.seq (pr [.mv 26 (.s 1), .mv 4 (.s 26)] [4])
.ret)))))
theorem c_laws_szCaptureS (xs : List GCapture) (left : Int) (h0 : 0 ≤ left) : Ctr Tryd.prog n_laws_szCaptureS [aL 9 (xs.map GCapture.enc), aI left] [rI (szr (xs.length + (xs.map GCapture.size).sum) left)] := by
  refine ctr_at (M := m_laws_szCaptureS) (m := 0) (n := 27) (res := [(.tmp 4, [false])]) hmix Tryd.func127 rfl (by kernel_rfl) rfl (by kernel_rfl) (by kernel_rfl) (Nat.le_of_ble_eq_true rfl) ?_; unfold m_laws_szCaptureS
  intro hb
  simp only [bdA, bdL, bdT, bdR, bdR_map, wfB_i64, wfB_bool, wfB_str, roomB, and_true, true_and, List.length_map] at hb
  obtain ⟨⟨hl, -⟩, hn⟩ := hb
  simp only [↓bk_bind, ↓bk_map, ↓bk_ite, ↓bk_some, ↓reduceIte, Nat.reduceEqDiff, Nat.reduceLT, Nat.reduceLeDiff, Nat.reduceAdd, Nat.reduceMul, reduceCtorEq, List.reduceReplicate, go_sem]
  rw [wI (by omega) (by omega)]
  refine ⟨fun h => ?_, fun h => ?_⟩
  · exact szr_bad' (n := xs.length) h0 ((szr_neg h0).2 (by omega)) (by omega)
  · have hz : szr xs.length left = left - xs.length := by unfold szr; rw [if_pos (by omega)]
    rw [← hz] at h ⊢
    refine loopK_rng xs (fun k => [(1, vI (szr (xs.length + ((xs.take k).map GCapture.size).sum) left)), (5, vI k)]) (fun k => []) (fun k => ¬ szr (xs.length + ((xs.take k).map GCapture.size).sum) left < 0) hl ?_
    simp only [↓bk_bind, ↓bk_map, ↓bk_ite, ↓bk_some, ↓reduceIte, Nat.reduceEqDiff, Nat.reduceLT, Nat.reduceLeDiff, Nat.reduceAdd, Nat.reduceMul, reduceCtorEq, List.reduceReplicate, go_sem]
    refine ⟨?_, by simpa using h, ?_, ?_⟩
    · simp only [↓bk_bind, ↓bk_map, ↓bk_ite, ↓bk_some, ↓reduceIte, Nat.reduceEqDiff, Nat.reduceLT, Nat.reduceLeDiff, Nat.reduceAdd, Nat.reduceMul, reduceCtorEq, List.reduceReplicate, go_sem, List.take_zero, List.map_nil, List.sum_nil, Nat.add_zero]
      all_goals rfl
    · intro k x hx hs hk0 h1 hw
      obtain ⟨a1, a2, a3⟩ := szr_add (m := x.size) h0 hs
      rw [Nat.add_assoc, ← sum_snoc hx] at a3
      simp only [↓bk_bind, ↓bk_map, ↓bk_ite, ↓bk_some, ↓reduceIte, Nat.reduceEqDiff, Nat.reduceLT, Nat.reduceLeDiff, Nat.reduceAdd, Nat.reduceMul, reduceCtorEq, List.reduceReplicate, go_sem, bk_eq hx, hk0, h1, hw]
      refine callK_of (c_laws_szCapture x _ a1) ?_
      rw [← a3]
      simp only [↓bk_bind, ↓bk_map, ↓bk_ite, ↓bk_some, ↓reduceIte, Nat.reduceEqDiff, Nat.reduceLT, Nat.reduceLeDiff, Nat.reduceAdd, Nat.reduceMul, reduceCtorEq, List.reduceReplicate, go_sem, hw]
      intro _
      refine ⟨fun hn => ?_, fun hn => hn⟩
      have := sum_take_le (f := GCapture.size) xs (k + 1)
      exact szr_bad' h0 hn (by omega)
    · intro _
      simp only [↓bk_bind, ↓bk_map, ↓bk_ite, ↓bk_some, ↓reduceIte, Nat.reduceEqDiff, Nat.reduceLT, Nat.reduceLeDiff, Nat.reduceAdd, Nat.reduceMul, reduceCtorEq, List.reduceReplicate, go_sem, List.take_length]
def m_laws_toCaptureS : MC :=
(.seq (pr [.nilo 2 0 9] [0])
(.seq (pr [.mv 5 (.s 0), .len 6 false (.s 5), .mk 7 0 9 88 [.sc (.int .i64 0), .sc (.int .i64 0), .sc (.int .i64 0), .sc (.int .i64 0), .sc (.int .i64 0), .sl 1 [], .sc (.int .i64 0), .sc (.int .i64 0), .sc (.int .i64 0)] (.s 6), .mv 3 (.s 7)] [0,3])
(.seq (.seq (pr [.mv 4 (.c (.int .i64 0))] [0,3,4])
(.block 0 (.loop ([0,3,4], [1]) (.seq (.seq (pr [.mv 8 (.s 4), .mv 9 (.s 0), .len 10 false (.s 9), .bin 11 false .lss (.s 8) (.s 10)] [0,3,4,11])
(.cond (.s 11) .skip (.exit 0)))
(.seq (.block 1 (pr [.mv 14 (.s 3), .mv 15 (.s 4), .mv 16 (.s 0), .mv 17 (.s 4), .idx 18 9 (.s 16) (.s 17), .load 19 true 9 (.s 18), .call 20 [1] (.f n_laws_toCapture) [.s 19], .idx 21 9 (.s 14) (.s 15), .store 9 (.s 21) (.s 20)] [0,3,4]))
(pr [.mv 12 (.s 4), .bin 13 false .add (.s 12) (.c (.int .i64 1)), .mv 4 (.s 13)] [0,3,4]))))))
(.seq (pr [.mv 22 (.s 3), .mv 2 (.s 22)] [2])
.ret))))
theorem c_laws_toCaptureS (xs : List GCapture) (hs : xs.length + (xs.map GCapture.size).sum ≤ 1073741824) : Ctr Tryd.prog n_laws_toCaptureS [aL 9 (xs.map GCapture.enc)] [rL 9 (xs.map GCapture.enc)] := by
  refine ctr_at (M := m_laws_toCaptureS) (m := 2) (n := 23) (res := [(.tmp 2, [true])]) hmix Tryd.func129 rfl (by kernel_rfl) rfl (by kernel_rfl) (by kernel_rfl) (Nat.le_of_ble_eq_true rfl) ?_; unfold m_laws_toCaptureS
  intro hb
  simp only [↓bk_bind, ↓bk_map, ↓bk_ite, ↓bk_some, ↓reduceIte, Nat.reduceEqDiff, Nat.reduceLT, Nat.reduceLeDiff, Nat.reduceAdd, Nat.reduceMul, reduceCtorEq, List.reduceReplicate, go_sem, replicate_toNat]
  refine ⟨⟨by omega, by simp only [roomB]; omega⟩, ?_⟩
  refine loopK_rng xs (fun k => [(4, vI k)]) (fun k => [(0, ⟨0, .row true 9 (filled GCapture.enc [tI 0, tI 0, tI 0, tI 0, tI 0, .sl 1 [], tI 0, tI 0, tI 0] xs k)⟩)]) (fun _ => True) (by simp only [roomB]; omega) ?_
  simp only [↓bk_bind, ↓bk_map, ↓bk_ite, ↓bk_some, ↓reduceIte, Nat.reduceEqDiff, Nat.reduceLT, Nat.reduceLeDiff, Nat.reduceAdd, Nat.reduceMul, reduceCtorEq, List.reduceReplicate, go_sem]
  refine ⟨?_, trivial, ?_, ?_⟩
  · simp only [↓bk_bind, ↓bk_map, ↓bk_ite, ↓bk_some, ↓reduceIte, Nat.reduceEqDiff, Nat.reduceLT, Nat.reduceLeDiff, Nat.reduceAdd, Nat.reduceMul, reduceCtorEq, List.reduceReplicate, go_sem, filled_zero]
    all_goals rfl
  · intro k x hx _ h0 h1 hw
    have h : k < xs.length := by omega
    simp only [↓bk_bind, ↓bk_map, ↓bk_ite, ↓bk_some, ↓reduceIte, Nat.reduceEqDiff, Nat.reduceLT, Nat.reduceLeDiff, Nat.reduceAdd, Nat.reduceMul, reduceCtorEq, List.reduceReplicate, go_sem, bk_eq hx, bk_eq (filled_get h), filled_len (Nat.le_of_lt h), h0, h1, hw]
    have hx1 := mem_sum (f := GCapture.size) (at_mem hx)
    refine callK_of (c_laws_toCapture x (by omega)) ?_
    simp only [↓bk_bind, ↓bk_map, ↓bk_ite, ↓bk_some, ↓reduceIte, Nat.reduceEqDiff, Nat.reduceLT, Nat.reduceLeDiff, Nat.reduceAdd, Nat.reduceMul, reduceCtorEq, List.reduceReplicate, go_sem, bk_eq hx, bk_eq (filled_get h), filled_len (Nat.le_of_lt h), h0, h1, hw]
    intros; exact filled_set hx
  · intro _
    simp only [↓bk_bind, ↓bk_map, ↓bk_ite, ↓bk_some, ↓reduceIte, Nat.reduceEqDiff, Nat.reduceLT, Nat.reduceLeDiff, Nat.reduceAdd, Nat.reduceMul, reduceCtorEq, List.reduceReplicate, go_sem, filled_all]
def m_laws_eqCaptureS : MC :=
(.seq (pr [.mv 4 (.c (.bool false))] [0,1])
(.seq (.seq (pr [.mv 6 (.s 0), .len 7 false (.s 6), .mv 8 (.s 1), .len 9 false (.s 8), .bin 10 false .neq (.s 7) (.s 9)] [0,1,10])
(.cond (.s 10) (.seq (pr [.mv 4 (.c (.bool false))] [4])
.ret) .skip))
(.seq (.seq (pr [.mv 5 (.c (.int .i64 0))] [0,1,5])
(.block 0 (.loop ([0,1,5], []) (.seq (.seq (pr [.mv 11 (.s 5), .mv 12 (.s 0), .len 13 false (.s 12), .bin 14 false .lss (.s 11) (.s 13)] [0,1,5,14])
(.cond (.s 14) .skip (.exit 0)))
(.seq (.block 1 (.seq (.dreg [{ o := .mv 17 (.s 0), hs := [18,21,22,23,24] }, { o := .mv 18 (.s 5), hs := [17,21,22,23,24] }, { o := .idx 19 9 (.s 17) (.s 18), hs := [21,22,23,24], bf := [0,1] }, { o := .load 20 true 9 (.s 19), hs := [21,22,23,24], bf := [0,1,2] }, { o := .mv 21 (.s 1), hs := [17,18,19,20,22] }, { o := .mv 22 (.s 5), hs := [17,18,19,20,21] }, { o := .idx 23 9 (.s 21) (.s 22), hs := [17,18,19,20], bf := [4,5] }, { o := .load 24 true 9 (.s 23), hs := [17,18,19,20], bf := [4,5,6] }, { o := .call 25 [] (.f n_laws_eqCapture) [.s 20, .s 24], bf := [0,1,2,3,4,5,6,7] }, { o := .un 26 .not (.s 25), bf := [0,1,2,3,4,5,6,7,8] }] [0,1,5,26])
(.cond (.s 26) (.seq (pr [.mv 4 (.c (.bool false))] [4])
.ret) .skip)))
(pr [.mv 15 (.s 5), .bin 16 false .add (.s 15) (.c (.int .i64 1)), .mv 5 (.s 16)] [0,1,5]))))))
(.seq (pr [.mv 4 (.c (.bool true))] [4])
.ret))))
theorem c_laws_eqCaptureS (xs ys : List GCapture) : Ctr Tryd.prog n_laws_eqCaptureS [aL 9 (xs.map GCapture.enc), aL 9 (ys.map GCapture.enc)] [rB (decide (xs = ys))] := by
  refine ctr_at (M := m_laws_eqCaptureS) (m := 0) (n := 27) (res := [(.tmp 4, [false])]) hmix Tryd.func131 rfl (by kernel_rfl) rfl (by kernel_rfl) (by kernel_rfl) (Nat.le_of_ble_eq_true rfl) ?_; unfold m_laws_eqCaptureS
  intro hb
  simp only [bdA, bdL, bdT, bdR, bdR_map, wfB_i64, wfB_bool, wfB_str, roomB, and_true, true_and, List.length_map] at hb
  obtain ⟨⟨hl, -⟩, ⟨hl2, -⟩⟩ := hb
  simp only [↓bk_bind, ↓bk_map, ↓bk_ite, ↓bk_some, ↓reduceIte, Nat.reduceEqDiff, Nat.reduceLT, Nat.reduceLeDiff, Nat.reduceAdd, Nat.reduceMul, reduceCtorEq, List.reduceReplicate, go_sem]
  refine ⟨fun h => ne_len h, fun h => ?_⟩
  have hle : xs.length = ys.length := by omega
  refine loopK_rng xs (fun k => [(5, vI k)]) (fun k => []) (fun k => xs.take k = ys.take k) hl ?_
  simp only [↓bk_bind, ↓bk_map, ↓bk_ite, ↓bk_some, ↓reduceIte, Nat.reduceEqDiff, Nat.reduceLT, Nat.reduceLeDiff, Nat.reduceAdd, Nat.reduceMul, reduceCtorEq, List.reduceReplicate, go_sem]
  refine ⟨?_, rfl, ?_, ?_⟩
  · simp only [↓bk_bind, ↓bk_map, ↓bk_ite, ↓bk_some, ↓reduceIte, Nat.reduceEqDiff, Nat.reduceLT, Nat.reduceLeDiff, Nat.reduceAdd, Nat.reduceMul, reduceCtorEq, List.reduceReplicate, go_sem]
  · intro k x hx he h0 h1 hw
    obtain ⟨y, hy⟩ := at_some (show k < ys.length by omega)
    have h2 : (k : Int) < ys.length := by omega
    simp only [↓bk_bind, ↓bk_map, ↓bk_ite, ↓bk_some, ↓reduceIte, Nat.reduceEqDiff, Nat.reduceLT, Nat.reduceLeDiff, Nat.reduceAdd, Nat.reduceMul, reduceCtorEq, List.reduceReplicate, go_sem, bk_eq hx, bk_eq hy, h0, h1, h2, hw]
    refine callK_of (c_laws_eqCapture x y) ?_
    simp only [↓bk_bind, ↓bk_map, ↓bk_ite, ↓bk_some, ↓reduceIte, Nat.reduceEqDiff, Nat.reduceLT, Nat.reduceLeDiff, Nat.reduceAdd, Nat.reduceMul, reduceCtorEq, List.reduceReplicate, go_sem, hw]
    exact ⟨fun hn => ne_at hx hy hn, fun hn => (take_eq_step hx hy he).2 hn⟩
  · intro he
    simp only [↓bk_bind, ↓bk_map, ↓bk_ite, ↓bk_some, ↓reduceIte, Nat.reduceEqDiff, Nat.reduceLT, Nat.reduceLeDiff, Nat.reduceAdd, Nat.reduceMul, reduceCtorEq, List.reduceReplicate, go_sem]
    exact eq_all he hle
def m_laws_toExclusion : MC :=
(.seq (pr [.box 1 0 (.s 0), .alloc 2 1 [.pl (.sc (.int .i64 0)), .pl (.sc (.int .i64 0)), .pl (.sc (.int .i64 0)), .pl (.sc (.int .i64 0)), .pl (.sc (.int .i64 0))]] [1,2])
(.seq (pr [.alloc 3 2 [.pl (.sc (.int .i64 0)), .pl (.sc (.int .i64 0)), .pl (.sc (.int .i64 0)), .pl (.sc (.int .i64 0)), .pl (.sc (.int .i64 0))]] [1,2,3])
(.seq (pr [.fld 4 (.s 1) 0, .load 5 false 1 (.s 4), .fld 6 (.s 3) 0, .store 1 (.s 6) (.s 5)] [1,2,3])
(.seq (pr [.fld 7 (.s 1) 1, .load 8 false 1 (.s 7), .fld 9 (.s 3) 1, .store 1 (.s 9) (.s 8)] [1,2,3])
(.seq (pr [.fld 10 (.s 1) 2, .load 11 false 1 (.s 10), .fld 12 (.s 3) 2, .store 1 (.s 12) (.s 11)] [1,2,3])
(.seq (pr [.fld 13 (.s 1) 3, .load 14 false 1 (.s 13), .fld 15 (.s 3) 3, .store 1 (.s 15) (.s 14)] [1,2,3])
(.seq (pr [.fld 16 (.s 1) 4, .load 17 false 1 (.s 16), .fld 18 (.s 3) 4, .store 1 (.s 18) (.s 17)] [2,3])
(.seq (pr [.load 19 true 5 (.s 3), .store 5 (.s 2) (.s 19)] [2])
.ret))))))))
theorem c_laws_toExclusion (x : GExclusion) : Ctr Tryd.prog n_laws_toExclusion [aS x.enc] [rS x.enc] := by
  refine ctr_at (M := m_laws_toExclusion) (m := 3) (n := 20) (res := [(.cell 2 true 5, [false, false, false, false, false])]) hmix Tryd.func101 rfl (by kernel_rfl) rfl (by kernel_rfl) (by kernel_rfl) (Nat.le_of_ble_eq_true rfl) ?_; unfold m_laws_toExclusion
  intro hb
  simp only [↓bk_bind, ↓bk_map, ↓bk_ite, ↓bk_some, ↓reduceIte, Nat.reduceEqDiff, Nat.reduceLT, Nat.reduceLeDiff, Nat.reduceAdd, Nat.reduceMul, reduceCtorEq, List.reduceReplicate, go_sem]
def m_laws_eqExclusion : MC :=
(.seq (pr [.box 2 0 (.s 0), .box 3 1 (.s 1), .mv 4 (.c (.bool false))] [2,3])
(.seq (.seq (pr [.fld 5 (.s 2) 0, .load 6 false 1 (.s 5), .fld 7 (.s 3) 0, .load 8 false 1 (.s 7), .bin 9 false .neq (.s 6) (.s 8)] [2,3,9])
(.cond (.s 9) (.seq (pr [.mv 4 (.c (.bool false))] [4])
.ret) .skip))
(.seq (.seq (pr [.fld 10 (.s 2) 1, .load 11 false 1 (.s 10), .fld 12 (.s 3) 1, .load 13 false 1 (.s 12), .bin 14 false .neq (.s 11) (.s 13)] [2,3,14])
(.cond (.s 14) (.seq (pr [.mv 4 (.c (.bool false))] [4])
.ret) .skip))
(.seq (.seq (pr [.fld 15 (.s 2) 2, .load 16 false 1 (.s 15), .fld 17 (.s 3) 2, .load 18 false 1 (.s 17), .bin 19 false .neq (.s 16) (.s 18)] [2,3,19])
(.cond (.s 19) (.seq (pr [.mv 4 (.c (.bool false))] [4])
.ret) .skip))
(.seq (.seq (pr [.fld 20 (.s 2) 3, .load 21 false 1 (.s 20), .fld 22 (.s 3) 3, .load 23 false 1 (.s 22), .bin 24 false .neq (.s 21) (.s 23)] [2,3,24])
(.cond (.s 24) (.seq (pr [.mv 4 (.c (.bool false))] [4])
.ret) .skip))
(.seq (.seq (pr [.fld 25 (.s 2) 4, .load 26 false 1 (.s 25), .fld 27 (.s 3) 4, .load 28 false 1 (.s 27), .bin 29 false .neq (.s 26) (.s 28)] [29])
(.cond (.s 29) (.seq (pr [.mv 4 (.c (.bool false))] [4])
.ret) .skip))
(.seq (pr [.mv 4 (.c (.bool true))] [4])
.ret)))))))
theorem c_laws_eqExclusion (x y : GExclusion) : Ctr Tryd.prog n_laws_eqExclusion [aS x.enc, aS y.enc] [rB (decide (x = y))] := by
  refine ctr_at (M := m_laws_eqExclusion) (m := 2) (n := 30) (res := [(.tmp 4, [false])]) hmix Tryd.func108 rfl (by kernel_rfl) rfl (by kernel_rfl) (by kernel_rfl) (Nat.le_of_ble_eq_true rfl) ?_; unfold m_laws_eqExclusion
  intro hb
  clear hb
  simp only [↓bk_bind, ↓bk_map, ↓bk_ite, ↓bk_some, ↓reduceIte, Nat.reduceEqDiff, Nat.reduceLT, Nat.reduceLeDiff, Nat.reduceAdd, Nat.reduceMul, reduceCtorEq, List.reduceReplicate, go_sem]
  refine ⟨fun h => ?_, fun h_Host => ?_⟩
  · symm
    rw [decide_eq_false_iff_not]
    rintro rfl
    exact h rfl
  refine ⟨fun h => ?_, fun h_Path => ?_⟩
  · symm
    rw [decide_eq_false_iff_not]
    rintro rfl
    exact h rfl
  refine ⟨fun h => ?_, fun h_From => ?_⟩
  · symm
    rw [decide_eq_false_iff_not]
    rintro rfl
    exact h rfl
  refine ⟨fun h => ?_, fun h_Until => ?_⟩
  · symm
    rw [decide_eq_false_iff_not]
    rintro rfl
    exact h rfl
  refine ⟨fun h => ?_, fun h_Asked => ?_⟩
  · symm
    rw [decide_eq_false_iff_not]
    rintro rfl
    exact h rfl
  cases x; cases y; simp_all
def m_laws_szExclusionS : MC :=
(.seq (pr [.mv 4 (.c (.int .i64 0))] [0,1])
(.seq (pr [.mv 5 (.s 1), .mv 6 (.s 0), .len 7 false (.s 6), .bin 8 false .sub (.s 5) (.s 7), .mv 1 (.s 8)] [1])
(.seq (.seq (pr [.mv 9 (.s 1), .bin 10 false .lss (.s 9) (.c (.int .i64 0))] [1,10])
(.cond (.s 10) (.seq (pr [.mv 4 (.c (.int .i64 (-1)))] [4])
.ret) .skip))
(.seq (pr [.mv 11 (.s 1), .mv 4 (.s 11)] [4])
.ret))))
theorem c_laws_szExclusionS (xs : List GExclusion) (left : Int) (h0 : 0 ≤ left) : Ctr Tryd.prog n_laws_szExclusionS [aL 5 (xs.map GExclusion.enc), aI left] [rI (szr xs.length left)] := by
  refine ctr_at (M := m_laws_szExclusionS) (m := 0) (n := 12) (res := [(.tmp 4, [false])]) hmix Tryd.func67 rfl (by kernel_rfl) rfl (by kernel_rfl) (by kernel_rfl) (Nat.le_of_ble_eq_true rfl) ?_; unfold m_laws_szExclusionS
  intro hb
  simp only [bdA, bdL, bdT, bdR, bdR_map, wfB_i64, wfB_bool, wfB_str, roomB, and_true, true_and, List.length_map] at hb
  obtain ⟨⟨hl, -⟩, hn⟩ := hb
  simp only [↓bk_bind, ↓bk_map, ↓bk_ite, ↓bk_some, ↓reduceIte, Nat.reduceEqDiff, Nat.reduceLT, Nat.reduceLeDiff, Nat.reduceAdd, Nat.reduceMul, reduceCtorEq, List.reduceReplicate, go_sem]
  rw [wI (by omega) (by omega)]
  unfold szr
  refine ⟨fun h => ?_, fun h => ?_⟩
  · rw [if_neg (by omega)]
  · rw [if_pos (by omega)]
def m_laws_toExclusionS : MC :=
(.seq (pr [.nilo 2 0 5] [0])
(.seq (pr [.mv 5 (.s 0), .len 6 false (.s 5), .mk 7 0 5 40 [.sc (.int .i64 0), .sc (.int .i64 0), .sc (.int .i64 0), .sc (.int .i64 0), .sc (.int .i64 0)] (.s 6), .mv 3 (.s 7)] [0,3])
(.seq (.seq (pr [.mv 4 (.c (.int .i64 0))] [0,3,4])
(.block 0 (.loop ([0,3,4], []) (.seq (.seq (pr [.mv 8 (.s 4), .mv 9 (.s 0), .len 10 false (.s 9), .bin 11 false .lss (.s 8) (.s 10)] [0,3,4,11])
(.cond (.s 11) .skip (.exit 0)))
(.seq (.block 1 (pr [.mv 14 (.s 3), .mv 15 (.s 4), .mv 16 (.s 0), .mv 17 (.s 4), .idx 18 5 (.s 16) (.s 17), .load 19 true 5 (.s 18), .call 20 [] (.f n_laws_toExclusion) [.s 19], .idx 21 5 (.s 14) (.s 15), .store 5 (.s 21) (.s 20)] [0,3,4]))
(pr [.mv 12 (.s 4), .bin 13 false .add (.s 12) (.c (.int .i64 1)), .mv 4 (.s 13)] [0,3,4]))))))
(.seq (pr [.mv 22 (.s 3), .mv 2 (.s 22)] [2])
.ret))))
theorem c_laws_toExclusionS (xs : List GExclusion) (hs : xs.length ≤ 1073741824) : Ctr Tryd.prog n_laws_toExclusionS [aL 5 (xs.map GExclusion.enc)] [rL 5 (xs.map GExclusion.enc)] := by
  refine ctr_at (M := m_laws_toExclusionS) (m := 1) (n := 23) (res := [(.tmp 2, [true])]) hmix Tryd.func74 rfl (by kernel_rfl) rfl (by kernel_rfl) (by kernel_rfl) (Nat.le_of_ble_eq_true rfl) ?_; unfold m_laws_toExclusionS
  intro hb
  simp only [↓bk_bind, ↓bk_map, ↓bk_ite, ↓bk_some, ↓reduceIte, Nat.reduceEqDiff, Nat.reduceLT, Nat.reduceLeDiff, Nat.reduceAdd, Nat.reduceMul, reduceCtorEq, List.reduceReplicate, go_sem, replicate_toNat]
  refine ⟨⟨by omega, by simp only [roomB]; omega⟩, ?_⟩
  refine loopK_rng xs (fun k => [(4, vI k)]) (fun k => [(0, ⟨0, .row true 5 (filled GExclusion.enc [tI 0, tI 0, tI 0, tI 0, tI 0] xs k)⟩)]) (fun _ => True) (by simp only [roomB]; omega) ?_
  simp only [↓bk_bind, ↓bk_map, ↓bk_ite, ↓bk_some, ↓reduceIte, Nat.reduceEqDiff, Nat.reduceLT, Nat.reduceLeDiff, Nat.reduceAdd, Nat.reduceMul, reduceCtorEq, List.reduceReplicate, go_sem]
  refine ⟨?_, trivial, ?_, ?_⟩
  · simp only [↓bk_bind, ↓bk_map, ↓bk_ite, ↓bk_some, ↓reduceIte, Nat.reduceEqDiff, Nat.reduceLT, Nat.reduceLeDiff, Nat.reduceAdd, Nat.reduceMul, reduceCtorEq, List.reduceReplicate, go_sem, filled_zero]
    all_goals rfl
  · intro k x hx _ h0 h1 hw
    have h : k < xs.length := by omega
    simp only [↓bk_bind, ↓bk_map, ↓bk_ite, ↓bk_some, ↓reduceIte, Nat.reduceEqDiff, Nat.reduceLT, Nat.reduceLeDiff, Nat.reduceAdd, Nat.reduceMul, reduceCtorEq, List.reduceReplicate, go_sem, bk_eq hx, bk_eq (filled_get h), filled_len (Nat.le_of_lt h), h0, h1, hw]
    refine callK_of (c_laws_toExclusion x) ?_
    simp only [↓bk_bind, ↓bk_map, ↓bk_ite, ↓bk_some, ↓reduceIte, Nat.reduceEqDiff, Nat.reduceLT, Nat.reduceLeDiff, Nat.reduceAdd, Nat.reduceMul, reduceCtorEq, List.reduceReplicate, go_sem, bk_eq hx, bk_eq (filled_get h), filled_len (Nat.le_of_lt h), h0, h1, hw]
    intros; exact filled_set hx
  · intro _
    simp only [↓bk_bind, ↓bk_map, ↓bk_ite, ↓bk_some, ↓reduceIte, Nat.reduceEqDiff, Nat.reduceLT, Nat.reduceLeDiff, Nat.reduceAdd, Nat.reduceMul, reduceCtorEq, List.reduceReplicate, go_sem, filled_all]
def m_laws_eqExclusionS : MC :=
(.seq (pr [.mv 4 (.c (.bool false))] [0,1])
(.seq (.seq (pr [.mv 6 (.s 0), .len 7 false (.s 6), .mv 8 (.s 1), .len 9 false (.s 8), .bin 10 false .neq (.s 7) (.s 9)] [0,1,10])
(.cond (.s 10) (.seq (pr [.mv 4 (.c (.bool false))] [4])
.ret) .skip))
(.seq (.seq (pr [.mv 5 (.c (.int .i64 0))] [0,1,5])
(.block 0 (.loop ([0,1,5], []) (.seq (.seq (pr [.mv 11 (.s 5), .mv 12 (.s 0), .len 13 false (.s 12), .bin 14 false .lss (.s 11) (.s 13)] [0,1,5,14])
(.cond (.s 14) .skip (.exit 0)))
(.seq (.block 1 (.seq (.dreg [{ o := .mv 17 (.s 0), hs := [18,21,22,23,24] }, { o := .mv 18 (.s 5), hs := [17,21,22,23,24] }, { o := .idx 19 5 (.s 17) (.s 18), hs := [21,22,23,24], bf := [0,1] }, { o := .load 20 true 5 (.s 19), hs := [21,22,23,24], bf := [0,1,2] }, { o := .mv 21 (.s 1), hs := [17,18,19,20,22] }, { o := .mv 22 (.s 5), hs := [17,18,19,20,21] }, { o := .idx 23 5 (.s 21) (.s 22), hs := [17,18,19,20], bf := [4,5] }, { o := .load 24 true 5 (.s 23), hs := [17,18,19,20], bf := [4,5,6] }, { o := .call 25 [] (.f n_laws_eqExclusion) [.s 20, .s 24], bf := [0,1,2,3,4,5,6,7] }, { o := .un 26 .not (.s 25), bf := [0,1,2,3,4,5,6,7,8] }] [0,1,5,26])
(.cond (.s 26) (.seq (pr [.mv 4 (.c (.bool false))] [4])
.ret) .skip)))
(pr [.mv 15 (.s 5), .bin 16 false .add (.s 15) (.c (.int .i64 1)), .mv 5 (.s 16)] [0,1,5]))))))
(.seq (pr [.mv 4 (.c (.bool true))] [4])
.ret))))
theorem c_laws_eqExclusionS (xs ys : List GExclusion) : Ctr Tryd.prog n_laws_eqExclusionS [aL 5 (xs.map GExclusion.enc), aL 5 (ys.map GExclusion.enc)] [rB (decide (xs = ys))] := by
  refine ctr_at (M := m_laws_eqExclusionS) (m := 0) (n := 27) (res := [(.tmp 4, [false])]) hmix Tryd.func80 rfl (by kernel_rfl) rfl (by kernel_rfl) (by kernel_rfl) (Nat.le_of_ble_eq_true rfl) ?_; unfold m_laws_eqExclusionS
  intro hb
  simp only [bdA, bdL, bdT, bdR, bdR_map, wfB_i64, wfB_bool, wfB_str, roomB, and_true, true_and, List.length_map] at hb
  obtain ⟨⟨hl, -⟩, ⟨hl2, -⟩⟩ := hb
  simp only [↓bk_bind, ↓bk_map, ↓bk_ite, ↓bk_some, ↓reduceIte, Nat.reduceEqDiff, Nat.reduceLT, Nat.reduceLeDiff, Nat.reduceAdd, Nat.reduceMul, reduceCtorEq, List.reduceReplicate, go_sem]
  refine ⟨fun h => ne_len h, fun h => ?_⟩
  have hle : xs.length = ys.length := by omega
  refine loopK_rng xs (fun k => [(5, vI k)]) (fun k => []) (fun k => xs.take k = ys.take k) hl ?_
  simp only [↓bk_bind, ↓bk_map, ↓bk_ite, ↓bk_some, ↓reduceIte, Nat.reduceEqDiff, Nat.reduceLT, Nat.reduceLeDiff, Nat.reduceAdd, Nat.reduceMul, reduceCtorEq, List.reduceReplicate, go_sem]
  refine ⟨?_, rfl, ?_, ?_⟩
  · simp only [↓bk_bind, ↓bk_map, ↓bk_ite, ↓bk_some, ↓reduceIte, Nat.reduceEqDiff, Nat.reduceLT, Nat.reduceLeDiff, Nat.reduceAdd, Nat.reduceMul, reduceCtorEq, List.reduceReplicate, go_sem]
  · intro k x hx he h0 h1 hw
    obtain ⟨y, hy⟩ := at_some (show k < ys.length by omega)
    have h2 : (k : Int) < ys.length := by omega
    simp only [↓bk_bind, ↓bk_map, ↓bk_ite, ↓bk_some, ↓reduceIte, Nat.reduceEqDiff, Nat.reduceLT, Nat.reduceLeDiff, Nat.reduceAdd, Nat.reduceMul, reduceCtorEq, List.reduceReplicate, go_sem, bk_eq hx, bk_eq hy, h0, h1, h2, hw]
    refine callK_of (c_laws_eqExclusion x y) ?_
    simp only [↓bk_bind, ↓bk_map, ↓bk_ite, ↓bk_some, ↓reduceIte, Nat.reduceEqDiff, Nat.reduceLT, Nat.reduceLeDiff, Nat.reduceAdd, Nat.reduceMul, reduceCtorEq, List.reduceReplicate, go_sem, hw]
    exact ⟨fun hn => ne_at hx hy hn, fun hn => (take_eq_step hx hy he).2 hn⟩
  · intro he
    simp only [↓bk_bind, ↓bk_map, ↓bk_ite, ↓bk_some, ↓reduceIte, Nat.reduceEqDiff, Nat.reduceLT, Nat.reduceLeDiff, Nat.reduceAdd, Nat.reduceMul, reduceCtorEq, List.reduceReplicate, go_sem]
    exact eq_all he hle
def m_laws_toStatement : MC :=
(.seq (pr [.box 1 0 (.s 0), .alloc 2 1 [.pl (.sc (.int .i64 0)), .pl (.sc (.int .i64 0)), .pl (.sc (.int .i64 0)), .pl (.sc (.int .i64 0))]] [1,2])
(.seq (pr [.alloc 3 2 [.pl (.sc (.int .i64 0)), .pl (.sc (.int .i64 0)), .pl (.sc (.int .i64 0)), .pl (.sc (.int .i64 0))]] [1,2,3])
(.seq (pr [.fld 4 (.s 1) 0, .load 5 false 1 (.s 4), .fld 6 (.s 3) 0, .store 1 (.s 6) (.s 5)] [1,2,3])
(.seq (pr [.fld 7 (.s 1) 1, .load 8 false 1 (.s 7), .fld 9 (.s 3) 1, .store 1 (.s 9) (.s 8)] [1,2,3])
(.seq (pr [.fld 10 (.s 1) 2, .load 11 false 1 (.s 10), .fld 12 (.s 3) 2, .store 1 (.s 12) (.s 11)] [1,2,3])
(.seq (pr [.fld 13 (.s 1) 3, .load 14 false 1 (.s 13), .fld 15 (.s 3) 3, .store 1 (.s 15) (.s 14)] [2,3])
(.seq (pr [.load 16 true 4 (.s 3), .store 4 (.s 2) (.s 16)] [2])
.ret)))))))
theorem c_laws_toStatement (x : GStatement) : Ctr Tryd.prog n_laws_toStatement [aS x.enc] [rS x.enc] := by
  refine ctr_at (M := m_laws_toStatement) (m := 3) (n := 17) (res := [(.cell 2 true 4, [false, false, false, false])]) hmix Tryd.func103 rfl (by kernel_rfl) rfl (by kernel_rfl) (by kernel_rfl) (Nat.le_of_ble_eq_true rfl) ?_; unfold m_laws_toStatement
  intro hb
  simp only [↓bk_bind, ↓bk_map, ↓bk_ite, ↓bk_some, ↓reduceIte, Nat.reduceEqDiff, Nat.reduceLT, Nat.reduceLeDiff, Nat.reduceAdd, Nat.reduceMul, reduceCtorEq, List.reduceReplicate, go_sem]
def m_laws_eqStatement : MC :=
(.seq (pr [.box 2 0 (.s 0), .box 3 1 (.s 1), .mv 4 (.c (.bool false))] [2,3])
(.seq (.seq (pr [.fld 5 (.s 2) 0, .load 6 false 1 (.s 5), .fld 7 (.s 3) 0, .load 8 false 1 (.s 7), .bin 9 false .neq (.s 6) (.s 8)] [2,3,9])
(.cond (.s 9) (.seq (pr [.mv 4 (.c (.bool false))] [4])
.ret) .skip))
(.seq (.seq (pr [.fld 10 (.s 2) 1, .load 11 false 1 (.s 10), .fld 12 (.s 3) 1, .load 13 false 1 (.s 12), .bin 14 false .neq (.s 11) (.s 13)] [2,3,14])
(.cond (.s 14) (.seq (pr [.mv 4 (.c (.bool false))] [4])
.ret) .skip))
(.seq (.seq (pr [.fld 15 (.s 2) 2, .load 16 false 1 (.s 15), .fld 17 (.s 3) 2, .load 18 false 1 (.s 17), .bin 19 false .neq (.s 16) (.s 18)] [2,3,19])
(.cond (.s 19) (.seq (pr [.mv 4 (.c (.bool false))] [4])
.ret) .skip))
(.seq (.seq (pr [.fld 20 (.s 2) 3, .load 21 false 1 (.s 20), .fld 22 (.s 3) 3, .load 23 false 1 (.s 22), .bin 24 false .neq (.s 21) (.s 23)] [24])
(.cond (.s 24) (.seq (pr [.mv 4 (.c (.bool false))] [4])
.ret) .skip))
(.seq (pr [.mv 4 (.c (.bool true))] [4])
.ret))))))
theorem c_laws_eqStatement (x y : GStatement) : Ctr Tryd.prog n_laws_eqStatement [aS x.enc, aS y.enc] [rB (decide (x = y))] := by
  refine ctr_at (M := m_laws_eqStatement) (m := 2) (n := 25) (res := [(.tmp 4, [false])]) hmix Tryd.func110 rfl (by kernel_rfl) rfl (by kernel_rfl) (by kernel_rfl) (Nat.le_of_ble_eq_true rfl) ?_; unfold m_laws_eqStatement
  intro hb
  clear hb
  simp only [↓bk_bind, ↓bk_map, ↓bk_ite, ↓bk_some, ↓reduceIte, Nat.reduceEqDiff, Nat.reduceLT, Nat.reduceLeDiff, Nat.reduceAdd, Nat.reduceMul, reduceCtorEq, List.reduceReplicate, go_sem]
  refine ⟨fun h => ?_, fun h_Witness => ?_⟩
  · symm
    rw [decide_eq_false_iff_not]
    rintro rfl
    exact h rfl
  refine ⟨fun h => ?_, fun h_Digest => ?_⟩
  · symm
    rw [decide_eq_false_iff_not]
    rintro rfl
    exact h rfl
  refine ⟨fun h => ?_, fun h_Tick => ?_⟩
  · symm
    rw [decide_eq_false_iff_not]
    rintro rfl
    exact h rfl
  refine ⟨fun h => ?_, fun h_Seal => ?_⟩
  · symm
    rw [decide_eq_false_iff_not]
    rintro rfl
    exact h rfl
  cases x; cases y; simp_all
def m_laws_szStatementS : MC :=
(.seq (pr [.mv 4 (.c (.int .i64 0))] [0,1])
(.seq (pr [.mv 5 (.s 1), .mv 6 (.s 0), .len 7 false (.s 6), .bin 8 false .sub (.s 5) (.s 7), .mv 1 (.s 8)] [1])
(.seq (.seq (pr [.mv 9 (.s 1), .bin 10 false .lss (.s 9) (.c (.int .i64 0))] [1,10])
(.cond (.s 10) (.seq (pr [.mv 4 (.c (.int .i64 (-1)))] [4])
.ret) .skip))
(.seq (pr [.mv 11 (.s 1), .mv 4 (.s 11)] [4])
.ret))))
theorem c_laws_szStatementS (xs : List GStatement) (left : Int) (h0 : 0 ≤ left) : Ctr Tryd.prog n_laws_szStatementS [aL 4 (xs.map GStatement.enc), aI left] [rI (szr xs.length left)] := by
  refine ctr_at (M := m_laws_szStatementS) (m := 0) (n := 12) (res := [(.tmp 4, [false])]) hmix Tryd.func69 rfl (by kernel_rfl) rfl (by kernel_rfl) (by kernel_rfl) (Nat.le_of_ble_eq_true rfl) ?_; unfold m_laws_szStatementS
  intro hb
  simp only [bdA, bdL, bdT, bdR, bdR_map, wfB_i64, wfB_bool, wfB_str, roomB, and_true, true_and, List.length_map] at hb
  obtain ⟨⟨hl, -⟩, hn⟩ := hb
  simp only [↓bk_bind, ↓bk_map, ↓bk_ite, ↓bk_some, ↓reduceIte, Nat.reduceEqDiff, Nat.reduceLT, Nat.reduceLeDiff, Nat.reduceAdd, Nat.reduceMul, reduceCtorEq, List.reduceReplicate, go_sem]
  rw [wI (by omega) (by omega)]
  unfold szr
  refine ⟨fun h => ?_, fun h => ?_⟩
  · rw [if_neg (by omega)]
  · rw [if_pos (by omega)]
def m_laws_toStatementS : MC :=
(.seq (pr [.nilo 2 0 4] [0])
(.seq (pr [.mv 5 (.s 0), .len 6 false (.s 5), .mk 7 0 4 32 [.sc (.int .i64 0), .sc (.int .i64 0), .sc (.int .i64 0), .sc (.int .i64 0)] (.s 6), .mv 3 (.s 7)] [0,3])
(.seq (.seq (pr [.mv 4 (.c (.int .i64 0))] [0,3,4])
(.block 0 (.loop ([0,3,4], []) (.seq (.seq (pr [.mv 8 (.s 4), .mv 9 (.s 0), .len 10 false (.s 9), .bin 11 false .lss (.s 8) (.s 10)] [0,3,4,11])
(.cond (.s 11) .skip (.exit 0)))
(.seq (.block 1 (pr [.mv 14 (.s 3), .mv 15 (.s 4), .mv 16 (.s 0), .mv 17 (.s 4), .idx 18 4 (.s 16) (.s 17), .load 19 true 4 (.s 18), .call 20 [] (.f n_laws_toStatement) [.s 19], .idx 21 4 (.s 14) (.s 15), .store 4 (.s 21) (.s 20)] [0,3,4]))
(pr [.mv 12 (.s 4), .bin 13 false .add (.s 12) (.c (.int .i64 1)), .mv 4 (.s 13)] [0,3,4]))))))
(.seq (pr [.mv 22 (.s 3), .mv 2 (.s 22)] [2])
.ret))))
theorem c_laws_toStatementS (xs : List GStatement) (hs : xs.length ≤ 1073741824) : Ctr Tryd.prog n_laws_toStatementS [aL 4 (xs.map GStatement.enc)] [rL 4 (xs.map GStatement.enc)] := by
  refine ctr_at (M := m_laws_toStatementS) (m := 1) (n := 23) (res := [(.tmp 2, [true])]) hmix Tryd.func76 rfl (by kernel_rfl) rfl (by kernel_rfl) (by kernel_rfl) (Nat.le_of_ble_eq_true rfl) ?_; unfold m_laws_toStatementS
  intro hb
  simp only [↓bk_bind, ↓bk_map, ↓bk_ite, ↓bk_some, ↓reduceIte, Nat.reduceEqDiff, Nat.reduceLT, Nat.reduceLeDiff, Nat.reduceAdd, Nat.reduceMul, reduceCtorEq, List.reduceReplicate, go_sem, replicate_toNat]
  refine ⟨⟨by omega, by simp only [roomB]; omega⟩, ?_⟩
  refine loopK_rng xs (fun k => [(4, vI k)]) (fun k => [(0, ⟨0, .row true 4 (filled GStatement.enc [tI 0, tI 0, tI 0, tI 0] xs k)⟩)]) (fun _ => True) (by simp only [roomB]; omega) ?_
  simp only [↓bk_bind, ↓bk_map, ↓bk_ite, ↓bk_some, ↓reduceIte, Nat.reduceEqDiff, Nat.reduceLT, Nat.reduceLeDiff, Nat.reduceAdd, Nat.reduceMul, reduceCtorEq, List.reduceReplicate, go_sem]
  refine ⟨?_, trivial, ?_, ?_⟩
  · simp only [↓bk_bind, ↓bk_map, ↓bk_ite, ↓bk_some, ↓reduceIte, Nat.reduceEqDiff, Nat.reduceLT, Nat.reduceLeDiff, Nat.reduceAdd, Nat.reduceMul, reduceCtorEq, List.reduceReplicate, go_sem, filled_zero]
    all_goals rfl
  · intro k x hx _ h0 h1 hw
    have h : k < xs.length := by omega
    simp only [↓bk_bind, ↓bk_map, ↓bk_ite, ↓bk_some, ↓reduceIte, Nat.reduceEqDiff, Nat.reduceLT, Nat.reduceLeDiff, Nat.reduceAdd, Nat.reduceMul, reduceCtorEq, List.reduceReplicate, go_sem, bk_eq hx, bk_eq (filled_get h), filled_len (Nat.le_of_lt h), h0, h1, hw]
    refine callK_of (c_laws_toStatement x) ?_
    simp only [↓bk_bind, ↓bk_map, ↓bk_ite, ↓bk_some, ↓reduceIte, Nat.reduceEqDiff, Nat.reduceLT, Nat.reduceLeDiff, Nat.reduceAdd, Nat.reduceMul, reduceCtorEq, List.reduceReplicate, go_sem, bk_eq hx, bk_eq (filled_get h), filled_len (Nat.le_of_lt h), h0, h1, hw]
    intros; exact filled_set hx
  · intro _
    simp only [↓bk_bind, ↓bk_map, ↓bk_ite, ↓bk_some, ↓reduceIte, Nat.reduceEqDiff, Nat.reduceLT, Nat.reduceLeDiff, Nat.reduceAdd, Nat.reduceMul, reduceCtorEq, List.reduceReplicate, go_sem, filled_all]
def m_laws_eqStatementS : MC :=
(.seq (pr [.mv 4 (.c (.bool false))] [0,1])
(.seq (.seq (pr [.mv 6 (.s 0), .len 7 false (.s 6), .mv 8 (.s 1), .len 9 false (.s 8), .bin 10 false .neq (.s 7) (.s 9)] [0,1,10])
(.cond (.s 10) (.seq (pr [.mv 4 (.c (.bool false))] [4])
.ret) .skip))
(.seq (.seq (pr [.mv 5 (.c (.int .i64 0))] [0,1,5])
(.block 0 (.loop ([0,1,5], []) (.seq (.seq (pr [.mv 11 (.s 5), .mv 12 (.s 0), .len 13 false (.s 12), .bin 14 false .lss (.s 11) (.s 13)] [0,1,5,14])
(.cond (.s 14) .skip (.exit 0)))
(.seq (.block 1 (.seq (.dreg [{ o := .mv 17 (.s 0), hs := [18,21,22,23,24] }, { o := .mv 18 (.s 5), hs := [17,21,22,23,24] }, { o := .idx 19 4 (.s 17) (.s 18), hs := [21,22,23,24], bf := [0,1] }, { o := .load 20 true 4 (.s 19), hs := [21,22,23,24], bf := [0,1,2] }, { o := .mv 21 (.s 1), hs := [17,18,19,20,22] }, { o := .mv 22 (.s 5), hs := [17,18,19,20,21] }, { o := .idx 23 4 (.s 21) (.s 22), hs := [17,18,19,20], bf := [4,5] }, { o := .load 24 true 4 (.s 23), hs := [17,18,19,20], bf := [4,5,6] }, { o := .call 25 [] (.f n_laws_eqStatement) [.s 20, .s 24], bf := [0,1,2,3,4,5,6,7] }, { o := .un 26 .not (.s 25), bf := [0,1,2,3,4,5,6,7,8] }] [0,1,5,26])
(.cond (.s 26) (.seq (pr [.mv 4 (.c (.bool false))] [4])
.ret) .skip)))
(pr [.mv 15 (.s 5), .bin 16 false .add (.s 15) (.c (.int .i64 1)), .mv 5 (.s 16)] [0,1,5]))))))
(.seq (pr [.mv 4 (.c (.bool true))] [4])
.ret))))
theorem c_laws_eqStatementS (xs ys : List GStatement) : Ctr Tryd.prog n_laws_eqStatementS [aL 4 (xs.map GStatement.enc), aL 4 (ys.map GStatement.enc)] [rB (decide (xs = ys))] := by
  refine ctr_at (M := m_laws_eqStatementS) (m := 0) (n := 27) (res := [(.tmp 4, [false])]) hmix Tryd.func82 rfl (by kernel_rfl) rfl (by kernel_rfl) (by kernel_rfl) (Nat.le_of_ble_eq_true rfl) ?_; unfold m_laws_eqStatementS
  intro hb
  simp only [bdA, bdL, bdT, bdR, bdR_map, wfB_i64, wfB_bool, wfB_str, roomB, and_true, true_and, List.length_map] at hb
  obtain ⟨⟨hl, -⟩, ⟨hl2, -⟩⟩ := hb
  simp only [↓bk_bind, ↓bk_map, ↓bk_ite, ↓bk_some, ↓reduceIte, Nat.reduceEqDiff, Nat.reduceLT, Nat.reduceLeDiff, Nat.reduceAdd, Nat.reduceMul, reduceCtorEq, List.reduceReplicate, go_sem]
  refine ⟨fun h => ne_len h, fun h => ?_⟩
  have hle : xs.length = ys.length := by omega
  refine loopK_rng xs (fun k => [(5, vI k)]) (fun k => []) (fun k => xs.take k = ys.take k) hl ?_
  simp only [↓bk_bind, ↓bk_map, ↓bk_ite, ↓bk_some, ↓reduceIte, Nat.reduceEqDiff, Nat.reduceLT, Nat.reduceLeDiff, Nat.reduceAdd, Nat.reduceMul, reduceCtorEq, List.reduceReplicate, go_sem]
  refine ⟨?_, rfl, ?_, ?_⟩
  · simp only [↓bk_bind, ↓bk_map, ↓bk_ite, ↓bk_some, ↓reduceIte, Nat.reduceEqDiff, Nat.reduceLT, Nat.reduceLeDiff, Nat.reduceAdd, Nat.reduceMul, reduceCtorEq, List.reduceReplicate, go_sem]
  · intro k x hx he h0 h1 hw
    obtain ⟨y, hy⟩ := at_some (show k < ys.length by omega)
    have h2 : (k : Int) < ys.length := by omega
    simp only [↓bk_bind, ↓bk_map, ↓bk_ite, ↓bk_some, ↓reduceIte, Nat.reduceEqDiff, Nat.reduceLT, Nat.reduceLeDiff, Nat.reduceAdd, Nat.reduceMul, reduceCtorEq, List.reduceReplicate, go_sem, bk_eq hx, bk_eq hy, h0, h1, h2, hw]
    refine callK_of (c_laws_eqStatement x y) ?_
    simp only [↓bk_bind, ↓bk_map, ↓bk_ite, ↓bk_some, ↓reduceIte, Nat.reduceEqDiff, Nat.reduceLT, Nat.reduceLeDiff, Nat.reduceAdd, Nat.reduceMul, reduceCtorEq, List.reduceReplicate, go_sem, hw]
    exact ⟨fun hn => ne_at hx hy hn, fun hn => (take_eq_step hx hy he).2 hn⟩
  · intro he
    simp only [↓bk_bind, ↓bk_map, ↓bk_ite, ↓bk_some, ↓reduceIte, Nat.reduceEqDiff, Nat.reduceLT, Nat.reduceLeDiff, Nat.reduceAdd, Nat.reduceMul, reduceCtorEq, List.reduceReplicate, go_sem]
    exact eq_all he hle
def m_laws_szLibrary : MC :=
(.seq (pr [.box 2 0 (.s 0), .mv 4 (.c (.int .i64 0))] [1,2])
(.seq (pr [.fld 5 (.s 2) 1, .load 6 false 1 (.s 5), .mv 7 (.s 1), .call 8 [] (.f n_laws_szIntS) [.s 6, .s 7], .mv 1 (.s 8)] [1])
(.seq (.seq (pr [.mv 9 (.s 1), .bin 10 false .lss (.s 9) (.c (.int .i64 0))] [1,10])
(.cond (.s 10) (.seq (pr [.mv 4 (.c (.int .i64 (-1)))] [4])
.ret) .skip))
(.seq (pr [.mv 11 (.s 1), .mv 4 (.s 11)] [4])
.ret))))
theorem c_laws_szLibrary (x : GLibrary) (left : Int) (h0 : 0 ≤ left) : Ctr Tryd.prog n_laws_szLibrary [aS x.enc, aI left] [rI (szr x.size left)] := by
  refine ctr_at (M := m_laws_szLibrary) (m := 1) (n := 12) (res := [(.tmp 4, [false])]) hmix Tryd.func96 rfl (by kernel_rfl) rfl (by kernel_rfl) (by kernel_rfl) (Nat.le_of_ble_eq_true rfl) ?_; unfold m_laws_szLibrary
  intro hb
  simp only [↓bk_bind, ↓bk_map, ↓bk_ite, ↓bk_some, ↓reduceIte, Nat.reduceEqDiff, Nat.reduceLT, Nat.reduceLeDiff, Nat.reduceAdd, Nat.reduceMul, reduceCtorEq, List.reduceReplicate, go_sem]
  refine callK_of (c_laws_szIntS x.Digests left h0) ?_
  simp only [↓bk_bind, ↓bk_map, ↓bk_ite, ↓bk_some, ↓reduceIte, Nat.reduceEqDiff, Nat.reduceLT, Nat.reduceLeDiff, Nat.reduceAdd, Nat.reduceMul, reduceCtorEq, List.reduceReplicate, go_sem]
  intro _
  refine ⟨fun h => szr_bad' h0 h (by simp only [GLibrary.size]; omega), fun h1 => ?_⟩
  rfl
def m_laws_toLibrary : MC :=
(.seq (pr [.box 1 0 (.s 0), .alloc 2 1 [.pl (.sc (.int .i64 0)), .emp 1, .pl (.sc (.bool false)), .pl (.sc (.bool false))]] [1,2])
(.seq (pr [.alloc 3 2 [.pl (.sc (.int .i64 0)), .emp 1, .pl (.sc (.bool false)), .pl (.sc (.bool false))]] [1,2,3])
(.seq (pr [.fld 4 (.s 1) 0, .load 5 false 1 (.s 4), .fld 6 (.s 3) 0, .store 1 (.s 6) (.s 5)] [1,2,3])
(.seq (pr [.fld 7 (.s 1) 1, .load 8 false 1 (.s 7), .call 9 [3] (.f n_laws_toIntS) [.s 8], .fld 10 (.s 3) 1, .store 1 (.s 10) (.s 9)] [1,2,3])
(.seq (pr [.fld 11 (.s 1) 2, .load 12 false 1 (.s 11), .fld 13 (.s 3) 2, .store 1 (.s 13) (.s 12)] [1,2,3])
(.seq (pr [.fld 14 (.s 1) 3, .load 15 false 1 (.s 14), .fld 16 (.s 3) 3, .store 1 (.s 16) (.s 15)] [2,3])
(.seq (pr [.load 17 true 4 (.s 3), .store 4 (.s 2) (.s 17)] [2])
.ret)))))))
theorem c_laws_toLibrary (x : GLibrary) (hs : x.size ≤ 1073741824) : Ctr Tryd.prog n_laws_toLibrary [aS x.enc] [rS x.enc] := by
  refine ctr_at (M := m_laws_toLibrary) (m := 4) (n := 18) (res := [(.cell 2 true 4, [false, true, false, false])]) hmix Tryd.func102 rfl (by kernel_rfl) rfl (by kernel_rfl) (by kernel_rfl) (Nat.le_of_ble_eq_true rfl) ?_; unfold m_laws_toLibrary
  intro hb
  simp only [GLibrary.size] at hs
  simp only [↓bk_bind, ↓bk_map, ↓bk_ite, ↓bk_some, ↓reduceIte, Nat.reduceEqDiff, Nat.reduceLT, Nat.reduceLeDiff, Nat.reduceAdd, Nat.reduceMul, reduceCtorEq, List.reduceReplicate, go_sem]
  refine callK_of (c_laws_toIntS x.Digests (by omega)) ?_
  simp only [↓bk_bind, ↓bk_map, ↓bk_ite, ↓bk_some, ↓reduceIte, Nat.reduceEqDiff, Nat.reduceLT, Nat.reduceLeDiff, Nat.reduceAdd, Nat.reduceMul, reduceCtorEq, List.reduceReplicate, go_sem]
  try intros
def m_laws_eqLibrary : MC :=
(.seq (pr [.box 2 0 (.s 0), .box 3 1 (.s 1), .mv 4 (.c (.bool false))] [2,3])
(.seq (.seq (pr [.fld 5 (.s 2) 0, .load 6 false 1 (.s 5), .fld 7 (.s 3) 0, .load 8 false 1 (.s 7), .bin 9 false .neq (.s 6) (.s 8)] [2,3,9])
(.cond (.s 9) (.seq (pr [.mv 4 (.c (.bool false))] [4])
.ret) .skip))
(.seq (.seq (pr [.fld 10 (.s 2) 1, .load 11 false 1 (.s 10), .fld 12 (.s 3) 1, .load 13 false 1 (.s 12), .call 14 [] (.f n_laws_eqIntS) [.s 11, .s 13], .un 15 .not (.s 14)] [2,3,15])
(.cond (.s 15) (.seq (pr [.mv 4 (.c (.bool false))] [4])
.ret) .skip))
(.seq (.seq (pr [.fld 16 (.s 2) 2, .load 17 false 1 (.s 16), .fld 18 (.s 3) 2, .load 19 false 1 (.s 18), .bin 20 true .neq (.s 17) (.s 19)] [2,3,20])
(.cond (.s 20) (.seq (pr [.mv 4 (.c (.bool false))] [4])
.ret) .skip))
(.seq (.seq (pr [.fld 21 (.s 2) 3, .load 22 false 1 (.s 21), .fld 23 (.s 3) 3, .load 24 false 1 (.s 23), .bin 25 true .neq (.s 22) (.s 24)] [25])
(.cond (.s 25) (.seq (pr [.mv 4 (.c (.bool false))] [4])
.ret) .skip))
(.seq (pr [.mv 4 (.c (.bool true))] [4])
.ret))))))
theorem c_laws_eqLibrary (x y : GLibrary) : Ctr Tryd.prog n_laws_eqLibrary [aS x.enc, aS y.enc] [rB (decide (x = y))] := by
  refine ctr_at (M := m_laws_eqLibrary) (m := 2) (n := 26) (res := [(.tmp 4, [false])]) hmix Tryd.func109 rfl (by kernel_rfl) rfl (by kernel_rfl) (by kernel_rfl) (Nat.le_of_ble_eq_true rfl) ?_; unfold m_laws_eqLibrary
  intro hb
  clear hb
  simp only [↓bk_bind, ↓bk_map, ↓bk_ite, ↓bk_some, ↓reduceIte, Nat.reduceEqDiff, Nat.reduceLT, Nat.reduceLeDiff, Nat.reduceAdd, Nat.reduceMul, reduceCtorEq, List.reduceReplicate, go_sem]
  refine ⟨fun h => ?_, fun h_Id => ?_⟩
  · symm
    rw [decide_eq_false_iff_not]
    rintro rfl
    exact h rfl
  refine callK_of (c_laws_eqIntS x.Digests y.Digests) ?_
  simp only [↓bk_bind, ↓bk_map, ↓bk_ite, ↓bk_some, ↓reduceIte, Nat.reduceEqDiff, Nat.reduceLT, Nat.reduceLeDiff, Nat.reduceAdd, Nat.reduceMul, reduceCtorEq, List.reduceReplicate, go_sem]
  refine ⟨fun h => ?_, fun h_Digests => ?_⟩
  · symm
    rw [decide_eq_false_iff_not]
    rintro rfl
    exact h rfl
  refine ⟨fun h => ?_, fun h_Up => ?_⟩
  · symm
    rw [decide_eq_false_iff_not]
    rintro rfl
    exact h rfl
  refine ⟨fun h => ?_, fun h_Lies => ?_⟩
  · symm
    rw [decide_eq_false_iff_not]
    rintro rfl
    exact h rfl
  cases x; cases y; simp_all
def m_laws_szLibraryS : MC :=
(.seq (pr [.mv 4 (.c (.int .i64 0))] [0,1])
(.seq (pr [.mv 6 (.s 1), .mv 7 (.s 0), .len 8 false (.s 7), .bin 9 false .sub (.s 6) (.s 8), .mv 1 (.s 9)] [0,1])
(.seq (.seq (pr [.mv 10 (.s 1), .bin 11 false .lss (.s 10) (.c (.int .i64 0))] [0,1,11])
(.cond (.s 11) (.seq (pr [.mv 4 (.c (.int .i64 (-1)))] [4])
.ret) .skip))
(.seq (.seq (pr [.mv 5 (.c (.int .i64 0))] [0,1,5])
(.block 0 (.loop ([0,1,5], []) (.seq (.seq (pr [.mv 12 (.s 5), .mv 13 (.s 0), .len 14 false (.s 13), .bin 15 false .lss (.s 12) (.s 14)] [0,1,5,15])
(.cond (.s 15) .skip (.exit 0)))
(.seq (.block 1 (.seq (pr [.mv 18 (.s 0), .mv 19 (.s 5), .idx 20 4 (.s 18) (.s 19), .load 21 true 4 (.s 20), .mv 22 (.s 1), .call 23 [] (.f n_laws_szLibrary) [.s 21, .s 22], .mv 1 (.s 23)] [0,1,5])
(.seq (pr [.mv 24 (.s 1), .bin 25 false .lss (.s 24) (.c (.int .i64 0))] [0,1,5,25])
(.cond (.s 25) (.seq (pr [.mv 4 (.c (.int .i64 (-1)))] [4])
.ret) .skip))))
(pr [.mv 16 (.s 5), .bin 17 false .add (.s 16) (.c (.int .i64 1)), .mv 5 (.s 17)] [0,1,5]))))))
(.seq (pr [.mv 26 (.s 1), .mv 4 (.s 26)] [4])
.ret)))))
theorem c_laws_szLibraryS (xs : List GLibrary) (left : Int) (h0 : 0 ≤ left) : Ctr Tryd.prog n_laws_szLibraryS [aL 4 (xs.map GLibrary.enc), aI left] [rI (szr (xs.length + (xs.map GLibrary.size).sum) left)] := by
  refine ctr_at (M := m_laws_szLibraryS) (m := 0) (n := 27) (res := [(.tmp 4, [false])]) hmix Tryd.func68 rfl (by kernel_rfl) rfl (by kernel_rfl) (by kernel_rfl) (Nat.le_of_ble_eq_true rfl) ?_; unfold m_laws_szLibraryS
  intro hb
  simp only [bdA, bdL, bdT, bdR, bdR_map, wfB_i64, wfB_bool, wfB_str, roomB, and_true, true_and, List.length_map] at hb
  obtain ⟨⟨hl, -⟩, hn⟩ := hb
  simp only [↓bk_bind, ↓bk_map, ↓bk_ite, ↓bk_some, ↓reduceIte, Nat.reduceEqDiff, Nat.reduceLT, Nat.reduceLeDiff, Nat.reduceAdd, Nat.reduceMul, reduceCtorEq, List.reduceReplicate, go_sem]
  rw [wI (by omega) (by omega)]
  refine ⟨fun h => ?_, fun h => ?_⟩
  · exact szr_bad' (n := xs.length) h0 ((szr_neg h0).2 (by omega)) (by omega)
  · have hz : szr xs.length left = left - xs.length := by unfold szr; rw [if_pos (by omega)]
    rw [← hz] at h ⊢
    refine loopK_rng xs (fun k => [(1, vI (szr (xs.length + ((xs.take k).map GLibrary.size).sum) left)), (5, vI k)]) (fun k => []) (fun k => ¬ szr (xs.length + ((xs.take k).map GLibrary.size).sum) left < 0) hl ?_
    simp only [↓bk_bind, ↓bk_map, ↓bk_ite, ↓bk_some, ↓reduceIte, Nat.reduceEqDiff, Nat.reduceLT, Nat.reduceLeDiff, Nat.reduceAdd, Nat.reduceMul, reduceCtorEq, List.reduceReplicate, go_sem]
    refine ⟨?_, by simpa using h, ?_, ?_⟩
    · simp only [↓bk_bind, ↓bk_map, ↓bk_ite, ↓bk_some, ↓reduceIte, Nat.reduceEqDiff, Nat.reduceLT, Nat.reduceLeDiff, Nat.reduceAdd, Nat.reduceMul, reduceCtorEq, List.reduceReplicate, go_sem, List.take_zero, List.map_nil, List.sum_nil, Nat.add_zero]
      all_goals rfl
    · intro k x hx hs hk0 h1 hw
      obtain ⟨a1, a2, a3⟩ := szr_add (m := x.size) h0 hs
      rw [Nat.add_assoc, ← sum_snoc hx] at a3
      simp only [↓bk_bind, ↓bk_map, ↓bk_ite, ↓bk_some, ↓reduceIte, Nat.reduceEqDiff, Nat.reduceLT, Nat.reduceLeDiff, Nat.reduceAdd, Nat.reduceMul, reduceCtorEq, List.reduceReplicate, go_sem, bk_eq hx, hk0, h1, hw]
      refine callK_of (c_laws_szLibrary x _ a1) ?_
      rw [← a3]
      simp only [↓bk_bind, ↓bk_map, ↓bk_ite, ↓bk_some, ↓reduceIte, Nat.reduceEqDiff, Nat.reduceLT, Nat.reduceLeDiff, Nat.reduceAdd, Nat.reduceMul, reduceCtorEq, List.reduceReplicate, go_sem, hw]
      intro _
      refine ⟨fun hn => ?_, fun hn => hn⟩
      have := sum_take_le (f := GLibrary.size) xs (k + 1)
      exact szr_bad' h0 hn (by omega)
    · intro _
      simp only [↓bk_bind, ↓bk_map, ↓bk_ite, ↓bk_some, ↓reduceIte, Nat.reduceEqDiff, Nat.reduceLT, Nat.reduceLeDiff, Nat.reduceAdd, Nat.reduceMul, reduceCtorEq, List.reduceReplicate, go_sem, List.take_length]
def m_laws_toLibraryS : MC :=
(.seq (pr [.nilo 2 0 4] [0])
(.seq (pr [.mv 5 (.s 0), .len 6 false (.s 5), .mk 7 0 4 40 [.sc (.int .i64 0), .sl 1 [], .sc (.bool false), .sc (.bool false)] (.s 6), .mv 3 (.s 7)] [0,3])
(.seq (.seq (pr [.mv 4 (.c (.int .i64 0))] [0,3,4])
(.block 0 (.loop ([0,3,4], [1]) (.seq (.seq (pr [.mv 8 (.s 4), .mv 9 (.s 0), .len 10 false (.s 9), .bin 11 false .lss (.s 8) (.s 10)] [0,3,4,11])
(.cond (.s 11) .skip (.exit 0)))
(.seq (.block 1 (pr [.mv 14 (.s 3), .mv 15 (.s 4), .mv 16 (.s 0), .mv 17 (.s 4), .idx 18 4 (.s 16) (.s 17), .load 19 true 4 (.s 18), .call 20 [1] (.f n_laws_toLibrary) [.s 19], .idx 21 4 (.s 14) (.s 15), .store 4 (.s 21) (.s 20)] [0,3,4]))
(pr [.mv 12 (.s 4), .bin 13 false .add (.s 12) (.c (.int .i64 1)), .mv 4 (.s 13)] [0,3,4]))))))
(.seq (pr [.mv 22 (.s 3), .mv 2 (.s 22)] [2])
.ret))))
theorem c_laws_toLibraryS (xs : List GLibrary) (hs : xs.length + (xs.map GLibrary.size).sum ≤ 1073741824) : Ctr Tryd.prog n_laws_toLibraryS [aL 4 (xs.map GLibrary.enc)] [rL 4 (xs.map GLibrary.enc)] := by
  refine ctr_at (M := m_laws_toLibraryS) (m := 2) (n := 23) (res := [(.tmp 2, [true])]) hmix Tryd.func75 rfl (by kernel_rfl) rfl (by kernel_rfl) (by kernel_rfl) (Nat.le_of_ble_eq_true rfl) ?_; unfold m_laws_toLibraryS
  intro hb
  simp only [↓bk_bind, ↓bk_map, ↓bk_ite, ↓bk_some, ↓reduceIte, Nat.reduceEqDiff, Nat.reduceLT, Nat.reduceLeDiff, Nat.reduceAdd, Nat.reduceMul, reduceCtorEq, List.reduceReplicate, go_sem, replicate_toNat]
  refine ⟨⟨by omega, by simp only [roomB]; omega⟩, ?_⟩
  refine loopK_rng xs (fun k => [(4, vI k)]) (fun k => [(0, ⟨0, .row true 4 (filled GLibrary.enc [tI 0, .sl 1 [], tB false, tB false] xs k)⟩)]) (fun _ => True) (by simp only [roomB]; omega) ?_
  simp only [↓bk_bind, ↓bk_map, ↓bk_ite, ↓bk_some, ↓reduceIte, Nat.reduceEqDiff, Nat.reduceLT, Nat.reduceLeDiff, Nat.reduceAdd, Nat.reduceMul, reduceCtorEq, List.reduceReplicate, go_sem]
  refine ⟨?_, trivial, ?_, ?_⟩
  · simp only [↓bk_bind, ↓bk_map, ↓bk_ite, ↓bk_some, ↓reduceIte, Nat.reduceEqDiff, Nat.reduceLT, Nat.reduceLeDiff, Nat.reduceAdd, Nat.reduceMul, reduceCtorEq, List.reduceReplicate, go_sem, filled_zero]
    all_goals rfl
  · intro k x hx _ h0 h1 hw
    have h : k < xs.length := by omega
    simp only [↓bk_bind, ↓bk_map, ↓bk_ite, ↓bk_some, ↓reduceIte, Nat.reduceEqDiff, Nat.reduceLT, Nat.reduceLeDiff, Nat.reduceAdd, Nat.reduceMul, reduceCtorEq, List.reduceReplicate, go_sem, bk_eq hx, bk_eq (filled_get h), filled_len (Nat.le_of_lt h), h0, h1, hw]
    have hx1 := mem_sum (f := GLibrary.size) (at_mem hx)
    refine callK_of (c_laws_toLibrary x (by omega)) ?_
    simp only [↓bk_bind, ↓bk_map, ↓bk_ite, ↓bk_some, ↓reduceIte, Nat.reduceEqDiff, Nat.reduceLT, Nat.reduceLeDiff, Nat.reduceAdd, Nat.reduceMul, reduceCtorEq, List.reduceReplicate, go_sem, bk_eq hx, bk_eq (filled_get h), filled_len (Nat.le_of_lt h), h0, h1, hw]
    intros; exact filled_set hx
  · intro _
    simp only [↓bk_bind, ↓bk_map, ↓bk_ite, ↓bk_some, ↓reduceIte, Nat.reduceEqDiff, Nat.reduceLT, Nat.reduceLeDiff, Nat.reduceAdd, Nat.reduceMul, reduceCtorEq, List.reduceReplicate, go_sem, filled_all]
def m_laws_eqLibraryS : MC :=
(.seq (pr [.mv 4 (.c (.bool false))] [0,1])
(.seq (.seq (pr [.mv 6 (.s 0), .len 7 false (.s 6), .mv 8 (.s 1), .len 9 false (.s 8), .bin 10 false .neq (.s 7) (.s 9)] [0,1,10])
(.cond (.s 10) (.seq (pr [.mv 4 (.c (.bool false))] [4])
.ret) .skip))
(.seq (.seq (pr [.mv 5 (.c (.int .i64 0))] [0,1,5])
(.block 0 (.loop ([0,1,5], []) (.seq (.seq (pr [.mv 11 (.s 5), .mv 12 (.s 0), .len 13 false (.s 12), .bin 14 false .lss (.s 11) (.s 13)] [0,1,5,14])
(.cond (.s 14) .skip (.exit 0)))
(.seq (.block 1 (.seq (.dreg [{ o := .mv 17 (.s 0), hs := [18,21,22,23,24] }, { o := .mv 18 (.s 5), hs := [17,21,22,23,24] }, { o := .idx 19 4 (.s 17) (.s 18), hs := [21,22,23,24], bf := [0,1] }, { o := .load 20 true 4 (.s 19), hs := [21,22,23,24], bf := [0,1,2] }, { o := .mv 21 (.s 1), hs := [17,18,19,20,22] }, { o := .mv 22 (.s 5), hs := [17,18,19,20,21] }, { o := .idx 23 4 (.s 21) (.s 22), hs := [17,18,19,20], bf := [4,5] }, { o := .load 24 true 4 (.s 23), hs := [17,18,19,20], bf := [4,5,6] }, { o := .call 25 [] (.f n_laws_eqLibrary) [.s 20, .s 24], bf := [0,1,2,3,4,5,6,7] }, { o := .un 26 .not (.s 25), bf := [0,1,2,3,4,5,6,7,8] }] [0,1,5,26])
(.cond (.s 26) (.seq (pr [.mv 4 (.c (.bool false))] [4])
.ret) .skip)))
(pr [.mv 15 (.s 5), .bin 16 false .add (.s 15) (.c (.int .i64 1)), .mv 5 (.s 16)] [0,1,5]))))))
(.seq (pr [.mv 4 (.c (.bool true))] [4])
.ret))))
theorem c_laws_eqLibraryS (xs ys : List GLibrary) : Ctr Tryd.prog n_laws_eqLibraryS [aL 4 (xs.map GLibrary.enc), aL 4 (ys.map GLibrary.enc)] [rB (decide (xs = ys))] := by
  refine ctr_at (M := m_laws_eqLibraryS) (m := 0) (n := 27) (res := [(.tmp 4, [false])]) hmix Tryd.func81 rfl (by kernel_rfl) rfl (by kernel_rfl) (by kernel_rfl) (Nat.le_of_ble_eq_true rfl) ?_; unfold m_laws_eqLibraryS
  intro hb
  simp only [bdA, bdL, bdT, bdR, bdR_map, wfB_i64, wfB_bool, wfB_str, roomB, and_true, true_and, List.length_map] at hb
  obtain ⟨⟨hl, -⟩, ⟨hl2, -⟩⟩ := hb
  simp only [↓bk_bind, ↓bk_map, ↓bk_ite, ↓bk_some, ↓reduceIte, Nat.reduceEqDiff, Nat.reduceLT, Nat.reduceLeDiff, Nat.reduceAdd, Nat.reduceMul, reduceCtorEq, List.reduceReplicate, go_sem]
  refine ⟨fun h => ne_len h, fun h => ?_⟩
  have hle : xs.length = ys.length := by omega
  refine loopK_rng xs (fun k => [(5, vI k)]) (fun k => []) (fun k => xs.take k = ys.take k) hl ?_
  simp only [↓bk_bind, ↓bk_map, ↓bk_ite, ↓bk_some, ↓reduceIte, Nat.reduceEqDiff, Nat.reduceLT, Nat.reduceLeDiff, Nat.reduceAdd, Nat.reduceMul, reduceCtorEq, List.reduceReplicate, go_sem]
  refine ⟨?_, rfl, ?_, ?_⟩
  · simp only [↓bk_bind, ↓bk_map, ↓bk_ite, ↓bk_some, ↓reduceIte, Nat.reduceEqDiff, Nat.reduceLT, Nat.reduceLeDiff, Nat.reduceAdd, Nat.reduceMul, reduceCtorEq, List.reduceReplicate, go_sem]
  · intro k x hx he h0 h1 hw
    obtain ⟨y, hy⟩ := at_some (show k < ys.length by omega)
    have h2 : (k : Int) < ys.length := by omega
    simp only [↓bk_bind, ↓bk_map, ↓bk_ite, ↓bk_some, ↓reduceIte, Nat.reduceEqDiff, Nat.reduceLT, Nat.reduceLeDiff, Nat.reduceAdd, Nat.reduceMul, reduceCtorEq, List.reduceReplicate, go_sem, bk_eq hx, bk_eq hy, h0, h1, h2, hw]
    refine callK_of (c_laws_eqLibrary x y) ?_
    simp only [↓bk_bind, ↓bk_map, ↓bk_ite, ↓bk_some, ↓reduceIte, Nat.reduceEqDiff, Nat.reduceLT, Nat.reduceLeDiff, Nat.reduceAdd, Nat.reduceMul, reduceCtorEq, List.reduceReplicate, go_sem, hw]
    exact ⟨fun hn => ne_at hx hy hn, fun hn => (take_eq_step hx hy he).2 hn⟩
  · intro he
    simp only [↓bk_bind, ↓bk_map, ↓bk_ite, ↓bk_some, ↓reduceIte, Nat.reduceEqDiff, Nat.reduceLT, Nat.reduceLeDiff, Nat.reduceAdd, Nat.reduceMul, reduceCtorEq, List.reduceReplicate, go_sem]
    exact eq_all he hle
def m_laws_szContainer : MC :=
(.seq (pr [.box 2 0 (.s 0), .mv 4 (.c (.int .i64 0))] [1,2])
(.seq (pr [.fld 5 (.s 2) 0, .load 6 false 1 (.s 5), .mv 7 (.s 1), .call 8 [] (.f n_laws_szOpS) [.s 6, .s 7], .mv 1 (.s 8)] [1,2])
(.seq (.seq (pr [.mv 9 (.s 1), .bin 10 false .lss (.s 9) (.c (.int .i64 0))] [1,2,10])
(.cond (.s 10) (.seq (pr [.mv 4 (.c (.int .i64 (-1)))] [4])
.ret) .skip))
(.seq (pr [.fld 11 (.s 2) 1, .load 12 false 1 (.s 11), .mv 13 (.s 1), .call 14 [] (.f n_laws_szEntryS) [.s 12, .s 13], .mv 1 (.s 14)] [1,2])
(.seq (.seq (pr [.mv 15 (.s 1), .bin 16 false .lss (.s 15) (.c (.int .i64 0))] [1,2,16])
(.cond (.s 16) (.seq (pr [.mv 4 (.c (.int .i64 (-1)))] [4])
.ret) .skip))
(.seq (pr [.fld 17 (.s 2) 2, .load 18 false 1 (.s 17), .mv 19 (.s 1), .call 20 [] (.f n_laws_szCaptureS) [.s 18, .s 19], .mv 1 (.s 20)] [1])
(.seq (.seq (pr [.mv 21 (.s 1), .bin 22 false .lss (.s 21) (.c (.int .i64 0))] [1,22])
(.cond (.s 22) (.seq (pr [.mv 4 (.c (.int .i64 (-1)))] [4])
.ret) .skip))
(.seq (pr [.mv 23 (.s 1), .mv 4 (.s 23)] [4])
.ret))))))))
theorem c_laws_szContainer (x : GContainer) (left : Int) (h0 : 0 ≤ left) : Ctr Tryd.prog n_laws_szContainer [aS x.enc, aI left] [rI (szr x.size left)] := by
  refine ctr_at (M := m_laws_szContainer) (m := 1) (n := 24) (res := [(.tmp 4, [false])]) hmix Tryd.func118 rfl (by kernel_rfl) rfl (by kernel_rfl) (by kernel_rfl) (Nat.le_of_ble_eq_true rfl) ?_; unfold m_laws_szContainer
  intro hb
  simp only [↓bk_bind, ↓bk_map, ↓bk_ite, ↓bk_some, ↓reduceIte, Nat.reduceEqDiff, Nat.reduceLT, Nat.reduceLeDiff, Nat.reduceAdd, Nat.reduceMul, reduceCtorEq, List.reduceReplicate, go_sem]
  refine callK_of (c_laws_szOpS x.Script left h0) ?_
  simp only [↓bk_bind, ↓bk_map, ↓bk_ite, ↓bk_some, ↓reduceIte, Nat.reduceEqDiff, Nat.reduceLT, Nat.reduceLeDiff, Nat.reduceAdd, Nat.reduceMul, reduceCtorEq, List.reduceReplicate, go_sem]
  intro _
  refine ⟨fun h => szr_bad' h0 h (by simp only [GContainer.size]; omega), fun h1 => ?_⟩
  obtain ⟨a1, b1, e1⟩ := szr_add (m := x.Entries.length) h0 h1
  refine callK_of (c_laws_szEntryS x.Entries _ a1) ?_
  rw [← e1]
  simp only [↓bk_bind, ↓bk_map, ↓bk_ite, ↓bk_some, ↓reduceIte, Nat.reduceEqDiff, Nat.reduceLT, Nat.reduceLeDiff, Nat.reduceAdd, Nat.reduceMul, reduceCtorEq, List.reduceReplicate, go_sem]
  intro _
  refine ⟨fun h => szr_bad' h0 h (by simp only [GContainer.size]; omega), fun h2 => ?_⟩
  obtain ⟨a2, b2, e2⟩ := szr_add (m := x.Captures.length + (x.Captures.map GCapture.size).sum) h0 h2
  refine callK_of (c_laws_szCaptureS x.Captures _ a2) ?_
  rw [← e2]
  simp only [↓bk_bind, ↓bk_map, ↓bk_ite, ↓bk_some, ↓reduceIte, Nat.reduceEqDiff, Nat.reduceLT, Nat.reduceLeDiff, Nat.reduceAdd, Nat.reduceMul, reduceCtorEq, List.reduceReplicate, go_sem]
  intro _
  refine ⟨fun h => szr_bad' h0 h (by simp only [GContainer.size]; omega), fun h3 => ?_⟩
  rfl
def m_laws_toContainer : MC :=
(.seq (pr [.box 1 0 (.s 0), .alloc 2 1 [.emp 4, .emp 5, .emp 9, .pl (.sc (.int .i64 0))]] [1,2])
(.seq (pr [.alloc 3 2 [.emp 4, .emp 5, .emp 9, .pl (.sc (.int .i64 0))]] [1,2,3])
(.seq (pr [.fld 4 (.s 1) 0, .load 5 false 1 (.s 4), .call 6 [3] (.f n_laws_toOpS) [.s 5], .fld 7 (.s 3) 0, .store 1 (.s 7) (.s 6)] [1,2,3])
(.seq (pr [.fld 8 (.s 1) 1, .load 9 false 1 (.s 8), .call 10 [4] (.f n_laws_toEntryS) [.s 9], .fld 11 (.s 3) 1, .store 1 (.s 11) (.s 10)] [1,2,3])
(.seq (pr [.fld 12 (.s 1) 2, .load 13 false 1 (.s 12), .call 14 [5] (.f n_laws_toCaptureS) [.s 13], .fld 15 (.s 3) 2, .store 1 (.s 15) (.s 14)] [1,2,3])
(.seq (pr [.fld 16 (.s 1) 3, .load 17 false 1 (.s 16), .fld 18 (.s 3) 3, .store 1 (.s 18) (.s 17)] [2,3])
(.seq (pr [.load 19 true 4 (.s 3), .store 4 (.s 2) (.s 19)] [2])
.ret)))))))
theorem c_laws_toContainer (x : GContainer) (hs : x.size ≤ 1073741824) : Ctr Tryd.prog n_laws_toContainer [aS x.enc] [rS x.enc] := by
  refine ctr_at (M := m_laws_toContainer) (m := 6) (n := 20) (res := [(.cell 2 true 4, [true, true, true, false])]) hmix Tryd.func119 rfl (by kernel_rfl) rfl (by kernel_rfl) (by kernel_rfl) (Nat.le_of_ble_eq_true rfl) ?_; unfold m_laws_toContainer
  intro hb
  simp only [GContainer.size] at hs
  simp only [↓bk_bind, ↓bk_map, ↓bk_ite, ↓bk_some, ↓reduceIte, Nat.reduceEqDiff, Nat.reduceLT, Nat.reduceLeDiff, Nat.reduceAdd, Nat.reduceMul, reduceCtorEq, List.reduceReplicate, go_sem]
  refine callK_of (c_laws_toOpS x.Script (by omega)) ?_
  simp only [↓bk_bind, ↓bk_map, ↓bk_ite, ↓bk_some, ↓reduceIte, Nat.reduceEqDiff, Nat.reduceLT, Nat.reduceLeDiff, Nat.reduceAdd, Nat.reduceMul, reduceCtorEq, List.reduceReplicate, go_sem]
  try intros
  refine callK_of (c_laws_toEntryS x.Entries (by omega)) ?_
  simp only [↓bk_bind, ↓bk_map, ↓bk_ite, ↓bk_some, ↓reduceIte, Nat.reduceEqDiff, Nat.reduceLT, Nat.reduceLeDiff, Nat.reduceAdd, Nat.reduceMul, reduceCtorEq, List.reduceReplicate, go_sem]
  try intros
  refine callK_of (c_laws_toCaptureS x.Captures (by omega)) ?_
  simp only [↓bk_bind, ↓bk_map, ↓bk_ite, ↓bk_some, ↓reduceIte, Nat.reduceEqDiff, Nat.reduceLT, Nat.reduceLeDiff, Nat.reduceAdd, Nat.reduceMul, reduceCtorEq, List.reduceReplicate, go_sem]
  try intros
def m_laws_eqContainer : MC :=
(.seq (pr [.box 2 0 (.s 0), .box 3 1 (.s 1), .mv 4 (.c (.bool false))] [2,3])
(.seq (.seq (pr [.fld 5 (.s 2) 0, .load 6 false 1 (.s 5), .fld 7 (.s 3) 0, .load 8 false 1 (.s 7), .call 9 [] (.f n_laws_eqOpS) [.s 6, .s 8], .un 10 .not (.s 9)] [2,3,10])
(.cond (.s 10) (.seq (pr [.mv 4 (.c (.bool false))] [4])
.ret) .skip))
(.seq (.seq (pr [.fld 11 (.s 2) 1, .load 12 false 1 (.s 11), .fld 13 (.s 3) 1, .load 14 false 1 (.s 13), .call 15 [] (.f n_laws_eqEntryS) [.s 12, .s 14], .un 16 .not (.s 15)] [2,3,16])
(.cond (.s 16) (.seq (pr [.mv 4 (.c (.bool false))] [4])
.ret) .skip))
(.seq (.seq (pr [.fld 17 (.s 2) 2, .load 18 false 1 (.s 17), .fld 19 (.s 3) 2, .load 20 false 1 (.s 19), .call 21 [] (.f n_laws_eqCaptureS) [.s 18, .s 20], .un 22 .not (.s 21)] [2,3,22])
(.cond (.s 22) (.seq (pr [.mv 4 (.c (.bool false))] [4])
.ret) .skip))
(.seq (.seq (pr [.fld 23 (.s 2) 3, .load 24 false 1 (.s 23), .fld 25 (.s 3) 3, .load 26 false 1 (.s 25), .bin 27 false .neq (.s 24) (.s 26)] [27])
(.cond (.s 27) (.seq (pr [.mv 4 (.c (.bool false))] [4])
.ret) .skip))
(.seq (pr [.mv 4 (.c (.bool true))] [4])
.ret))))))
theorem c_laws_eqContainer (x y : GContainer) : Ctr Tryd.prog n_laws_eqContainer [aS x.enc, aS y.enc] [rB (decide (x = y))] := by
  refine ctr_at (M := m_laws_eqContainer) (m := 2) (n := 28) (res := [(.tmp 4, [false])]) hmix Tryd.func121 rfl (by kernel_rfl) rfl (by kernel_rfl) (by kernel_rfl) (Nat.le_of_ble_eq_true rfl) ?_; unfold m_laws_eqContainer
  intro hb
  clear hb
  simp only [↓bk_bind, ↓bk_map, ↓bk_ite, ↓bk_some, ↓reduceIte, Nat.reduceEqDiff, Nat.reduceLT, Nat.reduceLeDiff, Nat.reduceAdd, Nat.reduceMul, reduceCtorEq, List.reduceReplicate, go_sem]
  refine callK_of (c_laws_eqOpS x.Script y.Script) ?_
  simp only [↓bk_bind, ↓bk_map, ↓bk_ite, ↓bk_some, ↓reduceIte, Nat.reduceEqDiff, Nat.reduceLT, Nat.reduceLeDiff, Nat.reduceAdd, Nat.reduceMul, reduceCtorEq, List.reduceReplicate, go_sem]
  refine ⟨fun h => ?_, fun h_Script => ?_⟩
  · symm
    rw [decide_eq_false_iff_not]
    rintro rfl
    exact h rfl
  refine callK_of (c_laws_eqEntryS x.Entries y.Entries) ?_
  simp only [↓bk_bind, ↓bk_map, ↓bk_ite, ↓bk_some, ↓reduceIte, Nat.reduceEqDiff, Nat.reduceLT, Nat.reduceLeDiff, Nat.reduceAdd, Nat.reduceMul, reduceCtorEq, List.reduceReplicate, go_sem]
  refine ⟨fun h => ?_, fun h_Entries => ?_⟩
  · symm
    rw [decide_eq_false_iff_not]
    rintro rfl
    exact h rfl
  refine callK_of (c_laws_eqCaptureS x.Captures y.Captures) ?_
  simp only [↓bk_bind, ↓bk_map, ↓bk_ite, ↓bk_some, ↓reduceIte, Nat.reduceEqDiff, Nat.reduceLT, Nat.reduceLeDiff, Nat.reduceAdd, Nat.reduceMul, reduceCtorEq, List.reduceReplicate, go_sem]
  refine ⟨fun h => ?_, fun h_Captures => ?_⟩
  · symm
    rw [decide_eq_false_iff_not]
    rintro rfl
    exact h rfl
  refine ⟨fun h => ?_, fun h_Root => ?_⟩
  · symm
    rw [decide_eq_false_iff_not]
    rintro rfl
    exact h rfl
  cases x; cases y; simp_all
def m_laws_szContainerS : MC :=
(.seq (pr [.mv 4 (.c (.int .i64 0))] [0,1])
(.seq (pr [.mv 6 (.s 1), .mv 7 (.s 0), .len 8 false (.s 7), .bin 9 false .sub (.s 6) (.s 8), .mv 1 (.s 9)] [0,1])
(.seq (.seq (pr [.mv 10 (.s 1), .bin 11 false .lss (.s 10) (.c (.int .i64 0))] [0,1,11])
(.cond (.s 11) (.seq (pr [.mv 4 (.c (.int .i64 (-1)))] [4])
.ret) .skip))
(.seq (.seq (pr [.mv 5 (.c (.int .i64 0))] [0,1,5])
(.block 0 (.loop ([0,1,5], []) (.seq (.seq (pr [.mv 12 (.s 5), .mv 13 (.s 0), .len 14 false (.s 13), .bin 15 false .lss (.s 12) (.s 14)] [0,1,5,15])
(.cond (.s 15) .skip (.exit 0)))
(.seq (.block 1 (.seq (pr [.mv 18 (.s 0), .mv 19 (.s 5), .idx 20 4 (.s 18) (.s 19), .load 21 true 4 (.s 20), .mv 22 (.s 1), .call 23 [] (.f n_laws_szContainer) [.s 21, .s 22], .mv 1 (.s 23)] [0,1,5])
(.seq (pr [.mv 24 (.s 1), .bin 25 false .lss (.s 24) (.c (.int .i64 0))] [0,1,5,25])
(.cond (.s 25) (.seq (pr [.mv 4 (.c (.int .i64 (-1)))] [4])
.ret) .skip))))
(pr [.mv 16 (.s 5), .bin 17 false .add (.s 16) (.c (.int .i64 1)), .mv 5 (.s 17)] [0,1,5]))))))
(.seq (pr [.mv 26 (.s 1), .mv 4 (.s 26)] [4])
.ret)))))
theorem c_laws_szContainerS (xs : List GContainer) (left : Int) (h0 : 0 ≤ left) : Ctr Tryd.prog n_laws_szContainerS [aL 4 (xs.map GContainer.enc), aI left] [rI (szr (xs.length + (xs.map GContainer.size).sum) left)] := by
  refine ctr_at (M := m_laws_szContainerS) (m := 0) (n := 27) (res := [(.tmp 4, [false])]) hmix Tryd.func94 rfl (by kernel_rfl) rfl (by kernel_rfl) (by kernel_rfl) (Nat.le_of_ble_eq_true rfl) ?_; unfold m_laws_szContainerS
  intro hb
  simp only [bdA, bdL, bdT, bdR, bdR_map, wfB_i64, wfB_bool, wfB_str, roomB, and_true, true_and, List.length_map] at hb
  obtain ⟨⟨hl, -⟩, hn⟩ := hb
  simp only [↓bk_bind, ↓bk_map, ↓bk_ite, ↓bk_some, ↓reduceIte, Nat.reduceEqDiff, Nat.reduceLT, Nat.reduceLeDiff, Nat.reduceAdd, Nat.reduceMul, reduceCtorEq, List.reduceReplicate, go_sem]
  rw [wI (by omega) (by omega)]
  refine ⟨fun h => ?_, fun h => ?_⟩
  · exact szr_bad' (n := xs.length) h0 ((szr_neg h0).2 (by omega)) (by omega)
  · have hz : szr xs.length left = left - xs.length := by unfold szr; rw [if_pos (by omega)]
    rw [← hz] at h ⊢
    refine loopK_rng xs (fun k => [(1, vI (szr (xs.length + ((xs.take k).map GContainer.size).sum) left)), (5, vI k)]) (fun k => []) (fun k => ¬ szr (xs.length + ((xs.take k).map GContainer.size).sum) left < 0) hl ?_
    simp only [↓bk_bind, ↓bk_map, ↓bk_ite, ↓bk_some, ↓reduceIte, Nat.reduceEqDiff, Nat.reduceLT, Nat.reduceLeDiff, Nat.reduceAdd, Nat.reduceMul, reduceCtorEq, List.reduceReplicate, go_sem]
    refine ⟨?_, by simpa using h, ?_, ?_⟩
    · simp only [↓bk_bind, ↓bk_map, ↓bk_ite, ↓bk_some, ↓reduceIte, Nat.reduceEqDiff, Nat.reduceLT, Nat.reduceLeDiff, Nat.reduceAdd, Nat.reduceMul, reduceCtorEq, List.reduceReplicate, go_sem, List.take_zero, List.map_nil, List.sum_nil, Nat.add_zero]
      all_goals rfl
    · intro k x hx hs hk0 h1 hw
      obtain ⟨a1, a2, a3⟩ := szr_add (m := x.size) h0 hs
      rw [Nat.add_assoc, ← sum_snoc hx] at a3
      simp only [↓bk_bind, ↓bk_map, ↓bk_ite, ↓bk_some, ↓reduceIte, Nat.reduceEqDiff, Nat.reduceLT, Nat.reduceLeDiff, Nat.reduceAdd, Nat.reduceMul, reduceCtorEq, List.reduceReplicate, go_sem, bk_eq hx, hk0, h1, hw]
      refine callK_of (c_laws_szContainer x _ a1) ?_
      rw [← a3]
      simp only [↓bk_bind, ↓bk_map, ↓bk_ite, ↓bk_some, ↓reduceIte, Nat.reduceEqDiff, Nat.reduceLT, Nat.reduceLeDiff, Nat.reduceAdd, Nat.reduceMul, reduceCtorEq, List.reduceReplicate, go_sem, hw]
      intro _
      refine ⟨fun hn => ?_, fun hn => hn⟩
      have := sum_take_le (f := GContainer.size) xs (k + 1)
      exact szr_bad' h0 hn (by omega)
    · intro _
      simp only [↓bk_bind, ↓bk_map, ↓bk_ite, ↓bk_some, ↓reduceIte, Nat.reduceEqDiff, Nat.reduceLT, Nat.reduceLeDiff, Nat.reduceAdd, Nat.reduceMul, reduceCtorEq, List.reduceReplicate, go_sem, List.take_length]
def m_laws_toContainerS : MC :=
(.seq (pr [.nilo 2 0 4] [0])
(.seq (pr [.mv 5 (.s 0), .len 6 false (.s 5), .mk 7 0 4 80 [.sl 4 [], .sl 5 [], .sl 9 [], .sc (.int .i64 0)] (.s 6), .mv 3 (.s 7)] [0,3])
(.seq (.seq (pr [.mv 4 (.c (.int .i64 0))] [0,3,4])
(.block 0 (.loop ([0,3,4], [1,2,3]) (.seq (.seq (pr [.mv 8 (.s 4), .mv 9 (.s 0), .len 10 false (.s 9), .bin 11 false .lss (.s 8) (.s 10)] [0,3,4,11])
(.cond (.s 11) .skip (.exit 0)))
(.seq (.block 1 (pr [.mv 14 (.s 3), .mv 15 (.s 4), .mv 16 (.s 0), .mv 17 (.s 4), .idx 18 4 (.s 16) (.s 17), .load 19 true 4 (.s 18), .call 20 [1, 2, 3] (.f n_laws_toContainer) [.s 19], .idx 21 4 (.s 14) (.s 15), .store 4 (.s 21) (.s 20)] [0,3,4]))
(pr [.mv 12 (.s 4), .bin 13 false .add (.s 12) (.c (.int .i64 1)), .mv 4 (.s 13)] [0,3,4]))))))
(.seq (pr [.mv 22 (.s 3), .mv 2 (.s 22)] [2])
.ret))))
theorem c_laws_toContainerS (xs : List GContainer) (hs : xs.length + (xs.map GContainer.size).sum ≤ 1073741824) : Ctr Tryd.prog n_laws_toContainerS [aL 4 (xs.map GContainer.enc)] [rL 4 (xs.map GContainer.enc)] := by
  refine ctr_at (M := m_laws_toContainerS) (m := 4) (n := 23) (res := [(.tmp 2, [true])]) hmix Tryd.func99 rfl (by kernel_rfl) rfl (by kernel_rfl) (by kernel_rfl) (Nat.le_of_ble_eq_true rfl) ?_; unfold m_laws_toContainerS
  intro hb
  simp only [↓bk_bind, ↓bk_map, ↓bk_ite, ↓bk_some, ↓reduceIte, Nat.reduceEqDiff, Nat.reduceLT, Nat.reduceLeDiff, Nat.reduceAdd, Nat.reduceMul, reduceCtorEq, List.reduceReplicate, go_sem, replicate_toNat]
  refine ⟨⟨by omega, by simp only [roomB]; omega⟩, ?_⟩
  refine loopK_rng xs (fun k => [(4, vI k)]) (fun k => [(0, ⟨0, .row true 4 (filled GContainer.enc [.sl 4 [], .sl 5 [], .sl 9 [], tI 0] xs k)⟩)]) (fun _ => True) (by simp only [roomB]; omega) ?_
  simp only [↓bk_bind, ↓bk_map, ↓bk_ite, ↓bk_some, ↓reduceIte, Nat.reduceEqDiff, Nat.reduceLT, Nat.reduceLeDiff, Nat.reduceAdd, Nat.reduceMul, reduceCtorEq, List.reduceReplicate, go_sem]
  refine ⟨?_, trivial, ?_, ?_⟩
  · simp only [↓bk_bind, ↓bk_map, ↓bk_ite, ↓bk_some, ↓reduceIte, Nat.reduceEqDiff, Nat.reduceLT, Nat.reduceLeDiff, Nat.reduceAdd, Nat.reduceMul, reduceCtorEq, List.reduceReplicate, go_sem, filled_zero]
    all_goals rfl
  · intro k x hx _ h0 h1 hw
    have h : k < xs.length := by omega
    simp only [↓bk_bind, ↓bk_map, ↓bk_ite, ↓bk_some, ↓reduceIte, Nat.reduceEqDiff, Nat.reduceLT, Nat.reduceLeDiff, Nat.reduceAdd, Nat.reduceMul, reduceCtorEq, List.reduceReplicate, go_sem, bk_eq hx, bk_eq (filled_get h), filled_len (Nat.le_of_lt h), h0, h1, hw]
    have hx1 := mem_sum (f := GContainer.size) (at_mem hx)
    refine callK_of (c_laws_toContainer x (by omega)) ?_
    simp only [↓bk_bind, ↓bk_map, ↓bk_ite, ↓bk_some, ↓reduceIte, Nat.reduceEqDiff, Nat.reduceLT, Nat.reduceLeDiff, Nat.reduceAdd, Nat.reduceMul, reduceCtorEq, List.reduceReplicate, go_sem, bk_eq hx, bk_eq (filled_get h), filled_len (Nat.le_of_lt h), h0, h1, hw]
    intros; exact filled_set hx
  · intro _
    simp only [↓bk_bind, ↓bk_map, ↓bk_ite, ↓bk_some, ↓reduceIte, Nat.reduceEqDiff, Nat.reduceLT, Nat.reduceLeDiff, Nat.reduceAdd, Nat.reduceMul, reduceCtorEq, List.reduceReplicate, go_sem, filled_all]
def m_laws_eqContainerS : MC :=
(.seq (pr [.mv 4 (.c (.bool false))] [0,1])
(.seq (.seq (pr [.mv 6 (.s 0), .len 7 false (.s 6), .mv 8 (.s 1), .len 9 false (.s 8), .bin 10 false .neq (.s 7) (.s 9)] [0,1,10])
(.cond (.s 10) (.seq (pr [.mv 4 (.c (.bool false))] [4])
.ret) .skip))
(.seq (.seq (pr [.mv 5 (.c (.int .i64 0))] [0,1,5])
(.block 0 (.loop ([0,1,5], []) (.seq (.seq (pr [.mv 11 (.s 5), .mv 12 (.s 0), .len 13 false (.s 12), .bin 14 false .lss (.s 11) (.s 13)] [0,1,5,14])
(.cond (.s 14) .skip (.exit 0)))
(.seq (.block 1 (.seq (.dreg [{ o := .mv 17 (.s 0), hs := [18,21,22,23,24] }, { o := .mv 18 (.s 5), hs := [17,21,22,23,24] }, { o := .idx 19 4 (.s 17) (.s 18), hs := [21,22,23,24], bf := [0,1] }, { o := .load 20 true 4 (.s 19), hs := [21,22,23,24], bf := [0,1,2] }, { o := .mv 21 (.s 1), hs := [17,18,19,20,22] }, { o := .mv 22 (.s 5), hs := [17,18,19,20,21] }, { o := .idx 23 4 (.s 21) (.s 22), hs := [17,18,19,20], bf := [4,5] }, { o := .load 24 true 4 (.s 23), hs := [17,18,19,20], bf := [4,5,6] }, { o := .call 25 [] (.f n_laws_eqContainer) [.s 20, .s 24], bf := [0,1,2,3,4,5,6,7] }, { o := .un 26 .not (.s 25), bf := [0,1,2,3,4,5,6,7,8] }] [0,1,5,26])
(.cond (.s 26) (.seq (pr [.mv 4 (.c (.bool false))] [4])
.ret) .skip)))
(pr [.mv 15 (.s 5), .bin 16 false .add (.s 15) (.c (.int .i64 1)), .mv 5 (.s 16)] [0,1,5]))))))
(.seq (pr [.mv 4 (.c (.bool true))] [4])
.ret))))
theorem c_laws_eqContainerS (xs ys : List GContainer) : Ctr Tryd.prog n_laws_eqContainerS [aL 4 (xs.map GContainer.enc), aL 4 (ys.map GContainer.enc)] [rB (decide (xs = ys))] := by
  refine ctr_at (M := m_laws_eqContainerS) (m := 0) (n := 27) (res := [(.tmp 4, [false])]) hmix Tryd.func106 rfl (by kernel_rfl) rfl (by kernel_rfl) (by kernel_rfl) (Nat.le_of_ble_eq_true rfl) ?_; unfold m_laws_eqContainerS
  intro hb
  simp only [bdA, bdL, bdT, bdR, bdR_map, wfB_i64, wfB_bool, wfB_str, roomB, and_true, true_and, List.length_map] at hb
  obtain ⟨⟨hl, -⟩, ⟨hl2, -⟩⟩ := hb
  simp only [↓bk_bind, ↓bk_map, ↓bk_ite, ↓bk_some, ↓reduceIte, Nat.reduceEqDiff, Nat.reduceLT, Nat.reduceLeDiff, Nat.reduceAdd, Nat.reduceMul, reduceCtorEq, List.reduceReplicate, go_sem]
  refine ⟨fun h => ne_len h, fun h => ?_⟩
  have hle : xs.length = ys.length := by omega
  refine loopK_rng xs (fun k => [(5, vI k)]) (fun k => []) (fun k => xs.take k = ys.take k) hl ?_
  simp only [↓bk_bind, ↓bk_map, ↓bk_ite, ↓bk_some, ↓reduceIte, Nat.reduceEqDiff, Nat.reduceLT, Nat.reduceLeDiff, Nat.reduceAdd, Nat.reduceMul, reduceCtorEq, List.reduceReplicate, go_sem]
  refine ⟨?_, rfl, ?_, ?_⟩
  · simp only [↓bk_bind, ↓bk_map, ↓bk_ite, ↓bk_some, ↓reduceIte, Nat.reduceEqDiff, Nat.reduceLT, Nat.reduceLeDiff, Nat.reduceAdd, Nat.reduceMul, reduceCtorEq, List.reduceReplicate, go_sem]
  · intro k x hx he h0 h1 hw
    obtain ⟨y, hy⟩ := at_some (show k < ys.length by omega)
    have h2 : (k : Int) < ys.length := by omega
    simp only [↓bk_bind, ↓bk_map, ↓bk_ite, ↓bk_some, ↓reduceIte, Nat.reduceEqDiff, Nat.reduceLT, Nat.reduceLeDiff, Nat.reduceAdd, Nat.reduceMul, reduceCtorEq, List.reduceReplicate, go_sem, bk_eq hx, bk_eq hy, h0, h1, h2, hw]
    refine callK_of (c_laws_eqContainer x y) ?_
    simp only [↓bk_bind, ↓bk_map, ↓bk_ite, ↓bk_some, ↓reduceIte, Nat.reduceEqDiff, Nat.reduceLT, Nat.reduceLeDiff, Nat.reduceAdd, Nat.reduceMul, reduceCtorEq, List.reduceReplicate, go_sem, hw]
    exact ⟨fun hn => ne_at hx hy hn, fun hn => (take_eq_step hx hy he).2 hn⟩
  · intro he
    simp only [↓bk_bind, ↓bk_map, ↓bk_ite, ↓bk_some, ↓reduceIte, Nat.reduceEqDiff, Nat.reduceLT, Nat.reduceLeDiff, Nat.reduceAdd, Nat.reduceMul, reduceCtorEq, List.reduceReplicate, go_sem]
    exact eq_all he hle
def m_laws_toFound : MC :=
(.seq (pr [.box 1 0 (.s 0), .alloc 2 1 [.pl (.sc (.int .i64 0)), .pl (.sc (.int .i64 0)), .pl (.sc (.int .i64 0)), .pl (.sc (.int .i64 0)), .pl (.sc (.int .i64 0)), .pl (.sc (.int .i64 0))]] [1,2])
(.seq (pr [.alloc 3 2 [.pl (.sc (.int .i64 0)), .pl (.sc (.int .i64 0)), .pl (.sc (.int .i64 0)), .pl (.sc (.int .i64 0)), .pl (.sc (.int .i64 0)), .pl (.sc (.int .i64 0))]] [1,2,3])
(.seq (pr [.fld 4 (.s 1) 0, .load 5 true 3 (.s 4), .call 6 [] (.f n_laws_toAddress) [.s 5], .fld 7 (.s 3) 0, .store 3 (.s 7) (.s 6)] [1,2,3])
(.seq (pr [.fld 8 (.s 1) 3, .load 9 false 1 (.s 8), .fld 10 (.s 3) 3, .store 1 (.s 10) (.s 9)] [1,2,3])
(.seq (pr [.fld 11 (.s 1) 4, .load 12 false 1 (.s 11), .fld 13 (.s 3) 4, .store 1 (.s 13) (.s 12)] [1,2,3])
(.seq (pr [.fld 14 (.s 1) 5, .load 15 false 1 (.s 14), .fld 16 (.s 3) 5, .store 1 (.s 16) (.s 15)] [2,3])
(.seq (pr [.load 17 true 6 (.s 3), .store 6 (.s 2) (.s 17)] [2])
.ret)))))))
theorem c_laws_toFound (x : GFound) : Ctr Tryd.prog n_laws_toFound [aS x.enc] [rS x.enc] := by
  refine ctr_at (M := m_laws_toFound) (m := 3) (n := 18) (res := [(.cell 2 true 6, [false, false, false, false, false, false])]) hmix Tryd.func120 rfl (by kernel_rfl) rfl (by kernel_rfl) (by kernel_rfl) (Nat.le_of_ble_eq_true rfl) ?_; unfold m_laws_toFound
  intro hb
  simp only [↓bk_bind, ↓bk_map, ↓bk_ite, ↓bk_some, ↓reduceIte, Nat.reduceEqDiff, Nat.reduceLT, Nat.reduceLeDiff, Nat.reduceAdd, Nat.reduceMul, reduceCtorEq, List.reduceReplicate, go_sem]
  refine callK_of (c_laws_toAddress x.Address) ?_
  simp only [↓bk_bind, ↓bk_map, ↓bk_ite, ↓bk_some, ↓reduceIte, Nat.reduceEqDiff, Nat.reduceLT, Nat.reduceLeDiff, Nat.reduceAdd, Nat.reduceMul, reduceCtorEq, List.reduceReplicate, go_sem]
  try intros
def m_laws_eqFound : MC :=
(.seq (pr [.box 2 0 (.s 0), .box 3 1 (.s 1), .mv 4 (.c (.bool false))] [2,3])
(.seq (.seq (pr [.fld 5 (.s 2) 0, .load 6 true 3 (.s 5), .fld 7 (.s 3) 0, .load 8 true 3 (.s 7), .call 9 [] (.f n_laws_eqAddress) [.s 6, .s 8], .un 10 .not (.s 9)] [2,3,10])
(.cond (.s 10) (.seq (pr [.mv 4 (.c (.bool false))] [4])
.ret) .skip))
(.seq (.seq (pr [.fld 11 (.s 2) 3, .load 12 false 1 (.s 11), .fld 13 (.s 3) 3, .load 14 false 1 (.s 13), .bin 15 false .neq (.s 12) (.s 14)] [2,3,15])
(.cond (.s 15) (.seq (pr [.mv 4 (.c (.bool false))] [4])
.ret) .skip))
(.seq (.seq (pr [.fld 16 (.s 2) 4, .load 17 false 1 (.s 16), .fld 18 (.s 3) 4, .load 19 false 1 (.s 18), .bin 20 false .neq (.s 17) (.s 19)] [2,3,20])
(.cond (.s 20) (.seq (pr [.mv 4 (.c (.bool false))] [4])
.ret) .skip))
(.seq (.seq (pr [.fld 21 (.s 2) 5, .load 22 false 1 (.s 21), .fld 23 (.s 3) 5, .load 24 false 1 (.s 23), .bin 25 false .neq (.s 22) (.s 24)] [25])
(.cond (.s 25) (.seq (pr [.mv 4 (.c (.bool false))] [4])
.ret) .skip))
(.seq (pr [.mv 4 (.c (.bool true))] [4])
.ret))))))
theorem c_laws_eqFound (x y : GFound) : Ctr Tryd.prog n_laws_eqFound [aS x.enc, aS y.enc] [rB (decide (x = y))] := by
  refine ctr_at (M := m_laws_eqFound) (m := 2) (n := 26) (res := [(.tmp 4, [false])]) hmix Tryd.func122 rfl (by kernel_rfl) rfl (by kernel_rfl) (by kernel_rfl) (Nat.le_of_ble_eq_true rfl) ?_; unfold m_laws_eqFound
  intro hb
  clear hb
  simp only [↓bk_bind, ↓bk_map, ↓bk_ite, ↓bk_some, ↓reduceIte, Nat.reduceEqDiff, Nat.reduceLT, Nat.reduceLeDiff, Nat.reduceAdd, Nat.reduceMul, reduceCtorEq, List.reduceReplicate, go_sem]
  refine callK_of (c_laws_eqAddress x.Address y.Address) ?_
  simp only [↓bk_bind, ↓bk_map, ↓bk_ite, ↓bk_some, ↓reduceIte, Nat.reduceEqDiff, Nat.reduceLT, Nat.reduceLeDiff, Nat.reduceAdd, Nat.reduceMul, reduceCtorEq, List.reduceReplicate, go_sem]
  refine ⟨fun h => ?_, fun h_Address => ?_⟩
  · symm
    rw [decide_eq_false_iff_not]
    rintro rfl
    exact h rfl
  refine ⟨fun h => ?_, fun h_Tick => ?_⟩
  · symm
    rw [decide_eq_false_iff_not]
    rintro rfl
    exact h rfl
  refine ⟨fun h => ?_, fun h_Container => ?_⟩
  · symm
    rw [decide_eq_false_iff_not]
    rintro rfl
    exact h rfl
  refine ⟨fun h => ?_, fun h_At => ?_⟩
  · symm
    rw [decide_eq_false_iff_not]
    rintro rfl
    exact h rfl
  cases x; cases y; simp_all
def m_laws_szFoundS : MC :=
(.seq (pr [.mv 4 (.c (.int .i64 0))] [0,1])
(.seq (pr [.mv 5 (.s 1), .mv 6 (.s 0), .len 7 false (.s 6), .bin 8 false .sub (.s 5) (.s 7), .mv 1 (.s 8)] [1])
(.seq (.seq (pr [.mv 9 (.s 1), .bin 10 false .lss (.s 9) (.c (.int .i64 0))] [1,10])
(.cond (.s 10) (.seq (pr [.mv 4 (.c (.int .i64 (-1)))] [4])
.ret) .skip))
(.seq (pr [.mv 11 (.s 1), .mv 4 (.s 11)] [4])
.ret))))
theorem c_laws_szFoundS (xs : List GFound) (left : Int) (h0 : 0 ≤ left) : Ctr Tryd.prog n_laws_szFoundS [aL 6 (xs.map GFound.enc), aI left] [rI (szr xs.length left)] := by
  refine ctr_at (M := m_laws_szFoundS) (m := 0) (n := 12) (res := [(.tmp 4, [false])]) hmix Tryd.func95 rfl (by kernel_rfl) rfl (by kernel_rfl) (by kernel_rfl) (Nat.le_of_ble_eq_true rfl) ?_; unfold m_laws_szFoundS
  intro hb
  simp only [bdA, bdL, bdT, bdR, bdR_map, wfB_i64, wfB_bool, wfB_str, roomB, and_true, true_and, List.length_map] at hb
  obtain ⟨⟨hl, -⟩, hn⟩ := hb
  simp only [↓bk_bind, ↓bk_map, ↓bk_ite, ↓bk_some, ↓reduceIte, Nat.reduceEqDiff, Nat.reduceLT, Nat.reduceLeDiff, Nat.reduceAdd, Nat.reduceMul, reduceCtorEq, List.reduceReplicate, go_sem]
  rw [wI (by omega) (by omega)]
  unfold szr
  refine ⟨fun h => ?_, fun h => ?_⟩
  · rw [if_neg (by omega)]
  · rw [if_pos (by omega)]
def m_laws_toFoundS : MC :=
(.seq (pr [.nilo 2 0 6] [0])
(.seq (pr [.mv 5 (.s 0), .len 6 false (.s 5), .mk 7 0 6 48 [.sc (.int .i64 0), .sc (.int .i64 0), .sc (.int .i64 0), .sc (.int .i64 0), .sc (.int .i64 0), .sc (.int .i64 0)] (.s 6), .mv 3 (.s 7)] [0,3])
(.seq (.seq (pr [.mv 4 (.c (.int .i64 0))] [0,3,4])
(.block 0 (.loop ([0,3,4], []) (.seq (.seq (pr [.mv 8 (.s 4), .mv 9 (.s 0), .len 10 false (.s 9), .bin 11 false .lss (.s 8) (.s 10)] [0,3,4,11])
(.cond (.s 11) .skip (.exit 0)))
(.seq (.block 1 (pr [.mv 14 (.s 3), .mv 15 (.s 4), .mv 16 (.s 0), .mv 17 (.s 4), .idx 18 6 (.s 16) (.s 17), .load 19 true 6 (.s 18), .call 20 [] (.f n_laws_toFound) [.s 19], .idx 21 6 (.s 14) (.s 15), .store 6 (.s 21) (.s 20)] [0,3,4]))
(pr [.mv 12 (.s 4), .bin 13 false .add (.s 12) (.c (.int .i64 1)), .mv 4 (.s 13)] [0,3,4]))))))
(.seq (pr [.mv 22 (.s 3), .mv 2 (.s 22)] [2])
.ret))))
theorem c_laws_toFoundS (xs : List GFound) (hs : xs.length ≤ 1073741824) : Ctr Tryd.prog n_laws_toFoundS [aL 6 (xs.map GFound.enc)] [rL 6 (xs.map GFound.enc)] := by
  refine ctr_at (M := m_laws_toFoundS) (m := 1) (n := 23) (res := [(.tmp 2, [true])]) hmix Tryd.func100 rfl (by kernel_rfl) rfl (by kernel_rfl) (by kernel_rfl) (Nat.le_of_ble_eq_true rfl) ?_; unfold m_laws_toFoundS
  intro hb
  simp only [↓bk_bind, ↓bk_map, ↓bk_ite, ↓bk_some, ↓reduceIte, Nat.reduceEqDiff, Nat.reduceLT, Nat.reduceLeDiff, Nat.reduceAdd, Nat.reduceMul, reduceCtorEq, List.reduceReplicate, go_sem, replicate_toNat]
  refine ⟨⟨by omega, by simp only [roomB]; omega⟩, ?_⟩
  refine loopK_rng xs (fun k => [(4, vI k)]) (fun k => [(0, ⟨0, .row true 6 (filled GFound.enc [tI 0, tI 0, tI 0, tI 0, tI 0, tI 0] xs k)⟩)]) (fun _ => True) (by simp only [roomB]; omega) ?_
  simp only [↓bk_bind, ↓bk_map, ↓bk_ite, ↓bk_some, ↓reduceIte, Nat.reduceEqDiff, Nat.reduceLT, Nat.reduceLeDiff, Nat.reduceAdd, Nat.reduceMul, reduceCtorEq, List.reduceReplicate, go_sem]
  refine ⟨?_, trivial, ?_, ?_⟩
  · simp only [↓bk_bind, ↓bk_map, ↓bk_ite, ↓bk_some, ↓reduceIte, Nat.reduceEqDiff, Nat.reduceLT, Nat.reduceLeDiff, Nat.reduceAdd, Nat.reduceMul, reduceCtorEq, List.reduceReplicate, go_sem, filled_zero]
    all_goals rfl
  · intro k x hx _ h0 h1 hw
    have h : k < xs.length := by omega
    simp only [↓bk_bind, ↓bk_map, ↓bk_ite, ↓bk_some, ↓reduceIte, Nat.reduceEqDiff, Nat.reduceLT, Nat.reduceLeDiff, Nat.reduceAdd, Nat.reduceMul, reduceCtorEq, List.reduceReplicate, go_sem, bk_eq hx, bk_eq (filled_get h), filled_len (Nat.le_of_lt h), h0, h1, hw]
    refine callK_of (c_laws_toFound x) ?_
    simp only [↓bk_bind, ↓bk_map, ↓bk_ite, ↓bk_some, ↓reduceIte, Nat.reduceEqDiff, Nat.reduceLT, Nat.reduceLeDiff, Nat.reduceAdd, Nat.reduceMul, reduceCtorEq, List.reduceReplicate, go_sem, bk_eq hx, bk_eq (filled_get h), filled_len (Nat.le_of_lt h), h0, h1, hw]
    intros; exact filled_set hx
  · intro _
    simp only [↓bk_bind, ↓bk_map, ↓bk_ite, ↓bk_some, ↓reduceIte, Nat.reduceEqDiff, Nat.reduceLT, Nat.reduceLeDiff, Nat.reduceAdd, Nat.reduceMul, reduceCtorEq, List.reduceReplicate, go_sem, filled_all]
def m_laws_eqFoundS : MC :=
(.seq (pr [.mv 4 (.c (.bool false))] [0,1])
(.seq (.seq (pr [.mv 6 (.s 0), .len 7 false (.s 6), .mv 8 (.s 1), .len 9 false (.s 8), .bin 10 false .neq (.s 7) (.s 9)] [0,1,10])
(.cond (.s 10) (.seq (pr [.mv 4 (.c (.bool false))] [4])
.ret) .skip))
(.seq (.seq (pr [.mv 5 (.c (.int .i64 0))] [0,1,5])
(.block 0 (.loop ([0,1,5], []) (.seq (.seq (pr [.mv 11 (.s 5), .mv 12 (.s 0), .len 13 false (.s 12), .bin 14 false .lss (.s 11) (.s 13)] [0,1,5,14])
(.cond (.s 14) .skip (.exit 0)))
(.seq (.block 1 (.seq (.dreg [{ o := .mv 17 (.s 0), hs := [18,21,22,23,24] }, { o := .mv 18 (.s 5), hs := [17,21,22,23,24] }, { o := .idx 19 6 (.s 17) (.s 18), hs := [21,22,23,24], bf := [0,1] }, { o := .load 20 true 6 (.s 19), hs := [21,22,23,24], bf := [0,1,2] }, { o := .mv 21 (.s 1), hs := [17,18,19,20,22] }, { o := .mv 22 (.s 5), hs := [17,18,19,20,21] }, { o := .idx 23 6 (.s 21) (.s 22), hs := [17,18,19,20], bf := [4,5] }, { o := .load 24 true 6 (.s 23), hs := [17,18,19,20], bf := [4,5,6] }, { o := .call 25 [] (.f n_laws_eqFound) [.s 20, .s 24], bf := [0,1,2,3,4,5,6,7] }, { o := .un 26 .not (.s 25), bf := [0,1,2,3,4,5,6,7,8] }] [0,1,5,26])
(.cond (.s 26) (.seq (pr [.mv 4 (.c (.bool false))] [4])
.ret) .skip)))
(pr [.mv 15 (.s 5), .bin 16 false .add (.s 15) (.c (.int .i64 1)), .mv 5 (.s 16)] [0,1,5]))))))
(.seq (pr [.mv 4 (.c (.bool true))] [4])
.ret))))
theorem c_laws_eqFoundS (xs ys : List GFound) : Ctr Tryd.prog n_laws_eqFoundS [aL 6 (xs.map GFound.enc), aL 6 (ys.map GFound.enc)] [rB (decide (xs = ys))] := by
  refine ctr_at (M := m_laws_eqFoundS) (m := 0) (n := 27) (res := [(.tmp 4, [false])]) hmix Tryd.func107 rfl (by kernel_rfl) rfl (by kernel_rfl) (by kernel_rfl) (Nat.le_of_ble_eq_true rfl) ?_; unfold m_laws_eqFoundS
  intro hb
  simp only [bdA, bdL, bdT, bdR, bdR_map, wfB_i64, wfB_bool, wfB_str, roomB, and_true, true_and, List.length_map] at hb
  obtain ⟨⟨hl, -⟩, ⟨hl2, -⟩⟩ := hb
  simp only [↓bk_bind, ↓bk_map, ↓bk_ite, ↓bk_some, ↓reduceIte, Nat.reduceEqDiff, Nat.reduceLT, Nat.reduceLeDiff, Nat.reduceAdd, Nat.reduceMul, reduceCtorEq, List.reduceReplicate, go_sem]
  refine ⟨fun h => ne_len h, fun h => ?_⟩
  have hle : xs.length = ys.length := by omega
  refine loopK_rng xs (fun k => [(5, vI k)]) (fun k => []) (fun k => xs.take k = ys.take k) hl ?_
  simp only [↓bk_bind, ↓bk_map, ↓bk_ite, ↓bk_some, ↓reduceIte, Nat.reduceEqDiff, Nat.reduceLT, Nat.reduceLeDiff, Nat.reduceAdd, Nat.reduceMul, reduceCtorEq, List.reduceReplicate, go_sem]
  refine ⟨?_, rfl, ?_, ?_⟩
  · simp only [↓bk_bind, ↓bk_map, ↓bk_ite, ↓bk_some, ↓reduceIte, Nat.reduceEqDiff, Nat.reduceLT, Nat.reduceLeDiff, Nat.reduceAdd, Nat.reduceMul, reduceCtorEq, List.reduceReplicate, go_sem]
  · intro k x hx he h0 h1 hw
    obtain ⟨y, hy⟩ := at_some (show k < ys.length by omega)
    have h2 : (k : Int) < ys.length := by omega
    simp only [↓bk_bind, ↓bk_map, ↓bk_ite, ↓bk_some, ↓reduceIte, Nat.reduceEqDiff, Nat.reduceLT, Nat.reduceLeDiff, Nat.reduceAdd, Nat.reduceMul, reduceCtorEq, List.reduceReplicate, go_sem, bk_eq hx, bk_eq hy, h0, h1, h2, hw]
    refine callK_of (c_laws_eqFound x y) ?_
    simp only [↓bk_bind, ↓bk_map, ↓bk_ite, ↓bk_some, ↓reduceIte, Nat.reduceEqDiff, Nat.reduceLT, Nat.reduceLeDiff, Nat.reduceAdd, Nat.reduceMul, reduceCtorEq, List.reduceReplicate, go_sem, hw]
    exact ⟨fun hn => ne_at hx hy hn, fun hn => (take_eq_step hx hy he).2 hn⟩
  · intro he
    simp only [↓bk_bind, ↓bk_map, ↓bk_ite, ↓bk_some, ↓reduceIte, Nat.reduceEqDiff, Nat.reduceLT, Nat.reduceLeDiff, Nat.reduceAdd, Nat.reduceMul, reduceCtorEq, List.reduceReplicate, go_sem]
    exact eq_all he hle
def m_laws_szDisk : MC :=
(.seq (pr [.box 2 0 (.s 0), .mv 4 (.c (.int .i64 0))] [1,2])
(.seq (pr [.fld 5 (.s 2) 0, .load 6 false 1 (.s 5), .mv 7 (.s 1), .call 8 [] (.f n_laws_szContainerS) [.s 6, .s 7], .mv 1 (.s 8)] [1,2])
(.seq (.seq (pr [.mv 9 (.s 1), .bin 10 false .lss (.s 9) (.c (.int .i64 0))] [1,2,10])
(.cond (.s 10) (.seq (pr [.mv 4 (.c (.int .i64 (-1)))] [4])
.ret) .skip))
(.seq (pr [.fld 11 (.s 2) 1, .load 12 false 1 (.s 11), .mv 13 (.s 1), .call 14 [] (.f n_laws_szFoundS) [.s 12, .s 13], .mv 1 (.s 14)] [1,2])
(.seq (.seq (pr [.mv 15 (.s 1), .bin 16 false .lss (.s 15) (.c (.int .i64 0))] [1,2,16])
(.cond (.s 16) (.seq (pr [.mv 4 (.c (.int .i64 (-1)))] [4])
.ret) .skip))
(.seq (pr [.fld 17 (.s 2) 2, .load 18 false 1 (.s 17), .mv 19 (.s 1), .call 20 [] (.f n_laws_szContainerS) [.s 18, .s 19], .mv 1 (.s 20)] [1])
(.seq (.seq (pr [.mv 21 (.s 1), .bin 22 false .lss (.s 21) (.c (.int .i64 0))] [1,22])
(.cond (.s 22) (.seq (pr [.mv 4 (.c (.int .i64 (-1)))] [4])
.ret) .skip))
(.seq (pr [.mv 23 (.s 1), .mv 4 (.s 23)] [4])
.ret))))))))
theorem c_laws_szDisk (x : GDisk) (left : Int) (h0 : 0 ≤ left) : Ctr Tryd.prog n_laws_szDisk [aS x.enc, aI left] [rI (szr x.size left)] := by
  refine ctr_at (M := m_laws_szDisk) (m := 1) (n := 24) (res := [(.tmp 4, [false])]) hmix Tryd.func66 rfl (by kernel_rfl) rfl (by kernel_rfl) (by kernel_rfl) (Nat.le_of_ble_eq_true rfl) ?_; unfold m_laws_szDisk
  intro hb
  simp only [↓bk_bind, ↓bk_map, ↓bk_ite, ↓bk_some, ↓reduceIte, Nat.reduceEqDiff, Nat.reduceLT, Nat.reduceLeDiff, Nat.reduceAdd, Nat.reduceMul, reduceCtorEq, List.reduceReplicate, go_sem]
  refine callK_of (c_laws_szContainerS x.Containers left h0) ?_
  simp only [↓bk_bind, ↓bk_map, ↓bk_ite, ↓bk_some, ↓reduceIte, Nat.reduceEqDiff, Nat.reduceLT, Nat.reduceLeDiff, Nat.reduceAdd, Nat.reduceMul, reduceCtorEq, List.reduceReplicate, go_sem]
  intro _
  refine ⟨fun h => szr_bad' h0 h (by simp only [GDisk.size]; omega), fun h1 => ?_⟩
  obtain ⟨a1, b1, e1⟩ := szr_add (m := x.Index.length) h0 h1
  refine callK_of (c_laws_szFoundS x.Index _ a1) ?_
  rw [← e1]
  simp only [↓bk_bind, ↓bk_map, ↓bk_ite, ↓bk_some, ↓reduceIte, Nat.reduceEqDiff, Nat.reduceLT, Nat.reduceLeDiff, Nat.reduceAdd, Nat.reduceMul, reduceCtorEq, List.reduceReplicate, go_sem]
  intro _
  refine ⟨fun h => szr_bad' h0 h (by simp only [GDisk.size]; omega), fun h2 => ?_⟩
  obtain ⟨a2, b2, e2⟩ := szr_add (m := x.Wanted.length + (x.Wanted.map GContainer.size).sum) h0 h2
  refine callK_of (c_laws_szContainerS x.Wanted _ a2) ?_
  rw [← e2]
  simp only [↓bk_bind, ↓bk_map, ↓bk_ite, ↓bk_some, ↓reduceIte, Nat.reduceEqDiff, Nat.reduceLT, Nat.reduceLeDiff, Nat.reduceAdd, Nat.reduceMul, reduceCtorEq, List.reduceReplicate, go_sem]
  intro _
  refine ⟨fun h => szr_bad' h0 h (by simp only [GDisk.size]; omega), fun h3 => ?_⟩
  rfl
def m_laws_toDisk : MC :=
(.seq (pr [.box 1 0 (.s 0), .alloc 2 1 [.emp 4, .emp 6, .emp 4]] [1,2])
(.seq (pr [.alloc 3 2 [.emp 4, .emp 6, .emp 4]] [1,2,3])
(.seq (pr [.fld 4 (.s 1) 0, .load 5 false 1 (.s 4), .call 6 [3] (.f n_laws_toContainerS) [.s 5], .fld 7 (.s 3) 0, .store 1 (.s 7) (.s 6)] [1,2,3])
(.seq (pr [.fld 8 (.s 1) 1, .load 9 false 1 (.s 8), .call 10 [4] (.f n_laws_toFoundS) [.s 9], .fld 11 (.s 3) 1, .store 1 (.s 11) (.s 10)] [1,2,3])
(.seq (pr [.fld 12 (.s 1) 2, .load 13 false 1 (.s 12), .call 14 [5] (.f n_laws_toContainerS) [.s 13], .fld 15 (.s 3) 2, .store 1 (.s 15) (.s 14)] [2,3])
(.seq (pr [.load 16 true 3 (.s 3), .store 3 (.s 2) (.s 16)] [2])
.ret))))))
theorem c_laws_toDisk (x : GDisk) (hs : x.size ≤ 1073741824) : Ctr Tryd.prog n_laws_toDisk [aS x.enc] [rS x.enc] := by
  refine ctr_at (M := m_laws_toDisk) (m := 6) (n := 17) (res := [(.cell 2 true 3, [true, true, true])]) hmix Tryd.func73 rfl (by kernel_rfl) rfl (by kernel_rfl) (by kernel_rfl) (Nat.le_of_ble_eq_true rfl) ?_; unfold m_laws_toDisk
  intro hb
  simp only [GDisk.size] at hs
  simp only [↓bk_bind, ↓bk_map, ↓bk_ite, ↓bk_some, ↓reduceIte, Nat.reduceEqDiff, Nat.reduceLT, Nat.reduceLeDiff, Nat.reduceAdd, Nat.reduceMul, reduceCtorEq, List.reduceReplicate, go_sem]
  refine callK_of (c_laws_toContainerS x.Containers (by omega)) ?_
  simp only [↓bk_bind, ↓bk_map, ↓bk_ite, ↓bk_some, ↓reduceIte, Nat.reduceEqDiff, Nat.reduceLT, Nat.reduceLeDiff, Nat.reduceAdd, Nat.reduceMul, reduceCtorEq, List.reduceReplicate, go_sem]
  try intros
  refine callK_of (c_laws_toFoundS x.Index (by omega)) ?_
  simp only [↓bk_bind, ↓bk_map, ↓bk_ite, ↓bk_some, ↓reduceIte, Nat.reduceEqDiff, Nat.reduceLT, Nat.reduceLeDiff, Nat.reduceAdd, Nat.reduceMul, reduceCtorEq, List.reduceReplicate, go_sem]
  try intros
  refine callK_of (c_laws_toContainerS x.Wanted (by omega)) ?_
  simp only [↓bk_bind, ↓bk_map, ↓bk_ite, ↓bk_some, ↓reduceIte, Nat.reduceEqDiff, Nat.reduceLT, Nat.reduceLeDiff, Nat.reduceAdd, Nat.reduceMul, reduceCtorEq, List.reduceReplicate, go_sem]
  try intros
def m_laws_eqDisk : MC :=
(.seq (pr [.box 2 0 (.s 0), .box 3 1 (.s 1), .mv 4 (.c (.bool false))] [2,3])
(.seq (.seq (pr [.fld 5 (.s 2) 0, .load 6 false 1 (.s 5), .fld 7 (.s 3) 0, .load 8 false 1 (.s 7), .call 9 [] (.f n_laws_eqContainerS) [.s 6, .s 8], .un 10 .not (.s 9)] [2,3,10])
(.cond (.s 10) (.seq (pr [.mv 4 (.c (.bool false))] [4])
.ret) .skip))
(.seq (.seq (pr [.fld 11 (.s 2) 1, .load 12 false 1 (.s 11), .fld 13 (.s 3) 1, .load 14 false 1 (.s 13), .call 15 [] (.f n_laws_eqFoundS) [.s 12, .s 14], .un 16 .not (.s 15)] [2,3,16])
(.cond (.s 16) (.seq (pr [.mv 4 (.c (.bool false))] [4])
.ret) .skip))
(.seq (.seq (pr [.fld 17 (.s 2) 2, .load 18 false 1 (.s 17), .fld 19 (.s 3) 2, .load 20 false 1 (.s 19), .call 21 [] (.f n_laws_eqContainerS) [.s 18, .s 20], .un 22 .not (.s 21)] [22])
(.cond (.s 22) (.seq (pr [.mv 4 (.c (.bool false))] [4])
.ret) .skip))
(.seq (pr [.mv 4 (.c (.bool true))] [4])
.ret)))))
theorem c_laws_eqDisk (x y : GDisk) : Ctr Tryd.prog n_laws_eqDisk [aS x.enc, aS y.enc] [rB (decide (x = y))] := by
  refine ctr_at (M := m_laws_eqDisk) (m := 2) (n := 23) (res := [(.tmp 4, [false])]) hmix Tryd.func79 rfl (by kernel_rfl) rfl (by kernel_rfl) (by kernel_rfl) (Nat.le_of_ble_eq_true rfl) ?_; unfold m_laws_eqDisk
  intro hb
  clear hb
  simp only [↓bk_bind, ↓bk_map, ↓bk_ite, ↓bk_some, ↓reduceIte, Nat.reduceEqDiff, Nat.reduceLT, Nat.reduceLeDiff, Nat.reduceAdd, Nat.reduceMul, reduceCtorEq, List.reduceReplicate, go_sem]
  refine callK_of (c_laws_eqContainerS x.Containers y.Containers) ?_
  simp only [↓bk_bind, ↓bk_map, ↓bk_ite, ↓bk_some, ↓reduceIte, Nat.reduceEqDiff, Nat.reduceLT, Nat.reduceLeDiff, Nat.reduceAdd, Nat.reduceMul, reduceCtorEq, List.reduceReplicate, go_sem]
  refine ⟨fun h => ?_, fun h_Containers => ?_⟩
  · symm
    rw [decide_eq_false_iff_not]
    rintro rfl
    exact h rfl
  refine callK_of (c_laws_eqFoundS x.Index y.Index) ?_
  simp only [↓bk_bind, ↓bk_map, ↓bk_ite, ↓bk_some, ↓reduceIte, Nat.reduceEqDiff, Nat.reduceLT, Nat.reduceLeDiff, Nat.reduceAdd, Nat.reduceMul, reduceCtorEq, List.reduceReplicate, go_sem]
  refine ⟨fun h => ?_, fun h_Index => ?_⟩
  · symm
    rw [decide_eq_false_iff_not]
    rintro rfl
    exact h rfl
  refine callK_of (c_laws_eqContainerS x.Wanted y.Wanted) ?_
  simp only [↓bk_bind, ↓bk_map, ↓bk_ite, ↓bk_some, ↓reduceIte, Nat.reduceEqDiff, Nat.reduceLT, Nat.reduceLeDiff, Nat.reduceAdd, Nat.reduceMul, reduceCtorEq, List.reduceReplicate, go_sem]
  refine ⟨fun h => ?_, fun h_Wanted => ?_⟩
  · symm
    rw [decide_eq_false_iff_not]
    rintro rfl
    exact h rfl
  cases x; cases y; simp_all
def m_laws_szArchive : MC :=
(.seq (pr [.box 2 0 (.s 0), .mv 4 (.c (.int .i64 0))] [1,2])
(.seq (pr [.fld 5 (.s 2) 0, .load 6 false 1 (.s 5), .mv 7 (.s 1), .call 8 [] (.f n_laws_szVersionS) [.s 6, .s 7], .mv 1 (.s 8)] [1,2])
(.seq (.seq (pr [.mv 9 (.s 1), .bin 10 false .lss (.s 9) (.c (.int .i64 0))] [1,2,10])
(.cond (.s 10) (.seq (pr [.mv 4 (.c (.int .i64 (-1)))] [4])
.ret) .skip))
(.seq (pr [.fld 11 (.s 2) 1, .load 12 false 1 (.s 11), .mv 13 (.s 1), .call 14 [] (.f n_laws_szOpS) [.s 12, .s 13], .mv 1 (.s 14)] [1,2])
(.seq (.seq (pr [.mv 15 (.s 1), .bin 16 false .lss (.s 15) (.c (.int .i64 0))] [1,2,16])
(.cond (.s 16) (.seq (pr [.mv 4 (.c (.int .i64 (-1)))] [4])
.ret) .skip))
(.seq (pr [.fld 17 (.s 2) 2, .load 18 true 3 (.s 17), .mv 19 (.s 1), .call 20 [] (.f n_laws_szDisk) [.s 18, .s 19], .mv 1 (.s 20)] [1,2])
(.seq (.seq (pr [.mv 21 (.s 1), .bin 22 false .lss (.s 21) (.c (.int .i64 0))] [1,2,22])
(.cond (.s 22) (.seq (pr [.mv 4 (.c (.int .i64 (-1)))] [4])
.ret) .skip))
(.seq (pr [.fld 23 (.s 2) 5, .load 24 false 1 (.s 23), .mv 25 (.s 1), .call 26 [] (.f n_laws_szExclusionS) [.s 24, .s 25], .mv 1 (.s 26)] [1,2])
(.seq (.seq (pr [.mv 27 (.s 1), .bin 28 false .lss (.s 27) (.c (.int .i64 0))] [1,2,28])
(.cond (.s 28) (.seq (pr [.mv 4 (.c (.int .i64 (-1)))] [4])
.ret) .skip))
(.seq (pr [.fld 29 (.s 2) 6, .load 30 false 1 (.s 29), .mv 31 (.s 1), .call 32 [] (.f n_laws_szLibraryS) [.s 30, .s 31], .mv 1 (.s 32)] [1,2])
(.seq (.seq (pr [.mv 33 (.s 1), .bin 34 false .lss (.s 33) (.c (.int .i64 0))] [1,2,34])
(.cond (.s 34) (.seq (pr [.mv 4 (.c (.int .i64 (-1)))] [4])
.ret) .skip))
(.seq (pr [.fld 35 (.s 2) 7, .load 36 false 1 (.s 35), .mv 37 (.s 1), .call 38 [] (.f n_laws_szIntS) [.s 36, .s 37], .mv 1 (.s 38)] [1,2])
(.seq (.seq (pr [.mv 39 (.s 1), .bin 40 false .lss (.s 39) (.c (.int .i64 0))] [1,2,40])
(.cond (.s 40) (.seq (pr [.mv 4 (.c (.int .i64 (-1)))] [4])
.ret) .skip))
(.seq (pr [.fld 41 (.s 2) 8, .load 42 false 1 (.s 41), .mv 43 (.s 1), .call 44 [] (.f n_laws_szStatementS) [.s 42, .s 43], .mv 1 (.s 44)] [1])
(.seq (.seq (pr [.mv 45 (.s 1), .bin 46 false .lss (.s 45) (.c (.int .i64 0))] [1,46])
(.cond (.s 46) (.seq (pr [.mv 4 (.c (.int .i64 (-1)))] [4])
.ret) .skip))
(.seq (pr [.mv 47 (.s 1), .mv 4 (.s 47)] [4])
.ret))))))))))))))))
theorem c_laws_szArchive (x : GArchive) (left : Int) (h0 : 0 ≤ left) : Ctr Tryd.prog n_laws_szArchive [aS x.enc, aI left] [rI (szr x.size left)] := by
  refine ctr_at (M := m_laws_szArchive) (m := 1) (n := 48) (res := [(.tmp 4, [false])]) hmix Tryd.func33 rfl (by kernel_rfl) rfl (by kernel_rfl) (by kernel_rfl) (Nat.le_of_ble_eq_true rfl) ?_; unfold m_laws_szArchive
  intro hb
  simp only [↓bk_bind, ↓bk_map, ↓bk_ite, ↓bk_some, ↓reduceIte, Nat.reduceEqDiff, Nat.reduceLT, Nat.reduceLeDiff, Nat.reduceAdd, Nat.reduceMul, reduceCtorEq, List.reduceReplicate, go_sem]
  refine callK_of (c_laws_szVersionS x.Site left h0) ?_
  simp only [↓bk_bind, ↓bk_map, ↓bk_ite, ↓bk_some, ↓reduceIte, Nat.reduceEqDiff, Nat.reduceLT, Nat.reduceLeDiff, Nat.reduceAdd, Nat.reduceMul, reduceCtorEq, List.reduceReplicate, go_sem]
  intro _
  refine ⟨fun h => szr_bad' h0 h (by simp only [GArchive.size]; omega), fun h1 => ?_⟩
  obtain ⟨a1, b1, e1⟩ := szr_add (m := x.Script.length) h0 h1
  refine callK_of (c_laws_szOpS x.Script _ a1) ?_
  rw [← e1]
  simp only [↓bk_bind, ↓bk_map, ↓bk_ite, ↓bk_some, ↓reduceIte, Nat.reduceEqDiff, Nat.reduceLT, Nat.reduceLeDiff, Nat.reduceAdd, Nat.reduceMul, reduceCtorEq, List.reduceReplicate, go_sem]
  intro _
  refine ⟨fun h => szr_bad' h0 h (by simp only [GArchive.size]; omega), fun h2 => ?_⟩
  obtain ⟨a2, b2, e2⟩ := szr_add (m := x.Disk.size) h0 h2
  refine callK_of (c_laws_szDisk x.Disk _ a2) ?_
  rw [← e2]
  simp only [↓bk_bind, ↓bk_map, ↓bk_ite, ↓bk_some, ↓reduceIte, Nat.reduceEqDiff, Nat.reduceLT, Nat.reduceLeDiff, Nat.reduceAdd, Nat.reduceMul, reduceCtorEq, List.reduceReplicate, go_sem]
  intro _
  refine ⟨fun h => szr_bad' h0 h (by simp only [GArchive.size]; omega), fun h3 => ?_⟩
  obtain ⟨a3, b3, e3⟩ := szr_add (m := x.Exclusions.length) h0 h3
  refine callK_of (c_laws_szExclusionS x.Exclusions _ a3) ?_
  rw [← e3]
  simp only [↓bk_bind, ↓bk_map, ↓bk_ite, ↓bk_some, ↓reduceIte, Nat.reduceEqDiff, Nat.reduceLT, Nat.reduceLeDiff, Nat.reduceAdd, Nat.reduceMul, reduceCtorEq, List.reduceReplicate, go_sem]
  intro _
  refine ⟨fun h => szr_bad' h0 h (by simp only [GArchive.size]; omega), fun h4 => ?_⟩
  obtain ⟨a4, b4, e4⟩ := szr_add (m := x.Libraries.length + (x.Libraries.map GLibrary.size).sum) h0 h4
  refine callK_of (c_laws_szLibraryS x.Libraries _ a4) ?_
  rw [← e4]
  simp only [↓bk_bind, ↓bk_map, ↓bk_ite, ↓bk_some, ↓reduceIte, Nat.reduceEqDiff, Nat.reduceLT, Nat.reduceLeDiff, Nat.reduceAdd, Nat.reduceMul, reduceCtorEq, List.reduceReplicate, go_sem]
  intro _
  refine ⟨fun h => szr_bad' h0 h (by simp only [GArchive.size]; omega), fun h5 => ?_⟩
  obtain ⟨a5, b5, e5⟩ := szr_add (m := x.Keys.length) h0 h5
  refine callK_of (c_laws_szIntS x.Keys _ a5) ?_
  rw [← e5]
  simp only [↓bk_bind, ↓bk_map, ↓bk_ite, ↓bk_some, ↓reduceIte, Nat.reduceEqDiff, Nat.reduceLT, Nat.reduceLeDiff, Nat.reduceAdd, Nat.reduceMul, reduceCtorEq, List.reduceReplicate, go_sem]
  intro _
  refine ⟨fun h => szr_bad' h0 h (by simp only [GArchive.size]; omega), fun h6 => ?_⟩
  obtain ⟨a6, b6, e6⟩ := szr_add (m := x.Statements.length) h0 h6
  refine callK_of (c_laws_szStatementS x.Statements _ a6) ?_
  rw [← e6]
  simp only [↓bk_bind, ↓bk_map, ↓bk_ite, ↓bk_some, ↓reduceIte, Nat.reduceEqDiff, Nat.reduceLT, Nat.reduceLeDiff, Nat.reduceAdd, Nat.reduceMul, reduceCtorEq, List.reduceReplicate, go_sem]
  intro _
  refine ⟨fun h => szr_bad' h0 h (by simp only [GArchive.size]; omega), fun h7 => ?_⟩
  rfl
def m_laws_toArchive : MC :=
(.seq (pr [.box 1 0 (.s 0), .alloc 2 1 [.emp 9, .emp 4, .emp 4, .emp 6, .emp 4, .emp 5, .emp 4, .emp 1, .emp 4, .pl (.sc (.int .i64 0))]] [1,2])
(.seq (pr [.alloc 3 2 [.emp 9, .emp 4, .emp 4, .emp 6, .emp 4, .emp 5, .emp 4, .emp 1, .emp 4, .pl (.sc (.int .i64 0))]] [1,2,3])
(.seq (pr [.fld 4 (.s 1) 0, .load 5 false 1 (.s 4), .call 6 [3] (.f n_laws_toVersionS) [.s 5], .fld 7 (.s 3) 0, .store 1 (.s 7) (.s 6)] [1,2,3])
(.seq (pr [.fld 8 (.s 1) 1, .load 9 false 1 (.s 8), .call 10 [4] (.f n_laws_toOpS) [.s 9], .fld 11 (.s 3) 1, .store 1 (.s 11) (.s 10)] [1,2,3])
(.seq (pr [.fld 12 (.s 1) 2, .load 13 true 3 (.s 12), .call 14 [5, 6, 7] (.f n_laws_toDisk) [.s 13], .fld 15 (.s 3) 2, .store 3 (.s 15) (.s 14)] [1,2,3])
(.seq (pr [.fld 16 (.s 1) 5, .load 17 false 1 (.s 16), .call 18 [8] (.f n_laws_toExclusionS) [.s 17], .fld 19 (.s 3) 5, .store 1 (.s 19) (.s 18)] [1,2,3])
(.seq (pr [.fld 20 (.s 1) 6, .load 21 false 1 (.s 20), .call 22 [9] (.f n_laws_toLibraryS) [.s 21], .fld 23 (.s 3) 6, .store 1 (.s 23) (.s 22)] [1,2,3])
(.seq (pr [.fld 24 (.s 1) 7, .load 25 false 1 (.s 24), .call 26 [10] (.f n_laws_toIntS) [.s 25], .fld 27 (.s 3) 7, .store 1 (.s 27) (.s 26)] [1,2,3])
(.seq (pr [.fld 28 (.s 1) 8, .load 29 false 1 (.s 28), .call 30 [11] (.f n_laws_toStatementS) [.s 29], .fld 31 (.s 3) 8, .store 1 (.s 31) (.s 30)] [1,2,3])
(.seq (pr [.fld 32 (.s 1) 9, .load 33 false 1 (.s 32), .fld 34 (.s 3) 9, .store 1 (.s 34) (.s 33)] [2,3])
(.seq (pr [.load 35 true 10 (.s 3), .store 10 (.s 2) (.s 35)] [2])
.ret)))))))))))
theorem c_laws_toArchive (x : GArchive) (hs : x.size ≤ 1073741824) : Ctr Tryd.prog n_laws_toArchive [aS x.enc] [rS x.enc] := by
  refine ctr_at (M := m_laws_toArchive) (m := 12) (n := 36) (res := [(.cell 2 true 10, [true, true, true, true, true, true, true, true, true, false])]) hmix Tryd.func35 rfl (by kernel_rfl) rfl (by kernel_rfl) (by kernel_rfl) (Nat.le_of_ble_eq_true rfl) ?_; unfold m_laws_toArchive
  intro hb
  simp only [GArchive.size] at hs
  simp only [↓bk_bind, ↓bk_map, ↓bk_ite, ↓bk_some, ↓reduceIte, Nat.reduceEqDiff, Nat.reduceLT, Nat.reduceLeDiff, Nat.reduceAdd, Nat.reduceMul, reduceCtorEq, List.reduceReplicate, go_sem]
  refine callK_of (c_laws_toVersionS x.Site (by omega)) ?_
  simp only [↓bk_bind, ↓bk_map, ↓bk_ite, ↓bk_some, ↓reduceIte, Nat.reduceEqDiff, Nat.reduceLT, Nat.reduceLeDiff, Nat.reduceAdd, Nat.reduceMul, reduceCtorEq, List.reduceReplicate, go_sem]
  try intros
  refine callK_of (c_laws_toOpS x.Script (by omega)) ?_
  simp only [↓bk_bind, ↓bk_map, ↓bk_ite, ↓bk_some, ↓reduceIte, Nat.reduceEqDiff, Nat.reduceLT, Nat.reduceLeDiff, Nat.reduceAdd, Nat.reduceMul, reduceCtorEq, List.reduceReplicate, go_sem]
  try intros
  refine callK_of (c_laws_toDisk x.Disk (by omega)) ?_
  simp only [↓bk_bind, ↓bk_map, ↓bk_ite, ↓bk_some, ↓reduceIte, Nat.reduceEqDiff, Nat.reduceLT, Nat.reduceLeDiff, Nat.reduceAdd, Nat.reduceMul, reduceCtorEq, List.reduceReplicate, go_sem]
  try intros
  refine callK_of (c_laws_toExclusionS x.Exclusions (by omega)) ?_
  simp only [↓bk_bind, ↓bk_map, ↓bk_ite, ↓bk_some, ↓reduceIte, Nat.reduceEqDiff, Nat.reduceLT, Nat.reduceLeDiff, Nat.reduceAdd, Nat.reduceMul, reduceCtorEq, List.reduceReplicate, go_sem]
  try intros
  refine callK_of (c_laws_toLibraryS x.Libraries (by omega)) ?_
  simp only [↓bk_bind, ↓bk_map, ↓bk_ite, ↓bk_some, ↓reduceIte, Nat.reduceEqDiff, Nat.reduceLT, Nat.reduceLeDiff, Nat.reduceAdd, Nat.reduceMul, reduceCtorEq, List.reduceReplicate, go_sem]
  try intros
  refine callK_of (c_laws_toIntS x.Keys (by omega)) ?_
  simp only [↓bk_bind, ↓bk_map, ↓bk_ite, ↓bk_some, ↓reduceIte, Nat.reduceEqDiff, Nat.reduceLT, Nat.reduceLeDiff, Nat.reduceAdd, Nat.reduceMul, reduceCtorEq, List.reduceReplicate, go_sem]
  try intros
  refine callK_of (c_laws_toStatementS x.Statements (by omega)) ?_
  simp only [↓bk_bind, ↓bk_map, ↓bk_ite, ↓bk_some, ↓reduceIte, Nat.reduceEqDiff, Nat.reduceLT, Nat.reduceLeDiff, Nat.reduceAdd, Nat.reduceMul, reduceCtorEq, List.reduceReplicate, go_sem]
  try intros
def m_laws_eqArchive : MC :=
(.seq (pr [.box 2 0 (.s 0), .box 3 1 (.s 1), .mv 4 (.c (.bool false))] [2,3])
(.seq (.seq (pr [.fld 5 (.s 2) 0, .load 6 false 1 (.s 5), .fld 7 (.s 3) 0, .load 8 false 1 (.s 7), .call 9 [] (.f n_laws_eqVersionS) [.s 6, .s 8], .un 10 .not (.s 9)] [2,3,10])
(.cond (.s 10) (.seq (pr [.mv 4 (.c (.bool false))] [4])
.ret) .skip))
(.seq (.seq (pr [.fld 11 (.s 2) 1, .load 12 false 1 (.s 11), .fld 13 (.s 3) 1, .load 14 false 1 (.s 13), .call 15 [] (.f n_laws_eqOpS) [.s 12, .s 14], .un 16 .not (.s 15)] [2,3,16])
(.cond (.s 16) (.seq (pr [.mv 4 (.c (.bool false))] [4])
.ret) .skip))
(.seq (.seq (pr [.fld 17 (.s 2) 2, .load 18 true 3 (.s 17), .fld 19 (.s 3) 2, .load 20 true 3 (.s 19), .call 21 [] (.f n_laws_eqDisk) [.s 18, .s 20], .un 22 .not (.s 21)] [2,3,22])
(.cond (.s 22) (.seq (pr [.mv 4 (.c (.bool false))] [4])
.ret) .skip))
(.seq (.seq (pr [.fld 23 (.s 2) 5, .load 24 false 1 (.s 23), .fld 25 (.s 3) 5, .load 26 false 1 (.s 25), .call 27 [] (.f n_laws_eqExclusionS) [.s 24, .s 26], .un 28 .not (.s 27)] [2,3,28])
(.cond (.s 28) (.seq (pr [.mv 4 (.c (.bool false))] [4])
.ret) .skip))
(.seq (.seq (pr [.fld 29 (.s 2) 6, .load 30 false 1 (.s 29), .fld 31 (.s 3) 6, .load 32 false 1 (.s 31), .call 33 [] (.f n_laws_eqLibraryS) [.s 30, .s 32], .un 34 .not (.s 33)] [2,3,34])
(.cond (.s 34) (.seq (pr [.mv 4 (.c (.bool false))] [4])
.ret) .skip))
(.seq (.seq (pr [.fld 35 (.s 2) 7, .load 36 false 1 (.s 35), .fld 37 (.s 3) 7, .load 38 false 1 (.s 37), .call 39 [] (.f n_laws_eqIntS) [.s 36, .s 38], .un 40 .not (.s 39)] [2,3,40])
(.cond (.s 40) (.seq (pr [.mv 4 (.c (.bool false))] [4])
.ret) .skip))
(.seq (.seq (pr [.fld 41 (.s 2) 8, .load 42 false 1 (.s 41), .fld 43 (.s 3) 8, .load 44 false 1 (.s 43), .call 45 [] (.f n_laws_eqStatementS) [.s 42, .s 44], .un 46 .not (.s 45)] [2,3,46])
(.cond (.s 46) (.seq (pr [.mv 4 (.c (.bool false))] [4])
.ret) .skip))
(.seq (.seq (pr [.fld 47 (.s 2) 9, .load 48 false 1 (.s 47), .fld 49 (.s 3) 9, .load 50 false 1 (.s 49), .bin 51 false .neq (.s 48) (.s 50)] [51])
(.cond (.s 51) (.seq (pr [.mv 4 (.c (.bool false))] [4])
.ret) .skip))
(.seq (pr [.mv 4 (.c (.bool true))] [4])
.ret))))))))))
theorem c_laws_eqArchive (x y : GArchive) : Ctr Tryd.prog n_laws_eqArchive [aS x.enc, aS y.enc] [rB (decide (x = y))] := by
  refine ctr_at (M := m_laws_eqArchive) (m := 2) (n := 52) (res := [(.tmp 4, [false])]) hmix Tryd.func37 rfl (by kernel_rfl) rfl (by kernel_rfl) (by kernel_rfl) (Nat.le_of_ble_eq_true rfl) ?_; unfold m_laws_eqArchive
  intro hb
  clear hb
  simp only [↓bk_bind, ↓bk_map, ↓bk_ite, ↓bk_some, ↓reduceIte, Nat.reduceEqDiff, Nat.reduceLT, Nat.reduceLeDiff, Nat.reduceAdd, Nat.reduceMul, reduceCtorEq, List.reduceReplicate, go_sem]
  refine callK_of (c_laws_eqVersionS x.Site y.Site) ?_
  simp only [↓bk_bind, ↓bk_map, ↓bk_ite, ↓bk_some, ↓reduceIte, Nat.reduceEqDiff, Nat.reduceLT, Nat.reduceLeDiff, Nat.reduceAdd, Nat.reduceMul, reduceCtorEq, List.reduceReplicate, go_sem]
  refine ⟨fun h => ?_, fun h_Site => ?_⟩
  · symm
    rw [decide_eq_false_iff_not]
    rintro rfl
    exact h rfl
  refine callK_of (c_laws_eqOpS x.Script y.Script) ?_
  simp only [↓bk_bind, ↓bk_map, ↓bk_ite, ↓bk_some, ↓reduceIte, Nat.reduceEqDiff, Nat.reduceLT, Nat.reduceLeDiff, Nat.reduceAdd, Nat.reduceMul, reduceCtorEq, List.reduceReplicate, go_sem]
  refine ⟨fun h => ?_, fun h_Script => ?_⟩
  · symm
    rw [decide_eq_false_iff_not]
    rintro rfl
    exact h rfl
  refine callK_of (c_laws_eqDisk x.Disk y.Disk) ?_
  simp only [↓bk_bind, ↓bk_map, ↓bk_ite, ↓bk_some, ↓reduceIte, Nat.reduceEqDiff, Nat.reduceLT, Nat.reduceLeDiff, Nat.reduceAdd, Nat.reduceMul, reduceCtorEq, List.reduceReplicate, go_sem]
  refine ⟨fun h => ?_, fun h_Disk => ?_⟩
  · symm
    rw [decide_eq_false_iff_not]
    rintro rfl
    exact h rfl
  refine callK_of (c_laws_eqExclusionS x.Exclusions y.Exclusions) ?_
  simp only [↓bk_bind, ↓bk_map, ↓bk_ite, ↓bk_some, ↓reduceIte, Nat.reduceEqDiff, Nat.reduceLT, Nat.reduceLeDiff, Nat.reduceAdd, Nat.reduceMul, reduceCtorEq, List.reduceReplicate, go_sem]
  refine ⟨fun h => ?_, fun h_Exclusions => ?_⟩
  · symm
    rw [decide_eq_false_iff_not]
    rintro rfl
    exact h rfl
  refine callK_of (c_laws_eqLibraryS x.Libraries y.Libraries) ?_
  simp only [↓bk_bind, ↓bk_map, ↓bk_ite, ↓bk_some, ↓reduceIte, Nat.reduceEqDiff, Nat.reduceLT, Nat.reduceLeDiff, Nat.reduceAdd, Nat.reduceMul, reduceCtorEq, List.reduceReplicate, go_sem]
  refine ⟨fun h => ?_, fun h_Libraries => ?_⟩
  · symm
    rw [decide_eq_false_iff_not]
    rintro rfl
    exact h rfl
  refine callK_of (c_laws_eqIntS x.Keys y.Keys) ?_
  simp only [↓bk_bind, ↓bk_map, ↓bk_ite, ↓bk_some, ↓reduceIte, Nat.reduceEqDiff, Nat.reduceLT, Nat.reduceLeDiff, Nat.reduceAdd, Nat.reduceMul, reduceCtorEq, List.reduceReplicate, go_sem]
  refine ⟨fun h => ?_, fun h_Keys => ?_⟩
  · symm
    rw [decide_eq_false_iff_not]
    rintro rfl
    exact h rfl
  refine callK_of (c_laws_eqStatementS x.Statements y.Statements) ?_
  simp only [↓bk_bind, ↓bk_map, ↓bk_ite, ↓bk_some, ↓reduceIte, Nat.reduceEqDiff, Nat.reduceLT, Nat.reduceLeDiff, Nat.reduceAdd, Nat.reduceMul, reduceCtorEq, List.reduceReplicate, go_sem]
  refine ⟨fun h => ?_, fun h_Statements => ?_⟩
  · symm
    rw [decide_eq_false_iff_not]
    rintro rfl
    exact h rfl
  refine ⟨fun h => ?_, fun h_Now => ?_⟩
  · symm
    rw [decide_eq_false_iff_not]
    rintro rfl
    exact h rfl
  cases x; cases y; simp_all
end Go.Proofs.YtldjbgjcfncdjaaDoorR
namespace Go.Proofs.YtldjbgjcfncdjaaDoorR
open Go Go.RowKit Go.Proofs
set_option linter.unusedSimpArgs false
set_option linter.unusedVariables false
theorem ff {p : Prop} [Decidable p] (h : ¬ p) : false = decide p := (decide_eq_false h).symm
theorem tt {p : Prop} [Decidable p] (h : p) : true = decide p := (decide_eq_true h).symm
/-- No element of the first k is so. -/
theorem anyF_step {α : Type} {p : α → Bool} {l : List α} {k : Nat} {x : α} (hx : l[k]? = some x) (h : (l.take k).any p = false) (hn : p x = false) : (l.take (k + 1)).any p = false := by
  rw [take_snoc hx, List.any_append, h]
  simp [hn]
theorem any_here {α : Type} {p : α → Bool} {l : List α} {k : Nat} {x : α} (hx : l[k]? = some x) (hn : p x = true) : l.any p = true := List.any_eq_true.2 ⟨x, at_mem hx, hn⟩
/-- The place of the first element that is so. -/
def idxF {α : Type} (p : α → Bool) (l : List α) : Int := if l.any p then (l.takeWhile fun x => !p x).length else -1
theorem idxF_here {α : Type} {p : α → Bool} {l : List α} {k : Nat} {x : α} (hx : l[k]? = some x) (h : (l.take k).any p = false) (hn : p x = true) : idxF p l = k := by
  unfold idxF
  rw [any_here hx hn, if_pos rfl]
  congr 1
  have e : l = l.take k ++ x :: l.drop (k + 1) := take_drop_at hx
  rw [e, List.takeWhile_append_of_pos]
  · simp [hn]
    have := len_at hx
    omega
  · intro a ha
    have := List.any_eq_false.1 h a ha
    simpa using this
theorem idxF_none {α : Type} {p : α → Bool} {l : List α} (h : l.any p = false) : idxF p l = -1 := by
  unfold idxF; rw [h]; rfl
theorem idxF_ge {α : Type} {p : α → Bool} {l : List α} : decide (idxF p l ≥ 0) = l.any p := by
  unfold idxF
  cases l.any p <;> simp
/-- Are two lists alike, element by element? -/
def eqF {α : Type} (p : α → α → Bool) : List α → List α → Bool
  | [], [] => true
  | x :: xs, y :: ys => p x y && eqF p xs ys
  | _, _ => false
theorem eqF_len {α : Type} {p : α → α → Bool} : ∀ {xs ys : List α}, ¬ (xs.length : Int) = ys.length → false = eqF p xs ys
  | [], [], h => by simp at h
  | _ :: _, _ :: _, h => by
    simp only [eqF]
    rw [← eqF_len (fun e => h (by simp only [List.length_cons]; omega)), Bool.and_false]
  | [], _ :: _, _ => rfl
  | _ :: _, [], _ => rfl
theorem eqF_take {α : Type} {p : α → α → Bool} : ∀ {xs ys : List α} {k : Nat} {x y : α}, xs[k]? = some x → ys[k]? = some y → eqF p (xs.take k) (ys.take k) = true → eqF p (xs.take (k + 1)) (ys.take (k + 1)) = p x y
  | x0 :: xs, y0 :: ys, 0, x, y, hx, hy, _ => by
    simp at hx hy
    subst hx hy
    simp [eqF]
  | x0 :: xs, y0 :: ys, k + 1, x, y, hx, hy, h => by
    simp only [List.take_succ_cons, eqF, Bool.and_eq_true] at h ⊢
    rw [eqF_take (by simpa using hx) (by simpa using hy) h.2, h.1, Bool.true_and]
  | [], _, _, _, _, hx, _, _ => by simp at hx
  | _ :: _, [], _, _, _, _, hy, _ => by simp at hy
theorem eqF_false {α : Type} {p : α → α → Bool} : ∀ {xs ys : List α} {k : Nat} {x y : α}, xs[k]? = some x → ys[k]? = some y → p x y = false → false = eqF p xs ys
  | x0 :: xs, y0 :: ys, 0, x, y, hx, hy, h => by
    simp at hx hy
    subst hx hy
    simp [eqF, h]
  | x0 :: xs, y0 :: ys, k + 1, x, y, hx, hy, h => by
    simp only [eqF]
    rw [← eqF_false (by simpa using hx) (by simpa using hy) h, Bool.and_false]
  | [], _, _, _, _, hx, _, _ => by simp at hx
  | _ :: _, [], _, _, _, _, hy, _ => by simp at hy
theorem eqF_all {α : Type} {p : α → α → Bool} {xs ys : List α} (h : eqF p (xs.take xs.length) (ys.take xs.length) = true) (hl : xs.length = ys.length) : true = eqF p xs ys := by
  rw [List.take_length, hl, List.take_length] at h
  exact h.symm
theorem eqF_eq {α : Type} [DecidableEq α] : ∀ (xs ys : List α), eqF (fun x y => decide (x = y)) xs ys = decide (xs = ys)
  | [], [] => by simp [eqF]
  | x :: xs, y :: ys => by
    simp only [eqF, eqF_eq xs ys]
    by_cases h : x = y <;> by_cases h2 : xs = ys <;> simp [h, h2]
  | [], _ :: _ => by simp [eqF]
  | _ :: _, [] => by simp [eqF]
/-- The place of the first element that is it. -/
def idxO {α : Type} [DecidableEq α] (n : α) (l : List α) : Int := idxF (fun x => decide (n = x)) l
theorem idxO_ge {α : Type} [DecidableEq α] {n : α} {l : List α} : decide (idxO n l ≥ 0) = decide (n ∈ l) := by
  unfold idxO
  rw [idxF_ge]
  rw [Bool.eq_iff_iff]
  simp
def encS (s : ByteArray) : List T := [tS s]
attribute [go_sem] encS
abbrev aStr (s : ByteArray) : Bool × List T := (false, [tS s])
attribute [go_sem] aStr
end Go.Proofs.YtldjbgjcfncdjaaDoorR
namespace Go.Proofs.YtldjbgjcfncdjaaDoorR
open Go Go.RowKit Go.Proofs
set_option linter.unusedSimpArgs false
set_option linter.unusedVariables false
attribute [go_sem] eqB
def allIn (l : List Int) (a b : Int) : Bool := l.all fun x => decide (a ≤ x ∧ x ≤ b)
theorem all_step {α : Type} {p : α → Bool} {l : List α} {k : Nat} {x : α} (hx : l[k]? = some x) (h : (l.take k).all p = true) (hn : p x = true) : (l.take (k + 1)).all p = true := by
  rw [take_snoc hx, List.all_append, h]; simp [hn]
theorem all_not {α : Type} {p : α → Bool} {l : List α} {k : Nat} {x : α} (hx : l[k]? = some x) (hn : p x = false) : false = l.all p := by
  symm; rw [List.all_eq_false]; exact ⟨x, at_mem hx, by simp [hn]⟩
/-- Addresses within range. -/
def isAddr (a : GAddress) : Bool := decide (1 ≤ a.Host ∧ a.Host ≤ 9) && (decide (0 ≤ a.Path ∧ a.Path ≤ 99) && decide (0 ≤ a.Query ∧ a.Query ≤ 99))
def noAddr (a : GAddress) : Bool := a.Host == 0 && (a.Path == 0 && a.Query == 0)
/-- Resources within range. -/
def isRes (r : GResource) : Bool :=
  if r.Kind = 1 ∨ r.Kind = 2 then decide (r.Body.length ≤ 6) && (allIn r.Body 0 255 && noAddr r.To)
  else if r.Kind = 3 then decide (r.Body.length = 0) && isAddr r.To
  else if r.Kind = 4 then decide (r.Body.length = 0) && noAddr r.To else false
end Go.Proofs.YtldjbgjcfncdjaaDoorR
namespace Go.Proofs.YtldjbgjcfncdjaaDoorR
open Go Go.RowKit Go.Proofs
set_option linter.unusedSimpArgs false
set_option linter.unusedVariables false
def digestAt (tick : Int) (l : List GChange) : Int := l.foldl (fun d c => if c.Tick ≤ tick then c.Digest else d) 0
end Go.Proofs.YtldjbgjcfncdjaaDoorR
namespace Go.Proofs.YtldjbgjcfncdjaaDoorR
open Go Go.RowKit Go.Proofs
set_option linter.unusedSimpArgs false
set_option linter.unusedVariables false
def countKind (kind : Int) (l : List GEvent) : Int := l.foldl (fun n e => if e.Kind = kind then IntKind.i64.wrap (n + 1) else n) 0
theorem countKind_snoc {kind : Int} {l : List GEvent} {k : Nat} {x : GEvent} (h : l[k]? = some x) : countKind kind (l.take (k + 1)) = if x.Kind = kind then IntKind.i64.wrap (countKind kind (l.take k) + 1) else countKind kind (l.take k) := by
  rw [take_snoc h, countKind, List.foldl_append]; rfl
end Go.Proofs.YtldjbgjcfncdjaaDoorR
namespace Go.Proofs.YtldjbgjcfncdjaaDoorR
open Go Go.RowKit Go.Proofs
set_option linter.unusedSimpArgs false
set_option linter.unusedVariables false
/-- No element of the first k is it. -/
theorem has_step {α : Type} [BEq α] [LawfulBEq α] {l : List α} {k : Nat} {x n : α} (hx : l[k]? = some x) (h : (l.take k).contains n = false) (hn : ¬ x = n) : (l.take (k + 1)).contains n = false := by
  rw [take_snoc hx]
  simp only [List.contains_eq_mem, List.mem_append, List.mem_singleton, decide_eq_false_iff_not, not_or] at h ⊢
  exact ⟨h, fun e => hn e.symm⟩
theorem has_here {α : Type} [BEq α] [LawfulBEq α] {l : List α} {k : Nat} {x n : α} (hx : l[k]? = some x) (hn : x = n) : l.contains n = true := by
  subst hn
  simp only [List.contains_eq_mem, decide_eq_true_eq]
  exact at_mem hx
/-- How many libraries that are up and do not lie hold it. -/
def goodCopies (digest : Int) (l : List GLibrary) : Int := l.foldl (fun n x => if x.Up && !x.Lies && x.Digests.contains digest then IntKind.i64.wrap (n + 1) else n) 0
theorem goodCopies_snoc {digest : Int} {l : List GLibrary} {k : Nat} {x : GLibrary} (h : l[k]? = some x) : goodCopies digest (l.take (k + 1)) = if x.Up && !x.Lies && x.Digests.contains digest then IntKind.i64.wrap (goodCopies digest (l.take k) + 1) else goodCopies digest (l.take k) := by
  rw [take_snoc h, goodCopies, List.foldl_append]; rfl
/-- The least of numbers, -1 where there is none. -/
def leastOf (l : List Int) : Int := l.foldl (fun m n => if m < 0 ∨ n < m then n else m) (-1)
def copiesLeft (a : GArchive) : Int := leastOf (a.Disk.Containers.map fun x => goodCopies x.Root a.Libraries)
theorem leastOf_snoc {α : Type} {f : α → Int} {l : List α} {k : Nat} {x : α} (h : l[k]? = some x) : leastOf ((l.take (k + 1)).map f) = if leastOf ((l.take k).map f) < 0 ∨ f x < leastOf ((l.take k).map f) then f x else leastOf ((l.take k).map f) := by
  rw [take_snoc h, List.map_append, leastOf, List.foldl_append]; rfl
end Go.Proofs.YtldjbgjcfncdjaaDoorR
namespace Go.Proofs.YtldjbgjcfncdjaaDoorR
open Go Go.RowKit Go.Proofs
set_option linter.unusedSimpArgs false
set_option linter.unusedVariables false
/-- What is kept of a list, as numbers: one round more. -/
theorem filter_snoc {α β : Type} {p : α → Bool} {f : α → β} {l : List α} {k : Nat} {x : α} (h : l[k]? = some x) : ((l.take (k + 1)).filter p).map f = if p x = true then ((l.take k).filter p).map f ++ [f x] else ((l.take k).filter p).map f := by
  rw [take_snoc h, List.filter_append, List.map_append]
  by_cases hp : p x = true <;> simp [hp]
/-- Does a library that is named hold what lies on the disk? -/
def isHeld (a : GArchive) : Bool := !(a.Libraries.any fun x => x.Up) || !(a.Disk.Containers.any fun c => !(a.Libraries.any fun x => x.Digests.contains c.Root))
def m_spec_l34Up : MC :=
(.seq (pr [.nilo 2 0 1] [0])
(.seq (pr [.lit 5 0 1 8 [], .mv 3 (.s 5)] [0,3])
(.seq (.seq (pr [.mv 4 (.c (.int .i64 0))] [0,3,4])
(.block 0 (.loop ([0,3,4], [1]) (.seq (.seq (pr [.mv 6 (.s 4), .mv 7 (.s 0), .len 8 false (.s 7), .bin 9 false .lss (.s 6) (.s 8)] [0,3,4,9])
(.cond (.s 9) .skip (.exit 0)))
(.seq (.block 1 (.seq (pr [.mv 12 (.s 0), .mv 13 (.s 4), .idx 14 4 (.s 12) (.s 13), .fld 15 (.s 14) 2, .load 16 false 1 (.s 15)] [0,3,4,16])
(.cond (.s 16) (pr [.mv 17 (.s 3), .mv 18 (.s 0), .mv 19 (.s 4), .idx 20 4 (.s 18) (.s 19), .fld 21 (.s 20) 0, .load 22 false 1 (.s 21), .lit 23 1 1 8 [.s 22], .app 24 0 1 8 (.s 17) (.s 23), .mv 3 (.s 24)] [0,3,4]) .skip)))
(pr [.mv 10 (.s 4), .bin 11 false .add (.s 10) (.c (.int .i64 1)), .mv 4 (.s 11)] [0,3,4]))))))
(.seq (pr [.mv 25 (.s 3), .mv 2 (.s 25)] [2])
.ret))))
theorem c_spec_l34Up (xs : List GLibrary) (hN : xs.length ≤ 1099511627776) : Ctr Tryd.prog n_spec_l34Up [aL 4 (xs.map GLibrary.enc)] [rL 1 (((xs.filter fun x => x.Up).map fun x => x.Id).map encI)] := by
  refine ctr_at (M := m_spec_l34Up) (m := 2) (n := 26) (res := [(.tmp 2, [true])]) hmix Tryd.func70 rfl (by kernel_rfl) rfl (by kernel_rfl) (by kernel_rfl) (Nat.le_of_ble_eq_true rfl) ?_; unfold m_spec_l34Up
  intro hb
  simp only [bdA, bdL, bdT, bdR, bdR_map, wfB_i64, wfB_bool, wfB_str, roomB, and_true, true_and, List.length_map] at hb
  obtain ⟨hl, -⟩ := hb
  simp only [↓bk_bind, ↓bk_map, ↓bk_ite, ↓bk_some, ↓reduceIte, Nat.reduceEqDiff, Nat.reduceLT, Nat.reduceLeDiff, Nat.reduceAdd, Nat.reduceMul, reduceCtorEq, List.reduceReplicate, go_sem]
  refine loopK_rng xs (fun k => [(3, .val false [.ref 0 0 1 0 ((xs.take k).filter fun x => x.Up).length]), (4, vI k)]) (fun k => [(0, ⟨0, .row true 1 ((((xs.take k).filter fun x => x.Up).map fun x => x.Id).map encI)⟩)]) (fun _ => True) hl ?_
  simp only [↓bk_bind, ↓bk_map, ↓bk_ite, ↓bk_some, ↓reduceIte, Nat.reduceEqDiff, Nat.reduceLT, Nat.reduceLeDiff, Nat.reduceAdd, Nat.reduceMul, reduceCtorEq, List.reduceReplicate, go_sem]
  refine ⟨?_, trivial, ?_, ?_⟩
  · simp only [↓bk_bind, ↓bk_map, ↓bk_ite, ↓bk_some, ↓reduceIte, Nat.reduceEqDiff, Nat.reduceLT, Nat.reduceLeDiff, Nat.reduceAdd, Nat.reduceMul, reduceCtorEq, List.reduceReplicate, go_sem, List.take_zero, List.filter_nil]
  · intro k x hx _ h0 h1 hw
    simp only [↓bk_bind, ↓bk_map, ↓bk_ite, ↓bk_some, ↓reduceIte, Nat.reduceEqDiff, Nat.reduceLT, Nat.reduceLeDiff, Nat.reduceAdd, Nat.reduceMul, reduceCtorEq, List.reduceReplicate, go_sem, bk_eq hx, h0, h1, hw, filter_snoc hx]
    have hlf := List.length_filter_le (fun x => x.Up) (xs.take k)
    have hlt := List.length_take_le k xs
    simp only [roomB]
    refine ⟨fun u => ⟨by omega, by omega, ?_, ?_⟩, fun u => ⟨?_, ?_⟩⟩
    · rw [take_snoc hx, List.filter_append]; simp [u]
    · simp [u, encI]
    · rw [take_snoc hx, List.filter_append]; simp [u]
    · simp [u]
  · intro _
    simp only [↓bk_bind, ↓bk_map, ↓bk_ite, ↓bk_some, ↓reduceIte, Nat.reduceEqDiff, Nat.reduceLT, Nat.reduceLeDiff, Nat.reduceAdd, Nat.reduceMul, reduceCtorEq, List.reduceReplicate, go_sem, List.take_length]
def noUp (a : GArchive) : Bool := !(a.Libraries.any fun x => x.Up)
theorem any_snoc {α : Type} {p : α → Bool} {l : List α} {k : Nat} {x : α} (h : l[k]? = some x) : (l.take (k + 1)).any p = ((l.take k).any p || p x) := by
  rw [take_snoc h, List.any_append]; simp
theorem noUp_eq {a : GArchive} : (((a.Libraries.filter fun x => x.Up).length : Int) == 0) = noUp a := by
  unfold noUp
  rw [Bool.eq_iff_iff]
  simp [List.filter_eq_nil_iff]
end Go.Proofs.YtldjbgjcfncdjaaDoorR
namespace Go.Proofs
open Go.Shelf
def Tryd.lays156_ren : Go.Shelf.Ren := ⟨fun | 156 => 83 | 165 => 111 | 166 => 112 | 169 => 113 | 240 => 123 | 241 => 124 | 276 => 132 | 277 => 133 | n => n, fun | 31 => 144 | 9 => 9 | 3 => 3 | 4 => 4 | 0 => 0 | 20 => 20 | 72 => 188 | 76 => 192 | 70 => 186 | 37 => 147 | 75 => 191 | 127 => 213 | 164 => 221 | 5 => 5 | 80 => 194 | n => n, fun | n => n⟩
theorem Tryd.lays156 : Go.Proofs.Lays.n156 Tryd.prog Tryd.lays156_ren := {
  mixed := by kernel_rfl
  f156 := Tryd.func83.trans (congrArg some (by kernel_rfl))
  f165 := Tryd.func111.trans (congrArg some (by kernel_rfl))
  f166 := Tryd.func112.trans (congrArg some (by kernel_rfl))
  f169 := Tryd.func113.trans (congrArg some (by kernel_rfl))
  f240 := Tryd.func123.trans (congrArg some (by kernel_rfl))
  f241 := Tryd.func124.trans (congrArg some (by kernel_rfl))
  f276 := Tryd.func132.trans (congrArg some (by kernel_rfl))
  f277 := Tryd.func133.trans (congrArg some (by kernel_rfl))
  t0 := Tryd.underlying0
  a0 := Tryd.isAgg0
  z0 := Tryd.sizeOf0
  v0 := Tryd.zeroValue0
  t3 := Tryd.underlying3
  a3 := Tryd.isAgg3
  z3 := Tryd.sizeOf3
  v3 := Tryd.zeroValue3
  t4 := Tryd.underlying4
  a4 := Tryd.isAgg4
  z4 := Tryd.sizeOf4
  v4 := Tryd.zeroValue4
  t9 := Tryd.underlying9
  a9 := Tryd.isAgg9
  z9 := Tryd.sizeOf9
  v9 := Tryd.zeroValue9
  t20 := Tryd.underlying20
  a20 := Tryd.isAgg20
  z20 := Tryd.sizeOf20
  v20 := Tryd.zeroValue20
  t31 := Tryd.underlying144
  a31 := Tryd.isAgg144
  z31 := Tryd.sizeOf144
  v31 := Tryd.zeroValue144
  t37 := Tryd.underlying147
  a37 := Tryd.isAgg147
  z37 := Tryd.sizeOf147
  v37 := Tryd.zeroValue147
  t70 := Tryd.underlying186
  a70 := Tryd.isAgg186
  z70 := Tryd.sizeOf186
  v70 := Tryd.zeroValue186
  t72 := Tryd.underlying188
  a72 := Tryd.isAgg188
  z72 := Tryd.sizeOf188
  v72 := Tryd.zeroValue188
  t75 := Tryd.underlying191
  a75 := Tryd.isAgg191
  z75 := Tryd.sizeOf191
  v75 := Tryd.zeroValue191
  t76 := Tryd.underlying192
  a76 := Tryd.isAgg192
  z76 := Tryd.sizeOf192
  v76 := Tryd.zeroValue192
  t127 := Tryd.underlying213
  a127 := Tryd.isAgg213
  z127 := Tryd.sizeOf213
  v127 := Tryd.zeroValue213
  t164 := Tryd.underlying221
  a164 := Tryd.isAgg221
  z164 := Tryd.sizeOf221
  v164 := Tryd.zeroValue221 }
theorem Tryd.Builder_Extra_156 : Builder.Extra Tryd.prog Tryd.lays156_ren := {
  sizeBuilder := by kernel_rfl
  liesBuilder := by kernel_rfl
  t5 := Tryd.underlying5
  a5 := Tryd.isAgg5
  z5 := Tryd.sizeOf5
  v5 := Tryd.zeroValue5
  infoByte := by kernel_rfl
  cellsByte := by kernel_rfl
  sizeByte := by kernel_rfl
  neB5 := by decide }
open Go.RowKit in
theorem Tryd.strings_Join_none (a : Option Addr) (c : Nat) (sep : ByteArray) (w : World) :
    Calls Tryd.prog 83 #[.slice a 0 c, .string sep] w fun e w' => e = .returned (.string ⟨#[]⟩) ∧ w' = w := Any.strings_Join_none Tryd.lays156 Tryd.Builder_Extra_156 a c sep w
open Go.RowKit in
theorem Tryd.strings_Join (bk o c : Nat) (xs : List ByteArray) (sep : ByteArray) (w : World) (hcells : ∀ (j : Nat) x, xs[j]? = some x → w.cell? ⟨bk, o + j, none⟩ = some (.string x)) (hbk : bk < w.heap.size) (hN : xs.length ≤ 140737488355328) (hcap : xs.length ≤ c) (hlen : (Lib.join (xs.map (·.data.toList)) sep.data.toList).length ≤ 140737488355328) :
    Calls Tryd.prog 83 #[.slice (some ⟨bk, o, none⟩) xs.length c, .string sep] w fun e w' => e = .returned (.string ⟨(Lib.join (xs.map (·.data.toList)) sep.data.toList).toArray⟩) ∧ Below w.heap.size w w' := Any.strings_Join Tryd.lays156 Tryd.Builder_Extra_156 bk o c xs sep w hcells hbk hN hcap hlen
def Tryd.laysM171_ren : Go.Shelf.Ren := ⟨fun | 171 => 86 | 243 => 114 | 246 => 125 | 283 => 134 | 284 => 135 | 285 => 136 | 286 => 137 | 129 => 141 | 317 => 140 | 318 => 142 | 319 => 143 | 320 => 144 | 337 => 145 | 338 => 146 | n => n, fun | 3 => 3 | 9 => 9 | 2 => 2 | 4 => 4 | 171 => 224 | 0 => 0 | 53 => 225 | 37 => 147 | 5 => 5 | 173 => 228 | 212 => 238 | 51 => 239 | 20 => 20 | 213 => 240 | 46 => 242 | 232 => 245 | 233 => 246 | n => n, fun | 17 => 1 | 18 => 2 | 19 => 3 | n => n⟩
theorem Tryd.laysM171 : Go.Proofs.LaysM.n171 Tryd.prog Tryd.laysM171_ren := {
  mixed := by kernel_rfl
  f129 := Tryd.func141.trans (congrArg some (by kernel_rfl))
  f171 := Tryd.func86.trans (congrArg some (by kernel_rfl))
  f243 := Tryd.func114.trans (congrArg some (by kernel_rfl))
  f246 := Tryd.func125.trans (congrArg some (by kernel_rfl))
  f283 := Tryd.func134.trans (congrArg some (by kernel_rfl))
  f284 := Tryd.func135.trans (congrArg some (by kernel_rfl))
  f285 := Tryd.func136.trans (congrArg some (by kernel_rfl))
  f286 := Tryd.func137.trans (congrArg some (by kernel_rfl))
  f317 := Tryd.func140.trans (congrArg some (by kernel_rfl))
  f318 := Tryd.func142.trans (congrArg some (by kernel_rfl))
  f319 := Tryd.func143.trans (congrArg some (by kernel_rfl))
  f320 := Tryd.func144.trans (congrArg some (by kernel_rfl))
  f337 := Tryd.func145.trans (congrArg some (by kernel_rfl))
  f338 := Tryd.func146.trans (congrArg some (by kernel_rfl))
  t0 := Tryd.underlying0
  a0 := Tryd.isAgg0
  z0 := Tryd.sizeOf0
  v0 := Tryd.zeroValue0
  t2 := Tryd.underlying2
  a2 := Tryd.isAgg2
  z2 := Tryd.sizeOf2
  v2 := Tryd.zeroValue2
  t3 := Tryd.underlying3
  a3 := Tryd.isAgg3
  z3 := Tryd.sizeOf3
  v3 := Tryd.zeroValue3
  t4 := Tryd.underlying4
  a4 := Tryd.isAgg4
  z4 := Tryd.sizeOf4
  v4 := Tryd.zeroValue4
  t5 := Tryd.underlying5
  a5 := Tryd.isAgg5
  z5 := Tryd.sizeOf5
  v5 := Tryd.zeroValue5
  t9 := Tryd.underlying9
  a9 := Tryd.isAgg9
  z9 := Tryd.sizeOf9
  v9 := Tryd.zeroValue9
  t20 := Tryd.underlying20
  a20 := Tryd.isAgg20
  z20 := Tryd.sizeOf20
  v20 := Tryd.zeroValue20
  t37 := Tryd.underlying147
  a37 := Tryd.isAgg147
  z37 := Tryd.sizeOf147
  v37 := Tryd.zeroValue147
  t46 := Tryd.underlying242
  a46 := Tryd.isAgg242
  z46 := Tryd.sizeOf242
  v46 := Tryd.zeroValue242
  t51 := Tryd.underlying239
  a51 := Tryd.isAgg239
  z51 := Tryd.sizeOf239
  v51 := Tryd.zeroValue239
  t53 := Tryd.underlying225
  a53 := Tryd.isAgg225
  z53 := Tryd.sizeOf225
  v53 := Tryd.zeroValue225
  t171 := Tryd.underlying224
  a171 := Tryd.isAgg224
  z171 := Tryd.sizeOf224
  v171 := Tryd.zeroValue224
  t173 := Tryd.underlying228
  a173 := Tryd.isAgg228
  z173 := Tryd.sizeOf228
  v173 := Tryd.zeroValue228
  t212 := Tryd.underlying238
  a212 := Tryd.isAgg238
  z212 := Tryd.sizeOf238
  v212 := Tryd.zeroValue238
  t213 := Tryd.underlying240
  a213 := Tryd.isAgg240
  z213 := Tryd.sizeOf240
  t232 := Tryd.underlying245
  a232 := Tryd.isAgg245
  z232 := Tryd.sizeOf245
  v232 := Tryd.zeroValue245
  t233 := Tryd.underlying246
  a233 := Tryd.isAgg246
  z233 := Tryd.sizeOf246
  v233 := Tryd.zeroValue246
  g17 := by kernel_rfl
  g18 := by kernel_rfl
  g19 := by kernel_rfl
  i0 := by kernel_rfl
  i2 := by kernel_rfl
  i3 := by kernel_rfl
  i4 := by kernel_rfl
  i5 := by kernel_rfl
  i9 := by kernel_rfl
  i20 := by kernel_rfl
  i37 := by kernel_rfl
  i46 := by kernel_rfl
  i51 := by kernel_rfl
  i53 := by kernel_rfl
  i171 := by kernel_rfl
  i173 := by kernel_rfl
  i212 := by kernel_rfl
  i232 := by kernel_rfl
  i233 := by kernel_rfl
  m17 := by kernel_rfl
  m18 := by kernel_rfl
  m19 := by kernel_rfl }
open Go.RowKit Go.Sort Go.Lib in
theorem Tryd.strconv_Itoa (n : Int) (h0 : -9223372036854775808 ≤ n) (h1 : n ≤ 9223372036854775807) (w : World) (htab : Lib.TabIs Tryd.prog w "internal/strconv.uint64pow10" .u64 Lib.pow10Tab) :
    Calls Tryd.prog 86 #[.int .i64 n] w fun e w' => e = .returned (.string ⟨(Lib.itoa n).toArray⟩) ∧ ∃ k os, w' = grow (w.drewN k) os := Any.strconv_Itoa Tryd.laysM171 n h0 h1 w htab

end Go.Proofs
namespace Go.Proofs.YtldjbgjcfncdjaaDoorR
open Go Go.RowKit Go.Proofs
set_option linter.unusedSimpArgs false
set_option linter.unusedVariables false
/-- A string out of bytes. -/
def bs (l : List UInt8) : ByteArray := ⟨l.toArray⟩
theorem bs_size {l : List UInt8} : (bs l).size = l.length := by simp [bs, ByteArray.size]
theorem bs_app {l m : List UInt8} : bs l ++ bs m = bs (l ++ m) := by
  apply ByteArray.ext
  simp [bs]
@[go_sem] theorem bs_mk {l : List UInt8} : (⟨l.toArray⟩ : ByteArray) = bs l := rfl
attribute [go_sem] bs_size bs_app
abbrev rStr (s : ByteArray) : RV := ⟨false, [(false, tS s)]⟩
attribute [go_sem] rStr
theorem below_grow (w : World) (k : Nat) (os : Array Obj) : Below w.heap.size w (Go.Sort.grow (w.drewN k) os) := by
  refine ⟨rfl, rfl, rfl, ?_, fun i hi => ?_⟩
  · simp [Go.Sort.grow, World.drewN]
  · show (w.heap ++ os)[i]? = _
    rw [Array.getElem?_append_left hi]
theorem ctr_str {w w' : World} {X : Nat → Prop} {s : ByteArray} (hs : s.size ≤ 9223372036854775807) (hb : Below w.heap.size w w') :
    Below w.heap.size w w' ∧ ∃ us G, Value.string s = tupV us ∧ G.Nodup ∧ (∀ b ∈ G, w.heap.size ≤ b) ∧ ResVs w' (fun b => (b < w.heap.size → X b) ∧ b ∉ G) [rStr s] us G :=
  ⟨hb, [.string s], [], rfl, List.nodup_nil, by simp, [], [], ⟨⟨_, rfl⟩, ⟨rfl, oneW_str hs⟩, rfl⟩, rfl, rfl⟩
theorem args_one {w : World} {X : Nat → Prop} {t : T} {vs : List Value} (h : ArgsR w X [(false, [t])] vs) : ∃ v, vs = [v] ∧ Rd w X t v := by
  cases vs with
  | nil => exact h.elim
  | cons v vs =>
    cases vs with
    | cons _ _ => exact h.2.elim
    | nil =>
      obtain ⟨t', e, h1⟩ := h.1
      obtain rfl := (List.cons.inj e).1
      exact ⟨v, rfl, h1⟩
theorem args_two {w : World} {X : Nat → Prop} {t u : T} {vs : List Value} (h : ArgsR w X [(false, [t]), (false, [u])] vs) : ∃ v v', vs = [v, v'] ∧ Rd w X t v ∧ Rd w X u v' := by
  cases vs with
  | nil => exact h.elim
  | cons v vs =>
    obtain ⟨t', e, h1⟩ := h.1
    obtain rfl := (List.cons.inj e).1
    obtain ⟨v', rfl, h2⟩ := args_one h.2
    exact ⟨v, v', rfl, h1, h2⟩
theorem decDigits_len (u : Nat) : (Lib.decDigits u).length ≤ u + 1 := by
  induction u using Nat.strongRecOn with
  | _ u ih =>
    unfold Lib.decDigits
    split
    · simp
    · have := ih (u / 10) (by omega)
      simp only [List.length_append, List.length_cons, List.length_nil]
      omega
theorem decDigits_len' : ∀ (k u : Nat), u < 10 ^ (k + 1) → (Lib.decDigits u).length ≤ k + 1
  | 0, u, h => by
    unfold Lib.decDigits
    rw [dif_pos (by omega)]
    simp
  | k + 1, u, h => by
    unfold Lib.decDigits
    split
    · simp
    · have h2 : u / 10 < 10 ^ (k + 1) := by
        rw [Nat.div_lt_iff_lt_mul (by omega)]
        rw [Nat.pow_succ] at h
        exact h
      have := decDigits_len' k (u / 10) h2
      simp only [List.length_append, List.length_cons, List.length_nil]
      omega
theorem itoa_len (n : Int) : (Lib.itoa n).length ≤ n.natAbs + 2 := by
  unfold Lib.itoa
  split
  · have := decDigits_len n.natAbs; simp only [List.length_cons]; omega
  · have := decDigits_len n.toNat; omega
theorem itoa_len' {n : Int} (h0 : -9223372036854775808 ≤ n) (h1 : n ≤ 9223372036854775807) : (Lib.itoa n).length ≤ 20 := by
  unfold Lib.itoa
  split
  · have := decDigits_len' 18 n.natAbs (by have : (10 : Nat) ^ (18 + 1) = 10000000000000000000 := rfl; omega); simp only [List.length_cons]; omega
  · have := decDigits_len' 18 n.toNat (by have : (10 : Nat) ^ (18 + 1) = 10000000000000000000 := rfl; omega); omega
theorem c_strconv_Itoa (n : Int) : Ctr Tryd.prog n_strconv_Itoa [aI n] [rStr (bs (Lib.itoa n))] := by
  refine ⟨⟨Tryd.f86, Tryd.func86, by kernel_rfl, by kernel_rfl⟩, fun w X vs ht h => ?_⟩
  obtain ⟨v, rfl, hr⟩ := args_one h
  simp only [Rd] at hr
  obtain ⟨rfl, h1⟩ := hr
  have h2 := int_range (oneW_wf h1)
  simp only [i64_min, i64_max] at h2
  refine (Tryd.strconv_Itoa n h2.1 h2.2 w (ht w (Below.refl _ _))).mono ?_
  rintro e w' ⟨rfl, k, os, rfl⟩
  refine ctr_str (s := bs (Lib.itoa n)) ?_ (below_grow w k os)
  rw [bs_size]
  have h3 := itoa_len' h2.1 h2.2
  omega
theorem c_strings_Join (xs : List (List UInt8)) (sep : List UInt8) (hlen : (Lib.join xs sep).length ≤ 140737488355328) : Ctr Tryd.prog n_strings_Join [aL 1 (xs.map fun s => [tS (bs s)]), (false, [tS (bs sep)])] [rStr (bs (Lib.join xs sep))] := by
  refine ⟨⟨Tryd.f83, Tryd.func83, by kernel_rfl, by kernel_rfl⟩, fun w X vs ht h => ?_⟩
  obtain ⟨v, v', rfl, hr, hr'⟩ := args_two h
  simp only [Rd] at hr hr'
  obtain ⟨rfl, h1⟩ := hr'
  obtain ⟨A, cap, rfl, hln, hr⟩ := hr
  simp only [List.length_map] at hln
  have hd : (xs.map bs).map (·.data.toList) = xs := by
    rw [List.map_map]
    exact (List.map_congr_left fun x _ => by simp [bs]).trans (List.map_id _)
  have hsz : (bs (Lib.join xs sep)).size ≤ 9223372036854775807 := by rw [bs_size]; omega
  rcases hr with hr | ⟨b, off, rfl, hX, hb, hr⟩
  · have : xs = [] := by simpa using hr
    subst this
    refine (Tryd.strings_Join_none A cap (bs sep) w).mono ?_
    rintro e w' ⟨rfl, rfl⟩
    exact ctr_str (s := bs (Lib.join [] sep)) hsz (Below.refl _ _)
  · have hl2 : xs.length ≤ 140737488355328 := hln.2.1
    have hj := Tryd.strings_Join b off cap (xs.map bs) (bs sep) w ?_ hb (by simpa using hl2) (by simpa using hln.1) (by rw [hd]; exact hlen)
    · rw [hd] at hj
      simp only [List.length_map] at hj ⊢
      refine hj.mono ?_
      rintro e w' ⟨rfl, hbel⟩
      exact ctr_str (s := bs (Lib.join xs sep)) hsz hbel
    · intro j x hx
      rw [List.getElem?_map, Option.map_eq_some_iff] at hx
      obtain ⟨y, hy, rfl⟩ := hx
      have := (hr.at_ (i := j) (e := [tS (bs y)]) (by rw [List.getElem?_map, hy]; rfl)).2
      simp only [RdEl, Rd, and_true, Nat.mul_one] at this
      obtain ⟨v, hv, rfl, _⟩ := this
      exact hv
end Go.Proofs.YtldjbgjcfncdjaaDoorR
namespace Go.Proofs.YtldjbgjcfncdjaaDoorR
open Go Go.RowKit Go.Proofs
set_option linter.unusedSimpArgs false
set_option linter.unusedVariables false
abbrev vStr' (s : List UInt8) : SV := .val false [.pl (tS (bs s))]
attribute [go_sem] vStr'
def m_impl_FormatInt : MC :=
(.seq (pr [.mv 2 (.c (.string ⟨#[]⟩))] [0])
(.seq (pr [.mv 3 (.s 0), .call 4 [] (.f n_strconv_Itoa) [.s 3], .mv 2 (.s 4)] [2])
.ret))
theorem c_impl_FormatInt (n : Int) : Ctr Tryd.prog n_impl_FormatInt [aI n] [rStr (bs (Lib.itoa n))] := by
  refine ctr_at (M := m_impl_FormatInt) (m := 0) (n := 5) (res := [(.tmp 2, [false])]) hmix Tryd.func45 rfl (by kernel_rfl) rfl (by kernel_rfl) (by kernel_rfl) (Nat.le_of_ble_eq_true rfl) ?_; unfold m_impl_FormatInt
  intro hb
  clear hb
  simp only [↓bk_bind, ↓bk_map, ↓bk_ite, ↓bk_some, ↓reduceIte, Nat.reduceEqDiff, Nat.reduceLT, Nat.reduceLeDiff, Nat.reduceAdd, Nat.reduceMul, reduceCtorEq, List.reduceReplicate, go_sem]
  refine callK_of (c_strconv_Itoa n) ?_
  simp only [↓bk_bind, ↓bk_map, ↓bk_ite, ↓bk_some, ↓reduceIte, Nat.reduceEqDiff, Nat.reduceLT, Nat.reduceLeDiff, Nat.reduceAdd, Nat.reduceMul, reduceCtorEq, List.reduceReplicate, go_sem]
theorem byteOf_nat {k : Nat} (h : k < 256) : byteOf [.sc (.int .u8 (k : Int))] = some (UInt8.ofNat k) := by
  show (if 0 ≤ (k : Int) ∧ (k : Int) < 256 then some (UInt8.ofNat (k : Int).toNat) else none) = _
  rw [if_pos (by omega)]
  simp
theorem tmod_ten (x : Int) : (x.tmod 10).natAbs = x.natAbs % 10 ∧ (x.tdiv 10).natAbs = x.natAbs / 10 ∧ (x.tmod 10 < 0 → x.tmod 10 = -((x.natAbs % 10 : Nat) : Int)) ∧ (¬ x.tmod 10 < 0 → x.tmod 10 = ((x.natAbs % 10 : Nat) : Int)) := by
  have h1 : (x.tmod 10).natAbs = x.natAbs % 10 := by rw [Int.natAbs_tmod]; rfl
  have h2 : (x.tdiv 10).natAbs = x.natAbs / 10 := by rw [Int.natAbs_tdiv]; rfl
  exact ⟨h1, h2, fun h => by omega, fun h => by omega⟩
theorem u8_wrap {k : Nat} (h : k < 256) : IntKind.u8.wrap (k : Int) = k := by
  rw [IntKind.wrap_u8]; omega
def m_spec_FormatInt : MC :=
(.seq (pr [.mv 2 (.c (.string ⟨#[]⟩))] [0])
(.seq (.seq (pr [.mv 6 (.s 0), .bin 7 false .eql (.s 6) (.c (.int .i64 0))] [0,7])
(.cond (.s 7) (.seq (pr [.mv 2 (.c (.string ⟨#[48]⟩))] [2])
.ret) .skip))
(.seq (pr [.mv 3 (.c (.string ⟨#[]⟩))] [0,3])
(.seq (.seq (pr [.mv 8 (.s 0), .mv 4 (.s 8)] [0,3,4])
(.block 0 (.loop ([0,3,4], [0]) (.seq (.seq (pr [.mv 9 (.s 4), .bin 10 false .neq (.s 9) (.c (.int .i64 0))] [0,3,4,10])
(.cond (.s 10) .skip (.exit 0)))
(.seq (.block 1 (.seq (pr [.mv 13 (.s 4), .bin 14 false .rem (.s 13) (.c (.int .i64 10)), .mv 5 (.s 14)] [0,3,4,5])
(.seq (.seq (pr [.mv 15 (.s 5), .bin 16 false .lss (.s 15) (.c (.int .i64 0))] [0,3,4,5,16])
(.cond (.s 16) (pr [.mv 17 (.s 5), .un 18 .neg (.s 17), .mv 5 (.s 18)] [0,3,4,5]) .skip))
(pr [.mv 19 (.s 5), .bin 20 false .add (.c (.int .i64 48)) (.s 19), .convI 21 .u8 (.s 20), .lit 22 0 1 1 [.s 21], .convS 23 (.s 22), .mv 24 (.s 3), .bin 25 false .add (.s 23) (.s 24), .mv 3 (.s 25)] [0,3,4]))))
(pr [.mv 11 (.s 4), .bin 12 false .quo (.s 11) (.c (.int .i64 10)), .mv 4 (.s 12)] [0,3,4]))))))
(.seq (.seq (pr [.mv 26 (.s 0), .bin 27 false .lss (.s 26) (.c (.int .i64 0))] [3,27])
(.cond (.s 27) (.seq (pr [.mv 28 (.s 3), .bin 29 false .add (.c (.string ⟨#[45]⟩)) (.s 28), .mv 2 (.s 29)] [2])
.ret) .skip))
(.seq (pr [.mv 30 (.s 3), .mv 2 (.s 30)] [2])
.ret))))))
theorem c_spec_FormatInt (n : Int) : Ctr Tryd.prog n_spec_FormatInt [aI n] [rStr (bs (Lib.itoa n))] := by
  refine ctr_at (M := m_spec_FormatInt) (m := 1) (n := 31) (res := [(.tmp 2, [false])]) hmix Tryd.func42 rfl (by kernel_rfl) rfl (by kernel_rfl) (by kernel_rfl) (Nat.le_of_ble_eq_true rfl) ?_; unfold m_spec_FormatInt
  intro hb
  simp only [bdA, bdL, bdT, bdR, bdR_map, wfB_i64, wfB_bool, wfB_str, roomB, and_true, true_and, List.length_map] at hb
  simp only [↓bk_bind, ↓bk_map, ↓bk_ite, ↓bk_some, ↓reduceIte, Nat.reduceEqDiff, Nat.reduceLT, Nat.reduceLeDiff, Nat.reduceAdd, Nat.reduceMul, reduceCtorEq, List.reduceReplicate, go_sem]
  refine ⟨fun h => by subst h; congr 1; unfold Lib.itoa Lib.decDigits; rfl, fun h => ?_⟩
  refine loopK_up (ι := Int × List UInt8) (fun i => [(3, vStr' i.2), (4, vI i.1)]) (fun _ => []) (fun i => (i.1 = 0 → i.2 = Lib.decDigits n.natAbs) ∧ (i.1 ≠ 0 → Lib.decDigits i.1.natAbs ++ i.2 = Lib.decDigits n.natAbs) ∧ -9223372036854775808 ≤ i.1 ∧ i.1 ≤ 9223372036854775807) (fun i => i.1.natAbs) (n, []) ?_
  simp only [↓bk_bind, ↓bk_map, ↓bk_ite, ↓bk_some, ↓reduceIte, Nat.reduceEqDiff, Nat.reduceLT, Nat.reduceLeDiff, Nat.reduceAdd, Nat.reduceMul, reduceCtorEq, List.reduceReplicate, go_sem]
  refine ⟨?_, ⟨fun h2 => absurd h2 h, fun _ => by simp, hb⟩, ?_⟩
  · simp only [↓bk_bind, ↓bk_map, ↓bk_ite, ↓bk_some, ↓reduceIte, Nat.reduceEqDiff, Nat.reduceLT, Nat.reduceLeDiff, Nat.reduceAdd, Nat.reduceMul, reduceCtorEq, List.reduceReplicate, go_sem]
  · rintro ⟨x, s⟩ ⟨h1, h2, h3, h4⟩
    simp only at h1 h2 h3 h4
    simp only [↓bk_bind, ↓bk_map, ↓bk_ite, ↓bk_some, ↓reduceIte, Nat.reduceEqDiff, Nat.reduceLT, Nat.reduceLeDiff, Nat.reduceAdd, Nat.reduceMul, reduceCtorEq, List.reduceReplicate, go_sem, Int.reduceEq]
    refine ⟨fun hx => ?_, fun hx => ?_⟩
    · obtain ⟨t1, t2, t3, t4⟩ := tmod_ten x
      have hd := h2 hx
      have hlen : s.length ≤ 20 := by
        have e1 := congrArg List.length hd
        have e2 := decDigits_len' 18 n.natAbs (by have : (10 : Nat) ^ (18 + 1) = 10000000000000000000 := rfl; omega)
        simp only [List.length_append] at e1
        omega
      have key : ∀ m : Int, m = ((48 + x.natAbs % 10 : Nat) : Int) → 1 ≤ roomB ∧ bk (byteOf [.sc (.int .u8 (IntKind.u8.wrap (IntKind.i64.wrap m)))]) fun a => 1 + s.length ≤ 9223372036854775807 ∧ ∃ j : Int × List UInt8, (bs (a :: s) = bs j.snd ∧ IntKind.i64.wrap (x.tdiv 10) = j.fst) ∧
          ((j.fst = 0 → j.snd = Lib.decDigits n.natAbs) ∧ (¬j.fst = 0 → Lib.decDigits j.fst.natAbs ++ j.snd = Lib.decDigits n.natAbs) ∧ -9223372036854775808 ≤ j.fst ∧ j.fst ≤ 9223372036854775807) ∧ j.fst.natAbs < x.natAbs := by
        rintro m rfl
        rw [wI (by omega) (by omega), u8_wrap (by omega), byteOf_nat (by omega)]
        have hb2 : -9223372036854775808 ≤ x.tdiv 10 ∧ x.tdiv 10 ≤ 9223372036854775807 := by omega
        refine ⟨by decide, _, rfl, by omega, (x.tdiv 10, _ :: s), ⟨rfl, wI hb2.1 hb2.2⟩, ⟨fun h0 => ?_, fun h0 => ?_, hb2⟩, by show (x.tdiv 10).natAbs < _; omega⟩
        · have h0' : x.tdiv 10 = 0 := h0
          have hlt : x.natAbs < 10 := by rw [h0'] at t2; simp at t2; omega
          rw [← hd, Lib.decDigits, dif_pos hlt, Nat.mod_eq_of_lt hlt]
          rfl
        · have h0' : ¬ x.tdiv 10 = 0 := h0
          show Lib.decDigits (x.tdiv 10).natAbs ++ _ :: s = _
          rw [← hd, t2]
          conv => rhs; rw [Lib.decDigits, dif_neg (by omega)]
          simp
      exact ⟨fun h0 => key _ (by rw [wI (by omega) (by omega), t3 h0]; omega), fun h0 => key _ (by rw [t4 h0]; omega)⟩
    · have h5 := h1 hx
      subst h5
      have e2 := decDigits_len' 18 n.natAbs (by have : (10 : Nat) ^ (18 + 1) = 10000000000000000000 := rfl; omega)
      refine ⟨fun hn => ⟨by omega, ?_⟩, fun hn => ?_⟩
      · unfold Lib.itoa; rw [if_pos hn]
      · unfold Lib.itoa; rw [if_neg hn, show n.toNat = n.natAbs by omega]
theorem joinTail_snoc (sep : List UInt8) (r : List (List UInt8)) (x : List UInt8) : Lib.joinTail sep (r ++ [x]) = Lib.joinTail sep r ++ (sep ++ x) := by simp [Lib.joinTail]
theorem join_snoc (sep x : List UInt8) (xs : List (List UInt8)) : Lib.join (xs ++ [x]) sep = if xs = [] then x else Lib.join xs sep ++ sep ++ x := by
  cases xs with
  | nil => simp [Lib.join_one]
  | cons y ys =>
    rw [List.cons_append, Lib.join_cons, joinTail_snoc, Lib.join_cons, if_neg (by simp)]
    simp
theorem join_len (c : Nat) (sep : List UInt8) : ∀ (xs : List (List UInt8)), (∀ x ∈ xs, x.length ≤ c) → (Lib.join xs sep).length ≤ xs.length * (c + sep.length)
  | [], _ => by simp [Lib.join_nil]
  | x :: xs, h => by
    have h2 : ∀ r : List (List UInt8), (∀ x ∈ r, x.length ≤ c) → (Lib.joinTail sep r).length ≤ r.length * (c + sep.length) := by
      intro r
      induction r with
      | nil => simp [Lib.joinTail]
      | cons y r ih =>
        intro hr
        have := ih fun x hx => hr x (by simp [hx])
        have h3 := hr y (by simp)
        simp only [Lib.joinTail, List.map_cons, List.flatten_cons, List.length_append, List.length_cons, Nat.add_mul, Nat.one_mul] at this ⊢
        omega
    rw [Lib.join_cons]
    have := h2 xs fun y hy => h y (by simp [hy])
    have h3 := h x (by simp)
    simp only [List.length_append, List.length_cons, Nat.add_mul, Nat.one_mul] at this ⊢
    omega
/-- Numbers in a row, blanks between. -/
def nums (l : List Int) : List UInt8 := Lib.join (l.map Lib.itoa) [32]
theorem nums_snoc {l : List Int} {k : Nat} {x : Int} (h : l[k]? = some x) : nums (l.take (k + 1)) = if k = 0 then Lib.itoa x else nums (l.take k) ++ [32] ++ Lib.itoa x := by
  unfold nums
  rw [take_snoc h, List.map_append, List.map_cons, List.map_nil, join_snoc]
  have hk := len_at h
  by_cases h0 : k = 0
  · subst h0; simp
  · rw [if_neg (by simp; constructor; omega; intro e; subst e; simp at hk), if_neg h0]
theorem nums_len {l : List Int} (h : ∀ x ∈ l, -9223372036854775808 ≤ x ∧ x ≤ 9223372036854775807) (k : Nat) : (nums (l.take k)).length ≤ k * 21 := by
  have := join_len 20 [32] ((l.take k).map Lib.itoa) (by
    intro x hx
    obtain ⟨n, hn, rfl⟩ := List.mem_map.1 hx
    have := h n (List.mem_of_mem_take hn)
    exact itoa_len' this.1 this.2)
  have hk := List.length_take_le k l
  simp only [List.length_map, List.length_cons, List.length_nil] at this
  unfold nums
  omega
def m_spec_l39Join : MC :=
(.seq (pr [.mv 2 (.c (.string ⟨#[]⟩))] [0])
(.seq (pr [.mv 3 (.c (.string ⟨#[]⟩))] [0,3])
(.seq (.seq (pr [.mv 4 (.c (.int .i64 0))] [0,3,4])
(.block 0 (.loop ([0,3,4], []) (.seq (.seq (pr [.mv 5 (.s 4), .mv 6 (.s 0), .len 7 false (.s 6), .bin 8 false .lss (.s 5) (.s 7)] [0,3,4,8])
(.cond (.s 8) .skip (.exit 0)))
(.seq (.block 1 (.seq (.seq (pr [.mv 11 (.s 4), .bin 12 false .gtr (.s 11) (.c (.int .i64 0))] [0,3,4,12])
(.cond (.s 12) (pr [.mv 13 (.s 3), .bin 14 false .add (.s 13) (.c (.string ⟨#[32]⟩)), .mv 3 (.s 14)] [0,3,4]) .skip))
(pr [.mv 15 (.s 3), .mv 16 (.s 0), .mv 17 (.s 4), .idx 18 1 (.s 16) (.s 17), .load 19 false 1 (.s 18), .call 20 [] (.f n_spec_FormatInt) [.s 19], .bin 21 false .add (.s 15) (.s 20), .mv 3 (.s 21)] [0,3,4])))
(pr [.mv 9 (.s 4), .bin 10 false .add (.s 9) (.c (.int .i64 1)), .mv 4 (.s 10)] [0,3,4]))))))
(.seq (pr [.mv 22 (.s 3), .mv 2 (.s 22)] [2])
.ret))))
theorem c_spec_l39Join (l : List Int) (hN : l.length ≤ 1099511627776) : Ctr Tryd.prog n_spec_l39Join [aL 1 (l.map encI)] [rStr (bs (nums l))] := by
  refine ctr_at (M := m_spec_l39Join) (m := 0) (n := 23) (res := [(.tmp 2, [false])]) hmix Tryd.func38 rfl (by kernel_rfl) rfl (by kernel_rfl) (by kernel_rfl) (Nat.le_of_ble_eq_true rfl) ?_; unfold m_spec_l39Join
  intro hb
  simp only [encI, bdA, bdL, bdT, bdR, bdR_map, wfB_i64, wfB_bool, wfB_str, roomB, and_true, true_and, List.length_map] at hb
  obtain ⟨hl, hr⟩ := hb
  simp only [↓bk_bind, ↓bk_map, ↓bk_ite, ↓bk_some, ↓reduceIte, Nat.reduceEqDiff, Nat.reduceLT, Nat.reduceLeDiff, Nat.reduceAdd, Nat.reduceMul, reduceCtorEq, List.reduceReplicate, go_sem]
  refine loopK_rng l (fun k => [(3, vStr' (nums (l.take k))), (4, vI k)]) (fun k => []) (fun _ => True) hl ?_
  simp only [↓bk_bind, ↓bk_map, ↓bk_ite, ↓bk_some, ↓reduceIte, Nat.reduceEqDiff, Nat.reduceLT, Nat.reduceLeDiff, Nat.reduceAdd, Nat.reduceMul, reduceCtorEq, List.reduceReplicate, go_sem]
  refine ⟨?_, trivial, ?_, ?_⟩
  · simp only [↓bk_bind, ↓bk_map, ↓bk_ite, ↓bk_some, ↓reduceIte, Nat.reduceEqDiff, Nat.reduceLT, Nat.reduceLeDiff, Nat.reduceAdd, Nat.reduceMul, reduceCtorEq, List.reduceReplicate, go_sem]
    rfl
  · intro k x hx _ h0 h1 hw
    have hx2 := hr x (at_mem hx)
    have hlen := nums_len hr k
    have hi := itoa_len' hx2.1 hx2.2
    simp only [↓bk_bind, ↓bk_map, ↓bk_ite, ↓bk_some, ↓reduceIte, Nat.reduceEqDiff, Nat.reduceLT, Nat.reduceLeDiff, Nat.reduceAdd, Nat.reduceMul, reduceCtorEq, List.reduceReplicate, go_sem, bk_eq hx, h0, h1, hw, nums_snoc hx]
    refine ⟨fun hk => ⟨by omega, ?_⟩, fun hk => ?_⟩
    · refine callK_of (c_spec_FormatInt x) ?_
      simp only [↓bk_bind, ↓bk_map, ↓bk_ite, ↓bk_some, ↓reduceIte, Nat.reduceEqDiff, Nat.reduceLT, Nat.reduceLeDiff, Nat.reduceAdd, Nat.reduceMul, reduceCtorEq, List.reduceReplicate, go_sem, hw, List.length_append]
      refine ⟨by omega, fun _ => ?_⟩
      rw [if_neg (by omega)]
    · have hk0 : k = 0 := by omega
      refine callK_of (c_spec_FormatInt x) ?_
      simp only [↓bk_bind, ↓bk_map, ↓bk_ite, ↓bk_some, ↓reduceIte, Nat.reduceEqDiff, Nat.reduceLT, Nat.reduceLeDiff, Nat.reduceAdd, Nat.reduceMul, reduceCtorEq, List.reduceReplicate, go_sem, hw, List.length_append]
      have e0 : nums (l.take k) = [] := by rw [hk0, List.take_zero]; rfl
      refine ⟨by omega, fun _ => ?_⟩
      rw [if_pos hk0, e0, List.nil_append]
  · intro _
    simp only [↓bk_bind, ↓bk_map, ↓bk_ite, ↓bk_some, ↓reduceIte, Nat.reduceEqDiff, Nat.reduceLT, Nat.reduceLeDiff, Nat.reduceAdd, Nat.reduceMul, reduceCtorEq, List.reduceReplicate, go_sem, List.take_length]
def m_impl_joinWith : MC :=
(.seq (pr [.mv 4 (.c (.string ⟨#[]⟩))] [0,1])
(.seq (pr [.nilo 5 0 1] [0,1,5])
(.seq (.seq (pr [.mv 8 (.s 0), .len 9 false (.s 8), .mv 10 (.c (.int .i64 0))] [1,5,8,9,10])
(.block 0 (.loop ([1,5,8,9,10], [1]) (.seq (pr [.bin 11 false .lss (.s 10) (.s 9)] [1,5,8,9,10,11])
(.seq (.cond (.s 11) .skip (.exit 0))
(.seq (.block 1 (.seq (pr [.idx 12 1 (.s 8) (.s 10), .load 13 false 1 (.s 12), .mv 7 (.s 13)] [1,5,7,8,9,10])
(pr [.mv 14 (.s 5), .mv 15 (.s 7), .call 16 [] (.f n_impl_FormatInt) [.s 15], .lit 17 1 1 16 [.s 16], .app 18 0 1 16 (.s 14) (.s 17), .mv 5 (.s 18)] [1,5,8,9,10])))
(pr [.bin 19 false .add (.s 10) (.c (.int .i64 1)), .mv 10 (.s 19)] [1,5,8,9,10])))))))
(.seq (pr [.mv 20 (.s 5), .mv 21 (.s 1), .call 22 [] (.f n_strings_Join) [.s 20, .s 21], .mv 4 (.s 22)] [4])
.ret))))
theorem c_impl_joinWith (l : List Int) (hN : l.length ≤ 1099511627776) : Ctr Tryd.prog n_impl_joinWith [aL 1 (l.map encI), (false, [tS (bs [32])])] [rStr (bs (nums l))] := by
  refine ctr_at (M := m_impl_joinWith) (m := 2) (n := 23) (res := [(.tmp 4, [false])]) hmix Tryd.func39 rfl (by kernel_rfl) rfl (by kernel_rfl) (by kernel_rfl) (Nat.le_of_ble_eq_true rfl) ?_; unfold m_impl_joinWith
  intro hb
  simp only [encI, bdA, bdL, bdT, bdR, bdR_map, wfB_i64, wfB_bool, wfB_str, roomB, and_true, true_and, List.length_map] at hb
  obtain ⟨⟨hl, hr⟩, -⟩ := hb
  simp only [↓bk_bind, ↓bk_map, ↓bk_ite, ↓bk_some, ↓reduceIte, Nat.reduceEqDiff, Nat.reduceLT, Nat.reduceLeDiff, Nat.reduceAdd, Nat.reduceMul, reduceCtorEq, List.reduceReplicate, go_sem]
  refine loopK_rng l (fun k => [(5, .val false [.ref 0 0 1 0 (l.take k).length]), (10, vI k)]) (fun k => [(0, ⟨0, .row true 1 ((l.take k).map fun n => [tS (bs (Lib.itoa n))])⟩)]) (fun _ => True) hl ?_
  simp only [↓bk_bind, ↓bk_map, ↓bk_ite, ↓bk_some, ↓reduceIte, Nat.reduceEqDiff, Nat.reduceLT, Nat.reduceLeDiff, Nat.reduceAdd, Nat.reduceMul, reduceCtorEq, List.reduceReplicate, go_sem]
  refine ⟨?_, trivial, ?_, ?_⟩
  · simp only [↓bk_bind, ↓bk_map, ↓bk_ite, ↓bk_some, ↓reduceIte, Nat.reduceEqDiff, Nat.reduceLT, Nat.reduceLeDiff, Nat.reduceAdd, Nat.reduceMul, reduceCtorEq, List.reduceReplicate, go_sem]
  · intro k x hx _ h0 h1 hw
    simp only [↓bk_bind, ↓bk_map, ↓bk_ite, ↓bk_some, ↓reduceIte, Nat.reduceEqDiff, Nat.reduceLT, Nat.reduceLeDiff, Nat.reduceAdd, Nat.reduceMul, reduceCtorEq, List.reduceReplicate, go_sem, bk_eq hx, h0, h1, hw]
    refine callK_of (c_impl_FormatInt x) ?_
    simp only [↓bk_bind, ↓bk_map, ↓bk_ite, ↓bk_some, ↓reduceIte, Nat.reduceEqDiff, Nat.reduceLT, Nat.reduceLeDiff, Nat.reduceAdd, Nat.reduceMul, reduceCtorEq, List.reduceReplicate, go_sem, hw]
    have hk := List.length_take_le k l
    refine ⟨by decide, by simp only [roomB]; omega, fun _ => ⟨?_, ?_⟩⟩
    · rw [take_snoc hx]; simp
    · rw [take_snoc hx]; simp
  · intro _
    simp only [↓bk_bind, ↓bk_map, ↓bk_ite, ↓bk_some, ↓reduceIte, Nat.reduceEqDiff, Nat.reduceLT, Nat.reduceLeDiff, Nat.reduceAdd, Nat.reduceMul, reduceCtorEq, List.reduceReplicate, go_sem, List.take_length]
    have hlen := nums_len hr l.length
    rw [List.take_length] at hlen
    have hj := c_strings_Join (l.map Lib.itoa) [32] (by unfold nums at hlen; omega)
    rw [List.map_map] at hj
    refine callK_of hj ?_
    simp only [↓bk_bind, ↓bk_map, ↓bk_ite, ↓bk_some, ↓reduceIte, Nat.reduceEqDiff, Nat.reduceLT, Nat.reduceLeDiff, Nat.reduceAdd, Nat.reduceMul, reduceCtorEq, List.reduceReplicate, go_sem]
    intro _
    rfl
end Go.Proofs.YtldjbgjcfncdjaaDoorR
namespace Go.Proofs.YtldjbgjcfncdjaaDoorR
open Go Go.RowKit Go.Proofs
set_option linter.unusedSimpArgs false
set_option linter.unusedVariables false
def listText (l : List Int) : List UInt8 := if l.length = 0 then [45] else nums l
end Go.Proofs.YtldjbgjcfncdjaaDoorR
namespace Go.Proofs.YtldjbgjcfncdjaaDoorR
open Go Go.RowKit Go.Proofs
set_option linter.unusedSimpArgs false
set_option linter.unusedVariables false
/-- The name with a number, out of a list of names. -/
def pickText (names : List (List UInt8)) (x : Int) : List UInt8 := if 0 ≤ x ∧ x < names.length then names.getD x.toNat [] else []
def playNames : List (List UInt8) := [[115, 97, 109, 101], [108, 101, 102, 116], [115, 104, 111, 114, 116]]
def ruleNames : List (List UInt8) := [[101, 120, 97, 99, 116], [116, 105, 109, 101], [113, 117, 101, 114, 121], [109, 105, 115, 115, 105, 110, 103]]
theorem pickText_not {names : List (List UInt8)} {x : Int} {n : Int} (hn : n = names.length) (h : ¬ (0 ≤ x ∧ x < n)) : [] = pickText names x := by
  unfold pickText; rw [if_neg (by rw [← hn]; exact h)]
theorem pick_at {names : List (List UInt8)} {x : Int} (h : 0 ≤ x ∧ x < names.length) : (names.map fun s => [T.sc (.string (bs s))])[x.toNat]? = some [T.sc (.string (bs (pickText names x)))] := by
  unfold pickText
  rw [if_pos h, List.getElem?_map, List.getD_eq_getElem?_getD, List.getElem?_eq_getElem (show x.toNat < names.length by omega)]
  rfl
theorem pick_len {names : List (List UInt8)} {x : Int} (h : ∀ s ∈ names, s.length ≤ 20) : (pickText names x).length ≤ 20 := by
  unfold pickText
  split
  · rename_i h1
    rw [List.getD_eq_getElem?_getD, List.getElem?_eq_getElem (show x.toNat < names.length by omega)]
    exact h _ (List.getElem_mem _)
  · simp
/-- Numbers, each behind a blank. -/
def spaced (l : List Int) : List UInt8 := (l.map fun n => 32 :: Lib.itoa n).flatten
theorem spaced_snoc {l : List Int} {k : Nat} {x : Int} (h : l[k]? = some x) : spaced (l.take (k + 1)) = spaced (l.take k) ++ 32 :: Lib.itoa x := by
  rw [take_snoc h, spaced, List.map_append, List.flatten_append]; simp [spaced]
theorem spaced_len {l : List Int} (h : ∀ x ∈ l, -9223372036854775808 ≤ x ∧ x ≤ 9223372036854775807) : (spaced l).length ≤ l.length * 21 := by
  induction l with
  | nil => simp [spaced]
  | cons x l ih =>
    have h1 := ih fun y hy => h y (by simp [hy])
    have h2 := h x (by simp)
    have h3 := itoa_len' h2.1 h2.2
    simp only [spaced, List.map_cons, List.flatten_cons, List.length_append, List.length_cons] at h1 ⊢
    omega
theorem spaced_len' {l : List Int} (h : ∀ x ∈ l, -9223372036854775808 ≤ x ∧ x ≤ 9223372036854775807) (k : Nat) : (spaced (l.take k)).length ≤ k * 21 := by
  have h1 := spaced_len (l := l.take k) fun x hx => h x (List.mem_of_mem_take hx)
  have h2 := List.length_take_le k l
  omega
def playHead (p : GPlayed) : List UInt8 := (if p.Code = 0 then pickText playNames p.Code else pickText playNames p.Code ++ 32 :: Lib.itoa p.At) ++ [32, 58]
def playText (p : GPlayed) : List UInt8 := playHead p ++ spaced p.State.Nodes
theorem playHead_len {p : GPlayed} (h : (-9223372036854775808 ≤ p.At ∧ p.At ≤ 9223372036854775807)) : (playHead p).length ≤ 50 := by
  have h1 := pick_len (names := playNames) (x := p.Code) (by decide)
  have h2 := itoa_len' h.1 h.2
  unfold playHead
  split <;> simp only [List.length_append, List.length_cons, List.length_nil] <;> omega
end Go.Proofs.YtldjbgjcfncdjaaDoorR
namespace Go.Proofs.YtldjbgjcfncdjaaDoorR
open Go Go.RowKit Go.Proofs
set_option linter.unusedSimpArgs false
set_option linter.unusedVariables false
def stepText (c : GChoice) : List UInt8 := 32 :: pickText ruleNames c.Rule ++ (if 0 ≤ c.At then 58 :: Lib.itoa c.At else [])
def stepsText (l : List GChoice) : List UInt8 := (l.map stepText).flatten
theorem stepsText_snoc {l : List GChoice} {k : Nat} {x : GChoice} (h : l[k]? = some x) : stepsText (l.take (k + 1)) = stepsText (l.take k) ++ stepText x := by
  rw [take_snoc h, stepsText, List.map_append, List.flatten_append]; simp [stepsText]
theorem stepText_len {c : GChoice} (h : -9223372036854775808 ≤ c.At ∧ c.At ≤ 9223372036854775807) : (stepText c).length ≤ 45 := by
  have h1 := pick_len (names := ruleNames) (x := c.Rule) (by decide)
  have h2 := itoa_len' h.1 h.2
  unfold stepText
  split <;> simp only [List.length_append, List.length_cons, List.length_nil] <;> omega
theorem stepsText_len {l : List GChoice} (h : ∀ c ∈ l, -9223372036854775808 ≤ c.At ∧ c.At ≤ 9223372036854775807) : (stepsText l).length ≤ l.length * 45 := by
  induction l with
  | nil => simp [stepsText]
  | cons x l ih =>
    have h1 := ih fun y hy => h y (by simp [hy])
    have h2 := stepText_len (h x (by simp))
    simp only [stepsText, List.map_cons, List.flatten_cons, List.length_append, List.length_cons] at h1 ⊢
    omega
theorem stepsText_len' {l : List GChoice} (h : ∀ c ∈ l, -9223372036854775808 ≤ c.At ∧ c.At ≤ 9223372036854775807) (k : Nat) : (stepsText (l.take k)).length ≤ k * 45 := by
  have h1 := stepsText_len (l := l.take k) fun x hx => h x (List.mem_of_mem_take hx)
  have h2 := List.length_take_le k l
  omega
def wanderText (w : GWander) : List UInt8 := nums w.State.Nodes ++ stepsText w.Choices
end Go.Proofs.YtldjbgjcfncdjaaDoorR
namespace Go.Proofs.YtldjbgjcfncdjaaDoorR
open Go Go.RowKit Go.Proofs
set_option linter.unusedSimpArgs false
set_option linter.unusedVariables false
def archNums (a : GArchive) : List Int := [a.Now, a.Disk.Containers.length, a.Disk.Index.length, a.Disk.Wanted.length, a.Exclusions.length, ((a.Libraries.filter fun x => x.Up).length : Nat), a.Statements.length]
def m_impl_FormatArchive : MC :=
(.seq (pr [.box 1 0 (.s 0), .mv 2 (.c (.string ⟨#[]⟩))] [1])
(.seq (pr [.mv 3 (.c (.int .i64 0))] [1,3])
(.seq (.seq (pr [.fld 6 (.s 1) 6, .load 7 false 1 (.s 6), .len 8 false (.s 7), .mv 9 (.c (.int .i64 0))] [1,3,7,8,9])
(.block 0 (.loop ([1,3,7,8,9], [1,2]) (.seq (pr [.bin 10 false .lss (.s 9) (.s 8)] [1,3,7,8,9,10])
(.seq (.cond (.s 10) .skip (.exit 0))
(.seq (.block 1 (.seq (pr [.idx 11 4 (.s 7) (.s 9), .load 12 true 4 (.s 11), .alloc 5 1 [.pl (.sc (.int .i64 0)), .emp 1, .pl (.sc (.bool false)), .pl (.sc (.bool false))], .store 4 (.s 5) (.s 12)] [1,3,5,7,8,9])
(.seq (pr [.fld 13 (.s 5) 2, .load 14 false 1 (.s 13)] [1,3,7,8,9,14])
(.cond (.s 14) (pr [.mv 15 (.s 3), .bin 16 false .add (.s 15) (.c (.int .i64 1)), .mv 3 (.s 16)] [1,3,7,8,9]) .skip))))
(pr [.bin 17 false .add (.s 9) (.c (.int .i64 1)), .mv 9 (.s 17)] [1,3,7,8,9])))))))
(.seq (pr [.fld 18 (.s 1) 9, .load 19 false 1 (.s 18), .fld 20 (.s 1) 2, .fld 21 (.s 20) 0, .load 22 false 1 (.s 21), .len 23 false (.s 22), .fld 24 (.s 1) 2, .fld 25 (.s 24) 1, .load 26 false 1 (.s 25), .len 27 false (.s 26), .fld 28 (.s 1) 2, .fld 29 (.s 28) 2, .load 30 false 1 (.s 29), .len 31 false (.s 30), .fld 32 (.s 1) 5, .load 33 false 1 (.s 32), .len 34 false (.s 33), .mv 35 (.s 3), .fld 36 (.s 1) 8, .load 37 false 1 (.s 36), .len 38 false (.s 37), .lit 39 2 1 8 [.s 19, .s 23, .s 27, .s 31, .s 34, .s 35, .s 38], .call 40 [] (.f n_impl_joinWith) [.s 39, .c (.string ⟨#[32]⟩)], .mv 2 (.s 40)] [2])
.ret))))
theorem c_impl_FormatArchive (a : GArchive) (hN : a.Libraries.length ≤ 1099511627776) : Ctr Tryd.prog n_impl_FormatArchive [aS a.enc] [rStr (bs (nums (archNums a)))] := by
  refine ctr_at (M := m_impl_FormatArchive) (m := 3) (n := 41) (res := [(.tmp 2, [false])]) hmix Tryd.func36 rfl (by kernel_rfl) rfl (by kernel_rfl) (by kernel_rfl) (Nat.le_of_ble_eq_true rfl) ?_; unfold m_impl_FormatArchive
  intro hb
  simp only [GArchive.enc, bdA, bdL, bdT, bdR, bdR_map, wfB_i64, wfB_bool, wfB_str, roomB, and_true, true_and, List.length_map] at hb
  have hl := hb.2.2.2.2.2.2.1.1
  clear hb
  simp only [↓bk_bind, ↓bk_map, ↓bk_ite, ↓bk_some, ↓reduceIte, Nat.reduceEqDiff, Nat.reduceLT, Nat.reduceLeDiff, Nat.reduceAdd, Nat.reduceMul, reduceCtorEq, List.reduceReplicate, go_sem]
  refine loopK_rng a.Libraries (fun k => [(3, vI ((a.Libraries.take k).filter fun x => x.Up).length), (9, vI k)]) (fun k => []) (fun _ => True) hl ?_
  simp only [↓bk_bind, ↓bk_map, ↓bk_ite, ↓bk_some, ↓reduceIte, Nat.reduceEqDiff, Nat.reduceLT, Nat.reduceLeDiff, Nat.reduceAdd, Nat.reduceMul, reduceCtorEq, List.reduceReplicate, go_sem]
  refine ⟨?_, trivial, ?_, ?_⟩
  · simp only [↓bk_bind, ↓bk_map, ↓bk_ite, ↓bk_some, ↓reduceIte, Nat.reduceEqDiff, Nat.reduceLT, Nat.reduceLeDiff, Nat.reduceAdd, Nat.reduceMul, reduceCtorEq, List.reduceReplicate, go_sem, List.take_zero, List.filter_nil]
    try rfl
  · intro k x hx _ h0 h1 hw
    have hlf := List.length_filter_le (fun x => x.Up) (a.Libraries.take k)
    have hlt := List.length_take_le k a.Libraries
    simp only [↓bk_bind, ↓bk_map, ↓bk_ite, ↓bk_some, ↓reduceIte, Nat.reduceEqDiff, Nat.reduceLT, Nat.reduceLeDiff, Nat.reduceAdd, Nat.reduceMul, reduceCtorEq, List.reduceReplicate, go_sem, bk_eq hx, h0, h1, hw]
    refine ⟨fun u => ?_, fun u => ?_⟩
    · rw [take_snoc hx, List.filter_append, wI (by omega) (by omega)]; simp [u]
    · rw [take_snoc hx, List.filter_append]; simp [u]
  · intro _
    simp only [↓bk_bind, ↓bk_map, ↓bk_ite, ↓bk_some, ↓reduceIte, Nat.reduceEqDiff, Nat.reduceLT, Nat.reduceLeDiff, Nat.reduceAdd, Nat.reduceMul, reduceCtorEq, List.reduceReplicate, go_sem, List.take_length]
    refine ⟨⟨by decide, by decide⟩, ?_⟩
    have hj := c_impl_joinWith (archNums a) (by simp [archNums])
    simp only [archNums, List.map_cons, List.map_nil, encI] at hj
    refine callK_of hj ?_
    simp only [↓bk_bind, ↓bk_map, ↓bk_ite, ↓bk_some, ↓reduceIte, Nat.reduceEqDiff, Nat.reduceLT, Nat.reduceLeDiff, Nat.reduceAdd, Nat.reduceMul, reduceCtorEq, List.reduceReplicate, go_sem]
    intros
    rfl
def m_spec_FormatArchive : MC :=
(.seq (pr [.box 1 0 (.s 0), .mv 2 (.c (.string ⟨#[]⟩))] [1])
(.seq (.dreg [{ o := .fld 3 (.s 1) 9, hs := [5,6,7,8,9,10,11,12,13,14,15,16,17,18,19,20,21,22,23,24,25,26], ho := [1] }, { o := .load 4 false 1 (.s 3), hs := [5,6,7,8,9,10,11,12,13,14,15,16,17,18,19,20,21,22,23,24,25,26], ho := [1], bf := [0] }, { o := .fld 5 (.s 1) 2, hs := [3,4,9,10,11,12,13,14,15,16,17,18,19,20,21,22,23,24,25,26], ho := [1] }, { o := .fld 6 (.s 5) 0, hs := [3,4,9,10,11,12,13,14,15,16,17,18,19,20,21,22,23,24,25,26], ho := [1], bf := [2] }, { o := .load 7 false 1 (.s 6), hs := [3,4,9,10,11,12,13,14,15,16,17,18,19,20,21,22,23,24,25,26], ho := [1], bf := [2,3] }, { o := .len 8 false (.s 7), hs := [3,4,9,10,11,12,13,14,15,16,17,18,19,20,21,22,23,24,25,26], ho := [1], bf := [2,3,4] }, { o := .fld 9 (.s 1) 2, hs := [3,4,5,6,7,8,13,14,15,16,17,18,19,20,21,22,23,24,25,26], ho := [1] }, { o := .fld 10 (.s 9) 1, hs := [3,4,5,6,7,8,13,14,15,16,17,18,19,20,21,22,23,24,25,26], ho := [1], bf := [6] }, { o := .load 11 false 1 (.s 10), hs := [3,4,5,6,7,8,13,14,15,16,17,18,19,20,21,22,23,24,25,26], ho := [1], bf := [6,7] }, { o := .len 12 false (.s 11), hs := [3,4,5,6,7,8,13,14,15,16,17,18,19,20,21,22,23,24,25,26], ho := [1], bf := [6,7,8] }, { o := .fld 13 (.s 1) 2, hs := [3,4,5,6,7,8,9,10,11,12,17,18,19,20,21,22,23,24,25,26], ho := [1] }, { o := .fld 14 (.s 13) 2, hs := [3,4,5,6,7,8,9,10,11,12,17,18,19,20,21,22,23,24,25,26], ho := [1], bf := [10] }, { o := .load 15 false 1 (.s 14), hs := [3,4,5,6,7,8,9,10,11,12,17,18,19,20,21,22,23,24,25,26], ho := [1], bf := [10,11] }, { o := .len 16 false (.s 15), hs := [3,4,5,6,7,8,9,10,11,12,17,18,19,20,21,22,23,24,25,26], ho := [1], bf := [10,11,12] }, { o := .fld 17 (.s 1) 5, hs := [3,4,5,6,7,8,9,10,11,12,13,14,15,16,20,21,22,23,24,25,26], ho := [1] }, { o := .load 18 false 1 (.s 17), hs := [3,4,5,6,7,8,9,10,11,12,13,14,15,16,20,21,22,23,24,25,26], ho := [1], bf := [14] }, { o := .len 19 false (.s 18), hs := [3,4,5,6,7,8,9,10,11,12,13,14,15,16,20,21,22,23,24,25,26], ho := [1], bf := [14,15] }, { o := .fld 20 (.s 1) 6, hs := [3,4,5,6,7,8,9,10,11,12,13,14,15,16,17,18,19,24,25,26] }, { o := .load 21 false 1 (.s 20), hs := [3,4,5,6,7,8,9,10,11,12,13,14,15,16,17,18,19,24,25,26], bf := [17] }, { o := .call 22 [1] (.f n_spec_l34Up) [.s 21], hs := [3,4,5,6,7,8,9,10,11,12,13,14,15,16,17,18,19,24,25,26], ws := [1], bf := [17,18] }, { o := .len 23 false (.s 22), hs := [3,4,5,6,7,8,9,10,11,12,13,14,15,16,17,18,19,24,25,26], bf := [17,18,19] }, { o := .fld 24 (.s 1) 8, hs := [3,4,5,6,7,8,9,10,11,12,13,14,15,16,17,18,19,20,21,22,23], ho := [1] }, { o := .load 25 false 1 (.s 24), hs := [3,4,5,6,7,8,9,10,11,12,13,14,15,16,17,18,19,20,21,22,23], ho := [1], bf := [21] }, { o := .len 26 false (.s 25), hs := [3,4,5,6,7,8,9,10,11,12,13,14,15,16,17,18,19,20,21,22,23], ho := [1], bf := [21,22] }, { o := .lit 27 2 1 8 [.s 4, .s 8, .s 12, .s 16, .s 19, .s 23, .s 26], ws := [2], bf := [0,1,2,3,4,5,6,7,8,9,10,11,12,13,14,15,16,17,18,19,20,21,22,23] }, { o := .call 28 [] (.f n_spec_l39Join) [.s 27], bf := [0,1,2,3,4,5,6,7,8,9,10,11,12,13,14,15,16,17,18,19,20,21,22,23,24] }, { o := .mv 2 (.s 28), bf := [0,1,2,3,4,5,6,7,8,9,10,11,12,13,14,15,16,17,18,19,20,21,22,23,24,25] }] [2])
.ret))
theorem c_spec_FormatArchive (a : GArchive) (hN : a.Libraries.length ≤ 1099511627776) : Ctr Tryd.prog n_spec_FormatArchive [aS a.enc] [rStr (bs (nums (archNums a)))] := by
  refine ctr_at (M := m_spec_FormatArchive) (m := 3) (n := 29) (res := [(.tmp 2, [false])]) hmix Tryd.func34 rfl (by kernel_rfl) rfl (by kernel_rfl) (by kernel_rfl) (Nat.le_of_ble_eq_true rfl) ?_; unfold m_spec_FormatArchive
  intro hb
  clear hb
  simp only [↓bk_bind, ↓bk_map, ↓bk_ite, ↓bk_some, ↓reduceIte, Nat.reduceEqDiff, Nat.reduceLT, Nat.reduceLeDiff, Nat.reduceAdd, Nat.reduceMul, reduceCtorEq, List.reduceReplicate, go_sem]
  refine callK_of (c_spec_l34Up a.Libraries hN) ?_
  simp only [↓bk_bind, ↓bk_map, ↓bk_ite, ↓bk_some, ↓reduceIte, Nat.reduceEqDiff, Nat.reduceLT, Nat.reduceLeDiff, Nat.reduceAdd, Nat.reduceMul, reduceCtorEq, List.reduceReplicate, go_sem]
  refine ⟨⟨by decide, by decide⟩, ?_⟩
  have hj := c_spec_l39Join (archNums a) (by simp [archNums])
  simp only [archNums, List.map_cons, List.map_nil, encI] at hj
  refine callK_of hj ?_
  simp only [↓bk_bind, ↓bk_map, ↓bk_ite, ↓bk_some, ↓reduceIte, Nat.reduceEqDiff, Nat.reduceLT, Nat.reduceLeDiff, Nat.reduceAdd, Nat.reduceMul, reduceCtorEq, List.reduceReplicate, go_sem]
  intros
  rfl
def m_laws_FnExactFormatArchive : MC :=
(.seq (pr [.box 1 0 (.s 0), .mv 2 (.c (.bool false))] [1])
(.seq (pr [.mv 3 (.c (.int .i64 1048576))] [1,3])
(.seq (pr [.load 7 true 10 (.s 1), .mv 8 (.s 3), .call 9 [] (.f n_laws_szArchive) [.s 7, .s 8], .mv 3 (.s 9)] [1,3])
(.seq (.seq (pr [.mv 10 (.s 3), .bin 11 false .lss (.s 10) (.c (.int .i64 0))] [1,11])
(.cond (.s 11) (.seq (pr [.mv 2 (.c (.bool true))] [2])
.ret) .skip))
(.seq (pr [.load 12 true 10 (.s 1), .call 13 [1, 2, 3, 4, 5, 6, 7, 8, 9] (.f n_laws_toArchive) [.s 12], .call 14 [] (.f n_spec_FormatArchive) [.s 13], .mv 4 (.s 14)] [1,4])
(.seq (pr [.load 15 true 10 (.s 1), .call 16 [10, 11, 12, 13, 14, 15, 16, 17, 18] (.f n_laws_toArchive) [.s 15], .alloc 5 19 [.emp 9, .emp 4, .emp 4, .emp 6, .emp 4, .emp 5, .emp 4, .emp 1, .emp 4, .pl (.sc (.int .i64 0))], .store 10 (.s 5) (.s 16)] [1,4,5])
(.seq (pr [.load 17 true 10 (.s 5), .call 18 [] (.f n_impl_FormatArchive) [.s 17], .mv 6 (.s 18)] [1,4,5,6])
(.seq (.seq (pr [.mv 19 (.s 6), .mv 20 (.s 4), .bin 21 false .neq (.s 19) (.s 20)] [1,5,21])
(.cond (.s 21) (.seq (pr [.mv 2 (.c (.bool false))] [2])
.ret) .skip))
(.seq (.seq (.dreg [{ o := .load 22 true 10 (.s 5), hs := [23,24], ho := [20,21,22,23,24,25,26,27,28] }, { o := .load 23 true 10 (.s 1), hs := [22] }, { o := .call 24 [20, 21, 22, 23, 24, 25, 26, 27, 28] (.f n_laws_toArchive) [.s 23], hs := [22], ws := [20,21,22,23,24,25,26,27,28], bf := [1] }, { o := .call 25 [] (.f n_laws_eqArchive) [.s 22, .s 24], bf := [0,1,2] }, { o := .un 26 .not (.s 25), bf := [0,1,2,3] }] [26])
(.cond (.s 26) (.seq (pr [.mv 2 (.c (.bool false))] [2])
.ret) .skip))
(.seq (pr [.mv 2 (.c (.bool true))] [2])
.ret))))))))))
theorem c_laws_FnExactFormatArchive (a : GArchive) : Ctr Tryd.prog n_laws_FnExactFormatArchive [aS a.enc] [rB true] := by
  refine ctr_at (M := m_laws_FnExactFormatArchive) (m := 29) (n := 27) (res := [(.tmp 2, [false])]) hmix Tryd.func8 rfl (by kernel_rfl) rfl (by kernel_rfl) (by kernel_rfl) (Nat.le_of_ble_eq_true rfl) ?_; unfold m_laws_FnExactFormatArchive
  intro hb
  clear hb
  simp only [↓bk_bind, ↓bk_map, ↓bk_ite, ↓bk_some, ↓reduceIte, Nat.reduceEqDiff, Nat.reduceLT, Nat.reduceLeDiff, Nat.reduceAdd, Nat.reduceMul, reduceCtorEq, List.reduceReplicate, go_sem]
  refine callK_of (c_laws_szArchive a _ (by omega)) ?_
  simp only [↓bk_bind, ↓bk_map, ↓bk_ite, ↓bk_some, ↓reduceIte, Nat.reduceEqDiff, Nat.reduceLT, Nat.reduceLeDiff, Nat.reduceAdd, Nat.reduceMul, reduceCtorEq, List.reduceReplicate, go_sem]
  intro _ hz
  have hs := szr_ok hz
  have hN : a.Libraries.length ≤ 1099511627776 := by
    simp only [GArchive.size] at hs
    omega
  refine callK_of (c_laws_toArchive a (by omega)) ?_
  simp only [↓bk_bind, ↓bk_map, ↓bk_ite, ↓bk_some, ↓reduceIte, Nat.reduceEqDiff, Nat.reduceLT, Nat.reduceLeDiff, Nat.reduceAdd, Nat.reduceMul, reduceCtorEq, List.reduceReplicate, go_sem]
  refine callK_of (c_spec_FormatArchive a hN) ?_
  simp only [↓bk_bind, ↓bk_map, ↓bk_ite, ↓bk_some, ↓reduceIte, Nat.reduceEqDiff, Nat.reduceLT, Nat.reduceLeDiff, Nat.reduceAdd, Nat.reduceMul, reduceCtorEq, List.reduceReplicate, go_sem]
  intros
  refine callK_of (c_laws_toArchive a (by omega)) ?_
  simp only [↓bk_bind, ↓bk_map, ↓bk_ite, ↓bk_some, ↓reduceIte, Nat.reduceEqDiff, Nat.reduceLT, Nat.reduceLeDiff, Nat.reduceAdd, Nat.reduceMul, reduceCtorEq, List.reduceReplicate, go_sem]
  intros
  refine callK_of (c_impl_FormatArchive a hN) ?_
  simp only [↓bk_bind, ↓bk_map, ↓bk_ite, ↓bk_some, ↓reduceIte, Nat.reduceEqDiff, Nat.reduceLT, Nat.reduceLeDiff, Nat.reduceAdd, Nat.reduceMul, reduceCtorEq, List.reduceReplicate, go_sem]
  intros
  refine callK_of (c_laws_toArchive a (by omega)) ?_
  simp only [↓bk_bind, ↓bk_map, ↓bk_ite, ↓bk_some, ↓reduceIte, Nat.reduceEqDiff, Nat.reduceLT, Nat.reduceLeDiff, Nat.reduceAdd, Nat.reduceMul, reduceCtorEq, List.reduceReplicate, go_sem]
  refine callK_of (c_laws_eqArchive a a) ?_
  simp only [↓bk_bind, ↓bk_map, ↓bk_ite, ↓bk_some, ↓reduceIte, Nat.reduceEqDiff, Nat.reduceLT, Nat.reduceLeDiff, Nat.reduceAdd, Nat.reduceMul, reduceCtorEq, List.reduceReplicate, go_sem]
end Go.Proofs.YtldjbgjcfncdjaaDoorR
