/- What the functions compute that the law of ExampleSite reaches: contracts, function by function. Conditions stand in each theorem. -/
import Derived.Test.YtbnbgekjjbpljaaProg
import Derived.KernelRfl
import Derived.Test.YtbnbgekjjbpljaaRac
namespace Go.Proofs.YtbnbgekjjbpljaaR
open Go Go.RowKit
def encI (n : Int) : List T := [tI n]
def encB (b : Bool) : List T := [tB b]
theorem int_of {ts : List T} (h : IsT .int ts) : ∃ n, ts = encI n := h
theorem list_of {α : Type} {enc : α → List T} {ty : DT} (h : ∀ {ts}, IsT ty ts → ∃ x, ts = enc x) : ∀ {es : List (List T)}, (∀ x ∈ es, IsT ty x) → ∃ xs : List α, es = xs.map enc
  | [], _ => ⟨[], rfl⟩
  | e :: es, k => by
    obtain ⟨x, rfl⟩ := h (k e (by simp))
    obtain ⟨xs, hx⟩ := list_of h (es := es) fun y hy => k y (by simp [hy])
    subst hx
    exact ⟨x :: xs, rfl⟩
theorem encI_inj {a b : Int} (h : encI a = encI b) : a = b := by simpa [encI] using h
structure GAddress where
  Host : Int
  Path : Int
  Query : Int
  deriving DecidableEq
def GAddress.enc (x : GAddress) : List T := [tI x.Host, tI x.Path, tI x.Query]
def GAddress.dt : DT := .st (.fc .int (.fc .int (.fc .int .fn)))
theorem GAddress.of {ts : List T} (h : IsT GAddress.dt ts) : ∃ x : GAddress, ts = x.enc := by
  simp only [GAddress.dt, IsT] at h
  obtain ⟨_, _, rfl, ⟨v0, rfl⟩, _, _, rfl, ⟨v1, rfl⟩, _, _, rfl, ⟨v2, rfl⟩, rfl⟩ := h
  exact ⟨⟨v0, v1, v2⟩, rfl⟩
theorem GAddress.eqv {x y : GAddress} : x = y ↔ x.Host = y.Host ∧ x.Path = y.Path ∧ x.Query = y.Query := by
  constructor
  · rintro rfl; simp
  · intro h
    rcases x with ⟨aHost, aPath, aQuery⟩
    rcases y with ⟨bHost, bPath, bQuery⟩
    simp only at h
    obtain ⟨rfl, rfl, rfl⟩ := h
    rfl
structure GResource where
  Kind : Int
  Body : List Int
  To : GAddress
  deriving DecidableEq
def GResource.enc (x : GResource) : List T := [tI x.Kind, .sl 1 (x.Body.map encI), tI x.To.Host, tI x.To.Path, tI x.To.Query]
def GResource.dt : DT := .st (.fc .int (.fc (.sl .int) (.fc GAddress.dt .fn)))
theorem GResource.of {ts : List T} (h : IsT GResource.dt ts) : ∃ x : GResource, ts = x.enc := by
  simp only [GResource.dt, IsT] at h
  obtain ⟨_, _, rfl, ⟨v0, rfl⟩, _, _, rfl, ⟨l1, rfl, k1⟩, _, _, rfl, k2, rfl⟩ := h
  obtain ⟨v1, rfl⟩ := list_of int_of k1
  obtain ⟨v2, rfl⟩ := GAddress.of k2
  exact ⟨⟨v0, v1, v2⟩, rfl⟩
theorem GResource.eqv {x y : GResource} : x = y ↔ x.Kind = y.Kind ∧ x.Body = y.Body ∧ x.To.Host = y.To.Host ∧ x.To.Path = y.To.Path ∧ x.To.Query = y.To.Query := by
  constructor
  · rintro rfl; simp
  · intro h
    rcases x with ⟨aKind, aBody, ⟨aToHost, aToPath, aToQuery⟩⟩
    rcases y with ⟨bKind, bBody, ⟨bToHost, bToPath, bToQuery⟩⟩
    simp only at h
    obtain ⟨rfl, rfl, rfl, rfl, rfl⟩ := h
    rfl
def GResource.size (x : GResource) : Nat := (x.Body.length)
structure GPart where
  Digest : Int
  Resource : GResource
  Uses : Int
  deriving DecidableEq
def GPart.enc (x : GPart) : List T := [tI x.Digest, tI x.Resource.Kind, .sl 1 (x.Resource.Body.map encI), tI x.Resource.To.Host, tI x.Resource.To.Path, tI x.Resource.To.Query, tI x.Uses]
def GPart.dt : DT := .st (.fc .int (.fc GResource.dt (.fc .int .fn)))
theorem GPart.of {ts : List T} (h : IsT GPart.dt ts) : ∃ x : GPart, ts = x.enc := by
  simp only [GPart.dt, IsT] at h
  obtain ⟨_, _, rfl, ⟨v0, rfl⟩, _, _, rfl, k1, _, _, rfl, ⟨v2, rfl⟩, rfl⟩ := h
  obtain ⟨v1, rfl⟩ := GResource.of k1
  exact ⟨⟨v0, v1, v2⟩, rfl⟩
theorem GPart.eqv {x y : GPart} : x = y ↔ x.Digest = y.Digest ∧ x.Resource.Kind = y.Resource.Kind ∧ x.Resource.Body = y.Resource.Body ∧ x.Resource.To.Host = y.Resource.To.Host ∧ x.Resource.To.Path = y.Resource.To.Path ∧ x.Resource.To.Query = y.Resource.To.Query ∧ x.Uses = y.Uses := by
  constructor
  · rintro rfl; simp
  · intro h
    rcases x with ⟨aDigest, ⟨aResourceKind, aResourceBody, ⟨aResourceToHost, aResourceToPath, aResourceToQuery⟩⟩, aUses⟩
    rcases y with ⟨bDigest, ⟨bResourceKind, bResourceBody, ⟨bResourceToHost, bResourceToPath, bResourceToQuery⟩⟩, bUses⟩
    simp only at h
    obtain ⟨rfl, rfl, rfl, rfl, rfl, rfl, rfl⟩ := h
    rfl
def GPart.size (x : GPart) : Nat := (x.Resource.size)
structure GPiece where
  From : Int
  Count : Int
  New : List Int
  deriving DecidableEq
def GPiece.enc (x : GPiece) : List T := [tI x.From, tI x.Count, .sl 1 (x.New.map encI)]
def GPiece.dt : DT := .st (.fc .int (.fc .int (.fc (.sl .int) .fn)))
theorem GPiece.of {ts : List T} (h : IsT GPiece.dt ts) : ∃ x : GPiece, ts = x.enc := by
  simp only [GPiece.dt, IsT] at h
  obtain ⟨_, _, rfl, ⟨v0, rfl⟩, _, _, rfl, ⟨v1, rfl⟩, _, _, rfl, ⟨l2, rfl, k2⟩, rfl⟩ := h
  obtain ⟨v2, rfl⟩ := list_of int_of k2
  exact ⟨⟨v0, v1, v2⟩, rfl⟩
theorem GPiece.eqv {x y : GPiece} : x = y ↔ x.From = y.From ∧ x.Count = y.Count ∧ x.New = y.New := by
  constructor
  · rintro rfl; simp
  · intro h
    rcases x with ⟨aFrom, aCount, aNew⟩
    rcases y with ⟨bFrom, bCount, bNew⟩
    simp only at h
    obtain ⟨rfl, rfl, rfl⟩ := h
    rfl
def GPiece.size (x : GPiece) : Nat := (x.New.length)
structure GVersion where
  Address : GAddress
  From : Int
  Resource : GResource
  deriving DecidableEq
def GVersion.enc (x : GVersion) : List T := [tI x.Address.Host, tI x.Address.Path, tI x.Address.Query, tI x.From, tI x.Resource.Kind, .sl 1 (x.Resource.Body.map encI), tI x.Resource.To.Host, tI x.Resource.To.Path, tI x.Resource.To.Query]
def GVersion.dt : DT := .st (.fc GAddress.dt (.fc .int (.fc GResource.dt .fn)))
theorem GVersion.of {ts : List T} (h : IsT GVersion.dt ts) : ∃ x : GVersion, ts = x.enc := by
  simp only [GVersion.dt, IsT] at h
  obtain ⟨_, _, rfl, k0, _, _, rfl, ⟨v1, rfl⟩, _, _, rfl, k2, rfl⟩ := h
  obtain ⟨v0, rfl⟩ := GAddress.of k0
  obtain ⟨v2, rfl⟩ := GResource.of k2
  exact ⟨⟨v0, v1, v2⟩, rfl⟩
theorem GVersion.eqv {x y : GVersion} : x = y ↔ x.Address.Host = y.Address.Host ∧ x.Address.Path = y.Address.Path ∧ x.Address.Query = y.Address.Query ∧ x.From = y.From ∧ x.Resource.Kind = y.Resource.Kind ∧ x.Resource.Body = y.Resource.Body ∧ x.Resource.To.Host = y.Resource.To.Host ∧ x.Resource.To.Path = y.Resource.To.Path ∧ x.Resource.To.Query = y.Resource.To.Query := by
  constructor
  · rintro rfl; simp
  · intro h
    rcases x with ⟨⟨aAddressHost, aAddressPath, aAddressQuery⟩, aFrom, ⟨aResourceKind, aResourceBody, ⟨aResourceToHost, aResourceToPath, aResourceToQuery⟩⟩⟩
    rcases y with ⟨⟨bAddressHost, bAddressPath, bAddressQuery⟩, bFrom, ⟨bResourceKind, bResourceBody, ⟨bResourceToHost, bResourceToPath, bResourceToQuery⟩⟩⟩
    simp only at h
    obtain ⟨rfl, rfl, rfl, rfl, rfl, rfl, rfl, rfl, rfl⟩ := h
    rfl
def GVersion.size (x : GVersion) : Nat := (x.Resource.size)
structure GOp where
  Kind : Int
  A : Int
  B : Int
  C : Int
  deriving DecidableEq
def GOp.enc (x : GOp) : List T := [tI x.Kind, tI x.A, tI x.B, tI x.C]
def GOp.dt : DT := .st (.fc .int (.fc .int (.fc .int (.fc .int .fn))))
theorem GOp.of {ts : List T} (h : IsT GOp.dt ts) : ∃ x : GOp, ts = x.enc := by
  simp only [GOp.dt, IsT] at h
  obtain ⟨_, _, rfl, ⟨v0, rfl⟩, _, _, rfl, ⟨v1, rfl⟩, _, _, rfl, ⟨v2, rfl⟩, _, _, rfl, ⟨v3, rfl⟩, rfl⟩ := h
  exact ⟨⟨v0, v1, v2, v3⟩, rfl⟩
theorem GOp.eqv {x y : GOp} : x = y ↔ x.Kind = y.Kind ∧ x.A = y.A ∧ x.B = y.B ∧ x.C = y.C := by
  constructor
  · rintro rfl; simp
  · intro h
    rcases x with ⟨aKind, aA, aB, aC⟩
    rcases y with ⟨bKind, bA, bB, bC⟩
    simp only at h
    obtain ⟨rfl, rfl, rfl, rfl⟩ := h
    rfl
structure GState where
  Pc : Int
  Regs : List Int
  Slots : List Int
  Nodes : List Int
  deriving DecidableEq
def GState.enc (x : GState) : List T := [tI x.Pc, .sl 1 (x.Regs.map encI), .sl 1 (x.Slots.map encI), .sl 1 (x.Nodes.map encI)]
def GState.dt : DT := .st (.fc .int (.fc (.sl .int) (.fc (.sl .int) (.fc (.sl .int) .fn))))
theorem GState.of {ts : List T} (h : IsT GState.dt ts) : ∃ x : GState, ts = x.enc := by
  simp only [GState.dt, IsT] at h
  obtain ⟨_, _, rfl, ⟨v0, rfl⟩, _, _, rfl, ⟨l1, rfl, k1⟩, _, _, rfl, ⟨l2, rfl, k2⟩, _, _, rfl, ⟨l3, rfl, k3⟩, rfl⟩ := h
  obtain ⟨v1, rfl⟩ := list_of int_of k1
  obtain ⟨v2, rfl⟩ := list_of int_of k2
  obtain ⟨v3, rfl⟩ := list_of int_of k3
  exact ⟨⟨v0, v1, v2, v3⟩, rfl⟩
theorem GState.eqv {x y : GState} : x = y ↔ x.Pc = y.Pc ∧ x.Regs = y.Regs ∧ x.Slots = y.Slots ∧ x.Nodes = y.Nodes := by
  constructor
  · rintro rfl; simp
  · intro h
    rcases x with ⟨aPc, aRegs, aSlots, aNodes⟩
    rcases y with ⟨bPc, bRegs, bSlots, bNodes⟩
    simp only at h
    obtain ⟨rfl, rfl, rfl, rfl⟩ := h
    rfl
def GState.size (x : GState) : Nat := (x.Regs.length) + (x.Slots.length) + (x.Nodes.length)
structure GVisit where
  Site : List GVersion
  Tick : Int
  Seed : Int
  Inputs : List Int
  deriving DecidableEq
def GVisit.enc (x : GVisit) : List T := [.sl 9 (x.Site.map GVersion.enc), tI x.Tick, tI x.Seed, .sl 1 (x.Inputs.map encI)]
def GVisit.dt : DT := .st (.fc (.sl GVersion.dt) (.fc .int (.fc .int (.fc (.sl .int) .fn))))
theorem GVisit.of {ts : List T} (h : IsT GVisit.dt ts) : ∃ x : GVisit, ts = x.enc := by
  simp only [GVisit.dt, IsT] at h
  obtain ⟨_, _, rfl, ⟨l0, rfl, k0⟩, _, _, rfl, ⟨v1, rfl⟩, _, _, rfl, ⟨v2, rfl⟩, _, _, rfl, ⟨l3, rfl, k3⟩, rfl⟩ := h
  obtain ⟨v0, rfl⟩ := list_of GVersion.of k0
  obtain ⟨v3, rfl⟩ := list_of int_of k3
  exact ⟨⟨v0, v1, v2, v3⟩, rfl⟩
theorem GVisit.eqv {x y : GVisit} : x = y ↔ x.Site = y.Site ∧ x.Tick = y.Tick ∧ x.Seed = y.Seed ∧ x.Inputs = y.Inputs := by
  constructor
  · rintro rfl; simp
  · intro h
    rcases x with ⟨aSite, aTick, aSeed, aInputs⟩
    rcases y with ⟨bSite, bTick, bSeed, bInputs⟩
    simp only at h
    obtain ⟨rfl, rfl, rfl, rfl⟩ := h
    rfl
def GVisit.size (x : GVisit) : Nat := (x.Site.length + (x.Site.map GVersion.size).sum) + (x.Inputs.length)
structure GWant where
  Kind : Int
  Address : GAddress
  deriving DecidableEq
def GWant.enc (x : GWant) : List T := [tI x.Kind, tI x.Address.Host, tI x.Address.Path, tI x.Address.Query]
def GWant.dt : DT := .st (.fc .int (.fc GAddress.dt .fn))
theorem GWant.of {ts : List T} (h : IsT GWant.dt ts) : ∃ x : GWant, ts = x.enc := by
  simp only [GWant.dt, IsT] at h
  obtain ⟨_, _, rfl, ⟨v0, rfl⟩, _, _, rfl, k1, rfl⟩ := h
  obtain ⟨v1, rfl⟩ := GAddress.of k1
  exact ⟨⟨v0, v1⟩, rfl⟩
theorem GWant.eqv {x y : GWant} : x = y ↔ x.Kind = y.Kind ∧ x.Address.Host = y.Address.Host ∧ x.Address.Path = y.Address.Path ∧ x.Address.Query = y.Address.Query := by
  constructor
  · rintro rfl; simp
  · intro h
    rcases x with ⟨aKind, ⟨aAddressHost, aAddressPath, aAddressQuery⟩⟩
    rcases y with ⟨bKind, ⟨bAddressHost, bAddressPath, bAddressQuery⟩⟩
    simp only at h
    obtain ⟨rfl, rfl, rfl, rfl⟩ := h
    rfl
structure GEntry where
  Kind : Int
  Address : GAddress
  Value : Int
  deriving DecidableEq
def GEntry.enc (x : GEntry) : List T := [tI x.Kind, tI x.Address.Host, tI x.Address.Path, tI x.Address.Query, tI x.Value]
def GEntry.dt : DT := .st (.fc .int (.fc GAddress.dt (.fc .int .fn)))
theorem GEntry.of {ts : List T} (h : IsT GEntry.dt ts) : ∃ x : GEntry, ts = x.enc := by
  simp only [GEntry.dt, IsT] at h
  obtain ⟨_, _, rfl, ⟨v0, rfl⟩, _, _, rfl, k1, _, _, rfl, ⟨v2, rfl⟩, rfl⟩ := h
  obtain ⟨v1, rfl⟩ := GAddress.of k1
  exact ⟨⟨v0, v1, v2⟩, rfl⟩
theorem GEntry.eqv {x y : GEntry} : x = y ↔ x.Kind = y.Kind ∧ x.Address.Host = y.Address.Host ∧ x.Address.Path = y.Address.Path ∧ x.Address.Query = y.Address.Query ∧ x.Value = y.Value := by
  constructor
  · rintro rfl; simp
  · intro h
    rcases x with ⟨aKind, ⟨aAddressHost, aAddressPath, aAddressQuery⟩, aValue⟩
    rcases y with ⟨bKind, ⟨bAddressHost, bAddressPath, bAddressQuery⟩, bValue⟩
    simp only at h
    obtain ⟨rfl, rfl, rfl, rfl, rfl⟩ := h
    rfl
structure GCapture where
  Address : GAddress
  Tick : Int
  Resource : GResource
  deriving DecidableEq
def GCapture.enc (x : GCapture) : List T := [tI x.Address.Host, tI x.Address.Path, tI x.Address.Query, tI x.Tick, tI x.Resource.Kind, .sl 1 (x.Resource.Body.map encI), tI x.Resource.To.Host, tI x.Resource.To.Path, tI x.Resource.To.Query]
def GCapture.dt : DT := .st (.fc GAddress.dt (.fc .int (.fc GResource.dt .fn)))
theorem GCapture.of {ts : List T} (h : IsT GCapture.dt ts) : ∃ x : GCapture, ts = x.enc := by
  simp only [GCapture.dt, IsT] at h
  obtain ⟨_, _, rfl, k0, _, _, rfl, ⟨v1, rfl⟩, _, _, rfl, k2, rfl⟩ := h
  obtain ⟨v0, rfl⟩ := GAddress.of k0
  obtain ⟨v2, rfl⟩ := GResource.of k2
  exact ⟨⟨v0, v1, v2⟩, rfl⟩
theorem GCapture.eqv {x y : GCapture} : x = y ↔ x.Address.Host = y.Address.Host ∧ x.Address.Path = y.Address.Path ∧ x.Address.Query = y.Address.Query ∧ x.Tick = y.Tick ∧ x.Resource.Kind = y.Resource.Kind ∧ x.Resource.Body = y.Resource.Body ∧ x.Resource.To.Host = y.Resource.To.Host ∧ x.Resource.To.Path = y.Resource.To.Path ∧ x.Resource.To.Query = y.Resource.To.Query := by
  constructor
  · rintro rfl; simp
  · intro h
    rcases x with ⟨⟨aAddressHost, aAddressPath, aAddressQuery⟩, aTick, ⟨aResourceKind, aResourceBody, ⟨aResourceToHost, aResourceToPath, aResourceToQuery⟩⟩⟩
    rcases y with ⟨⟨bAddressHost, bAddressPath, bAddressQuery⟩, bTick, ⟨bResourceKind, bResourceBody, ⟨bResourceToHost, bResourceToPath, bResourceToQuery⟩⟩⟩
    simp only at h
    obtain ⟨rfl, rfl, rfl, rfl, rfl, rfl, rfl, rfl, rfl⟩ := h
    rfl
def GCapture.size (x : GCapture) : Nat := (x.Resource.size)
structure GChoice where
  Rule : Int
  At : Int
  deriving DecidableEq
def GChoice.enc (x : GChoice) : List T := [tI x.Rule, tI x.At]
def GChoice.dt : DT := .st (.fc .int (.fc .int .fn))
theorem GChoice.of {ts : List T} (h : IsT GChoice.dt ts) : ∃ x : GChoice, ts = x.enc := by
  simp only [GChoice.dt, IsT] at h
  obtain ⟨_, _, rfl, ⟨v0, rfl⟩, _, _, rfl, ⟨v1, rfl⟩, rfl⟩ := h
  exact ⟨⟨v0, v1⟩, rfl⟩
theorem GChoice.eqv {x y : GChoice} : x = y ↔ x.Rule = y.Rule ∧ x.At = y.At := by
  constructor
  · rintro rfl; simp
  · intro h
    rcases x with ⟨aRule, aAt⟩
    rcases y with ⟨bRule, bAt⟩
    simp only at h
    obtain ⟨rfl, rfl⟩ := h
    rfl
structure GWander where
  State : GState
  Choices : List GChoice
  Labels : List Int
  Missing : Int
  deriving DecidableEq
def GWander.enc (x : GWander) : List T := [tI x.State.Pc, .sl 1 (x.State.Regs.map encI), .sl 1 (x.State.Slots.map encI), .sl 1 (x.State.Nodes.map encI), .sl 2 (x.Choices.map GChoice.enc), .sl 1 (x.Labels.map encI), tI x.Missing]
def GWander.dt : DT := .st (.fc GState.dt (.fc (.sl GChoice.dt) (.fc (.sl .int) (.fc .int .fn))))
theorem GWander.of {ts : List T} (h : IsT GWander.dt ts) : ∃ x : GWander, ts = x.enc := by
  simp only [GWander.dt, IsT] at h
  obtain ⟨_, _, rfl, k0, _, _, rfl, ⟨l1, rfl, k1⟩, _, _, rfl, ⟨l2, rfl, k2⟩, _, _, rfl, ⟨v3, rfl⟩, rfl⟩ := h
  obtain ⟨v0, rfl⟩ := GState.of k0
  obtain ⟨v1, rfl⟩ := list_of GChoice.of k1
  obtain ⟨v2, rfl⟩ := list_of int_of k2
  exact ⟨⟨v0, v1, v2, v3⟩, rfl⟩
theorem GWander.eqv {x y : GWander} : x = y ↔ x.State.Pc = y.State.Pc ∧ x.State.Regs = y.State.Regs ∧ x.State.Slots = y.State.Slots ∧ x.State.Nodes = y.State.Nodes ∧ x.Choices = y.Choices ∧ x.Labels = y.Labels ∧ x.Missing = y.Missing := by
  constructor
  · rintro rfl; simp
  · intro h
    rcases x with ⟨⟨aStatePc, aStateRegs, aStateSlots, aStateNodes⟩, aChoices, aLabels, aMissing⟩
    rcases y with ⟨⟨bStatePc, bStateRegs, bStateSlots, bStateNodes⟩, bChoices, bLabels, bMissing⟩
    simp only at h
    obtain ⟨rfl, rfl, rfl, rfl, rfl, rfl, rfl⟩ := h
    rfl
def GWander.size (x : GWander) : Nat := (x.State.size) + (x.Choices.length) + (x.Labels.length)
structure GModel where
  Base : Int
  Step : Int
  Seen : Int
  Fits : Bool
  deriving DecidableEq
def GModel.enc (x : GModel) : List T := [tI x.Base, tI x.Step, tI x.Seen, tB x.Fits]
def GModel.dt : DT := .st (.fc .int (.fc .int (.fc .int (.fc .bool .fn))))
theorem GModel.of {ts : List T} (h : IsT GModel.dt ts) : ∃ x : GModel, ts = x.enc := by
  simp only [GModel.dt, IsT] at h
  obtain ⟨_, _, rfl, ⟨v0, rfl⟩, _, _, rfl, ⟨v1, rfl⟩, _, _, rfl, ⟨v2, rfl⟩, _, _, rfl, ⟨v3, rfl⟩, rfl⟩ := h
  exact ⟨⟨v0, v1, v2, v3⟩, rfl⟩
theorem GModel.eqv {x y : GModel} : x = y ↔ x.Base = y.Base ∧ x.Step = y.Step ∧ x.Seen = y.Seen ∧ x.Fits = y.Fits := by
  constructor
  · rintro rfl; simp
  · intro h
    rcases x with ⟨aBase, aStep, aSeen, aFits⟩
    rcases y with ⟨bBase, bStep, bSeen, bFits⟩
    simp only at h
    obtain ⟨rfl, rfl, rfl, rfl⟩ := h
    rfl
structure GShown where
  Tick : Int
  Address : GAddress
  deriving DecidableEq
def GShown.enc (x : GShown) : List T := [tI x.Tick, tI x.Address.Host, tI x.Address.Path, tI x.Address.Query]
def GShown.dt : DT := .st (.fc .int (.fc GAddress.dt .fn))
theorem GShown.of {ts : List T} (h : IsT GShown.dt ts) : ∃ x : GShown, ts = x.enc := by
  simp only [GShown.dt, IsT] at h
  obtain ⟨_, _, rfl, ⟨v0, rfl⟩, _, _, rfl, k1, rfl⟩ := h
  obtain ⟨v1, rfl⟩ := GAddress.of k1
  exact ⟨⟨v0, v1⟩, rfl⟩
theorem GShown.eqv {x y : GShown} : x = y ↔ x.Tick = y.Tick ∧ x.Address.Host = y.Address.Host ∧ x.Address.Path = y.Address.Path ∧ x.Address.Query = y.Address.Query := by
  constructor
  · rintro rfl; simp
  · intro h
    rcases x with ⟨aTick, ⟨aAddressHost, aAddressPath, aAddressQuery⟩⟩
    rcases y with ⟨bTick, ⟨bAddressHost, bAddressPath, bAddressQuery⟩⟩
    simp only at h
    obtain ⟨rfl, rfl, rfl, rfl⟩ := h
    rfl
structure GLeaf where
  Value : Int
  Salt : Int
  Hidden : Bool
  Seal : Int
  deriving DecidableEq
def GLeaf.enc (x : GLeaf) : List T := [tI x.Value, tI x.Salt, tB x.Hidden, tI x.Seal]
def GLeaf.dt : DT := .st (.fc .int (.fc .int (.fc .bool (.fc .int .fn))))
theorem GLeaf.of {ts : List T} (h : IsT GLeaf.dt ts) : ∃ x : GLeaf, ts = x.enc := by
  simp only [GLeaf.dt, IsT] at h
  obtain ⟨_, _, rfl, ⟨v0, rfl⟩, _, _, rfl, ⟨v1, rfl⟩, _, _, rfl, ⟨v2, rfl⟩, _, _, rfl, ⟨v3, rfl⟩, rfl⟩ := h
  exact ⟨⟨v0, v1, v2, v3⟩, rfl⟩
theorem GLeaf.eqv {x y : GLeaf} : x = y ↔ x.Value = y.Value ∧ x.Salt = y.Salt ∧ x.Hidden = y.Hidden ∧ x.Seal = y.Seal := by
  constructor
  · rintro rfl; simp
  · intro h
    rcases x with ⟨aValue, aSalt, aHidden, aSeal⟩
    rcases y with ⟨bValue, bSalt, bHidden, bSeal⟩
    simp only at h
    obtain ⟨rfl, rfl, rfl, rfl⟩ := h
    rfl
structure GEdition where
  Captures : List GCapture
  From : Int
  Until : Int
  Hidden : List GAddress
  deriving DecidableEq
def GEdition.enc (x : GEdition) : List T := [.sl 9 (x.Captures.map GCapture.enc), tI x.From, tI x.Until, .sl 3 (x.Hidden.map GAddress.enc)]
def GEdition.dt : DT := .st (.fc (.sl GCapture.dt) (.fc .int (.fc .int (.fc (.sl GAddress.dt) .fn))))
theorem GEdition.of {ts : List T} (h : IsT GEdition.dt ts) : ∃ x : GEdition, ts = x.enc := by
  simp only [GEdition.dt, IsT] at h
  obtain ⟨_, _, rfl, ⟨l0, rfl, k0⟩, _, _, rfl, ⟨v1, rfl⟩, _, _, rfl, ⟨v2, rfl⟩, _, _, rfl, ⟨l3, rfl, k3⟩, rfl⟩ := h
  obtain ⟨v0, rfl⟩ := list_of GCapture.of k0
  obtain ⟨v3, rfl⟩ := list_of GAddress.of k3
  exact ⟨⟨v0, v1, v2, v3⟩, rfl⟩
theorem GEdition.eqv {x y : GEdition} : x = y ↔ x.Captures = y.Captures ∧ x.From = y.From ∧ x.Until = y.Until ∧ x.Hidden = y.Hidden := by
  constructor
  · rintro rfl; simp
  · intro h
    rcases x with ⟨aCaptures, aFrom, aUntil, aHidden⟩
    rcases y with ⟨bCaptures, bFrom, bUntil, bHidden⟩
    simp only at h
    obtain ⟨rfl, rfl, rfl, rfl⟩ := h
    rfl
def GEdition.size (x : GEdition) : Nat := (x.Captures.length + (x.Captures.map GCapture.size).sum) + (x.Hidden.length)
structure GExclusion where
  Host : Int
  Path : Int
  From : Int
  Until : Int
  Asked : Int
  deriving DecidableEq
def GExclusion.enc (x : GExclusion) : List T := [tI x.Host, tI x.Path, tI x.From, tI x.Until, tI x.Asked]
def GExclusion.dt : DT := .st (.fc .int (.fc .int (.fc .int (.fc .int (.fc .int .fn)))))
theorem GExclusion.of {ts : List T} (h : IsT GExclusion.dt ts) : ∃ x : GExclusion, ts = x.enc := by
  simp only [GExclusion.dt, IsT] at h
  obtain ⟨_, _, rfl, ⟨v0, rfl⟩, _, _, rfl, ⟨v1, rfl⟩, _, _, rfl, ⟨v2, rfl⟩, _, _, rfl, ⟨v3, rfl⟩, _, _, rfl, ⟨v4, rfl⟩, rfl⟩ := h
  exact ⟨⟨v0, v1, v2, v3, v4⟩, rfl⟩
theorem GExclusion.eqv {x y : GExclusion} : x = y ↔ x.Host = y.Host ∧ x.Path = y.Path ∧ x.From = y.From ∧ x.Until = y.Until ∧ x.Asked = y.Asked := by
  constructor
  · rintro rfl; simp
  · intro h
    rcases x with ⟨aHost, aPath, aFrom, aUntil, aAsked⟩
    rcases y with ⟨bHost, bPath, bFrom, bUntil, bAsked⟩
    simp only at h
    obtain ⟨rfl, rfl, rfl, rfl, rfl⟩ := h
    rfl
structure GStatement where
  Witness : Int
  Digest : Int
  Tick : Int
  Seal : Int
  deriving DecidableEq
def GStatement.enc (x : GStatement) : List T := [tI x.Witness, tI x.Digest, tI x.Tick, tI x.Seal]
def GStatement.dt : DT := .st (.fc .int (.fc .int (.fc .int (.fc .int .fn))))
theorem GStatement.of {ts : List T} (h : IsT GStatement.dt ts) : ∃ x : GStatement, ts = x.enc := by
  simp only [GStatement.dt, IsT] at h
  obtain ⟨_, _, rfl, ⟨v0, rfl⟩, _, _, rfl, ⟨v1, rfl⟩, _, _, rfl, ⟨v2, rfl⟩, _, _, rfl, ⟨v3, rfl⟩, rfl⟩ := h
  exact ⟨⟨v0, v1, v2, v3⟩, rfl⟩
theorem GStatement.eqv {x y : GStatement} : x = y ↔ x.Witness = y.Witness ∧ x.Digest = y.Digest ∧ x.Tick = y.Tick ∧ x.Seal = y.Seal := by
  constructor
  · rintro rfl; simp
  · intro h
    rcases x with ⟨aWitness, aDigest, aTick, aSeal⟩
    rcases y with ⟨bWitness, bDigest, bTick, bSeal⟩
    simp only at h
    obtain ⟨rfl, rfl, rfl, rfl⟩ := h
    rfl
structure GLibrary where
  Id : Int
  Digests : List Int
  Up : Bool
  Lies : Bool
  deriving DecidableEq
def GLibrary.enc (x : GLibrary) : List T := [tI x.Id, .sl 1 (x.Digests.map encI), tB x.Up, tB x.Lies]
def GLibrary.dt : DT := .st (.fc .int (.fc (.sl .int) (.fc .bool (.fc .bool .fn))))
theorem GLibrary.of {ts : List T} (h : IsT GLibrary.dt ts) : ∃ x : GLibrary, ts = x.enc := by
  simp only [GLibrary.dt, IsT] at h
  obtain ⟨_, _, rfl, ⟨v0, rfl⟩, _, _, rfl, ⟨l1, rfl, k1⟩, _, _, rfl, ⟨v2, rfl⟩, _, _, rfl, ⟨v3, rfl⟩, rfl⟩ := h
  obtain ⟨v1, rfl⟩ := list_of int_of k1
  exact ⟨⟨v0, v1, v2, v3⟩, rfl⟩
theorem GLibrary.eqv {x y : GLibrary} : x = y ↔ x.Id = y.Id ∧ x.Digests = y.Digests ∧ x.Up = y.Up ∧ x.Lies = y.Lies := by
  constructor
  · rintro rfl; simp
  · intro h
    rcases x with ⟨aId, aDigests, aUp, aLies⟩
    rcases y with ⟨bId, bDigests, bUp, bLies⟩
    simp only at h
    obtain ⟨rfl, rfl, rfl, rfl⟩ := h
    rfl
def GLibrary.size (x : GLibrary) : Nat := (x.Digests.length)
structure GContainer where
  Script : List GOp
  Entries : List GEntry
  Captures : List GCapture
  Root : Int
  deriving DecidableEq
def GContainer.enc (x : GContainer) : List T := [.sl 4 (x.Script.map GOp.enc), .sl 5 (x.Entries.map GEntry.enc), .sl 9 (x.Captures.map GCapture.enc), tI x.Root]
def GContainer.dt : DT := .st (.fc (.sl GOp.dt) (.fc (.sl GEntry.dt) (.fc (.sl GCapture.dt) (.fc .int .fn))))
theorem GContainer.of {ts : List T} (h : IsT GContainer.dt ts) : ∃ x : GContainer, ts = x.enc := by
  simp only [GContainer.dt, IsT] at h
  obtain ⟨_, _, rfl, ⟨l0, rfl, k0⟩, _, _, rfl, ⟨l1, rfl, k1⟩, _, _, rfl, ⟨l2, rfl, k2⟩, _, _, rfl, ⟨v3, rfl⟩, rfl⟩ := h
  obtain ⟨v0, rfl⟩ := list_of GOp.of k0
  obtain ⟨v1, rfl⟩ := list_of GEntry.of k1
  obtain ⟨v2, rfl⟩ := list_of GCapture.of k2
  exact ⟨⟨v0, v1, v2, v3⟩, rfl⟩
theorem GContainer.eqv {x y : GContainer} : x = y ↔ x.Script = y.Script ∧ x.Entries = y.Entries ∧ x.Captures = y.Captures ∧ x.Root = y.Root := by
  constructor
  · rintro rfl; simp
  · intro h
    rcases x with ⟨aScript, aEntries, aCaptures, aRoot⟩
    rcases y with ⟨bScript, bEntries, bCaptures, bRoot⟩
    simp only at h
    obtain ⟨rfl, rfl, rfl, rfl⟩ := h
    rfl
def GContainer.size (x : GContainer) : Nat := (x.Script.length) + (x.Entries.length) + (x.Captures.length + (x.Captures.map GCapture.size).sum)
structure GFound where
  Address : GAddress
  Tick : Int
  Container : Int
  At : Int
  deriving DecidableEq
def GFound.enc (x : GFound) : List T := [tI x.Address.Host, tI x.Address.Path, tI x.Address.Query, tI x.Tick, tI x.Container, tI x.At]
def GFound.dt : DT := .st (.fc GAddress.dt (.fc .int (.fc .int (.fc .int .fn))))
theorem GFound.of {ts : List T} (h : IsT GFound.dt ts) : ∃ x : GFound, ts = x.enc := by
  simp only [GFound.dt, IsT] at h
  obtain ⟨_, _, rfl, k0, _, _, rfl, ⟨v1, rfl⟩, _, _, rfl, ⟨v2, rfl⟩, _, _, rfl, ⟨v3, rfl⟩, rfl⟩ := h
  obtain ⟨v0, rfl⟩ := GAddress.of k0
  exact ⟨⟨v0, v1, v2, v3⟩, rfl⟩
theorem GFound.eqv {x y : GFound} : x = y ↔ x.Address.Host = y.Address.Host ∧ x.Address.Path = y.Address.Path ∧ x.Address.Query = y.Address.Query ∧ x.Tick = y.Tick ∧ x.Container = y.Container ∧ x.At = y.At := by
  constructor
  · rintro rfl; simp
  · intro h
    rcases x with ⟨⟨aAddressHost, aAddressPath, aAddressQuery⟩, aTick, aContainer, aAt⟩
    rcases y with ⟨⟨bAddressHost, bAddressPath, bAddressQuery⟩, bTick, bContainer, bAt⟩
    simp only at h
    obtain ⟨rfl, rfl, rfl, rfl, rfl, rfl⟩ := h
    rfl
structure GDisk where
  Containers : List GContainer
  Index : List GFound
  Wanted : List GContainer
  deriving DecidableEq
def GDisk.enc (x : GDisk) : List T := [.sl 4 (x.Containers.map GContainer.enc), .sl 6 (x.Index.map GFound.enc), .sl 4 (x.Wanted.map GContainer.enc)]
def GDisk.dt : DT := .st (.fc (.sl GContainer.dt) (.fc (.sl GFound.dt) (.fc (.sl GContainer.dt) .fn)))
theorem GDisk.of {ts : List T} (h : IsT GDisk.dt ts) : ∃ x : GDisk, ts = x.enc := by
  simp only [GDisk.dt, IsT] at h
  obtain ⟨_, _, rfl, ⟨l0, rfl, k0⟩, _, _, rfl, ⟨l1, rfl, k1⟩, _, _, rfl, ⟨l2, rfl, k2⟩, rfl⟩ := h
  obtain ⟨v0, rfl⟩ := list_of GContainer.of k0
  obtain ⟨v1, rfl⟩ := list_of GFound.of k1
  obtain ⟨v2, rfl⟩ := list_of GContainer.of k2
  exact ⟨⟨v0, v1, v2⟩, rfl⟩
theorem GDisk.eqv {x y : GDisk} : x = y ↔ x.Containers = y.Containers ∧ x.Index = y.Index ∧ x.Wanted = y.Wanted := by
  constructor
  · rintro rfl; simp
  · intro h
    rcases x with ⟨aContainers, aIndex, aWanted⟩
    rcases y with ⟨bContainers, bIndex, bWanted⟩
    simp only at h
    obtain ⟨rfl, rfl, rfl⟩ := h
    rfl
def GDisk.size (x : GDisk) : Nat := (x.Containers.length + (x.Containers.map GContainer.size).sum) + (x.Index.length) + (x.Wanted.length + (x.Wanted.map GContainer.size).sum)
structure GArchive where
  Site : List GVersion
  Script : List GOp
  Disk : GDisk
  Exclusions : List GExclusion
  Libraries : List GLibrary
  Keys : List Int
  Statements : List GStatement
  Now : Int
  deriving DecidableEq
def GArchive.enc (x : GArchive) : List T := [.sl 9 (x.Site.map GVersion.enc), .sl 4 (x.Script.map GOp.enc), .sl 4 (x.Disk.Containers.map GContainer.enc), .sl 6 (x.Disk.Index.map GFound.enc), .sl 4 (x.Disk.Wanted.map GContainer.enc), .sl 5 (x.Exclusions.map GExclusion.enc), .sl 4 (x.Libraries.map GLibrary.enc), .sl 1 (x.Keys.map encI), .sl 4 (x.Statements.map GStatement.enc), tI x.Now]
def GArchive.dt : DT := .st (.fc (.sl GVersion.dt) (.fc (.sl GOp.dt) (.fc GDisk.dt (.fc (.sl GExclusion.dt) (.fc (.sl GLibrary.dt) (.fc (.sl .int) (.fc (.sl GStatement.dt) (.fc .int .fn))))))))
theorem GArchive.of {ts : List T} (h : IsT GArchive.dt ts) : ∃ x : GArchive, ts = x.enc := by
  simp only [GArchive.dt, IsT] at h
  obtain ⟨_, _, rfl, ⟨l0, rfl, k0⟩, _, _, rfl, ⟨l1, rfl, k1⟩, _, _, rfl, k2, _, _, rfl, ⟨l3, rfl, k3⟩, _, _, rfl, ⟨l4, rfl, k4⟩, _, _, rfl, ⟨l5, rfl, k5⟩, _, _, rfl, ⟨l6, rfl, k6⟩, _, _, rfl, ⟨v7, rfl⟩, rfl⟩ := h
  obtain ⟨v0, rfl⟩ := list_of GVersion.of k0
  obtain ⟨v1, rfl⟩ := list_of GOp.of k1
  obtain ⟨v2, rfl⟩ := GDisk.of k2
  obtain ⟨v3, rfl⟩ := list_of GExclusion.of k3
  obtain ⟨v4, rfl⟩ := list_of GLibrary.of k4
  obtain ⟨v5, rfl⟩ := list_of int_of k5
  obtain ⟨v6, rfl⟩ := list_of GStatement.of k6
  exact ⟨⟨v0, v1, v2, v3, v4, v5, v6, v7⟩, rfl⟩
theorem GArchive.eqv {x y : GArchive} : x = y ↔ x.Site = y.Site ∧ x.Script = y.Script ∧ x.Disk.Containers = y.Disk.Containers ∧ x.Disk.Index = y.Disk.Index ∧ x.Disk.Wanted = y.Disk.Wanted ∧ x.Exclusions = y.Exclusions ∧ x.Libraries = y.Libraries ∧ x.Keys = y.Keys ∧ x.Statements = y.Statements ∧ x.Now = y.Now := by
  constructor
  · rintro rfl; simp
  · intro h
    rcases x with ⟨aSite, aScript, ⟨aDiskContainers, aDiskIndex, aDiskWanted⟩, aExclusions, aLibraries, aKeys, aStatements, aNow⟩
    rcases y with ⟨bSite, bScript, ⟨bDiskContainers, bDiskIndex, bDiskWanted⟩, bExclusions, bLibraries, bKeys, bStatements, bNow⟩
    simp only at h
    obtain ⟨rfl, rfl, rfl, rfl, rfl, rfl, rfl, rfl, rfl, rfl⟩ := h
    rfl
def GArchive.size (x : GArchive) : Nat := (x.Site.length + (x.Site.map GVersion.size).sum) + (x.Script.length) + (x.Disk.size) + (x.Exclusions.length) + (x.Libraries.length + (x.Libraries.map GLibrary.size).sum) + (x.Keys.length) + (x.Statements.length)
structure GEvent where
  Kind : Int
  N : Int
  Inputs : List Int
  Version : GVersion
  Exclusion : GExclusion
  deriving DecidableEq
def GEvent.enc (x : GEvent) : List T := [tI x.Kind, tI x.N, .sl 1 (x.Inputs.map encI), tI x.Version.Address.Host, tI x.Version.Address.Path, tI x.Version.Address.Query, tI x.Version.From, tI x.Version.Resource.Kind, .sl 1 (x.Version.Resource.Body.map encI), tI x.Version.Resource.To.Host, tI x.Version.Resource.To.Path, tI x.Version.Resource.To.Query, tI x.Exclusion.Host, tI x.Exclusion.Path, tI x.Exclusion.From, tI x.Exclusion.Until, tI x.Exclusion.Asked]
def GEvent.dt : DT := .st (.fc .int (.fc .int (.fc (.sl .int) (.fc GVersion.dt (.fc GExclusion.dt .fn)))))
theorem GEvent.of {ts : List T} (h : IsT GEvent.dt ts) : ∃ x : GEvent, ts = x.enc := by
  simp only [GEvent.dt, IsT] at h
  obtain ⟨_, _, rfl, ⟨v0, rfl⟩, _, _, rfl, ⟨v1, rfl⟩, _, _, rfl, ⟨l2, rfl, k2⟩, _, _, rfl, k3, _, _, rfl, k4, rfl⟩ := h
  obtain ⟨v2, rfl⟩ := list_of int_of k2
  obtain ⟨v3, rfl⟩ := GVersion.of k3
  obtain ⟨v4, rfl⟩ := GExclusion.of k4
  exact ⟨⟨v0, v1, v2, v3, v4⟩, rfl⟩
theorem GEvent.eqv {x y : GEvent} : x = y ↔ x.Kind = y.Kind ∧ x.N = y.N ∧ x.Inputs = y.Inputs ∧ x.Version.Address.Host = y.Version.Address.Host ∧ x.Version.Address.Path = y.Version.Address.Path ∧ x.Version.Address.Query = y.Version.Address.Query ∧ x.Version.From = y.Version.From ∧ x.Version.Resource.Kind = y.Version.Resource.Kind ∧ x.Version.Resource.Body = y.Version.Resource.Body ∧ x.Version.Resource.To.Host = y.Version.Resource.To.Host ∧ x.Version.Resource.To.Path = y.Version.Resource.To.Path ∧ x.Version.Resource.To.Query = y.Version.Resource.To.Query ∧ x.Exclusion.Host = y.Exclusion.Host ∧ x.Exclusion.Path = y.Exclusion.Path ∧ x.Exclusion.From = y.Exclusion.From ∧ x.Exclusion.Until = y.Exclusion.Until ∧ x.Exclusion.Asked = y.Exclusion.Asked := by
  constructor
  · rintro rfl; simp
  · intro h
    rcases x with ⟨aKind, aN, aInputs, ⟨⟨aVersionAddressHost, aVersionAddressPath, aVersionAddressQuery⟩, aVersionFrom, ⟨aVersionResourceKind, aVersionResourceBody, ⟨aVersionResourceToHost, aVersionResourceToPath, aVersionResourceToQuery⟩⟩⟩, ⟨aExclusionHost, aExclusionPath, aExclusionFrom, aExclusionUntil, aExclusionAsked⟩⟩
    rcases y with ⟨bKind, bN, bInputs, ⟨⟨bVersionAddressHost, bVersionAddressPath, bVersionAddressQuery⟩, bVersionFrom, ⟨bVersionResourceKind, bVersionResourceBody, ⟨bVersionResourceToHost, bVersionResourceToPath, bVersionResourceToQuery⟩⟩⟩, ⟨bExclusionHost, bExclusionPath, bExclusionFrom, bExclusionUntil, bExclusionAsked⟩⟩
    simp only at h
    obtain ⟨rfl, rfl, rfl, rfl, rfl, rfl, rfl, rfl, rfl, rfl, rfl, rfl, rfl, rfl, rfl, rfl, rfl⟩ := h
    rfl
def GEvent.size (x : GEvent) : Nat := (x.Inputs.length) + (x.Version.size)
structure GChange where
  Tick : Int
  Digest : Int
  deriving DecidableEq
def GChange.enc (x : GChange) : List T := [tI x.Tick, tI x.Digest]
def GChange.dt : DT := .st (.fc .int (.fc .int .fn))
theorem GChange.of {ts : List T} (h : IsT GChange.dt ts) : ∃ x : GChange, ts = x.enc := by
  simp only [GChange.dt, IsT] at h
  obtain ⟨_, _, rfl, ⟨v0, rfl⟩, _, _, rfl, ⟨v1, rfl⟩, rfl⟩ := h
  exact ⟨⟨v0, v1⟩, rfl⟩
theorem GChange.eqv {x y : GChange} : x = y ↔ x.Tick = y.Tick ∧ x.Digest = y.Digest := by
  constructor
  · rintro rfl; simp
  · intro h
    rcases x with ⟨aTick, aDigest⟩
    rcases y with ⟨bTick, bDigest⟩
    simp only at h
    obtain ⟨rfl, rfl⟩ := h
    rfl
structure GPlayed where
  Code : Int
  At : Int
  State : GState
  deriving DecidableEq
def GPlayed.enc (x : GPlayed) : List T := [tI x.Code, tI x.At, tI x.State.Pc, .sl 1 (x.State.Regs.map encI), .sl 1 (x.State.Slots.map encI), .sl 1 (x.State.Nodes.map encI)]
def GPlayed.dt : DT := .st (.fc .int (.fc .int (.fc GState.dt .fn)))
theorem GPlayed.of {ts : List T} (h : IsT GPlayed.dt ts) : ∃ x : GPlayed, ts = x.enc := by
  simp only [GPlayed.dt, IsT] at h
  obtain ⟨_, _, rfl, ⟨v0, rfl⟩, _, _, rfl, ⟨v1, rfl⟩, _, _, rfl, k2, rfl⟩ := h
  obtain ⟨v2, rfl⟩ := GState.of k2
  exact ⟨⟨v0, v1, v2⟩, rfl⟩
theorem GPlayed.eqv {x y : GPlayed} : x = y ↔ x.Code = y.Code ∧ x.At = y.At ∧ x.State.Pc = y.State.Pc ∧ x.State.Regs = y.State.Regs ∧ x.State.Slots = y.State.Slots ∧ x.State.Nodes = y.State.Nodes := by
  constructor
  · rintro rfl; simp
  · intro h
    rcases x with ⟨aCode, aAt, ⟨aStatePc, aStateRegs, aStateSlots, aStateNodes⟩⟩
    rcases y with ⟨bCode, bAt, ⟨bStatePc, bStateRegs, bStateSlots, bStateNodes⟩⟩
    simp only at h
    obtain ⟨rfl, rfl, rfl, rfl, rfl, rfl⟩ := h
    rfl
def GPlayed.size (x : GPlayed) : Nat := (x.State.size)
attribute [go_sem] encI encB GAddress.enc GResource.enc GPart.enc GPiece.enc GVersion.enc GOp.enc GState.enc GVisit.enc GWant.enc GEntry.enc GCapture.enc GChoice.enc GWander.enc GModel.enc GShown.enc GLeaf.enc GEdition.enc GExclusion.enc GStatement.enc GLibrary.enc GContainer.enc GFound.enc GDisk.enc GArchive.enc GEvent.enc GChange.enc GPlayed.enc
end Go.Proofs.YtbnbgekjjbpljaaR
namespace Go.Proofs.YtbnbgekjjbpljaaR
open Go Go.RowKit
/-- What is left of a bound. -/
def szr (n : Nat) (left : Int) : Int := if (n : Int) ≤ left then left - n else -1
theorem szr_neg {n : Nat} {left : Int} (_ : 0 ≤ left) : szr n left < 0 ↔ left < n := by unfold szr; split <;> omega
theorem szr_add {n m : Nat} {left : Int} (_ : 0 ≤ left) (h1 : ¬ szr n left < 0) : 0 ≤ szr n left ∧ szr n left ≤ left ∧ szr (n + m) left = szr m (szr n left) := by
  unfold szr at *
  split at h1
  · rename_i h2
    simp only [h2, if_true]
    refine ⟨by omega, by omega, ?_⟩
    split <;> split <;> omega
  · omega
theorem szr_bad {n m : Nat} {left : Int} (h : 0 ≤ left) (h1 : szr n left < 0) : szr (n + m) left = -1 := by
  rw [szr_neg h] at h1
  unfold szr
  rw [if_neg (by omega)]
/-- Cells of a result: lists are the caller's own. -/
def own : List T → List (Bool × T)
  | [] => []
  | .sl k es :: l => (true, .sl k es) :: own l
  | t :: l => (false, t) :: own l
@[go_sem] theorem own_nil : own [] = [] := rfl
@[go_sem] theorem own_sl {k es l} : own (.sl k es :: l) = (true, .sl k es) :: own l := rfl
@[go_sem] theorem own_sc {v l} : own (.sc v :: l) = (false, .sc v) :: own l := rfl
/-- A struct, a list as results of the caller's own. -/
abbrev rS (ts : List T) : RV := ⟨true, own ts⟩
abbrev rL (k : Nat) (es : List (List T)) : RV := ⟨false, [(true, .sl k es)]⟩
abbrev aS (ts : List T) : Bool × List T := (true, ts)
attribute [go_sem] rS rL aS
/-- A row that is being filled. -/
def filled {α : Type} (f : α → List T) (z : List T) (xs : List α) (k : Nat) : List (List T) := (xs.take k).map f ++ List.replicate (xs.length - k) z
section
variable {α : Type} {f : α → List T} {z : List T} {xs : List α} {k : Nat}
@[go_sem] theorem filled_len (h : k ≤ xs.length) : (filled f z xs k).length = xs.length := by simp [filled]; omega
theorem filled_zero : filled f z xs 0 = List.replicate xs.length z := by simp [filled]
theorem filled_all : filled f z xs xs.length = xs.map f := by simp [filled]
theorem filled_get (h : k < xs.length) : (filled f z xs k)[k]? = some z := by
  unfold filled
  rw [List.getElem?_append_right (by simp; omega), List.getElem?_replicate, if_pos (by simp; omega)]
theorem filled_set {x : α} (h : xs[k]? = some x) : (filled f z xs k).set k (f x) = filled f z xs (k + 1) := by
  have hk := len_at h
  unfold filled
  rw [List.set_append_right _ _ (by simp; omega), take_snoc h]
  have e : xs.length - k = (xs.length - (k + 1)) + 1 := by omega
  rw [e, List.replicate_succ]
  have e2 : k - (List.map f (List.take k xs)).length = 0 := by simp; omega
  rw [e2]
  simp
end
theorem replicate_toNat {n : Nat} {z : List T} : List.replicate (n : Int).toNat z = List.replicate n z := by simp
theorem take_eq_step {α : Type} {xs ys : List α} {k : Nat} {x y : α} (hx : xs[k]? = some x) (hy : ys[k]? = some y) (h : xs.take k = ys.take k) : xs.take (k + 1) = ys.take (k + 1) ↔ x = y := by
  rw [take_snoc hx, take_snoc hy, h]
  simp
theorem ne_at {α : Type} [DecidableEq α] {xs ys : List α} {k : Nat} {x y : α} (hx : xs[k]? = some x) (hy : ys[k]? = some y) (h : ¬ x = y) : false = decide (xs = ys) := by
  symm
  rw [decide_eq_false_iff_not]
  rintro rfl
  rw [hx] at hy
  exact h (Option.some.inj hy)
theorem ne_len {α : Type} [DecidableEq α] {xs ys : List α} (h : ¬ (xs.length : Int) = ys.length) : false = decide (xs = ys) := by
  symm
  rw [decide_eq_false_iff_not]
  rintro rfl
  exact h rfl
theorem eq_all {α : Type} [DecidableEq α] {xs ys : List α} (he : xs.take xs.length = ys.take xs.length) (hl : xs.length = ys.length) : true = decide (xs = ys) := by
  symm
  rw [decide_eq_true_iff]
  rw [List.take_length] at he
  rw [he, hl, List.take_length]
theorem szr_bad' {n N : Nat} {left : Int} (h0 : 0 ≤ left) (h : szr n left < 0) (hn : n ≤ N) : -1 = szr N left := by
  rw [szr_neg h0] at h
  unfold szr
  rw [if_neg (by omega)]
theorem szr_ok {n : Nat} {left : Int} (h : ¬ szr n left < 0) : (n : Int) ≤ left := by
  unfold szr at h
  split at h <;> omega
theorem sum_snoc {α : Type} {f : α → Nat} {l : List α} {k : Nat} {x : α} (h : l[k]? = some x) : ((l.take (k + 1)).map f).sum = ((l.take k).map f).sum + f x := by
  rw [take_snoc h]; simp
theorem sum_take_le {α : Type} {f : α → Nat} (l : List α) (k : Nat) : ((l.take k).map f).sum ≤ (l.map f).sum := by
  have h : (l.map f).sum = ((l.take k).map f).sum + ((l.drop k).map f).sum := by
    rw [← List.sum_append, ← List.map_append, List.take_append_drop]
  omega
theorem mem_sum {α : Type} {f : α → Nat} {l : List α} {x : α} (h : x ∈ l) : f x ≤ (l.map f).sum := by
  induction l with
  | nil => simp at h
  | cons y l ih =>
    rcases List.mem_cons.1 h with rfl | h
    · simp
    · have := ih h; simp; omega
theorem snoc_len {α : Type} {l : List α} {k : Nat} {x : α} (h : l[k]? = some x) : (l.take k).length + 1 = (l.take (k + 1)).length := by
  rw [take_snoc h]; simp
theorem snoc_map {α : Type} {f : α → List T} {l : List α} {k : Nat} {x : α} (h : l[k]? = some x) : (l.take k).map f ++ [f x] = (l.take (k + 1)).map f := by
  rw [take_snoc h]; simp
end Go.Proofs.YtbnbgekjjbpljaaR
namespace Go.Proofs.YtbnbgekjjbpljaaR
open Go Go.RowKit Go.Proofs
set_option linter.unusedSimpArgs false
set_option linter.unusedVariables false
theorem hmix : Try.prog.follows .mixedOrders = true := by kernel_rfl
abbrev n_laws_FnExactExampleSite : Nat := 3
abbrev n_spec_ExampleSite : Nat := 5
abbrev n_impl_ExampleSite : Nat := 6
abbrev n_laws_eqVersionS : Nat := 7
abbrev n_laws_markVersionS : Nat := 8
abbrev n_laws_heldVersionS : Nat := 9
abbrev n_spec_l40Version : Nat := 19
abbrev n_laws_eqVersion : Nat := 20
abbrev n_laws_markIntS : Nat := 21
abbrev n_laws_heldIntS : Nat := 22
abbrev n_laws_eqAddress : Nat := 35
abbrev n_laws_eqResource : Nat := 36
abbrev n_laws_eqIntS : Nat := 49
def m_laws_eqIntS : MC :=
(.seq (pr [.mv 4 (.c (.bool false))] [0,1])
(.seq (.seq (pr [.mv 6 (.s 0), .len 7 false (.s 6), .mv 8 (.s 1), .len 9 false (.s 8), .bin 10 false .neq (.s 7) (.s 9)] [0,1,10])
(.cond (.s 10) (.seq (pr [.mv 4 (.c (.bool false))] [4])
.ret) .skip))
(.seq (.seq (pr [.mv 5 (.c (.int .i64 0))] [0,1,5])
(.block 0 (.loop ([0,1,5], []) (.seq (.seq (pr [.mv 11 (.s 5), .mv 12 (.s 0), .len 13 false (.s 12), .bin 14 false .lss (.s 11) (.s 13)] [0,1,5,14])
(.cond (.s 14) .skip (.exit 0)))
(.seq (.block 1 (.seq (.dreg [{ o := .mv 17 (.s 0), hs := [18,21,22,23,24] }, { o := .mv 18 (.s 5), hs := [17,21,22,23,24] }, { o := .idx 19 1 (.s 17) (.s 18), hs := [21,22,23,24], bf := [0,1] }, { o := .load 20 false 1 (.s 19), hs := [21,22,23,24], bf := [0,1,2] }, { o := .mv 21 (.s 1), hs := [17,18,19,20,22] }, { o := .mv 22 (.s 5), hs := [17,18,19,20,21] }, { o := .idx 23 1 (.s 21) (.s 22), hs := [17,18,19,20], bf := [4,5] }, { o := .load 24 false 1 (.s 23), hs := [17,18,19,20], bf := [4,5,6] }, { o := .bin 25 false .neq (.s 20) (.s 24), bf := [0,1,2,3,4,5,6,7] }] [0,1,5,25])
(.cond (.s 25) (.seq (pr [.mv 4 (.c (.bool false))] [4])
.ret) .skip)))
(pr [.mv 15 (.s 5), .bin 16 false .add (.s 15) (.c (.int .i64 1)), .mv 5 (.s 16)] [0,1,5]))))))
(.seq (pr [.mv 4 (.c (.bool true))] [4])
.ret))))
theorem c_laws_eqIntS (xs ys : List Int) : Ctr Try.prog n_laws_eqIntS [aL 1 (xs.map encI), aL 1 (ys.map encI)] [rB (decide (xs = ys))] := by
  refine ctr_at (M := m_laws_eqIntS) (m := 0) (n := 26) (res := [(.tmp 4, [false])]) hmix Try.func49 rfl (by kernel_rfl) rfl (by kernel_rfl) (by kernel_rfl) (Nat.le_of_ble_eq_true rfl) ?_; unfold m_laws_eqIntS
  intro hb
  simp only [bdA, bdL, bdT, bdR, bdR_map, wfB_i64, wfB_bool, wfB_str, roomB, and_true, true_and, List.length_map] at hb
  obtain ⟨⟨hl, -⟩, ⟨hl2, -⟩⟩ := hb
  simp only [↓bk_bind, ↓bk_map, ↓bk_ite, ↓bk_some, ↓reduceIte, Nat.reduceEqDiff, Nat.reduceLT, Nat.reduceLeDiff, Nat.reduceAdd, Nat.reduceMul, reduceCtorEq, List.reduceReplicate, go_sem]
  refine ⟨fun h => ne_len h, fun h => ?_⟩
  have hle : xs.length = ys.length := by omega
  refine loopK_rng xs (fun k => [(5, vI k)]) (fun k => []) (fun k => xs.take k = ys.take k) hl ?_
  simp only [↓bk_bind, ↓bk_map, ↓bk_ite, ↓bk_some, ↓reduceIte, Nat.reduceEqDiff, Nat.reduceLT, Nat.reduceLeDiff, Nat.reduceAdd, Nat.reduceMul, reduceCtorEq, List.reduceReplicate, go_sem]
  refine ⟨?_, rfl, ?_, ?_⟩
  · simp only [↓bk_bind, ↓bk_map, ↓bk_ite, ↓bk_some, ↓reduceIte, Nat.reduceEqDiff, Nat.reduceLT, Nat.reduceLeDiff, Nat.reduceAdd, Nat.reduceMul, reduceCtorEq, List.reduceReplicate, go_sem]
  · intro k x hx he h0 h1 hw
    obtain ⟨y, hy⟩ := at_some (show k < ys.length by omega)
    have h2 : (k : Int) < ys.length := by omega
    simp only [↓bk_bind, ↓bk_map, ↓bk_ite, ↓bk_some, ↓reduceIte, Nat.reduceEqDiff, Nat.reduceLT, Nat.reduceLeDiff, Nat.reduceAdd, Nat.reduceMul, reduceCtorEq, List.reduceReplicate, go_sem, bk_eq hx, bk_eq hy, h0, h1, h2, hw]
    exact ⟨fun hn => ne_at hx hy hn, fun hn => (take_eq_step hx hy he).2 hn⟩
  · intro he
    simp only [↓bk_bind, ↓bk_map, ↓bk_ite, ↓bk_some, ↓reduceIte, Nat.reduceEqDiff, Nat.reduceLT, Nat.reduceLeDiff, Nat.reduceAdd, Nat.reduceMul, reduceCtorEq, List.reduceReplicate, go_sem]
    exact eq_all he hle
def m_laws_eqAddress : MC :=
(.seq (pr [.box 2 0 (.s 0), .box 3 1 (.s 1), .mv 4 (.c (.bool false))] [2,3])
(.seq (.seq (pr [.fld 5 (.s 2) 0, .load 6 false 1 (.s 5), .fld 7 (.s 3) 0, .load 8 false 1 (.s 7), .bin 9 false .neq (.s 6) (.s 8)] [2,3,9])
(.cond (.s 9) (.seq (pr [.mv 4 (.c (.bool false))] [4])
.ret) .skip))
(.seq (.seq (pr [.fld 10 (.s 2) 1, .load 11 false 1 (.s 10), .fld 12 (.s 3) 1, .load 13 false 1 (.s 12), .bin 14 false .neq (.s 11) (.s 13)] [2,3,14])
(.cond (.s 14) (.seq (pr [.mv 4 (.c (.bool false))] [4])
.ret) .skip))
(.seq (.seq (pr [.fld 15 (.s 2) 2, .load 16 false 1 (.s 15), .fld 17 (.s 3) 2, .load 18 false 1 (.s 17), .bin 19 false .neq (.s 16) (.s 18)] [19])
(.cond (.s 19) (.seq (pr [.mv 4 (.c (.bool false))] [4])
.ret) .skip))
(.seq (pr [.mv 4 (.c (.bool true))] [4])
.ret)))))
theorem c_laws_eqAddress (x y : GAddress) : Ctr Try.prog n_laws_eqAddress [aS x.enc, aS y.enc] [rB (decide (x = y))] := by
  refine ctr_at (M := m_laws_eqAddress) (m := 2) (n := 20) (res := [(.tmp 4, [false])]) hmix Try.func35 rfl (by kernel_rfl) rfl (by kernel_rfl) (by kernel_rfl) (Nat.le_of_ble_eq_true rfl) ?_; unfold m_laws_eqAddress
  intro hb
  clear hb
  simp only [↓bk_bind, ↓bk_map, ↓bk_ite, ↓bk_some, ↓reduceIte, Nat.reduceEqDiff, Nat.reduceLT, Nat.reduceLeDiff, Nat.reduceAdd, Nat.reduceMul, reduceCtorEq, List.reduceReplicate, go_sem]
  refine ⟨fun h => ?_, fun h_Host => ?_⟩
  · symm
    rw [decide_eq_false_iff_not]
    rintro rfl
    exact h rfl
  refine ⟨fun h => ?_, fun h_Path => ?_⟩
  · symm
    rw [decide_eq_false_iff_not]
    rintro rfl
    exact h rfl
  refine ⟨fun h => ?_, fun h_Query => ?_⟩
  · symm
    rw [decide_eq_false_iff_not]
    rintro rfl
    exact h rfl
  cases x; cases y; simp_all
def m_laws_eqResource : MC :=
(.seq (pr [.box 2 0 (.s 0), .box 3 1 (.s 1), .mv 4 (.c (.bool false))] [2,3])
(.seq (.seq (pr [.fld 5 (.s 2) 0, .load 6 false 1 (.s 5), .fld 7 (.s 3) 0, .load 8 false 1 (.s 7), .bin 9 false .neq (.s 6) (.s 8)] [2,3,9])
(.cond (.s 9) (.seq (pr [.mv 4 (.c (.bool false))] [4])
.ret) .skip))
(.seq (.seq (pr [.fld 10 (.s 2) 1, .load 11 false 1 (.s 10), .fld 12 (.s 3) 1, .load 13 false 1 (.s 12), .call 14 [] (.f n_laws_eqIntS) [.s 11, .s 13], .un 15 .not (.s 14)] [2,3,15])
(.cond (.s 15) (.seq (pr [.mv 4 (.c (.bool false))] [4])
.ret) .skip))
(.seq (.seq (pr [.fld 16 (.s 2) 2, .load 17 true 3 (.s 16), .fld 18 (.s 3) 2, .load 19 true 3 (.s 18), .call 20 [] (.f n_laws_eqAddress) [.s 17, .s 19], .un 21 .not (.s 20)] [21])
(.cond (.s 21) (.seq (pr [.mv 4 (.c (.bool false))] [4])
.ret) .skip))
(.seq (pr [.mv 4 (.c (.bool true))] [4])
.ret)))))
theorem c_laws_eqResource (x y : GResource) : Ctr Try.prog n_laws_eqResource [aS x.enc, aS y.enc] [rB (decide (x = y))] := by
  refine ctr_at (M := m_laws_eqResource) (m := 2) (n := 22) (res := [(.tmp 4, [false])]) hmix Try.func36 rfl (by kernel_rfl) rfl (by kernel_rfl) (by kernel_rfl) (Nat.le_of_ble_eq_true rfl) ?_; unfold m_laws_eqResource
  intro hb
  clear hb
  simp only [↓bk_bind, ↓bk_map, ↓bk_ite, ↓bk_some, ↓reduceIte, Nat.reduceEqDiff, Nat.reduceLT, Nat.reduceLeDiff, Nat.reduceAdd, Nat.reduceMul, reduceCtorEq, List.reduceReplicate, go_sem]
  refine ⟨fun h => ?_, fun h_Kind => ?_⟩
  · symm
    rw [decide_eq_false_iff_not]
    rintro rfl
    exact h rfl
  refine callK_of (c_laws_eqIntS x.Body y.Body) ?_
  simp only [↓bk_bind, ↓bk_map, ↓bk_ite, ↓bk_some, ↓reduceIte, Nat.reduceEqDiff, Nat.reduceLT, Nat.reduceLeDiff, Nat.reduceAdd, Nat.reduceMul, reduceCtorEq, List.reduceReplicate, go_sem]
  refine ⟨fun h => ?_, fun h_Body => ?_⟩
  · symm
    rw [decide_eq_false_iff_not]
    rintro rfl
    exact h rfl
  refine callK_of (c_laws_eqAddress x.To y.To) ?_
  simp only [↓bk_bind, ↓bk_map, ↓bk_ite, ↓bk_some, ↓reduceIte, Nat.reduceEqDiff, Nat.reduceLT, Nat.reduceLeDiff, Nat.reduceAdd, Nat.reduceMul, reduceCtorEq, List.reduceReplicate, go_sem]
  refine ⟨fun h => ?_, fun h_To => ?_⟩
  · symm
    rw [decide_eq_false_iff_not]
    rintro rfl
    exact h rfl
  cases x; cases y; simp_all
def m_laws_eqVersion : MC :=
(.seq (pr [.box 2 0 (.s 0), .box 3 1 (.s 1), .mv 4 (.c (.bool false))] [2,3])
(.seq (.seq (pr [.fld 5 (.s 2) 0, .load 6 true 3 (.s 5), .fld 7 (.s 3) 0, .load 8 true 3 (.s 7), .call 9 [] (.f n_laws_eqAddress) [.s 6, .s 8], .un 10 .not (.s 9)] [2,3,10])
(.cond (.s 10) (.seq (pr [.mv 4 (.c (.bool false))] [4])
.ret) .skip))
(.seq (.seq (pr [.fld 11 (.s 2) 3, .load 12 false 1 (.s 11), .fld 13 (.s 3) 3, .load 14 false 1 (.s 13), .bin 15 false .neq (.s 12) (.s 14)] [2,3,15])
(.cond (.s 15) (.seq (pr [.mv 4 (.c (.bool false))] [4])
.ret) .skip))
(.seq (.seq (pr [.fld 16 (.s 2) 4, .load 17 true 5 (.s 16), .fld 18 (.s 3) 4, .load 19 true 5 (.s 18), .call 20 [] (.f n_laws_eqResource) [.s 17, .s 19], .un 21 .not (.s 20)] [21])
(.cond (.s 21) (.seq (pr [.mv 4 (.c (.bool false))] [4])
.ret) .skip))
(.seq (pr [.mv 4 (.c (.bool true))] [4])
.ret)))))
theorem c_laws_eqVersion (x y : GVersion) : Ctr Try.prog n_laws_eqVersion [aS x.enc, aS y.enc] [rB (decide (x = y))] := by
  refine ctr_at (M := m_laws_eqVersion) (m := 2) (n := 22) (res := [(.tmp 4, [false])]) hmix Try.func20 rfl (by kernel_rfl) rfl (by kernel_rfl) (by kernel_rfl) (Nat.le_of_ble_eq_true rfl) ?_; unfold m_laws_eqVersion
  intro hb
  clear hb
  simp only [↓bk_bind, ↓bk_map, ↓bk_ite, ↓bk_some, ↓reduceIte, Nat.reduceEqDiff, Nat.reduceLT, Nat.reduceLeDiff, Nat.reduceAdd, Nat.reduceMul, reduceCtorEq, List.reduceReplicate, go_sem]
  refine callK_of (c_laws_eqAddress x.Address y.Address) ?_
  simp only [↓bk_bind, ↓bk_map, ↓bk_ite, ↓bk_some, ↓reduceIte, Nat.reduceEqDiff, Nat.reduceLT, Nat.reduceLeDiff, Nat.reduceAdd, Nat.reduceMul, reduceCtorEq, List.reduceReplicate, go_sem]
  refine ⟨fun h => ?_, fun h_Address => ?_⟩
  · symm
    rw [decide_eq_false_iff_not]
    rintro rfl
    exact h rfl
  refine ⟨fun h => ?_, fun h_From => ?_⟩
  · symm
    rw [decide_eq_false_iff_not]
    rintro rfl
    exact h rfl
  refine callK_of (c_laws_eqResource x.Resource y.Resource) ?_
  simp only [↓bk_bind, ↓bk_map, ↓bk_ite, ↓bk_some, ↓reduceIte, Nat.reduceEqDiff, Nat.reduceLT, Nat.reduceLeDiff, Nat.reduceAdd, Nat.reduceMul, reduceCtorEq, List.reduceReplicate, go_sem]
  refine ⟨fun h => ?_, fun h_Resource => ?_⟩
  · symm
    rw [decide_eq_false_iff_not]
    rintro rfl
    exact h rfl
  cases x; cases y; simp_all
def m_laws_eqVersionS : MC :=
(.seq (pr [.mv 4 (.c (.bool false))] [0,1])
(.seq (.seq (pr [.mv 6 (.s 0), .len 7 false (.s 6), .mv 8 (.s 1), .len 9 false (.s 8), .bin 10 false .neq (.s 7) (.s 9)] [0,1,10])
(.cond (.s 10) (.seq (pr [.mv 4 (.c (.bool false))] [4])
.ret) .skip))
(.seq (.seq (pr [.mv 5 (.c (.int .i64 0))] [0,1,5])
(.block 0 (.loop ([0,1,5], []) (.seq (.seq (pr [.mv 11 (.s 5), .mv 12 (.s 0), .len 13 false (.s 12), .bin 14 false .lss (.s 11) (.s 13)] [0,1,5,14])
(.cond (.s 14) .skip (.exit 0)))
(.seq (.block 1 (.seq (.dreg [{ o := .mv 17 (.s 0), hs := [18,21,22,23,24] }, { o := .mv 18 (.s 5), hs := [17,21,22,23,24] }, { o := .idx 19 9 (.s 17) (.s 18), hs := [21,22,23,24], bf := [0,1] }, { o := .load 20 true 9 (.s 19), hs := [21,22,23,24], bf := [0,1,2] }, { o := .mv 21 (.s 1), hs := [17,18,19,20,22] }, { o := .mv 22 (.s 5), hs := [17,18,19,20,21] }, { o := .idx 23 9 (.s 21) (.s 22), hs := [17,18,19,20], bf := [4,5] }, { o := .load 24 true 9 (.s 23), hs := [17,18,19,20], bf := [4,5,6] }, { o := .call 25 [] (.f n_laws_eqVersion) [.s 20, .s 24], bf := [0,1,2,3,4,5,6,7] }, { o := .un 26 .not (.s 25), bf := [0,1,2,3,4,5,6,7,8] }] [0,1,5,26])
(.cond (.s 26) (.seq (pr [.mv 4 (.c (.bool false))] [4])
.ret) .skip)))
(pr [.mv 15 (.s 5), .bin 16 false .add (.s 15) (.c (.int .i64 1)), .mv 5 (.s 16)] [0,1,5]))))))
(.seq (pr [.mv 4 (.c (.bool true))] [4])
.ret))))
theorem c_laws_eqVersionS (xs ys : List GVersion) : Ctr Try.prog n_laws_eqVersionS [aL 9 (xs.map GVersion.enc), aL 9 (ys.map GVersion.enc)] [rB (decide (xs = ys))] := by
  refine ctr_at (M := m_laws_eqVersionS) (m := 0) (n := 27) (res := [(.tmp 4, [false])]) hmix Try.func7 rfl (by kernel_rfl) rfl (by kernel_rfl) (by kernel_rfl) (Nat.le_of_ble_eq_true rfl) ?_; unfold m_laws_eqVersionS
  intro hb
  simp only [bdA, bdL, bdT, bdR, bdR_map, wfB_i64, wfB_bool, wfB_str, roomB, and_true, true_and, List.length_map] at hb
  obtain ⟨⟨hl, -⟩, ⟨hl2, -⟩⟩ := hb
  simp only [↓bk_bind, ↓bk_map, ↓bk_ite, ↓bk_some, ↓reduceIte, Nat.reduceEqDiff, Nat.reduceLT, Nat.reduceLeDiff, Nat.reduceAdd, Nat.reduceMul, reduceCtorEq, List.reduceReplicate, go_sem]
  refine ⟨fun h => ne_len h, fun h => ?_⟩
  have hle : xs.length = ys.length := by omega
  refine loopK_rng xs (fun k => [(5, vI k)]) (fun k => []) (fun k => xs.take k = ys.take k) hl ?_
  simp only [↓bk_bind, ↓bk_map, ↓bk_ite, ↓bk_some, ↓reduceIte, Nat.reduceEqDiff, Nat.reduceLT, Nat.reduceLeDiff, Nat.reduceAdd, Nat.reduceMul, reduceCtorEq, List.reduceReplicate, go_sem]
  refine ⟨?_, rfl, ?_, ?_⟩
  · simp only [↓bk_bind, ↓bk_map, ↓bk_ite, ↓bk_some, ↓reduceIte, Nat.reduceEqDiff, Nat.reduceLT, Nat.reduceLeDiff, Nat.reduceAdd, Nat.reduceMul, reduceCtorEq, List.reduceReplicate, go_sem]
  · intro k x hx he h0 h1 hw
    obtain ⟨y, hy⟩ := at_some (show k < ys.length by omega)
    have h2 : (k : Int) < ys.length := by omega
    simp only [↓bk_bind, ↓bk_map, ↓bk_ite, ↓bk_some, ↓reduceIte, Nat.reduceEqDiff, Nat.reduceLT, Nat.reduceLeDiff, Nat.reduceAdd, Nat.reduceMul, reduceCtorEq, List.reduceReplicate, go_sem, bk_eq hx, bk_eq hy, h0, h1, h2, hw]
    refine callK_of (c_laws_eqVersion x y) ?_
    simp only [↓bk_bind, ↓bk_map, ↓bk_ite, ↓bk_some, ↓reduceIte, Nat.reduceEqDiff, Nat.reduceLT, Nat.reduceLeDiff, Nat.reduceAdd, Nat.reduceMul, reduceCtorEq, List.reduceReplicate, go_sem, hw]
    exact ⟨fun hn => ne_at hx hy hn, fun hn => (take_eq_step hx hy he).2 hn⟩
  · intro he
    simp only [↓bk_bind, ↓bk_map, ↓bk_ite, ↓bk_some, ↓reduceIte, Nat.reduceEqDiff, Nat.reduceLT, Nat.reduceLeDiff, Nat.reduceAdd, Nat.reduceMul, reduceCtorEq, List.reduceReplicate, go_sem]
    exact eq_all he hle
end Go.Proofs.YtbnbgekjjbpljaaR
namespace Go.Proofs.YtbnbgekjjbpljaaR
open Go Go.RowKit Go.Proofs
set_option linter.unusedSimpArgs false
set_option linter.unusedVariables false
/-- A list marked, one after another, from k on. -/
def mkL {α : Type} (mk : α → Int → α) (c : α → Nat) : List α → Int → List α
  | [], _ => []
  | x :: l, k => mk x k :: mkL mk c l (k + (c x : Nat))
def ctL {α : Type} (c : α → Nat) (l : List α) : Nat := (l.map c).sum
def iMk (_ : Int) (k : Int) : Int := k
def iCt (_ : Int) : Nat := 1
def bMk (_ : Bool) (k : Int) : Bool := k.tmod 3 == 0
def bCt (_ : Bool) : Nat := 1
section
variable {α : Type} {mk : α → Int → α} {c : α → Nat} {l : List α} {k : Int} {i : Nat} {x : α} {f : α → List T}
theorem mkL_nil : mkL mk c [] k = [] := rfl
theorem ctL_nil : ctL c [] = 0 := rfl
theorem ctL_snoc (h : l[i]? = some x) : ctL c (l.take (i + 1)) = ctL c (l.take i) + c x := sum_snoc h
theorem ctL_take_le (i : Nat) : ctL c (l.take i) ≤ ctL c l := sum_take_le l i
theorem mkL_len : ∀ {l : List α} {k : Int}, (mkL mk c l k).length = l.length
  | [], _ => rfl
  | x :: l, k => by simp [mkL, mkL_len (l := l)]
theorem mkL_append : ∀ {l m : List α} {k : Int}, mkL mk c (l ++ m) k = mkL mk c l k ++ mkL mk c m (k + (ctL c l : Nat))
  | [], m, k => by simp [mkL, ctL]
  | x :: l, m, k => by
    simp only [List.cons_append, mkL, mkL_append (l := l), ctL, List.map_cons, List.sum_cons]
    rw [show k + (c x : Nat) + (((l.map c).sum : Nat) : Int) = k + ((c x + (l.map c).sum : Nat) : Int) by omega]
theorem mkL_snoc (h : l[i]? = some x) : mkL mk c (l.take (i + 1)) k = mkL mk c (l.take i) k ++ [mk x (k + (ctL c (l.take i) : Nat))] := by
  rw [take_snoc h, mkL_append]; rfl
theorem mkL_get (h : l[i]? = some x) : (mkL mk c l k)[i]? = some (mk x (k + (ctL c (l.take i) : Nat))) := by
  have hi := len_at h
  have e : mkL mk c l k = mkL mk c (l.take i) k ++ mkL mk c (l.drop i) (k + (ctL c (l.take i) : Nat)) := by
    rw [← mkL_append, List.take_append_drop]
  rw [e, List.getElem?_append_right (by rw [mkL_len]; simp; omega), mkL_len, List.length_take, Nat.min_eq_left (Nat.le_of_lt hi), Nat.sub_self, drop_cons h]
  rfl
/-- A row around one element. -/
def mid (A : List (List T)) (e : List T) (B : List (List T)) : List (List T) := A ++ e :: B
theorem mid_of (h : l[i]? = some x) : (mkL mk c (l.take i) k).map f ++ (l.drop i).map f = mid ((mkL mk c (l.take i) k).map f) (f x) ((l.drop (i + 1)).map f) := by
  rw [drop_cons h]; rfl
theorem mid_at (h : l[i]? = some x) : (∀ e, (mid ((mkL mk c (l.take i) k).map f) e ((l.drop (i + 1)).map f))[i]? = some e) ∧
    (∀ e e', (mid ((mkL mk c (l.take i) k).map f) e ((l.drop (i + 1)).map f)).set i e' = mid ((mkL mk c (l.take i) k).map f) e' ((l.drop (i + 1)).map f)) ∧
    (∀ e, (mid ((mkL mk c (l.take i) k).map f) e ((l.drop (i + 1)).map f)).length = l.length) ∧
    (∀ e, (mid ((mkL mk c (l.take i) k).map f) e ((l.drop (i + 1)).map f)).getD i [] = e) := by
  have hi := len_at h
  have hl : ((mkL mk c (l.take i) k).map f).length = i := by rw [List.length_map, mkL_len]; simp; omega
  generalize (mkL mk c (l.take i) k).map f = A at hl
  subst hl
  have h1 : ∀ e, (mid A e ((l.drop (A.length + 1)).map f))[A.length]? = some e := fun e => by simp [mid]
  refine ⟨h1, fun e e' => by simp [mid], fun e => by simp [mid]; omega, fun e => by rw [List.getD_eq_getElem?_getD, h1]; rfl⟩
theorem mid_snoc (h : l[i]? = some x) : mid ((mkL mk c (l.take i) k).map f) (f (mk x (k + (ctL c (l.take i) : Nat)))) ((l.drop (i + 1)).map f) = (mkL mk c (l.take (i + 1)) k).map f ++ (l.drop (i + 1)).map f := by
  rw [mkL_snoc h]; simp [mid]
theorem len_of_bd {sz : Nat} {es : List α} {rs : List RV} (h : bdVA (oL sz (es.map f) :: rs)) : es.length ≤ roomB := by
  simp only [bdVA, oL, List.map_cons, bdL, bdT, List.length_map] at h
  exact h.1.1.1
theorem waK {K K' : Int} (h : K = K') (h1 : 0 ≤ K') (h2 : K' ≤ 9223372036854775807) : IntKind.i64.wrap K = K' := by
  subst h; rw [wI (by omega) (by omega)]
theorem ctL_le {s : α → Nat} (h : ∀ x, c x ≤ 16 * (1 + s x)) : ∀ l : List α, ctL c l ≤ 16 * (l.length + (l.map s).sum)
  | [] => by simp [ctL]
  | x :: l => by
    have h1 := h x
    have h2 := ctL_le h l
    simp only [ctL, List.map_cons, List.sum_cons, List.length_cons] at *
    omega
theorem ctL_le' (h : ∀ x, c x ≤ 16) : ∀ l : List α, ctL c l ≤ 16 * l.length
  | [] => by simp [ctL]
  | x :: l => by
    have h1 := h x
    have h2 := ctL_le' h l
    simp only [ctL, List.map_cons, List.sum_cons, List.length_cons] at *
    omega
end
/-- A struct of the caller's, its lists handed over. -/
abbrev oS (ts : List T) : RV := ⟨true, own ts⟩
attribute [go_sem] oS
theorem three_ne : ¬ (3 : Int) = 0 := by decide
attribute [go_sem] mkL_len
def m_laws_markIntS : MC :=
(.seq (pr [.mv 4 (.c (.int .i64 0))] [0,1])
(.seq (.seq (pr [.mv 5 (.c (.int .i64 0))] [0,1,5])
(.block 0 (.loop ([0,1,5], []) (.seq (.seq (pr [.mv 6 (.s 5), .mv 7 (.s 0), .len 8 false (.s 7), .bin 9 false .lss (.s 6) (.s 8)] [0,1,5,9])
(.cond (.s 9) .skip (.exit 0)))
(.seq (.block 1 (.seq (pr [.mv 12 (.s 0), .mv 13 (.s 5), .mv 14 (.s 1), .idx 15 1 (.s 12) (.s 13), .store 1 (.s 15) (.s 14)] [0,1,5])
(pr [.mv 16 (.s 1), .bin 17 false .add (.s 16) (.c (.int .i64 1)), .mv 1 (.s 17)] [0,1,5])))
(pr [.mv 10 (.s 5), .bin 11 false .add (.s 10) (.c (.int .i64 1)), .mv 5 (.s 11)] [0,1,5]))))))
(.seq (pr [.mv 18 (.s 1), .mv 4 (.s 18)] [4])
.ret)))
theorem c_laws_markIntS (xs : List Int) (k : Int) (hk : 0 ≤ k) (hN : k + (ctL iCt xs : Nat) ≤ 4611686018427387904) : CtrI Try.prog n_laws_markIntS [oL 1 (xs.map encI), iI k] [some (1, (mkL iMk iCt xs k).map encI)] [rI (k + (ctL iCt xs : Nat))] := by
  refine ctrI_at (M := m_laws_markIntS) (m := 0) (n := 19) (res := [(.tmp 4, [false])]) hmix Try.func21 rfl (by kernel_rfl) rfl (by kernel_rfl) (by kernel_rfl) (Nat.le_of_ble_eq_true rfl) rfl rfl ?_; unfold m_laws_markIntS
  intro hb
  have hl := len_of_bd hb
  clear hb
  simp only [↓bk_bind, ↓bk_map, ↓bk_ite, ↓bk_some, ↓reduceIte, Nat.reduceEqDiff, Nat.reduceLT, Nat.reduceLeDiff, Nat.reduceAdd, Nat.reduceMul, reduceCtorEq, List.reduceReplicate, go_sem]
  refine loopK_rng xs (fun i => [(1, vI (k + (ctL iCt (xs.take i) : Nat))), (5, vI i)]) (fun i => [(0, ⟨1, .row true 1 ((mkL iMk iCt (xs.take i) k).map encI ++ (xs.drop i).map encI)⟩)]) (fun _ => True) hl ?_
  simp only [↓bk_bind, ↓bk_map, ↓bk_ite, ↓bk_some, ↓reduceIte, Nat.reduceEqDiff, Nat.reduceLT, Nat.reduceLeDiff, Nat.reduceAdd, Nat.reduceMul, reduceCtorEq, List.reduceReplicate, go_sem]
  refine ⟨?_, trivial, ?_, ?_⟩
  · simp only [↓bk_bind, ↓bk_map, ↓bk_ite, ↓bk_some, ↓reduceIte, Nat.reduceEqDiff, Nat.reduceLT, Nat.reduceLeDiff, Nat.reduceAdd, Nat.reduceMul, reduceCtorEq, List.reduceReplicate, go_sem, List.take_zero, List.drop_zero, mkL_nil, ctL_nil]
    all_goals simp
  · intro i x hx _ h0 h1 hw
    have hR := mid_of (mk := iMk) (c := iCt) (k := k) (f := encI) hx
    have hA := mid_at (mk := iMk) (c := iCt) (k := k) (f := encI) hx
    generalize hAe : (mkL iMk iCt (xs.take i) k).map encI = A at hR hA
    generalize hBe : (xs.drop (i + 1)).map encI = B at hR hA
    obtain ⟨hg, hs, hl, hd⟩ := hA
    have hc := ctL_take_le (c := iCt) (i + 1) (l := xs)
    rw [ctL_snoc hx] at hc
    have hK0 : 0 ≤ k + ((ctL iCt (xs.take i) : Nat) : Int) := by omega
    have hK1 : k + ((ctL iCt (xs.take i) : Nat) : Int) + (iCt x : Nat) ≤ 4611686018427387904 := by omega
    generalize hK : k + ((ctL iCt (xs.take i) : Nat) : Int) = K at hK0 hK1
    simp only [iCt] at hK1
    simp only [↓bk_bind, ↓bk_map, ↓bk_ite, ↓bk_some, ↓reduceIte, Nat.reduceEqDiff, Nat.reduceLT, Nat.reduceLeDiff, Nat.reduceAdd, Nat.reduceMul, reduceCtorEq, List.reduceReplicate, go_sem, hw, hR, hg, hs, hl, hd, h0, h1, three_ne, hK, waK (K := K) (K' := K) rfl (by omega) (by omega), waK (K := K + 1) (K' := K + 1) (by omega) (by omega) (by omega), waK (K := K + 1) (K' := K + 1) rfl (by omega) (by omega), waK (K := K + 1 + 1) (K' := K + 2) (by omega) (by omega) (by omega)]
    subst hK hAe hBe
    refine ⟨?_, mid_snoc hx⟩
    rw [ctL_snoc hx]
    simp only [iCt]
    omega
  · intro _
    simp only [↓bk_bind, ↓bk_map, ↓bk_ite, ↓bk_some, ↓reduceIte, Nat.reduceEqDiff, Nat.reduceLT, Nat.reduceLeDiff, Nat.reduceAdd, Nat.reduceMul, reduceCtorEq, List.reduceReplicate, go_sem, List.take_length, List.drop_length, List.map_nil, List.append_nil, mkL_len]
def m_laws_heldIntS : MC :=
(.seq (pr [.mv 4 (.c (.int .i64 0))] [0,1])
(.seq (.seq (pr [.mv 5 (.c (.int .i64 0))] [0,1,5])
(.block 0 (.loop ([0,1,5], []) (.seq (.seq (pr [.mv 6 (.s 5), .mv 7 (.s 0), .len 8 false (.s 7), .bin 9 false .lss (.s 6) (.s 8)] [0,1,5,9])
(.cond (.s 9) .skip (.exit 0)))
(.seq (.block 1 (.seq (.seq (pr [.mv 12 (.s 0), .mv 13 (.s 5), .idx 14 1 (.s 12) (.s 13), .load 15 false 1 (.s 14), .mv 16 (.s 1), .bin 17 false .neq (.s 15) (.s 16)] [0,1,5,17])
(.cond (.s 17) (.seq (pr [.mv 4 (.c (.int .i64 (-1)))] [4])
.ret) .skip))
(pr [.mv 18 (.s 1), .bin 19 false .add (.s 18) (.c (.int .i64 1)), .mv 1 (.s 19)] [0,1,5])))
(pr [.mv 10 (.s 5), .bin 11 false .add (.s 10) (.c (.int .i64 1)), .mv 5 (.s 11)] [0,1,5]))))))
(.seq (pr [.mv 20 (.s 1), .mv 4 (.s 20)] [4])
.ret)))
theorem c_laws_heldIntS (xs : List Int) (k : Int) (hk : 0 ≤ k) (hN : k + (ctL iCt xs : Nat) ≤ 4611686018427387904) : Ctr Try.prog n_laws_heldIntS [aL 1 ((mkL iMk iCt xs k).map encI), aI k] [rI (k + (ctL iCt xs : Nat))] := by
  refine ctr_at (M := m_laws_heldIntS) (m := 0) (n := 21) (res := [(.tmp 4, [false])]) hmix Try.func22 rfl (by kernel_rfl) rfl (by kernel_rfl) (by kernel_rfl) (Nat.le_of_ble_eq_true rfl) ?_; unfold m_laws_heldIntS
  intro hb
  simp only [bdA, bdL, bdT, bdR, bdR_map, wfB_i64, wfB_bool, wfB_str, roomB, and_true, true_and, List.length_map] at hb
  have hl := hb.1.1
  rw [mkL_len] at hl
  clear hb
  simp only [↓bk_bind, ↓bk_map, ↓bk_ite, ↓bk_some, ↓reduceIte, Nat.reduceEqDiff, Nat.reduceLT, Nat.reduceLeDiff, Nat.reduceAdd, Nat.reduceMul, reduceCtorEq, List.reduceReplicate, go_sem]
  refine loopK_rng xs (fun i => [(1, vI (k + (ctL iCt (xs.take i) : Nat))), (5, vI i)]) (fun i => []) (fun _ => True) hl ?_
  simp only [↓bk_bind, ↓bk_map, ↓bk_ite, ↓bk_some, ↓reduceIte, Nat.reduceEqDiff, Nat.reduceLT, Nat.reduceLeDiff, Nat.reduceAdd, Nat.reduceMul, reduceCtorEq, List.reduceReplicate, go_sem]
  refine ⟨?_, trivial, ?_, ?_⟩
  · simp only [↓bk_bind, ↓bk_map, ↓bk_ite, ↓bk_some, ↓reduceIte, Nat.reduceEqDiff, Nat.reduceLT, Nat.reduceLeDiff, Nat.reduceAdd, Nat.reduceMul, reduceCtorEq, List.reduceReplicate, go_sem, List.take_zero, ctL_nil]
    all_goals simp
  · intro i x hx _ h0 h1 hw
    have hg := mkL_get (mk := iMk) (c := iCt) (k := k) hx
    have hc := ctL_take_le (c := iCt) (i + 1) (l := xs)
    rw [ctL_snoc hx] at hc
    have hK0 : 0 ≤ k + ((ctL iCt (xs.take i) : Nat) : Int) := by omega
    have hK1 : k + ((ctL iCt (xs.take i) : Nat) : Int) + (iCt x : Nat) ≤ 4611686018427387904 := by omega
    generalize hK : k + ((ctL iCt (xs.take i) : Nat) : Int) = K at hK0 hK1 hg
    simp only [iCt] at hK1
    simp only [↓bk_bind, ↓bk_map, ↓bk_ite, ↓bk_some, ↓reduceIte, Nat.reduceEqDiff, Nat.reduceLT, Nat.reduceLeDiff, Nat.reduceAdd, Nat.reduceMul, reduceCtorEq, List.reduceReplicate, go_sem, hw, bk_eq hg, h0, h1, mkL_len, hK, iMk, bne_self_eq_false, beq_self_eq_true, three_ne, bMk, waK (K := K) (K' := K) rfl (by omega) (by omega), waK (K := K + 1) (K' := K + 1) (by omega) (by omega) (by omega), waK (K := K + 1) (K' := K + 1) rfl (by omega) (by omega), waK (K := K + 1 + 1) (K' := K + 2) (by omega) (by omega) (by omega)]
    rw [ctL_snoc hx]
    simp only [iCt]
    omega
  · intro _
    simp only [↓bk_bind, ↓bk_map, ↓bk_ite, ↓bk_some, ↓reduceIte, Nat.reduceEqDiff, Nat.reduceLT, Nat.reduceLeDiff, Nat.reduceAdd, Nat.reduceMul, reduceCtorEq, List.reduceReplicate, go_sem, List.take_length, mkL_len]
def GAddress.mkd (x : GAddress) (k : Int) : GAddress := ⟨k, (k + 1), (k + 2)⟩
def GAddress.ct (x : GAddress) : Nat := 3
def GResource.mkd (x : GResource) (k : Int) : GResource := ⟨k, (mkL iMk iCt x.Body (k + 1)), ⟨((k + 1) + (ctL iCt x.Body : Nat)), (((k + 1) + (ctL iCt x.Body : Nat)) + 1), (((k + 1) + (ctL iCt x.Body : Nat)) + 2)⟩⟩
def GResource.ct (x : GResource) : Nat := 4 + ctL iCt x.Body
theorem GResource.ct_le (x : GResource) : x.ct ≤ 16 * (1 + x.size) := by
  simp only [GResource.ct, GResource.size]
  have h0 := ctL_le' (c := iCt) (fun y => by simp only [iCt]; omega) x.Body
  omega
def GResource.mks (x : GResource) (k : Int) : GResource := { x with Body := mkL iMk iCt x.Body (k) }
def GResource.cts (x : GResource) : Nat := ctL iCt x.Body
theorem GResource.cts_le (x : GResource) : x.cts ≤ 16 * x.size := by
  simp only [GResource.cts, GResource.size]
  have hBody := ctL_le' (c := iCt) (fun y => by simp only [iCt]; omega) x.Body
  omega
@[go_sem] theorem GResource.mks_len0 (x : GResource) (k : Int) : ((x.mks k).Body).length = x.Body.length := mkL_len
def GPart.mkd (x : GPart) (k : Int) : GPart := ⟨k, ⟨(k + 1), (mkL iMk iCt x.Resource.Body (k + 2)), ⟨((k + 2) + (ctL iCt x.Resource.Body : Nat)), (((k + 2) + (ctL iCt x.Resource.Body : Nat)) + 1), (((k + 2) + (ctL iCt x.Resource.Body : Nat)) + 2)⟩⟩, (((k + 2) + (ctL iCt x.Resource.Body : Nat)) + 3)⟩
def GPart.ct (x : GPart) : Nat := 6 + ctL iCt x.Resource.Body
theorem GPart.ct_le (x : GPart) : x.ct ≤ 16 * (1 + x.size) := by
  simp only [GPart.ct, GPart.size, GResource.size]
  have h0 := ctL_le' (c := iCt) (fun y => by simp only [iCt]; omega) x.Resource.Body
  omega
def GPart.mks (x : GPart) (k : Int) : GPart := { x with Resource := x.Resource.mks (k) }
def GPart.cts (x : GPart) : Nat := x.Resource.cts
theorem GPart.cts_le (x : GPart) : x.cts ≤ 16 * x.size := by
  simp only [GPart.cts, GPart.size]
  have hResource := GResource.cts_le x.Resource
  omega
@[go_sem] theorem GPart.mks_len0 (x : GPart) (k : Int) : ((x.mks k).Resource.Body).length = x.Resource.Body.length := mkL_len
def GPiece.mkd (x : GPiece) (k : Int) : GPiece := ⟨k, (k + 1), (mkL iMk iCt x.New (k + 2))⟩
def GPiece.ct (x : GPiece) : Nat := 2 + ctL iCt x.New
theorem GPiece.ct_le (x : GPiece) : x.ct ≤ 16 * (1 + x.size) := by
  simp only [GPiece.ct, GPiece.size]
  have h0 := ctL_le' (c := iCt) (fun y => by simp only [iCt]; omega) x.New
  omega
def GPiece.mks (x : GPiece) (k : Int) : GPiece := { x with New := mkL iMk iCt x.New (k) }
def GPiece.cts (x : GPiece) : Nat := ctL iCt x.New
theorem GPiece.cts_le (x : GPiece) : x.cts ≤ 16 * x.size := by
  simp only [GPiece.cts, GPiece.size]
  have hNew := ctL_le' (c := iCt) (fun y => by simp only [iCt]; omega) x.New
  omega
@[go_sem] theorem GPiece.mks_len0 (x : GPiece) (k : Int) : ((x.mks k).New).length = x.New.length := mkL_len
def GVersion.mkd (x : GVersion) (k : Int) : GVersion := ⟨⟨k, (k + 1), (k + 2)⟩, (k + 3), ⟨(k + 4), (mkL iMk iCt x.Resource.Body (k + 5)), ⟨((k + 5) + (ctL iCt x.Resource.Body : Nat)), (((k + 5) + (ctL iCt x.Resource.Body : Nat)) + 1), (((k + 5) + (ctL iCt x.Resource.Body : Nat)) + 2)⟩⟩⟩
def GVersion.ct (x : GVersion) : Nat := 8 + ctL iCt x.Resource.Body
theorem GVersion.ct_le (x : GVersion) : x.ct ≤ 16 * (1 + x.size) := by
  simp only [GVersion.ct, GVersion.size, GResource.size]
  have h0 := ctL_le' (c := iCt) (fun y => by simp only [iCt]; omega) x.Resource.Body
  omega
def m_laws_markVersionS : MC :=
(.seq (pr [.mv 4 (.c (.int .i64 0))] [0,1])
(.seq (.seq (pr [.mv 5 (.c (.int .i64 0))] [0,1,5])
(.block 0 (.loop ([0,1,5], [1]) (.seq (.seq (pr [.mv 6 (.s 5), .mv 7 (.s 0), .len 8 false (.s 7), .bin 9 false .lss (.s 6) (.s 8)] [0,1,5,9])
(.cond (.s 9) .skip (.exit 0)))
(.seq (.block 1 (.seq (pr [.mv 12 (.s 0), .mv 13 (.s 5), .mv 14 (.s 1), .idx 15 9 (.s 12) (.s 13), .fld 16 (.s 15) 0, .fld 17 (.s 16) 0, .store 1 (.s 17) (.s 14)] [0,1,5])
(.seq (pr [.mv 18 (.s 1), .bin 19 false .add (.s 18) (.c (.int .i64 1)), .mv 1 (.s 19)] [0,1,5])
(.seq (pr [.mv 20 (.s 0), .mv 21 (.s 5), .mv 22 (.s 1), .idx 23 9 (.s 20) (.s 21), .fld 24 (.s 23) 0, .fld 25 (.s 24) 1, .store 1 (.s 25) (.s 22)] [0,1,5])
(.seq (pr [.mv 26 (.s 1), .bin 27 false .add (.s 26) (.c (.int .i64 1)), .mv 1 (.s 27)] [0,1,5])
(.seq (pr [.mv 28 (.s 0), .mv 29 (.s 5), .mv 30 (.s 1), .idx 31 9 (.s 28) (.s 29), .fld 32 (.s 31) 0, .fld 33 (.s 32) 2, .store 1 (.s 33) (.s 30)] [0,1,5])
(.seq (pr [.mv 34 (.s 1), .bin 35 false .add (.s 34) (.c (.int .i64 1)), .mv 1 (.s 35)] [0,1,5])
(.seq (pr [.mv 36 (.s 0), .mv 37 (.s 5), .mv 38 (.s 1), .idx 39 9 (.s 36) (.s 37), .fld 40 (.s 39) 3, .store 1 (.s 40) (.s 38)] [0,1,5])
(.seq (pr [.mv 41 (.s 1), .bin 42 false .add (.s 41) (.c (.int .i64 1)), .mv 1 (.s 42)] [0,1,5])
(.seq (pr [.mv 43 (.s 0), .mv 44 (.s 5), .mv 45 (.s 1), .idx 46 9 (.s 43) (.s 44), .fld 47 (.s 46) 4, .fld 48 (.s 47) 0, .store 1 (.s 48) (.s 45)] [0,1,5])
(.seq (pr [.mv 49 (.s 1), .bin 50 false .add (.s 49) (.c (.int .i64 1)), .mv 1 (.s 50)] [0,1,5])
(.seq (pr [.mv 51 (.s 0), .mv 52 (.s 5), .idx 53 9 (.s 51) (.s 52), .fld 54 (.s 53) 4, .fld 55 (.s 54) 1, .loadT 56 1 (.s 55), .mv 57 (.s 1), .callI 58 [] (.f n_laws_markIntS) [.s 56, .s 57] [1] [0], .mv 1 (.s 58)] [0,1,5])
(.seq (pr [.mv 59 (.s 0), .mv 60 (.s 5), .mv 61 (.s 1), .idx 62 9 (.s 59) (.s 60), .fld 63 (.s 62) 4, .fld 64 (.s 63) 2, .fld 65 (.s 64) 0, .store 1 (.s 65) (.s 61)] [0,1,5])
(.seq (pr [.mv 66 (.s 1), .bin 67 false .add (.s 66) (.c (.int .i64 1)), .mv 1 (.s 67)] [0,1,5])
(.seq (pr [.mv 68 (.s 0), .mv 69 (.s 5), .mv 70 (.s 1), .idx 71 9 (.s 68) (.s 69), .fld 72 (.s 71) 4, .fld 73 (.s 72) 2, .fld 74 (.s 73) 1, .store 1 (.s 74) (.s 70)] [0,1,5])
(.seq (pr [.mv 75 (.s 1), .bin 76 false .add (.s 75) (.c (.int .i64 1)), .mv 1 (.s 76)] [0,1,5])
(.seq (pr [.mv 77 (.s 0), .mv 78 (.s 5), .mv 79 (.s 1), .idx 80 9 (.s 77) (.s 78), .fld 81 (.s 80) 4, .fld 82 (.s 81) 2, .fld 83 (.s 82) 2, .store 1 (.s 83) (.s 79)] [0,1,5])
(pr [.mv 84 (.s 1), .bin 85 false .add (.s 84) (.c (.int .i64 1)), .mv 1 (.s 85)] [0,1,5]))))))))))))))))))
(pr [.mv 10 (.s 5), .bin 11 false .add (.s 10) (.c (.int .i64 1)), .mv 5 (.s 11)] [0,1,5]))))))
(.seq (pr [.mv 86 (.s 1), .mv 4 (.s 86)] [4])
.ret)))
theorem c_laws_markVersionS (xs : List GVersion) (k : Int) (hk : 0 ≤ k) (hN : k + (ctL GVersion.ct xs : Nat) ≤ 4611686018427387904) : CtrI Try.prog n_laws_markVersionS [oL 9 (xs.map GVersion.enc), iI k] [some (9, (mkL GVersion.mkd GVersion.ct xs k).map GVersion.enc)] [rI (k + (ctL GVersion.ct xs : Nat))] := by
  refine ctrI_at (M := m_laws_markVersionS) (m := 1) (n := 87) (res := [(.tmp 4, [false])]) hmix Try.func8 rfl (by kernel_rfl) rfl (by kernel_rfl) (by kernel_rfl) (Nat.le_of_ble_eq_true rfl) rfl rfl ?_; unfold m_laws_markVersionS
  intro hb
  have hl := len_of_bd hb
  clear hb
  simp only [↓bk_bind, ↓bk_map, ↓bk_ite, ↓bk_some, ↓reduceIte, Nat.reduceEqDiff, Nat.reduceLT, Nat.reduceLeDiff, Nat.reduceAdd, Nat.reduceMul, reduceCtorEq, List.reduceReplicate, go_sem]
  refine loopK_rng xs (fun i => [(1, vI (k + (ctL GVersion.ct (xs.take i) : Nat))), (5, vI i)]) (fun i => [(0, ⟨1, .row true 9 ((mkL GVersion.mkd GVersion.ct (xs.take i) k).map GVersion.enc ++ (xs.drop i).map GVersion.enc)⟩)]) (fun _ => True) hl ?_
  simp only [↓bk_bind, ↓bk_map, ↓bk_ite, ↓bk_some, ↓reduceIte, Nat.reduceEqDiff, Nat.reduceLT, Nat.reduceLeDiff, Nat.reduceAdd, Nat.reduceMul, reduceCtorEq, List.reduceReplicate, go_sem]
  refine ⟨?_, trivial, ?_, ?_⟩
  · simp only [↓bk_bind, ↓bk_map, ↓bk_ite, ↓bk_some, ↓reduceIte, Nat.reduceEqDiff, Nat.reduceLT, Nat.reduceLeDiff, Nat.reduceAdd, Nat.reduceMul, reduceCtorEq, List.reduceReplicate, go_sem, List.take_zero, List.drop_zero, mkL_nil, ctL_nil]
    all_goals simp
  · intro i x hx _ h0 h1 hw
    have hR := mid_of (mk := GVersion.mkd) (c := GVersion.ct) (k := k) (f := GVersion.enc) hx
    have hA := mid_at (mk := GVersion.mkd) (c := GVersion.ct) (k := k) (f := GVersion.enc) hx
    generalize hAe : (mkL GVersion.mkd GVersion.ct (xs.take i) k).map GVersion.enc = A at hR hA
    generalize hBe : (xs.drop (i + 1)).map GVersion.enc = B at hR hA
    obtain ⟨hg, hs, hl, hd⟩ := hA
    have hc := ctL_take_le (c := GVersion.ct) (i + 1) (l := xs)
    rw [ctL_snoc hx] at hc
    have hK0 : 0 ≤ k + ((ctL GVersion.ct (xs.take i) : Nat) : Int) := by omega
    have hK1 : k + ((ctL GVersion.ct (xs.take i) : Nat) : Int) + (GVersion.ct x : Nat) ≤ 4611686018427387904 := by omega
    generalize hK : k + ((ctL GVersion.ct (xs.take i) : Nat) : Int) = K at hK0 hK1
    simp only [GVersion.ct] at hK1
    simp only [↓bk_bind, ↓bk_map, ↓bk_ite, ↓bk_some, ↓reduceIte, Nat.reduceEqDiff, Nat.reduceLT, Nat.reduceLeDiff, Nat.reduceAdd, Nat.reduceMul, reduceCtorEq, List.reduceReplicate, go_sem, hw, hR, hg, hs, hl, hd, h0, h1, three_ne, hK, waK (K := K) (K' := K) rfl (by omega) (by omega), waK (K := K + 1) (K' := K + 1) (by omega) (by omega) (by omega), waK (K := K + 1) (K' := K + 1) rfl (by omega) (by omega), waK (K := K + 1 + 1) (K' := K + 2) (by omega) (by omega) (by omega), waK (K := K + 2) (K' := K + 2) rfl (by omega) (by omega), waK (K := K + 2 + 1) (K' := K + 3) (by omega) (by omega) (by omega), waK (K := K + 3) (K' := K + 3) rfl (by omega) (by omega), waK (K := K + 3 + 1) (K' := K + 4) (by omega) (by omega) (by omega), waK (K := K + 4) (K' := K + 4) rfl (by omega) (by omega), waK (K := K + 4 + 1) (K' := K + 5) (by omega) (by omega) (by omega), waK (K := K + 5) (K' := K + 5) rfl (by omega) (by omega), waK (K := K + 5 + 1) (K' := K + 6) (by omega) (by omega) (by omega)]
    refine callIK_of (c_laws_markIntS x.Resource.Body (K + 5) (by omega) (by omega)) ?_
    have hK1 : 0 ≤ K + 5 + (ctL iCt x.Resource.Body : Nat) := by omega
    generalize eK1 : K + 5 + ((ctL iCt x.Resource.Body : Nat) : Int) = K1 at hK1
    simp only [↓bk_bind, ↓bk_map, ↓bk_ite, ↓bk_some, ↓reduceIte, Nat.reduceEqDiff, Nat.reduceLT, Nat.reduceLeDiff, Nat.reduceAdd, Nat.reduceMul, reduceCtorEq, List.reduceReplicate, go_sem, hw, hR, hg, hs, hl, hd, h0, h1, three_ne, hK, waK (K := K1) (K' := K1) rfl (by omega) (by omega), waK (K := K1 + 1) (K' := K1 + 1) (by omega) (by omega) (by omega), waK (K := K1 + 1) (K' := K1 + 1) rfl (by omega) (by omega), waK (K := K1 + 1 + 1) (K' := K1 + 2) (by omega) (by omega) (by omega), waK (K := K1 + 2) (K' := K1 + 2) rfl (by omega) (by omega), waK (K := K1 + 2 + 1) (K' := K1 + 3) (by omega) (by omega) (by omega), waK (K := K1 + 3) (K' := K1 + 3) rfl (by omega) (by omega), waK (K := K1 + 3 + 1) (K' := K1 + 4) (by omega) (by omega) (by omega)]
    subst eK1
    subst hK hAe hBe
    refine ⟨?_, mid_snoc hx⟩
    rw [ctL_snoc hx]
    simp only [GVersion.ct]
    omega
  · intro _
    simp only [↓bk_bind, ↓bk_map, ↓bk_ite, ↓bk_some, ↓reduceIte, Nat.reduceEqDiff, Nat.reduceLT, Nat.reduceLeDiff, Nat.reduceAdd, Nat.reduceMul, reduceCtorEq, List.reduceReplicate, go_sem, List.take_length, List.drop_length, List.map_nil, List.append_nil, mkL_len]
def m_laws_heldVersionS : MC :=
(.seq (pr [.mv 4 (.c (.int .i64 0))] [0,1])
(.seq (.seq (pr [.mv 5 (.c (.int .i64 0))] [0,1,5])
(.block 0 (.loop ([0,1,5], []) (.seq (.seq (pr [.mv 6 (.s 5), .mv 7 (.s 0), .len 8 false (.s 7), .bin 9 false .lss (.s 6) (.s 8)] [0,1,5,9])
(.cond (.s 9) .skip (.exit 0)))
(.seq (.block 1 (.seq (.seq (pr [.mv 12 (.s 0), .mv 13 (.s 5), .idx 14 9 (.s 12) (.s 13), .fld 15 (.s 14) 0, .fld 16 (.s 15) 0, .load 17 false 1 (.s 16), .mv 18 (.s 1), .bin 19 false .neq (.s 17) (.s 18)] [0,1,5,19])
(.cond (.s 19) (.seq (pr [.mv 4 (.c (.int .i64 (-1)))] [4])
.ret) .skip))
(.seq (pr [.mv 20 (.s 1), .bin 21 false .add (.s 20) (.c (.int .i64 1)), .mv 1 (.s 21)] [0,1,5])
(.seq (.seq (pr [.mv 22 (.s 0), .mv 23 (.s 5), .idx 24 9 (.s 22) (.s 23), .fld 25 (.s 24) 0, .fld 26 (.s 25) 1, .load 27 false 1 (.s 26), .mv 28 (.s 1), .bin 29 false .neq (.s 27) (.s 28)] [0,1,5,29])
(.cond (.s 29) (.seq (pr [.mv 4 (.c (.int .i64 (-1)))] [4])
.ret) .skip))
(.seq (pr [.mv 30 (.s 1), .bin 31 false .add (.s 30) (.c (.int .i64 1)), .mv 1 (.s 31)] [0,1,5])
(.seq (.seq (pr [.mv 32 (.s 0), .mv 33 (.s 5), .idx 34 9 (.s 32) (.s 33), .fld 35 (.s 34) 0, .fld 36 (.s 35) 2, .load 37 false 1 (.s 36), .mv 38 (.s 1), .bin 39 false .neq (.s 37) (.s 38)] [0,1,5,39])
(.cond (.s 39) (.seq (pr [.mv 4 (.c (.int .i64 (-1)))] [4])
.ret) .skip))
(.seq (pr [.mv 40 (.s 1), .bin 41 false .add (.s 40) (.c (.int .i64 1)), .mv 1 (.s 41)] [0,1,5])
(.seq (.seq (pr [.mv 42 (.s 0), .mv 43 (.s 5), .idx 44 9 (.s 42) (.s 43), .fld 45 (.s 44) 3, .load 46 false 1 (.s 45), .mv 47 (.s 1), .bin 48 false .neq (.s 46) (.s 47)] [0,1,5,48])
(.cond (.s 48) (.seq (pr [.mv 4 (.c (.int .i64 (-1)))] [4])
.ret) .skip))
(.seq (pr [.mv 49 (.s 1), .bin 50 false .add (.s 49) (.c (.int .i64 1)), .mv 1 (.s 50)] [0,1,5])
(.seq (.seq (pr [.mv 51 (.s 0), .mv 52 (.s 5), .idx 53 9 (.s 51) (.s 52), .fld 54 (.s 53) 4, .fld 55 (.s 54) 0, .load 56 false 1 (.s 55), .mv 57 (.s 1), .bin 58 false .neq (.s 56) (.s 57)] [0,1,5,58])
(.cond (.s 58) (.seq (pr [.mv 4 (.c (.int .i64 (-1)))] [4])
.ret) .skip))
(.seq (pr [.mv 59 (.s 1), .bin 60 false .add (.s 59) (.c (.int .i64 1)), .mv 1 (.s 60)] [0,1,5])
(.seq (pr [.mv 61 (.s 0), .mv 62 (.s 5), .idx 63 9 (.s 61) (.s 62), .fld 64 (.s 63) 4, .fld 65 (.s 64) 1, .load 66 false 1 (.s 65), .mv 67 (.s 1), .call 68 [] (.f n_laws_heldIntS) [.s 66, .s 67], .mv 1 (.s 68)] [0,1,5])
(.seq (.seq (pr [.mv 69 (.s 1), .bin 70 false .lss (.s 69) (.c (.int .i64 0))] [0,1,5,70])
(.cond (.s 70) (.seq (pr [.mv 4 (.c (.int .i64 (-1)))] [4])
.ret) .skip))
(.seq (.seq (pr [.mv 71 (.s 0), .mv 72 (.s 5), .idx 73 9 (.s 71) (.s 72), .fld 74 (.s 73) 4, .fld 75 (.s 74) 2, .fld 76 (.s 75) 0, .load 77 false 1 (.s 76), .mv 78 (.s 1), .bin 79 false .neq (.s 77) (.s 78)] [0,1,5,79])
(.cond (.s 79) (.seq (pr [.mv 4 (.c (.int .i64 (-1)))] [4])
.ret) .skip))
(.seq (pr [.mv 80 (.s 1), .bin 81 false .add (.s 80) (.c (.int .i64 1)), .mv 1 (.s 81)] [0,1,5])
(.seq (.seq (pr [.mv 82 (.s 0), .mv 83 (.s 5), .idx 84 9 (.s 82) (.s 83), .fld 85 (.s 84) 4, .fld 86 (.s 85) 2, .fld 87 (.s 86) 1, .load 88 false 1 (.s 87), .mv 89 (.s 1), .bin 90 false .neq (.s 88) (.s 89)] [0,1,5,90])
(.cond (.s 90) (.seq (pr [.mv 4 (.c (.int .i64 (-1)))] [4])
.ret) .skip))
(.seq (pr [.mv 91 (.s 1), .bin 92 false .add (.s 91) (.c (.int .i64 1)), .mv 1 (.s 92)] [0,1,5])
(.seq (.seq (pr [.mv 93 (.s 0), .mv 94 (.s 5), .idx 95 9 (.s 93) (.s 94), .fld 96 (.s 95) 4, .fld 97 (.s 96) 2, .fld 98 (.s 97) 2, .load 99 false 1 (.s 98), .mv 100 (.s 1), .bin 101 false .neq (.s 99) (.s 100)] [0,1,5,101])
(.cond (.s 101) (.seq (pr [.mv 4 (.c (.int .i64 (-1)))] [4])
.ret) .skip))
(pr [.mv 102 (.s 1), .bin 103 false .add (.s 102) (.c (.int .i64 1)), .mv 1 (.s 103)] [0,1,5])))))))))))))))))))
(pr [.mv 10 (.s 5), .bin 11 false .add (.s 10) (.c (.int .i64 1)), .mv 5 (.s 11)] [0,1,5]))))))
(.seq (pr [.mv 104 (.s 1), .mv 4 (.s 104)] [4])
.ret)))
theorem c_laws_heldVersionS (xs : List GVersion) (k : Int) (hk : 0 ≤ k) (hN : k + (ctL GVersion.ct xs : Nat) ≤ 4611686018427387904) : Ctr Try.prog n_laws_heldVersionS [aL 9 ((mkL GVersion.mkd GVersion.ct xs k).map GVersion.enc), aI k] [rI (k + (ctL GVersion.ct xs : Nat))] := by
  refine ctr_at (M := m_laws_heldVersionS) (m := 0) (n := 105) (res := [(.tmp 4, [false])]) hmix Try.func9 rfl (by kernel_rfl) rfl (by kernel_rfl) (by kernel_rfl) (Nat.le_of_ble_eq_true rfl) ?_; unfold m_laws_heldVersionS
  intro hb
  simp only [bdA, bdL, bdT, bdR, bdR_map, wfB_i64, wfB_bool, wfB_str, roomB, and_true, true_and, List.length_map] at hb
  have hl := hb.1.1
  rw [mkL_len] at hl
  clear hb
  simp only [↓bk_bind, ↓bk_map, ↓bk_ite, ↓bk_some, ↓reduceIte, Nat.reduceEqDiff, Nat.reduceLT, Nat.reduceLeDiff, Nat.reduceAdd, Nat.reduceMul, reduceCtorEq, List.reduceReplicate, go_sem]
  refine loopK_rng xs (fun i => [(1, vI (k + (ctL GVersion.ct (xs.take i) : Nat))), (5, vI i)]) (fun i => []) (fun _ => True) hl ?_
  simp only [↓bk_bind, ↓bk_map, ↓bk_ite, ↓bk_some, ↓reduceIte, Nat.reduceEqDiff, Nat.reduceLT, Nat.reduceLeDiff, Nat.reduceAdd, Nat.reduceMul, reduceCtorEq, List.reduceReplicate, go_sem]
  refine ⟨?_, trivial, ?_, ?_⟩
  · simp only [↓bk_bind, ↓bk_map, ↓bk_ite, ↓bk_some, ↓reduceIte, Nat.reduceEqDiff, Nat.reduceLT, Nat.reduceLeDiff, Nat.reduceAdd, Nat.reduceMul, reduceCtorEq, List.reduceReplicate, go_sem, List.take_zero, ctL_nil]
    all_goals simp
  · intro i x hx _ h0 h1 hw
    have hg := mkL_get (mk := GVersion.mkd) (c := GVersion.ct) (k := k) hx
    have hc := ctL_take_le (c := GVersion.ct) (i + 1) (l := xs)
    rw [ctL_snoc hx] at hc
    have hK0 : 0 ≤ k + ((ctL GVersion.ct (xs.take i) : Nat) : Int) := by omega
    have hK1 : k + ((ctL GVersion.ct (xs.take i) : Nat) : Int) + (GVersion.ct x : Nat) ≤ 4611686018427387904 := by omega
    generalize hK : k + ((ctL GVersion.ct (xs.take i) : Nat) : Int) = K at hK0 hK1 hg
    simp only [GVersion.ct] at hK1
    try simp only [↓bk_bind, ↓bk_map, ↓bk_ite, ↓bk_some, ↓reduceIte, Nat.reduceEqDiff, Nat.reduceLT, Nat.reduceLeDiff, Nat.reduceAdd, Nat.reduceMul, reduceCtorEq, List.reduceReplicate, go_sem, hw, bk_eq hg, h0, h1, mkL_len, hK, GVersion.mkd, bne_self_eq_false, beq_self_eq_true, three_ne, bMk, waK (K := K) (K' := K) rfl (by omega) (by omega), waK (K := K + 1) (K' := K + 1) (by omega) (by omega) (by omega), waK (K := K + 1) (K' := K + 1) rfl (by omega) (by omega), waK (K := K + 1 + 1) (K' := K + 2) (by omega) (by omega) (by omega), waK (K := K + 2) (K' := K + 2) rfl (by omega) (by omega), waK (K := K + 2 + 1) (K' := K + 3) (by omega) (by omega) (by omega), waK (K := K + 3) (K' := K + 3) rfl (by omega) (by omega), waK (K := K + 3 + 1) (K' := K + 4) (by omega) (by omega) (by omega), waK (K := K + 4) (K' := K + 4) rfl (by omega) (by omega), waK (K := K + 4 + 1) (K' := K + 5) (by omega) (by omega) (by omega), waK (K := K + 5) (K' := K + 5) rfl (by omega) (by omega), waK (K := K + 5 + 1) (K' := K + 6) (by omega) (by omega) (by omega)]
    refine callK_of (c_laws_heldIntS x.Resource.Body (K + 5) (by omega) (by omega)) ?_
    have hK1 : 0 ≤ K + 5 + (ctL iCt x.Resource.Body : Nat) := by omega
    generalize eK1 : K + 5 + ((ctL iCt x.Resource.Body : Nat) : Int) = K1 at hK1
    have nK1 : ¬ K1 < 0 := by omega
    simp only [↓bk_bind, ↓bk_map, ↓bk_ite, ↓bk_some, ↓reduceIte, Nat.reduceEqDiff, Nat.reduceLT, Nat.reduceLeDiff, Nat.reduceAdd, Nat.reduceMul, reduceCtorEq, List.reduceReplicate, go_sem, hw, bk_eq hg, h0, h1, mkL_len, hK, GVersion.mkd, bne_self_eq_false, beq_self_eq_true, three_ne, bMk, nK1, eK1]
    intro _
    simp only [↓bk_bind, ↓bk_map, ↓bk_ite, ↓bk_some, ↓reduceIte, Nat.reduceEqDiff, Nat.reduceLT, Nat.reduceLeDiff, Nat.reduceAdd, Nat.reduceMul, reduceCtorEq, List.reduceReplicate, go_sem, hw, bk_eq hg, h0, h1, mkL_len, hK, GVersion.mkd, bne_self_eq_false, beq_self_eq_true, three_ne, bMk, nK1, eK1, waK (K := K1) (K' := K1) rfl (by omega) (by omega), waK (K := K1 + 1) (K' := K1 + 1) (by omega) (by omega) (by omega), waK (K := K1 + 1) (K' := K1 + 1) rfl (by omega) (by omega), waK (K := K1 + 1 + 1) (K' := K1 + 2) (by omega) (by omega) (by omega), waK (K := K1 + 2) (K' := K1 + 2) rfl (by omega) (by omega), waK (K := K1 + 2 + 1) (K' := K1 + 3) (by omega) (by omega) (by omega), waK (K := K1 + 3) (K' := K1 + 3) rfl (by omega) (by omega), waK (K := K1 + 3 + 1) (K' := K1 + 4) (by omega) (by omega) (by omega)]
    subst eK1
    rw [ctL_snoc hx]
    simp only [GVersion.ct]
    omega
  · intro _
    simp only [↓bk_bind, ↓bk_map, ↓bk_ite, ↓bk_some, ↓reduceIte, Nat.reduceEqDiff, Nat.reduceLT, Nat.reduceLeDiff, Nat.reduceAdd, Nat.reduceMul, reduceCtorEq, List.reduceReplicate, go_sem, List.take_length, mkL_len]
def GVersion.mks (x : GVersion) (k : Int) : GVersion := { x with Resource := x.Resource.mks (k) }
def GVersion.cts (x : GVersion) : Nat := x.Resource.cts
theorem GVersion.cts_le (x : GVersion) : x.cts ≤ 16 * x.size := by
  simp only [GVersion.cts, GVersion.size]
  have hResource := GResource.cts_le x.Resource
  omega
@[go_sem] theorem GVersion.mks_len0 (x : GVersion) (k : Int) : ((x.mks k).Resource.Body).length = x.Resource.Body.length := mkL_len
def GOp.mkd (x : GOp) (k : Int) : GOp := ⟨k, (k + 1), (k + 2), (k + 3)⟩
def GOp.ct (x : GOp) : Nat := 4
def GState.mkd (x : GState) (k : Int) : GState := ⟨k, (mkL iMk iCt x.Regs (k + 1)), (mkL iMk iCt x.Slots ((k + 1) + (ctL iCt x.Regs : Nat))), (mkL iMk iCt x.Nodes (((k + 1) + (ctL iCt x.Regs : Nat)) + (ctL iCt x.Slots : Nat)))⟩
def GState.ct (x : GState) : Nat := 1 + ctL iCt x.Regs + ctL iCt x.Slots + ctL iCt x.Nodes
theorem GState.ct_le (x : GState) : x.ct ≤ 16 * (1 + x.size) := by
  simp only [GState.ct, GState.size]
  have h0 := ctL_le' (c := iCt) (fun y => by simp only [iCt]; omega) x.Regs
  have h1 := ctL_le' (c := iCt) (fun y => by simp only [iCt]; omega) x.Slots
  have h2 := ctL_le' (c := iCt) (fun y => by simp only [iCt]; omega) x.Nodes
  omega
def GState.mks (x : GState) (k : Int) : GState := { x with Regs := mkL iMk iCt x.Regs (k), Slots := mkL iMk iCt x.Slots (k + (ctL iCt x.Regs : Nat)), Nodes := mkL iMk iCt x.Nodes (k + (ctL iCt x.Regs : Nat) + (ctL iCt x.Slots : Nat)) }
def GState.cts (x : GState) : Nat := ctL iCt x.Regs + ctL iCt x.Slots + ctL iCt x.Nodes
theorem GState.cts_le (x : GState) : x.cts ≤ 16 * x.size := by
  simp only [GState.cts, GState.size]
  have hRegs := ctL_le' (c := iCt) (fun y => by simp only [iCt]; omega) x.Regs
  have hSlots := ctL_le' (c := iCt) (fun y => by simp only [iCt]; omega) x.Slots
  have hNodes := ctL_le' (c := iCt) (fun y => by simp only [iCt]; omega) x.Nodes
  omega
@[go_sem] theorem GState.mks_len0 (x : GState) (k : Int) : ((x.mks k).Regs).length = x.Regs.length := mkL_len
@[go_sem] theorem GState.mks_len1 (x : GState) (k : Int) : ((x.mks k).Slots).length = x.Slots.length := mkL_len
@[go_sem] theorem GState.mks_len2 (x : GState) (k : Int) : ((x.mks k).Nodes).length = x.Nodes.length := mkL_len
def GWant.mkd (x : GWant) (k : Int) : GWant := ⟨k, ⟨(k + 1), (k + 2), (k + 3)⟩⟩
def GWant.ct (x : GWant) : Nat := 4
def GEntry.mkd (x : GEntry) (k : Int) : GEntry := ⟨k, ⟨(k + 1), (k + 2), (k + 3)⟩, (k + 4)⟩
def GEntry.ct (x : GEntry) : Nat := 5
def GCapture.mkd (x : GCapture) (k : Int) : GCapture := ⟨⟨k, (k + 1), (k + 2)⟩, (k + 3), ⟨(k + 4), (mkL iMk iCt x.Resource.Body (k + 5)), ⟨((k + 5) + (ctL iCt x.Resource.Body : Nat)), (((k + 5) + (ctL iCt x.Resource.Body : Nat)) + 1), (((k + 5) + (ctL iCt x.Resource.Body : Nat)) + 2)⟩⟩⟩
def GCapture.ct (x : GCapture) : Nat := 8 + ctL iCt x.Resource.Body
theorem GCapture.ct_le (x : GCapture) : x.ct ≤ 16 * (1 + x.size) := by
  simp only [GCapture.ct, GCapture.size, GResource.size]
  have h0 := ctL_le' (c := iCt) (fun y => by simp only [iCt]; omega) x.Resource.Body
  omega
def GCapture.mks (x : GCapture) (k : Int) : GCapture := { x with Resource := x.Resource.mks (k) }
def GCapture.cts (x : GCapture) : Nat := x.Resource.cts
theorem GCapture.cts_le (x : GCapture) : x.cts ≤ 16 * x.size := by
  simp only [GCapture.cts, GCapture.size]
  have hResource := GResource.cts_le x.Resource
  omega
@[go_sem] theorem GCapture.mks_len0 (x : GCapture) (k : Int) : ((x.mks k).Resource.Body).length = x.Resource.Body.length := mkL_len
def GChoice.mkd (x : GChoice) (k : Int) : GChoice := ⟨k, (k + 1)⟩
def GChoice.ct (x : GChoice) : Nat := 2
def GWander.mks (x : GWander) (k : Int) : GWander := { x with State := x.State.mks (k), Choices := mkL GChoice.mkd GChoice.ct x.Choices (k + (x.State.cts : Nat)), Labels := mkL iMk iCt x.Labels (k + (x.State.cts : Nat) + (ctL GChoice.ct x.Choices : Nat)) }
def GWander.cts (x : GWander) : Nat := x.State.cts + ctL GChoice.ct x.Choices + ctL iCt x.Labels
theorem GWander.cts_le (x : GWander) : x.cts ≤ 16 * x.size := by
  simp only [GWander.cts, GWander.size]
  have hState := GState.cts_le x.State
  have hChoices := ctL_le' (c := GChoice.ct) (fun y => by simp only [GChoice.ct]; omega) x.Choices
  have hLabels := ctL_le' (c := iCt) (fun y => by simp only [iCt]; omega) x.Labels
  omega
@[go_sem] theorem GWander.mks_len0 (x : GWander) (k : Int) : ((x.mks k).State.Regs).length = x.State.Regs.length := mkL_len
@[go_sem] theorem GWander.mks_len1 (x : GWander) (k : Int) : ((x.mks k).State.Slots).length = x.State.Slots.length := mkL_len
@[go_sem] theorem GWander.mks_len2 (x : GWander) (k : Int) : ((x.mks k).State.Nodes).length = x.State.Nodes.length := mkL_len
@[go_sem] theorem GWander.mks_len3 (x : GWander) (k : Int) : ((x.mks k).Choices).length = x.Choices.length := mkL_len
@[go_sem] theorem GWander.mks_len4 (x : GWander) (k : Int) : ((x.mks k).Labels).length = x.Labels.length := mkL_len
def GModel.mkd (x : GModel) (k : Int) : GModel := ⟨k, (k + 1), (k + 2), (bMk x.Fits (k + 3))⟩
def GModel.ct (x : GModel) : Nat := 4
def GShown.mkd (x : GShown) (k : Int) : GShown := ⟨k, ⟨(k + 1), (k + 2), (k + 3)⟩⟩
def GShown.ct (x : GShown) : Nat := 4
def GLeaf.mkd (x : GLeaf) (k : Int) : GLeaf := ⟨k, (k + 1), (bMk x.Hidden (k + 2)), (k + 3)⟩
def GLeaf.ct (x : GLeaf) : Nat := 4
def GEdition.mks (x : GEdition) (k : Int) : GEdition := { x with Captures := mkL GCapture.mkd GCapture.ct x.Captures (k), Hidden := mkL GAddress.mkd GAddress.ct x.Hidden (k + (ctL GCapture.ct x.Captures : Nat)) }
def GEdition.cts (x : GEdition) : Nat := ctL GCapture.ct x.Captures + ctL GAddress.ct x.Hidden
theorem GEdition.cts_le (x : GEdition) : x.cts ≤ 16 * x.size := by
  simp only [GEdition.cts, GEdition.size]
  have hCaptures := ctL_le (c := GCapture.ct) (s := GCapture.size) GCapture.ct_le x.Captures
  have hHidden := ctL_le' (c := GAddress.ct) (fun y => by simp only [GAddress.ct]; omega) x.Hidden
  omega
@[go_sem] theorem GEdition.mks_len0 (x : GEdition) (k : Int) : ((x.mks k).Captures).length = x.Captures.length := mkL_len
@[go_sem] theorem GEdition.mks_len1 (x : GEdition) (k : Int) : ((x.mks k).Hidden).length = x.Hidden.length := mkL_len
def GExclusion.mkd (x : GExclusion) (k : Int) : GExclusion := ⟨k, (k + 1), (k + 2), (k + 3), (k + 4)⟩
def GExclusion.ct (x : GExclusion) : Nat := 5
def GStatement.mkd (x : GStatement) (k : Int) : GStatement := ⟨k, (k + 1), (k + 2), (k + 3)⟩
def GStatement.ct (x : GStatement) : Nat := 4
def GLibrary.mkd (x : GLibrary) (k : Int) : GLibrary := ⟨k, (mkL iMk iCt x.Digests (k + 1)), (bMk x.Up ((k + 1) + (ctL iCt x.Digests : Nat))), (bMk x.Lies (((k + 1) + (ctL iCt x.Digests : Nat)) + 1))⟩
def GLibrary.ct (x : GLibrary) : Nat := 3 + ctL iCt x.Digests
theorem GLibrary.ct_le (x : GLibrary) : x.ct ≤ 16 * (1 + x.size) := by
  simp only [GLibrary.ct, GLibrary.size]
  have h0 := ctL_le' (c := iCt) (fun y => by simp only [iCt]; omega) x.Digests
  omega
def GLibrary.mks (x : GLibrary) (k : Int) : GLibrary := { x with Digests := mkL iMk iCt x.Digests (k) }
def GLibrary.cts (x : GLibrary) : Nat := ctL iCt x.Digests
theorem GLibrary.cts_le (x : GLibrary) : x.cts ≤ 16 * x.size := by
  simp only [GLibrary.cts, GLibrary.size]
  have hDigests := ctL_le' (c := iCt) (fun y => by simp only [iCt]; omega) x.Digests
  omega
@[go_sem] theorem GLibrary.mks_len0 (x : GLibrary) (k : Int) : ((x.mks k).Digests).length = x.Digests.length := mkL_len
def GContainer.mkd (x : GContainer) (k : Int) : GContainer := ⟨(mkL GOp.mkd GOp.ct x.Script k), (mkL GEntry.mkd GEntry.ct x.Entries (k + (ctL GOp.ct x.Script : Nat))), (mkL GCapture.mkd GCapture.ct x.Captures ((k + (ctL GOp.ct x.Script : Nat)) + (ctL GEntry.ct x.Entries : Nat))), (((k + (ctL GOp.ct x.Script : Nat)) + (ctL GEntry.ct x.Entries : Nat)) + (ctL GCapture.ct x.Captures : Nat))⟩
def GContainer.ct (x : GContainer) : Nat := 1 + ctL GOp.ct x.Script + ctL GEntry.ct x.Entries + ctL GCapture.ct x.Captures
theorem GContainer.ct_le (x : GContainer) : x.ct ≤ 16 * (1 + x.size) := by
  simp only [GContainer.ct, GContainer.size]
  have h0 := ctL_le' (c := GOp.ct) (fun y => by simp only [GOp.ct]; omega) x.Script
  have h1 := ctL_le' (c := GEntry.ct) (fun y => by simp only [GEntry.ct]; omega) x.Entries
  have h2 := ctL_le (c := GCapture.ct) (s := GCapture.size) GCapture.ct_le x.Captures
  omega
def GContainer.mks (x : GContainer) (k : Int) : GContainer := { x with Script := mkL GOp.mkd GOp.ct x.Script (k), Entries := mkL GEntry.mkd GEntry.ct x.Entries (k + (ctL GOp.ct x.Script : Nat)), Captures := mkL GCapture.mkd GCapture.ct x.Captures (k + (ctL GOp.ct x.Script : Nat) + (ctL GEntry.ct x.Entries : Nat)) }
def GContainer.cts (x : GContainer) : Nat := ctL GOp.ct x.Script + ctL GEntry.ct x.Entries + ctL GCapture.ct x.Captures
theorem GContainer.cts_le (x : GContainer) : x.cts ≤ 16 * x.size := by
  simp only [GContainer.cts, GContainer.size]
  have hScript := ctL_le' (c := GOp.ct) (fun y => by simp only [GOp.ct]; omega) x.Script
  have hEntries := ctL_le' (c := GEntry.ct) (fun y => by simp only [GEntry.ct]; omega) x.Entries
  have hCaptures := ctL_le (c := GCapture.ct) (s := GCapture.size) GCapture.ct_le x.Captures
  omega
@[go_sem] theorem GContainer.mks_len0 (x : GContainer) (k : Int) : ((x.mks k).Script).length = x.Script.length := mkL_len
@[go_sem] theorem GContainer.mks_len1 (x : GContainer) (k : Int) : ((x.mks k).Entries).length = x.Entries.length := mkL_len
@[go_sem] theorem GContainer.mks_len2 (x : GContainer) (k : Int) : ((x.mks k).Captures).length = x.Captures.length := mkL_len
def GFound.mkd (x : GFound) (k : Int) : GFound := ⟨⟨k, (k + 1), (k + 2)⟩, (k + 3), (k + 4), (k + 5)⟩
def GFound.ct (x : GFound) : Nat := 6
def GDisk.mks (x : GDisk) (k : Int) : GDisk := { x with Containers := mkL GContainer.mkd GContainer.ct x.Containers (k), Index := mkL GFound.mkd GFound.ct x.Index (k + (ctL GContainer.ct x.Containers : Nat)), Wanted := mkL GContainer.mkd GContainer.ct x.Wanted (k + (ctL GContainer.ct x.Containers : Nat) + (ctL GFound.ct x.Index : Nat)) }
def GDisk.cts (x : GDisk) : Nat := ctL GContainer.ct x.Containers + ctL GFound.ct x.Index + ctL GContainer.ct x.Wanted
theorem GDisk.cts_le (x : GDisk) : x.cts ≤ 16 * x.size := by
  simp only [GDisk.cts, GDisk.size]
  have hContainers := ctL_le (c := GContainer.ct) (s := GContainer.size) GContainer.ct_le x.Containers
  have hIndex := ctL_le' (c := GFound.ct) (fun y => by simp only [GFound.ct]; omega) x.Index
  have hWanted := ctL_le (c := GContainer.ct) (s := GContainer.size) GContainer.ct_le x.Wanted
  omega
@[go_sem] theorem GDisk.mks_len0 (x : GDisk) (k : Int) : ((x.mks k).Containers).length = x.Containers.length := mkL_len
@[go_sem] theorem GDisk.mks_len1 (x : GDisk) (k : Int) : ((x.mks k).Index).length = x.Index.length := mkL_len
@[go_sem] theorem GDisk.mks_len2 (x : GDisk) (k : Int) : ((x.mks k).Wanted).length = x.Wanted.length := mkL_len
def GArchive.mks (x : GArchive) (k : Int) : GArchive := { x with Site := mkL GVersion.mkd GVersion.ct x.Site (k), Script := mkL GOp.mkd GOp.ct x.Script (k + (ctL GVersion.ct x.Site : Nat)), Disk := x.Disk.mks (k + (ctL GVersion.ct x.Site : Nat) + (ctL GOp.ct x.Script : Nat)), Exclusions := mkL GExclusion.mkd GExclusion.ct x.Exclusions (k + (ctL GVersion.ct x.Site : Nat) + (ctL GOp.ct x.Script : Nat) + (x.Disk.cts : Nat)), Libraries := mkL GLibrary.mkd GLibrary.ct x.Libraries (k + (ctL GVersion.ct x.Site : Nat) + (ctL GOp.ct x.Script : Nat) + (x.Disk.cts : Nat) + (ctL GExclusion.ct x.Exclusions : Nat)), Keys := mkL iMk iCt x.Keys (k + (ctL GVersion.ct x.Site : Nat) + (ctL GOp.ct x.Script : Nat) + (x.Disk.cts : Nat) + (ctL GExclusion.ct x.Exclusions : Nat) + (ctL GLibrary.ct x.Libraries : Nat)), Statements := mkL GStatement.mkd GStatement.ct x.Statements (k + (ctL GVersion.ct x.Site : Nat) + (ctL GOp.ct x.Script : Nat) + (x.Disk.cts : Nat) + (ctL GExclusion.ct x.Exclusions : Nat) + (ctL GLibrary.ct x.Libraries : Nat) + (ctL iCt x.Keys : Nat)) }
def GArchive.cts (x : GArchive) : Nat := ctL GVersion.ct x.Site + ctL GOp.ct x.Script + x.Disk.cts + ctL GExclusion.ct x.Exclusions + ctL GLibrary.ct x.Libraries + ctL iCt x.Keys + ctL GStatement.ct x.Statements
theorem GArchive.cts_le (x : GArchive) : x.cts ≤ 16 * x.size := by
  simp only [GArchive.cts, GArchive.size]
  have hSite := ctL_le (c := GVersion.ct) (s := GVersion.size) GVersion.ct_le x.Site
  have hScript := ctL_le' (c := GOp.ct) (fun y => by simp only [GOp.ct]; omega) x.Script
  have hDisk := GDisk.cts_le x.Disk
  have hExclusions := ctL_le' (c := GExclusion.ct) (fun y => by simp only [GExclusion.ct]; omega) x.Exclusions
  have hLibraries := ctL_le (c := GLibrary.ct) (s := GLibrary.size) GLibrary.ct_le x.Libraries
  have hKeys := ctL_le' (c := iCt) (fun y => by simp only [iCt]; omega) x.Keys
  have hStatements := ctL_le' (c := GStatement.ct) (fun y => by simp only [GStatement.ct]; omega) x.Statements
  omega
@[go_sem] theorem GArchive.mks_len0 (x : GArchive) (k : Int) : ((x.mks k).Site).length = x.Site.length := mkL_len
@[go_sem] theorem GArchive.mks_len1 (x : GArchive) (k : Int) : ((x.mks k).Script).length = x.Script.length := mkL_len
@[go_sem] theorem GArchive.mks_len2 (x : GArchive) (k : Int) : ((x.mks k).Disk.Containers).length = x.Disk.Containers.length := mkL_len
@[go_sem] theorem GArchive.mks_len3 (x : GArchive) (k : Int) : ((x.mks k).Disk.Index).length = x.Disk.Index.length := mkL_len
@[go_sem] theorem GArchive.mks_len4 (x : GArchive) (k : Int) : ((x.mks k).Disk.Wanted).length = x.Disk.Wanted.length := mkL_len
@[go_sem] theorem GArchive.mks_len5 (x : GArchive) (k : Int) : ((x.mks k).Exclusions).length = x.Exclusions.length := mkL_len
@[go_sem] theorem GArchive.mks_len6 (x : GArchive) (k : Int) : ((x.mks k).Libraries).length = x.Libraries.length := mkL_len
@[go_sem] theorem GArchive.mks_len7 (x : GArchive) (k : Int) : ((x.mks k).Keys).length = x.Keys.length := mkL_len
@[go_sem] theorem GArchive.mks_len8 (x : GArchive) (k : Int) : ((x.mks k).Statements).length = x.Statements.length := mkL_len
def GChange.mkd (x : GChange) (k : Int) : GChange := ⟨k, (k + 1)⟩
def GChange.ct (x : GChange) : Nat := 2
def GPlayed.mks (x : GPlayed) (k : Int) : GPlayed := { x with State := x.State.mks (k) }
def GPlayed.cts (x : GPlayed) : Nat := x.State.cts
theorem GPlayed.cts_le (x : GPlayed) : x.cts ≤ 16 * x.size := by
  simp only [GPlayed.cts, GPlayed.size]
  have hState := GState.cts_le x.State
  omega
@[go_sem] theorem GPlayed.mks_len0 (x : GPlayed) (k : Int) : ((x.mks k).State.Regs).length = x.State.Regs.length := mkL_len
@[go_sem] theorem GPlayed.mks_len1 (x : GPlayed) (k : Int) : ((x.mks k).State.Slots).length = x.State.Slots.length := mkL_len
@[go_sem] theorem GPlayed.mks_len2 (x : GPlayed) (k : Int) : ((x.mks k).State.Nodes).length = x.State.Nodes.length := mkL_len
end Go.Proofs.YtbnbgekjjbpljaaR
namespace Go.Proofs.YtbnbgekjjbpljaaR
open Go Go.RowKit Go.Proofs
set_option linter.unusedSimpArgs false
set_option linter.unusedVariables false
def exSite : List GVersion := [⟨⟨1, 0, 0⟩, 0, ⟨1, [4], ⟨0, 0, 0⟩⟩⟩, ⟨⟨1, 0, 0⟩, 5, ⟨1, [6], ⟨0, 0, 0⟩⟩⟩, ⟨⟨1, 1, 1⟩, 0, ⟨2, [10], ⟨0, 0, 0⟩⟩⟩, ⟨⟨1, 1, 2⟩, 0, ⟨2, [20], ⟨0, 0, 0⟩⟩⟩, ⟨⟨1, 1, 3⟩, 0, ⟨3, [], ⟨1, 0, 0⟩⟩⟩]
theorem exSite_ct : ctL GVersion.ct exSite ≤ 100 := by decide
def m_impl_ExampleSite : MC :=
(.seq (pr [.nilo 0 0 9] [])
(.seq (pr [.build 1 [.pl (.sc (.int .i64 0)), .pl (.sc (.int .i64 0)), .pl (.sc (.int .i64 0))] [(0, 1, .c (.int .i64 1)), (1, 1, .c (.int .i64 0)), (2, 1, .c (.int .i64 0))], .lit 2 1 1 8 [.c (.int .i64 4)], .build 3 [.pl (.sc (.int .i64 0)), .emp 1, .pl (.sc (.int .i64 0)), .pl (.sc (.int .i64 0)), .pl (.sc (.int .i64 0))] [(0, 1, .c (.int .i64 1)), (1, 1, .s 2)], .build 4 [.pl (.sc (.int .i64 0)), .pl (.sc (.int .i64 0)), .pl (.sc (.int .i64 0)), .pl (.sc (.int .i64 0)), .pl (.sc (.int .i64 0)), .emp 1, .pl (.sc (.int .i64 0)), .pl (.sc (.int .i64 0)), .pl (.sc (.int .i64 0))] [(0, 3, .s 1), (3, 1, .c (.int .i64 0)), (4, 5, .s 3)], .build 5 [.pl (.sc (.int .i64 0)), .pl (.sc (.int .i64 0)), .pl (.sc (.int .i64 0))] [(0, 1, .c (.int .i64 1)), (1, 1, .c (.int .i64 0)), (2, 1, .c (.int .i64 0))], .lit 6 2 1 8 [.c (.int .i64 6)], .build 7 [.pl (.sc (.int .i64 0)), .emp 1, .pl (.sc (.int .i64 0)), .pl (.sc (.int .i64 0)), .pl (.sc (.int .i64 0))] [(0, 1, .c (.int .i64 1)), (1, 1, .s 6)], .build 8 [.pl (.sc (.int .i64 0)), .pl (.sc (.int .i64 0)), .pl (.sc (.int .i64 0)), .pl (.sc (.int .i64 0)), .pl (.sc (.int .i64 0)), .emp 1, .pl (.sc (.int .i64 0)), .pl (.sc (.int .i64 0)), .pl (.sc (.int .i64 0))] [(0, 3, .s 5), (3, 1, .c (.int .i64 5)), (4, 5, .s 7)], .build 9 [.pl (.sc (.int .i64 0)), .pl (.sc (.int .i64 0)), .pl (.sc (.int .i64 0))] [(0, 1, .c (.int .i64 1)), (1, 1, .c (.int .i64 1)), (2, 1, .c (.int .i64 1))], .lit 10 3 1 8 [.c (.int .i64 10)], .build 11 [.pl (.sc (.int .i64 0)), .emp 1, .pl (.sc (.int .i64 0)), .pl (.sc (.int .i64 0)), .pl (.sc (.int .i64 0))] [(0, 1, .c (.int .i64 2)), (1, 1, .s 10)], .build 12 [.pl (.sc (.int .i64 0)), .pl (.sc (.int .i64 0)), .pl (.sc (.int .i64 0)), .pl (.sc (.int .i64 0)), .pl (.sc (.int .i64 0)), .emp 1, .pl (.sc (.int .i64 0)), .pl (.sc (.int .i64 0)), .pl (.sc (.int .i64 0))] [(0, 3, .s 9), (3, 1, .c (.int .i64 0)), (4, 5, .s 11)], .build 13 [.pl (.sc (.int .i64 0)), .pl (.sc (.int .i64 0)), .pl (.sc (.int .i64 0))] [(0, 1, .c (.int .i64 1)), (1, 1, .c (.int .i64 1)), (2, 1, .c (.int .i64 2))], .lit 14 4 1 8 [.c (.int .i64 20)], .build 15 [.pl (.sc (.int .i64 0)), .emp 1, .pl (.sc (.int .i64 0)), .pl (.sc (.int .i64 0)), .pl (.sc (.int .i64 0))] [(0, 1, .c (.int .i64 2)), (1, 1, .s 14)], .build 16 [.pl (.sc (.int .i64 0)), .pl (.sc (.int .i64 0)), .pl (.sc (.int .i64 0)), .pl (.sc (.int .i64 0)), .pl (.sc (.int .i64 0)), .emp 1, .pl (.sc (.int .i64 0)), .pl (.sc (.int .i64 0)), .pl (.sc (.int .i64 0))] [(0, 3, .s 13), (3, 1, .c (.int .i64 0)), (4, 5, .s 15)], .build 17 [.pl (.sc (.int .i64 0)), .pl (.sc (.int .i64 0)), .pl (.sc (.int .i64 0))] [(0, 1, .c (.int .i64 1)), (1, 1, .c (.int .i64 1)), (2, 1, .c (.int .i64 3))], .build 18 [.pl (.sc (.int .i64 0)), .pl (.sc (.int .i64 0)), .pl (.sc (.int .i64 0))] [(0, 1, .c (.int .i64 1)), (1, 1, .c (.int .i64 0)), (2, 1, .c (.int .i64 0))], .build 19 [.pl (.sc (.int .i64 0)), .emp 1, .pl (.sc (.int .i64 0)), .pl (.sc (.int .i64 0)), .pl (.sc (.int .i64 0))] [(0, 1, .c (.int .i64 3)), (2, 3, .s 18)], .build 20 [.pl (.sc (.int .i64 0)), .pl (.sc (.int .i64 0)), .pl (.sc (.int .i64 0)), .pl (.sc (.int .i64 0)), .pl (.sc (.int .i64 0)), .emp 1, .pl (.sc (.int .i64 0)), .pl (.sc (.int .i64 0)), .pl (.sc (.int .i64 0))] [(0, 3, .s 17), (3, 1, .c (.int .i64 0)), (4, 5, .s 19)], .lit 21 0 9 88 [.s 4, .s 8, .s 12, .s 16, .s 20], .mv 0 (.s 21)] [0])
.ret))
theorem c_impl_ExampleSite : Ctr Try.prog n_impl_ExampleSite [] [rL 9 (exSite.map GVersion.enc)] := by
  refine ctr_at (M := m_impl_ExampleSite) (m := 5) (n := 22) (res := [(.tmp 0, [true])]) hmix Try.func6 rfl (by kernel_rfl) rfl (by kernel_rfl) (by kernel_rfl) (Nat.le_of_ble_eq_true rfl) ?_; unfold m_impl_ExampleSite
  intro hb
  clear hb
  simp only [↓bk_bind, ↓bk_map, ↓bk_ite, ↓bk_some, ↓reduceIte, Nat.reduceEqDiff, Nat.reduceLT, Nat.reduceLeDiff, Nat.reduceAdd, Nat.reduceMul, reduceCtorEq, List.reduceReplicate, go_sem]
  exact ⟨by decide, by decide, by decide, by decide, ⟨by decide, by decide⟩, rfl⟩
def m_spec_l40Version : MC :=
(.seq (pr [.box 3 1 (.s 0), .box 5 2 (.s 2), .alloc 6 3 [.pl (.sc (.int .i64 0)), .pl (.sc (.int .i64 0)), .pl (.sc (.int .i64 0)), .pl (.sc (.int .i64 0)), .pl (.sc (.int .i64 0)), .emp 1, .pl (.sc (.int .i64 0)), .pl (.sc (.int .i64 0)), .pl (.sc (.int .i64 0))]] [1,3,5,6])
(.seq (pr [.load 7 true 3 (.s 3), .mv 8 (.s 1), .load 9 true 5 (.s 5), .build 10 [.pl (.sc (.int .i64 0)), .pl (.sc (.int .i64 0)), .pl (.sc (.int .i64 0)), .pl (.sc (.int .i64 0)), .pl (.sc (.int .i64 0)), .emp 1, .pl (.sc (.int .i64 0)), .pl (.sc (.int .i64 0)), .pl (.sc (.int .i64 0))] [(0, 3, .s 7), (3, 1, .s 8), (4, 5, .s 9)], .store 9 (.s 6) (.s 10)] [6])
.ret))
theorem c_spec_l40Version (a : GAddress) (t : Int) (r : GResource) : CtrI Try.prog n_spec_l40Version [⟨true, [(false, tI a.Host), (false, tI a.Path), (false, tI a.Query)]⟩, iI t, oS r.enc] [none] [rS (GVersion.enc ⟨a, t, r⟩)] := by
  refine ctrI_at (M := m_spec_l40Version) (m := 3) (n := 11) (res := [(.cell 6 true 9, [false, false, false, false, false, true, false, false, false])]) hmix Try.func19 rfl (by kernel_rfl) rfl (by kernel_rfl) (by kernel_rfl) (Nat.le_of_ble_eq_true rfl) rfl rfl ?_; unfold m_spec_l40Version
  intro hb
  clear hb
  simp only [↓bk_bind, ↓bk_map, ↓bk_ite, ↓bk_some, ↓reduceIte, Nat.reduceEqDiff, Nat.reduceLT, Nat.reduceLeDiff, Nat.reduceAdd, Nat.reduceMul, reduceCtorEq, List.reduceReplicate, go_sem]
def m_spec_ExampleSite : MC :=
(.seq (pr [.nilo 0 0 9] [])
(.seq (pr [.build 2 [.pl (.sc (.int .i64 0)), .pl (.sc (.int .i64 0)), .pl (.sc (.int .i64 0))] [(0, 1, .c (.int .i64 1))], .alloc 1 1 [.pl (.sc (.int .i64 0)), .pl (.sc (.int .i64 0)), .pl (.sc (.int .i64 0))], .store 3 (.s 1) (.s 2)] [1])
(.seq (.dregI [{ o := .load 3 true 3 (.s 1), hs := [1000000,4,5,7,8,9,11,12,13,15,16,17,19,20,21], ho := [2,4,6,8,10] }, { o := .lit 4 2 1 8 [.c (.int .i64 4)], hs := [1000000,3,7,8,9,11,12,13,15,16,17,19,20,21], ho := [4,6,8,10], ws := [2] }, { o := .build 5 [.pl (.sc (.int .i64 0)), .emp 1, .pl (.sc (.int .i64 0)), .pl (.sc (.int .i64 0)), .pl (.sc (.int .i64 0))] [(0, 1, .c (.int .i64 1)), (1, 1, .s 4)], hs := [1000000,3,7,8,9,11,12,13,15,16,17,19,20,21], ho := [4,6,8,10], bf := [1] }, { o := .callI 6 [3] (.f n_spec_l40Version) [.s 3, .c (.int .i64 0), .s 5] [2] [], hs := [1000000,7,8,9,11,12,13,15,16,17,19,20,21], ho := [4,6,8,10], ws := [2,3], bf := [0,1,2] }, { o := .load 7 true 3 (.s 1), hs := [1000000,3,4,5,6,8,9,11,12,13,15,16,17,19,20,21], ho := [2,3,4,6,8,10] }, { o := .lit 8 4 1 8 [.c (.int .i64 6)], hs := [1000000,3,4,5,6,7,11,12,13,15,16,17,19,20,21], ho := [2,3,6,8,10], ws := [4] }, { o := .build 9 [.pl (.sc (.int .i64 0)), .emp 1, .pl (.sc (.int .i64 0)), .pl (.sc (.int .i64 0)), .pl (.sc (.int .i64 0))] [(0, 1, .c (.int .i64 1)), (1, 1, .s 8)], hs := [1000000,3,4,5,6,7,11,12,13,15,16,17,19,20,21], ho := [2,3,6,8,10], bf := [5] }, { o := .callI 10 [5] (.f n_spec_l40Version) [.s 7, .c (.int .i64 5), .s 9] [4] [], hs := [1000000,11,12,13,15,16,17,19,20,21], ho := [6,8,10], ws := [4,5], bf := [0,1,2,3,4,5,6] }, { o := .build 11 [.pl (.sc (.int .i64 0)), .pl (.sc (.int .i64 0)), .pl (.sc (.int .i64 0))] [(0, 1, .c (.int .i64 1)), (1, 1, .c (.int .i64 1)), (2, 1, .c (.int .i64 1))], hs := [1000000,3,4,5,6,7,8,9,10,12,13,15,16,17,19,20,21], ho := [2,3,4,5,6,8,10] }, { o := .lit 12 6 1 8 [.c (.int .i64 10)], hs := [1000000,3,4,5,6,7,8,9,10,11,15,16,17,19,20,21], ho := [2,3,4,5,8,10], ws := [6] }, { o := .build 13 [.pl (.sc (.int .i64 0)), .emp 1, .pl (.sc (.int .i64 0)), .pl (.sc (.int .i64 0)), .pl (.sc (.int .i64 0))] [(0, 1, .c (.int .i64 2)), (1, 1, .s 12)], hs := [1000000,3,4,5,6,7,8,9,10,11,15,16,17,19,20,21], ho := [2,3,4,5,8,10], bf := [9] }, { o := .callI 14 [7] (.f n_spec_l40Version) [.s 11, .c (.int .i64 0), .s 13] [6] [], hs := [1000000,15,16,17,19,20,21], ho := [8,10], ws := [6,7], bf := [0,1,2,3,4,5,6,7,8,9,10] }, { o := .build 15 [.pl (.sc (.int .i64 0)), .pl (.sc (.int .i64 0)), .pl (.sc (.int .i64 0))] [(0, 1, .c (.int .i64 1)), (1, 1, .c (.int .i64 1)), (2, 1, .c (.int .i64 2))], hs := [1000000,3,4,5,6,7,8,9,10,11,12,13,14,16,17,19,20,21], ho := [2,3,4,5,6,7,8,10] }, { o := .lit 16 8 1 8 [.c (.int .i64 20)], hs := [1000000,3,4,5,6,7,8,9,10,11,12,13,14,15,19,20,21], ho := [2,3,4,5,6,7,10], ws := [8] }, { o := .build 17 [.pl (.sc (.int .i64 0)), .emp 1, .pl (.sc (.int .i64 0)), .pl (.sc (.int .i64 0)), .pl (.sc (.int .i64 0))] [(0, 1, .c (.int .i64 2)), (1, 1, .s 16)], hs := [1000000,3,4,5,6,7,8,9,10,11,12,13,14,15,19,20,21], ho := [2,3,4,5,6,7,10], bf := [13] }, { o := .callI 18 [9] (.f n_spec_l40Version) [.s 15, .c (.int .i64 0), .s 17] [8] [], hs := [1000000,19,20,21], ho := [10], ws := [8,9], bf := [0,1,2,3,4,5,6,7,8,9,10,11,12,13,14] }, { o := .build 19 [.pl (.sc (.int .i64 0)), .pl (.sc (.int .i64 0)), .pl (.sc (.int .i64 0))] [(0, 1, .c (.int .i64 1)), (1, 1, .c (.int .i64 1)), (2, 1, .c (.int .i64 3))], hs := [1000000,3,4,5,6,7,8,9,10,11,12,13,14,15,16,17,18,20,21], ho := [2,3,4,5,6,7,8,9,10] }, { o := .load 20 true 3 (.s 1), hs := [1000000,3,4,5,6,7,8,9,10,11,12,13,14,15,16,17,18,19], ho := [2,3,4,5,6,7,8,9] }, { o := .buildO 21 [.pl (.sc (.int .i64 0)), .emp 1, .pl (.sc (.int .i64 0)), .pl (.sc (.int .i64 0)), .pl (.sc (.int .i64 0))] [(0, 1, .c (.int .i64 3)), (2, 3, .s 20)] [none, some 10, none, none, none], hs := [1000000,3,4,5,6,7,8,9,10,11,12,13,14,15,16,17,18,19], ho := [2,3,4,5,6,7,8,9], ws := [10], bf := [17] }, { o := .callI 22 [11] (.f n_spec_l40Version) [.s 19, .c (.int .i64 0), .s 21] [10] [], hs := [1000000], ws := [10,11], bf := [0,1,2,3,4,5,6,7,8,9,10,11,12,13,14,15,16,17,18] }, { o := .lit 23 0 9 88 [.s 6, .s 10, .s 14, .s 18, .s 22], ws := [0,3,5,7,9,11], bf := [0,1,2,3,4,5,6,7,8,9,10,11,12,13,14,15,16,17,18,19] }, { o := .mv 0 (.s 23), bf := [0,1,2,3,4,5,6,7,8,9,10,11,12,13,14,15,16,17,18,19,20] }] [0])
.ret)))
theorem c_spec_ExampleSite : Ctr Try.prog n_spec_ExampleSite [] [rL 9 (exSite.map GVersion.enc)] := by
  refine ctr_at (M := m_spec_ExampleSite) (m := 12) (n := 24) (res := [(.tmp 0, [true])]) hmix Try.func5 rfl (by kernel_rfl) rfl (by kernel_rfl) (by kernel_rfl) (Nat.le_of_ble_eq_true rfl) ?_; unfold m_spec_ExampleSite
  intro hb
  clear hb
  simp only [↓bk_bind, ↓bk_map, ↓bk_ite, ↓bk_some, ↓reduceIte, Nat.reduceEqDiff, Nat.reduceLT, Nat.reduceLeDiff, Nat.reduceAdd, Nat.reduceMul, reduceCtorEq, List.reduceReplicate, go_sem]
  refine ⟨by decide, ?_⟩
  apply callIK_of (c_spec_l40Version ⟨1, 0, 0⟩ 0 ⟨1, [4], ⟨0, 0, 0⟩⟩)
  simp only [↓bk_bind, ↓bk_map, ↓bk_ite, ↓bk_some, ↓reduceIte, Nat.reduceEqDiff, Nat.reduceLT, Nat.reduceLeDiff, Nat.reduceAdd, Nat.reduceMul, reduceCtorEq, List.reduceReplicate, go_sem]
  try intros
  refine ⟨by decide, ?_⟩
  apply callIK_of (c_spec_l40Version ⟨1, 0, 0⟩ 5 ⟨1, [6], ⟨0, 0, 0⟩⟩)
  simp only [↓bk_bind, ↓bk_map, ↓bk_ite, ↓bk_some, ↓reduceIte, Nat.reduceEqDiff, Nat.reduceLT, Nat.reduceLeDiff, Nat.reduceAdd, Nat.reduceMul, reduceCtorEq, List.reduceReplicate, go_sem]
  try intros
  refine ⟨by decide, ?_⟩
  apply callIK_of (c_spec_l40Version ⟨1, 1, 1⟩ 0 ⟨2, [10], ⟨0, 0, 0⟩⟩)
  simp only [↓bk_bind, ↓bk_map, ↓bk_ite, ↓bk_some, ↓reduceIte, Nat.reduceEqDiff, Nat.reduceLT, Nat.reduceLeDiff, Nat.reduceAdd, Nat.reduceMul, reduceCtorEq, List.reduceReplicate, go_sem]
  try intros
  refine ⟨by decide, ?_⟩
  apply callIK_of (c_spec_l40Version ⟨1, 1, 2⟩ 0 ⟨2, [20], ⟨0, 0, 0⟩⟩)
  simp only [↓bk_bind, ↓bk_map, ↓bk_ite, ↓bk_some, ↓reduceIte, Nat.reduceEqDiff, Nat.reduceLT, Nat.reduceLeDiff, Nat.reduceAdd, Nat.reduceMul, reduceCtorEq, List.reduceReplicate, go_sem]
  try intros
  apply callIK_of (c_spec_l40Version ⟨1, 1, 3⟩ 0 ⟨3, [], ⟨1, 0, 0⟩⟩)
  simp only [↓bk_bind, ↓bk_map, ↓bk_ite, ↓bk_some, ↓reduceIte, Nat.reduceEqDiff, Nat.reduceLT, Nat.reduceLeDiff, Nat.reduceAdd, Nat.reduceMul, reduceCtorEq, List.reduceReplicate, go_sem]
  try intros
  exact ⟨⟨by decide, by decide⟩, rfl⟩
end Go.Proofs.YtbnbgekjjbpljaaR
namespace Go.Proofs.YtbnbgekjjbpljaaR
open Go Go.RowKit Go.Proofs
set_option linter.unusedSimpArgs false
set_option linter.unusedVariables false
def m_laws_FnExactExampleSite : MC :=
(.seq (pr [.mv 0 (.c (.bool false))] [])
(.seq (pr [.call 6 [0] (.f n_spec_ExampleSite) [], .mv 1 (.s 6)] [1])
(.seq (pr [.call 7 [1] (.f n_impl_ExampleSite) [], .mv 2 (.s 7)] [1,2])
(.seq (.seq (pr [.mv 8 (.s 2), .mv 9 (.s 1), .call 10 [] (.f n_laws_eqVersionS) [.s 8, .s 9], .un 11 .not (.s 10)] [1,2,11])
(.cond (.s 11) (.seq (pr [.mv 0 (.c (.bool false))] [0])
.ret) .skip))
(.seq (pr [.mv 3 (.c (.int .i64 1))] [1,2,3])
(.seq (pr [.mv 12 (.s 2), .mv 13 (.s 3), .callI 14 [] (.f n_laws_markVersionS) [.s 12, .s 13] [1] [], .mv 3 (.s 14)] [1,2,3])
(.seq (pr [.mv 4 (.c (.int .i64 1))] [1,2,3,4])
(.seq (pr [.mv 15 (.s 2), .mv 16 (.s 4), .call 17 [] (.f n_laws_heldVersionS) [.s 15, .s 16], .mv 4 (.s 17)] [1,2,3,4])
(.seq (.seq (pr [.mv 18 (.s 4), .bin 19 false .lss (.s 18) (.c (.int .i64 0))] [1,2,3,4,19])
(.cond (.s 19) (.seq (pr [.mv 0 (.c (.bool false))] [0])
.ret) .skip))
(.seq (.seq (pr [.mv 20 (.s 4), .mv 21 (.s 3), .bin 22 false .neq (.s 20) (.s 21)] [1,2,3,22])
(.cond (.s 22) (.seq (pr [.mv 0 (.c (.bool false))] [0])
.ret) .skip))
(.seq (pr [.call 23 [2] (.f n_impl_ExampleSite) [], .mv 5 (.s 23)] [1,2,3,5])
(.seq (.seq (pr [.mv 24 (.s 5), .mv 25 (.s 1), .call 26 [] (.f n_laws_eqVersionS) [.s 24, .s 25], .un 27 .not (.s 26)] [2,3,27])
(.cond (.s 27) (.seq (pr [.mv 0 (.c (.bool false))] [0])
.ret) .skip))
(.seq (pr [.mv 4 (.c (.int .i64 1))] [2,3,4])
(.seq (pr [.mv 28 (.s 2), .mv 29 (.s 4), .call 30 [] (.f n_laws_heldVersionS) [.s 28, .s 29], .mv 4 (.s 30)] [3,4])
(.seq (.seq (pr [.mv 31 (.s 4), .bin 32 false .lss (.s 31) (.c (.int .i64 0))] [3,4,32])
(.cond (.s 32) (.seq (pr [.mv 0 (.c (.bool false))] [0])
.ret) .skip))
(.seq (.seq (pr [.mv 33 (.s 4), .mv 34 (.s 3), .bin 35 false .neq (.s 33) (.s 34)] [35])
(.cond (.s 35) (.seq (pr [.mv 0 (.c (.bool false))] [0])
.ret) .skip))
(.seq (pr [.mv 0 (.c (.bool true))] [0])
.ret)))))))))))))))))
theorem c_laws_FnExactExampleSite  : Ctr Try.prog n_laws_FnExactExampleSite [] [rB true] := by
  refine ctr_at (M := m_laws_FnExactExampleSite) (m := 3) (n := 36) (res := [(.tmp 0, [false])]) hmix Try.func3 rfl (by kernel_rfl) rfl (by kernel_rfl) (by kernel_rfl) (Nat.le_of_ble_eq_true rfl) ?_; unfold m_laws_FnExactExampleSite
  intro hb
  clear hb
  simp only [↓bk_bind, ↓bk_map, ↓bk_ite, ↓bk_some, ↓reduceIte, Nat.reduceEqDiff, Nat.reduceLT, Nat.reduceLeDiff, Nat.reduceAdd, Nat.reduceMul, reduceCtorEq, List.reduceReplicate, go_sem]
  have hr0 := exSite_ct
  apply callK_of (c_spec_ExampleSite )
  simp only [↓bk_bind, ↓bk_map, ↓bk_ite, ↓bk_some, ↓reduceIte, Nat.reduceEqDiff, Nat.reduceLT, Nat.reduceLeDiff, Nat.reduceAdd, Nat.reduceMul, reduceCtorEq, List.reduceReplicate, go_sem]
  try intros
  apply callK_of (c_impl_ExampleSite )
  simp only [↓bk_bind, ↓bk_map, ↓bk_ite, ↓bk_some, ↓reduceIte, Nat.reduceEqDiff, Nat.reduceLT, Nat.reduceLeDiff, Nat.reduceAdd, Nat.reduceMul, reduceCtorEq, List.reduceReplicate, go_sem]
  try intros
  apply callK_of (c_laws_eqVersionS (exSite) (exSite))
  simp only [↓bk_bind, ↓bk_map, ↓bk_ite, ↓bk_some, ↓reduceIte, Nat.reduceEqDiff, Nat.reduceLT, Nat.reduceLeDiff, Nat.reduceAdd, Nat.reduceMul, reduceCtorEq, List.reduceReplicate, go_sem]
  try intros
  apply callIK_of (c_laws_markVersionS (exSite) (1) (by omega) (by omega))
  simp only [↓bk_bind, ↓bk_map, ↓bk_ite, ↓bk_some, ↓reduceIte, Nat.reduceEqDiff, Nat.reduceLT, Nat.reduceLeDiff, Nat.reduceAdd, Nat.reduceMul, reduceCtorEq, List.reduceReplicate, go_sem]
  try intros
  apply callK_of (c_laws_heldVersionS (exSite) (1) (by omega) (by omega))
  simp only [↓bk_bind, ↓bk_map, ↓bk_ite, ↓bk_some, ↓reduceIte, Nat.reduceEqDiff, Nat.reduceLT, Nat.reduceLeDiff, Nat.reduceAdd, Nat.reduceMul, reduceCtorEq, List.reduceReplicate, go_sem]
  have hq0 : ¬ ((1 + (ctL GVersion.ct (exSite) : Nat) : Int)) < 0 := by omega
  try simp only [↓bk_bind, ↓bk_map, ↓bk_ite, ↓bk_some, ↓reduceIte, Nat.reduceEqDiff, Nat.reduceLT, Nat.reduceLeDiff, Nat.reduceAdd, Nat.reduceMul, reduceCtorEq, List.reduceReplicate, go_sem, hq0]
  try intros
  apply callK_of (c_impl_ExampleSite )
  simp only [↓bk_bind, ↓bk_map, ↓bk_ite, ↓bk_some, ↓reduceIte, Nat.reduceEqDiff, Nat.reduceLT, Nat.reduceLeDiff, Nat.reduceAdd, Nat.reduceMul, reduceCtorEq, List.reduceReplicate, go_sem]
  try intros
  apply callK_of (c_laws_eqVersionS (exSite) (exSite))
  simp only [↓bk_bind, ↓bk_map, ↓bk_ite, ↓bk_some, ↓reduceIte, Nat.reduceEqDiff, Nat.reduceLT, Nat.reduceLeDiff, Nat.reduceAdd, Nat.reduceMul, reduceCtorEq, List.reduceReplicate, go_sem]
  try intros
  apply callK_of (c_laws_heldVersionS (exSite) (1) (by omega) (by omega))
  simp only [↓bk_bind, ↓bk_map, ↓bk_ite, ↓bk_some, ↓reduceIte, Nat.reduceEqDiff, Nat.reduceLT, Nat.reduceLeDiff, Nat.reduceAdd, Nat.reduceMul, reduceCtorEq, List.reduceReplicate, go_sem]
  have hq0 : ¬ ((1 + (ctL GVersion.ct (exSite) : Nat) : Int)) < 0 := by omega
  try simp only [↓bk_bind, ↓bk_map, ↓bk_ite, ↓bk_some, ↓reduceIte, Nat.reduceEqDiff, Nat.reduceLT, Nat.reduceLeDiff, Nat.reduceAdd, Nat.reduceMul, reduceCtorEq, List.reduceReplicate, go_sem, hq0]
  try intros
end Go.Proofs.YtbnbgekjjbpljaaR
