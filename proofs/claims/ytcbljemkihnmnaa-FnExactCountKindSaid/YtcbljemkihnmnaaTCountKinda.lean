/- What the functions compute that the law of CountKind reaches: contracts, function by function. Conditions stand in each theorem. -/
import Derived.Test.YtcbljemkihnmnaaProg
import Derived.KernelRfl
import Derived.Test.YtcbljemkihnmnaaRab
namespace Go.Proofs.YtcbljemkihnmnaaR
open Go Go.RowKit
def encI (n : Int) : List T := [tI n]
def encB (b : Bool) : List T := [tB b]
theorem int_of {ts : List T} (h : IsT .int ts) : ∃ n, ts = encI n := h
theorem list_of {α : Type} {enc : α → List T} {ty : DT} (h : ∀ {ts}, IsT ty ts → ∃ x, ts = enc x) : ∀ {es : List (List T)}, (∀ x ∈ es, IsT ty x) → ∃ xs : List α, es = xs.map enc
  | [], _ => ⟨[], rfl⟩
  | e :: es, k => by
    obtain ⟨x, rfl⟩ := h (k e (by simp))
    obtain ⟨xs, hx⟩ := list_of h (es := es) fun y hy => k y (by simp [hy])
    subst hx
    exact ⟨x :: xs, rfl⟩
theorem encI_inj {a b : Int} (h : encI a = encI b) : a = b := by simpa [encI] using h
structure GAddress where
  Host : Int
  Path : Int
  Query : Int
  deriving DecidableEq
def GAddress.enc (x : GAddress) : List T := [tI x.Host, tI x.Path, tI x.Query]
def GAddress.dt : DT := .st (.fc .int (.fc .int (.fc .int .fn)))
theorem GAddress.of {ts : List T} (h : IsT GAddress.dt ts) : ∃ x : GAddress, ts = x.enc := by
  simp only [GAddress.dt, IsT] at h
  obtain ⟨_, _, rfl, ⟨v0, rfl⟩, _, _, rfl, ⟨v1, rfl⟩, _, _, rfl, ⟨v2, rfl⟩, rfl⟩ := h
  exact ⟨⟨v0, v1, v2⟩, rfl⟩
structure GResource where
  Kind : Int
  Body : List Int
  To : GAddress
  deriving DecidableEq
def GResource.enc (x : GResource) : List T := [tI x.Kind, .sl 1 (x.Body.map encI), tI x.To.Host, tI x.To.Path, tI x.To.Query]
def GResource.dt : DT := .st (.fc .int (.fc (.sl .int) (.fc GAddress.dt .fn)))
theorem GResource.of {ts : List T} (h : IsT GResource.dt ts) : ∃ x : GResource, ts = x.enc := by
  simp only [GResource.dt, IsT] at h
  obtain ⟨_, _, rfl, ⟨v0, rfl⟩, _, _, rfl, ⟨l1, rfl, k1⟩, _, _, rfl, k2, rfl⟩ := h
  obtain ⟨v1, rfl⟩ := list_of int_of k1
  obtain ⟨v2, rfl⟩ := GAddress.of k2
  exact ⟨⟨v0, v1, v2⟩, rfl⟩
def GResource.size (x : GResource) : Nat := (x.Body.length)
structure GPart where
  Digest : Int
  Resource : GResource
  Uses : Int
  deriving DecidableEq
def GPart.enc (x : GPart) : List T := [tI x.Digest, tI x.Resource.Kind, .sl 1 (x.Resource.Body.map encI), tI x.Resource.To.Host, tI x.Resource.To.Path, tI x.Resource.To.Query, tI x.Uses]
def GPart.dt : DT := .st (.fc .int (.fc GResource.dt (.fc .int .fn)))
theorem GPart.of {ts : List T} (h : IsT GPart.dt ts) : ∃ x : GPart, ts = x.enc := by
  simp only [GPart.dt, IsT] at h
  obtain ⟨_, _, rfl, ⟨v0, rfl⟩, _, _, rfl, k1, _, _, rfl, ⟨v2, rfl⟩, rfl⟩ := h
  obtain ⟨v1, rfl⟩ := GResource.of k1
  exact ⟨⟨v0, v1, v2⟩, rfl⟩
def GPart.size (x : GPart) : Nat := (x.Resource.size)
structure GPiece where
  From : Int
  Count : Int
  New : List Int
  deriving DecidableEq
def GPiece.enc (x : GPiece) : List T := [tI x.From, tI x.Count, .sl 1 (x.New.map encI)]
def GPiece.dt : DT := .st (.fc .int (.fc .int (.fc (.sl .int) .fn)))
theorem GPiece.of {ts : List T} (h : IsT GPiece.dt ts) : ∃ x : GPiece, ts = x.enc := by
  simp only [GPiece.dt, IsT] at h
  obtain ⟨_, _, rfl, ⟨v0, rfl⟩, _, _, rfl, ⟨v1, rfl⟩, _, _, rfl, ⟨l2, rfl, k2⟩, rfl⟩ := h
  obtain ⟨v2, rfl⟩ := list_of int_of k2
  exact ⟨⟨v0, v1, v2⟩, rfl⟩
def GPiece.size (x : GPiece) : Nat := (x.New.length)
structure GVersion where
  Address : GAddress
  From : Int
  Resource : GResource
  deriving DecidableEq
def GVersion.enc (x : GVersion) : List T := [tI x.Address.Host, tI x.Address.Path, tI x.Address.Query, tI x.From, tI x.Resource.Kind, .sl 1 (x.Resource.Body.map encI), tI x.Resource.To.Host, tI x.Resource.To.Path, tI x.Resource.To.Query]
def GVersion.dt : DT := .st (.fc GAddress.dt (.fc .int (.fc GResource.dt .fn)))
theorem GVersion.of {ts : List T} (h : IsT GVersion.dt ts) : ∃ x : GVersion, ts = x.enc := by
  simp only [GVersion.dt, IsT] at h
  obtain ⟨_, _, rfl, k0, _, _, rfl, ⟨v1, rfl⟩, _, _, rfl, k2, rfl⟩ := h
  obtain ⟨v0, rfl⟩ := GAddress.of k0
  obtain ⟨v2, rfl⟩ := GResource.of k2
  exact ⟨⟨v0, v1, v2⟩, rfl⟩
def GVersion.size (x : GVersion) : Nat := (x.Resource.size)
structure GOp where
  Kind : Int
  A : Int
  B : Int
  C : Int
  deriving DecidableEq
def GOp.enc (x : GOp) : List T := [tI x.Kind, tI x.A, tI x.B, tI x.C]
def GOp.dt : DT := .st (.fc .int (.fc .int (.fc .int (.fc .int .fn))))
theorem GOp.of {ts : List T} (h : IsT GOp.dt ts) : ∃ x : GOp, ts = x.enc := by
  simp only [GOp.dt, IsT] at h
  obtain ⟨_, _, rfl, ⟨v0, rfl⟩, _, _, rfl, ⟨v1, rfl⟩, _, _, rfl, ⟨v2, rfl⟩, _, _, rfl, ⟨v3, rfl⟩, rfl⟩ := h
  exact ⟨⟨v0, v1, v2, v3⟩, rfl⟩
structure GState where
  Pc : Int
  Regs : List Int
  Slots : List Int
  Nodes : List Int
  deriving DecidableEq
def GState.enc (x : GState) : List T := [tI x.Pc, .sl 1 (x.Regs.map encI), .sl 1 (x.Slots.map encI), .sl 1 (x.Nodes.map encI)]
def GState.dt : DT := .st (.fc .int (.fc (.sl .int) (.fc (.sl .int) (.fc (.sl .int) .fn))))
theorem GState.of {ts : List T} (h : IsT GState.dt ts) : ∃ x : GState, ts = x.enc := by
  simp only [GState.dt, IsT] at h
  obtain ⟨_, _, rfl, ⟨v0, rfl⟩, _, _, rfl, ⟨l1, rfl, k1⟩, _, _, rfl, ⟨l2, rfl, k2⟩, _, _, rfl, ⟨l3, rfl, k3⟩, rfl⟩ := h
  obtain ⟨v1, rfl⟩ := list_of int_of k1
  obtain ⟨v2, rfl⟩ := list_of int_of k2
  obtain ⟨v3, rfl⟩ := list_of int_of k3
  exact ⟨⟨v0, v1, v2, v3⟩, rfl⟩
def GState.size (x : GState) : Nat := (x.Regs.length) + (x.Slots.length) + (x.Nodes.length)
structure GVisit where
  Site : List GVersion
  Tick : Int
  Seed : Int
  Inputs : List Int
  deriving DecidableEq
def GVisit.enc (x : GVisit) : List T := [.sl 9 (x.Site.map GVersion.enc), tI x.Tick, tI x.Seed, .sl 1 (x.Inputs.map encI)]
def GVisit.dt : DT := .st (.fc (.sl GVersion.dt) (.fc .int (.fc .int (.fc (.sl .int) .fn))))
theorem GVisit.of {ts : List T} (h : IsT GVisit.dt ts) : ∃ x : GVisit, ts = x.enc := by
  simp only [GVisit.dt, IsT] at h
  obtain ⟨_, _, rfl, ⟨l0, rfl, k0⟩, _, _, rfl, ⟨v1, rfl⟩, _, _, rfl, ⟨v2, rfl⟩, _, _, rfl, ⟨l3, rfl, k3⟩, rfl⟩ := h
  obtain ⟨v0, rfl⟩ := list_of GVersion.of k0
  obtain ⟨v3, rfl⟩ := list_of int_of k3
  exact ⟨⟨v0, v1, v2, v3⟩, rfl⟩
def GVisit.size (x : GVisit) : Nat := (x.Site.length + (x.Site.map GVersion.size).sum) + (x.Inputs.length)
structure GWant where
  Kind : Int
  Address : GAddress
  deriving DecidableEq
def GWant.enc (x : GWant) : List T := [tI x.Kind, tI x.Address.Host, tI x.Address.Path, tI x.Address.Query]
def GWant.dt : DT := .st (.fc .int (.fc GAddress.dt .fn))
theorem GWant.of {ts : List T} (h : IsT GWant.dt ts) : ∃ x : GWant, ts = x.enc := by
  simp only [GWant.dt, IsT] at h
  obtain ⟨_, _, rfl, ⟨v0, rfl⟩, _, _, rfl, k1, rfl⟩ := h
  obtain ⟨v1, rfl⟩ := GAddress.of k1
  exact ⟨⟨v0, v1⟩, rfl⟩
structure GEntry where
  Kind : Int
  Address : GAddress
  Value : Int
  deriving DecidableEq
def GEntry.enc (x : GEntry) : List T := [tI x.Kind, tI x.Address.Host, tI x.Address.Path, tI x.Address.Query, tI x.Value]
def GEntry.dt : DT := .st (.fc .int (.fc GAddress.dt (.fc .int .fn)))
theorem GEntry.of {ts : List T} (h : IsT GEntry.dt ts) : ∃ x : GEntry, ts = x.enc := by
  simp only [GEntry.dt, IsT] at h
  obtain ⟨_, _, rfl, ⟨v0, rfl⟩, _, _, rfl, k1, _, _, rfl, ⟨v2, rfl⟩, rfl⟩ := h
  obtain ⟨v1, rfl⟩ := GAddress.of k1
  exact ⟨⟨v0, v1, v2⟩, rfl⟩
structure GCapture where
  Address : GAddress
  Tick : Int
  Resource : GResource
  deriving DecidableEq
def GCapture.enc (x : GCapture) : List T := [tI x.Address.Host, tI x.Address.Path, tI x.Address.Query, tI x.Tick, tI x.Resource.Kind, .sl 1 (x.Resource.Body.map encI), tI x.Resource.To.Host, tI x.Resource.To.Path, tI x.Resource.To.Query]
def GCapture.dt : DT := .st (.fc GAddress.dt (.fc .int (.fc GResource.dt .fn)))
theorem GCapture.of {ts : List T} (h : IsT GCapture.dt ts) : ∃ x : GCapture, ts = x.enc := by
  simp only [GCapture.dt, IsT] at h
  obtain ⟨_, _, rfl, k0, _, _, rfl, ⟨v1, rfl⟩, _, _, rfl, k2, rfl⟩ := h
  obtain ⟨v0, rfl⟩ := GAddress.of k0
  obtain ⟨v2, rfl⟩ := GResource.of k2
  exact ⟨⟨v0, v1, v2⟩, rfl⟩
def GCapture.size (x : GCapture) : Nat := (x.Resource.size)
structure GChoice where
  Rule : Int
  At : Int
  deriving DecidableEq
def GChoice.enc (x : GChoice) : List T := [tI x.Rule, tI x.At]
def GChoice.dt : DT := .st (.fc .int (.fc .int .fn))
theorem GChoice.of {ts : List T} (h : IsT GChoice.dt ts) : ∃ x : GChoice, ts = x.enc := by
  simp only [GChoice.dt, IsT] at h
  obtain ⟨_, _, rfl, ⟨v0, rfl⟩, _, _, rfl, ⟨v1, rfl⟩, rfl⟩ := h
  exact ⟨⟨v0, v1⟩, rfl⟩
structure GWander where
  State : GState
  Choices : List GChoice
  Labels : List Int
  Missing : Int
  deriving DecidableEq
def GWander.enc (x : GWander) : List T := [tI x.State.Pc, .sl 1 (x.State.Regs.map encI), .sl 1 (x.State.Slots.map encI), .sl 1 (x.State.Nodes.map encI), .sl 2 (x.Choices.map GChoice.enc), .sl 1 (x.Labels.map encI), tI x.Missing]
def GWander.dt : DT := .st (.fc GState.dt (.fc (.sl GChoice.dt) (.fc (.sl .int) (.fc .int .fn))))
theorem GWander.of {ts : List T} (h : IsT GWander.dt ts) : ∃ x : GWander, ts = x.enc := by
  simp only [GWander.dt, IsT] at h
  obtain ⟨_, _, rfl, k0, _, _, rfl, ⟨l1, rfl, k1⟩, _, _, rfl, ⟨l2, rfl, k2⟩, _, _, rfl, ⟨v3, rfl⟩, rfl⟩ := h
  obtain ⟨v0, rfl⟩ := GState.of k0
  obtain ⟨v1, rfl⟩ := list_of GChoice.of k1
  obtain ⟨v2, rfl⟩ := list_of int_of k2
  exact ⟨⟨v0, v1, v2, v3⟩, rfl⟩
def GWander.size (x : GWander) : Nat := (x.State.size) + (x.Choices.length) + (x.Labels.length)
structure GModel where
  Base : Int
  Step : Int
  Seen : Int
  Fits : Bool
  deriving DecidableEq
def GModel.enc (x : GModel) : List T := [tI x.Base, tI x.Step, tI x.Seen, tB x.Fits]
def GModel.dt : DT := .st (.fc .int (.fc .int (.fc .int (.fc .bool .fn))))
theorem GModel.of {ts : List T} (h : IsT GModel.dt ts) : ∃ x : GModel, ts = x.enc := by
  simp only [GModel.dt, IsT] at h
  obtain ⟨_, _, rfl, ⟨v0, rfl⟩, _, _, rfl, ⟨v1, rfl⟩, _, _, rfl, ⟨v2, rfl⟩, _, _, rfl, ⟨v3, rfl⟩, rfl⟩ := h
  exact ⟨⟨v0, v1, v2, v3⟩, rfl⟩
structure GShown where
  Tick : Int
  Address : GAddress
  deriving DecidableEq
def GShown.enc (x : GShown) : List T := [tI x.Tick, tI x.Address.Host, tI x.Address.Path, tI x.Address.Query]
def GShown.dt : DT := .st (.fc .int (.fc GAddress.dt .fn))
theorem GShown.of {ts : List T} (h : IsT GShown.dt ts) : ∃ x : GShown, ts = x.enc := by
  simp only [GShown.dt, IsT] at h
  obtain ⟨_, _, rfl, ⟨v0, rfl⟩, _, _, rfl, k1, rfl⟩ := h
  obtain ⟨v1, rfl⟩ := GAddress.of k1
  exact ⟨⟨v0, v1⟩, rfl⟩
structure GLeaf where
  Value : Int
  Salt : Int
  Hidden : Bool
  Seal : Int
  deriving DecidableEq
def GLeaf.enc (x : GLeaf) : List T := [tI x.Value, tI x.Salt, tB x.Hidden, tI x.Seal]
def GLeaf.dt : DT := .st (.fc .int (.fc .int (.fc .bool (.fc .int .fn))))
theorem GLeaf.of {ts : List T} (h : IsT GLeaf.dt ts) : ∃ x : GLeaf, ts = x.enc := by
  simp only [GLeaf.dt, IsT] at h
  obtain ⟨_, _, rfl, ⟨v0, rfl⟩, _, _, rfl, ⟨v1, rfl⟩, _, _, rfl, ⟨v2, rfl⟩, _, _, rfl, ⟨v3, rfl⟩, rfl⟩ := h
  exact ⟨⟨v0, v1, v2, v3⟩, rfl⟩
structure GEdition where
  Captures : List GCapture
  From : Int
  Until : Int
  Hidden : List GAddress
  deriving DecidableEq
def GEdition.enc (x : GEdition) : List T := [.sl 9 (x.Captures.map GCapture.enc), tI x.From, tI x.Until, .sl 3 (x.Hidden.map GAddress.enc)]
def GEdition.dt : DT := .st (.fc (.sl GCapture.dt) (.fc .int (.fc .int (.fc (.sl GAddress.dt) .fn))))
theorem GEdition.of {ts : List T} (h : IsT GEdition.dt ts) : ∃ x : GEdition, ts = x.enc := by
  simp only [GEdition.dt, IsT] at h
  obtain ⟨_, _, rfl, ⟨l0, rfl, k0⟩, _, _, rfl, ⟨v1, rfl⟩, _, _, rfl, ⟨v2, rfl⟩, _, _, rfl, ⟨l3, rfl, k3⟩, rfl⟩ := h
  obtain ⟨v0, rfl⟩ := list_of GCapture.of k0
  obtain ⟨v3, rfl⟩ := list_of GAddress.of k3
  exact ⟨⟨v0, v1, v2, v3⟩, rfl⟩
def GEdition.size (x : GEdition) : Nat := (x.Captures.length + (x.Captures.map GCapture.size).sum) + (x.Hidden.length)
structure GExclusion where
  Host : Int
  Path : Int
  From : Int
  Until : Int
  Asked : Int
  deriving DecidableEq
def GExclusion.enc (x : GExclusion) : List T := [tI x.Host, tI x.Path, tI x.From, tI x.Until, tI x.Asked]
def GExclusion.dt : DT := .st (.fc .int (.fc .int (.fc .int (.fc .int (.fc .int .fn)))))
theorem GExclusion.of {ts : List T} (h : IsT GExclusion.dt ts) : ∃ x : GExclusion, ts = x.enc := by
  simp only [GExclusion.dt, IsT] at h
  obtain ⟨_, _, rfl, ⟨v0, rfl⟩, _, _, rfl, ⟨v1, rfl⟩, _, _, rfl, ⟨v2, rfl⟩, _, _, rfl, ⟨v3, rfl⟩, _, _, rfl, ⟨v4, rfl⟩, rfl⟩ := h
  exact ⟨⟨v0, v1, v2, v3, v4⟩, rfl⟩
structure GStatement where
  Witness : Int
  Digest : Int
  Tick : Int
  Seal : Int
  deriving DecidableEq
def GStatement.enc (x : GStatement) : List T := [tI x.Witness, tI x.Digest, tI x.Tick, tI x.Seal]
def GStatement.dt : DT := .st (.fc .int (.fc .int (.fc .int (.fc .int .fn))))
theorem GStatement.of {ts : List T} (h : IsT GStatement.dt ts) : ∃ x : GStatement, ts = x.enc := by
  simp only [GStatement.dt, IsT] at h
  obtain ⟨_, _, rfl, ⟨v0, rfl⟩, _, _, rfl, ⟨v1, rfl⟩, _, _, rfl, ⟨v2, rfl⟩, _, _, rfl, ⟨v3, rfl⟩, rfl⟩ := h
  exact ⟨⟨v0, v1, v2, v3⟩, rfl⟩
structure GLibrary where
  Id : Int
  Digests : List Int
  Up : Bool
  Lies : Bool
  deriving DecidableEq
def GLibrary.enc (x : GLibrary) : List T := [tI x.Id, .sl 1 (x.Digests.map encI), tB x.Up, tB x.Lies]
def GLibrary.dt : DT := .st (.fc .int (.fc (.sl .int) (.fc .bool (.fc .bool .fn))))
theorem GLibrary.of {ts : List T} (h : IsT GLibrary.dt ts) : ∃ x : GLibrary, ts = x.enc := by
  simp only [GLibrary.dt, IsT] at h
  obtain ⟨_, _, rfl, ⟨v0, rfl⟩, _, _, rfl, ⟨l1, rfl, k1⟩, _, _, rfl, ⟨v2, rfl⟩, _, _, rfl, ⟨v3, rfl⟩, rfl⟩ := h
  obtain ⟨v1, rfl⟩ := list_of int_of k1
  exact ⟨⟨v0, v1, v2, v3⟩, rfl⟩
def GLibrary.size (x : GLibrary) : Nat := (x.Digests.length)
structure GContainer where
  Script : List GOp
  Entries : List GEntry
  Captures : List GCapture
  Root : Int
  deriving DecidableEq
def GContainer.enc (x : GContainer) : List T := [.sl 4 (x.Script.map GOp.enc), .sl 5 (x.Entries.map GEntry.enc), .sl 9 (x.Captures.map GCapture.enc), tI x.Root]
def GContainer.dt : DT := .st (.fc (.sl GOp.dt) (.fc (.sl GEntry.dt) (.fc (.sl GCapture.dt) (.fc .int .fn))))
theorem GContainer.of {ts : List T} (h : IsT GContainer.dt ts) : ∃ x : GContainer, ts = x.enc := by
  simp only [GContainer.dt, IsT] at h
  obtain ⟨_, _, rfl, ⟨l0, rfl, k0⟩, _, _, rfl, ⟨l1, rfl, k1⟩, _, _, rfl, ⟨l2, rfl, k2⟩, _, _, rfl, ⟨v3, rfl⟩, rfl⟩ := h
  obtain ⟨v0, rfl⟩ := list_of GOp.of k0
  obtain ⟨v1, rfl⟩ := list_of GEntry.of k1
  obtain ⟨v2, rfl⟩ := list_of GCapture.of k2
  exact ⟨⟨v0, v1, v2, v3⟩, rfl⟩
def GContainer.size (x : GContainer) : Nat := (x.Script.length) + (x.Entries.length) + (x.Captures.length + (x.Captures.map GCapture.size).sum)
structure GFound where
  Address : GAddress
  Tick : Int
  Container : Int
  At : Int
  deriving DecidableEq
def GFound.enc (x : GFound) : List T := [tI x.Address.Host, tI x.Address.Path, tI x.Address.Query, tI x.Tick, tI x.Container, tI x.At]
def GFound.dt : DT := .st (.fc GAddress.dt (.fc .int (.fc .int (.fc .int .fn))))
theorem GFound.of {ts : List T} (h : IsT GFound.dt ts) : ∃ x : GFound, ts = x.enc := by
  simp only [GFound.dt, IsT] at h
  obtain ⟨_, _, rfl, k0, _, _, rfl, ⟨v1, rfl⟩, _, _, rfl, ⟨v2, rfl⟩, _, _, rfl, ⟨v3, rfl⟩, rfl⟩ := h
  obtain ⟨v0, rfl⟩ := GAddress.of k0
  exact ⟨⟨v0, v1, v2, v3⟩, rfl⟩
structure GDisk where
  Containers : List GContainer
  Index : List GFound
  Wanted : List GContainer
  deriving DecidableEq
def GDisk.enc (x : GDisk) : List T := [.sl 4 (x.Containers.map GContainer.enc), .sl 6 (x.Index.map GFound.enc), .sl 4 (x.Wanted.map GContainer.enc)]
def GDisk.dt : DT := .st (.fc (.sl GContainer.dt) (.fc (.sl GFound.dt) (.fc (.sl GContainer.dt) .fn)))
theorem GDisk.of {ts : List T} (h : IsT GDisk.dt ts) : ∃ x : GDisk, ts = x.enc := by
  simp only [GDisk.dt, IsT] at h
  obtain ⟨_, _, rfl, ⟨l0, rfl, k0⟩, _, _, rfl, ⟨l1, rfl, k1⟩, _, _, rfl, ⟨l2, rfl, k2⟩, rfl⟩ := h
  obtain ⟨v0, rfl⟩ := list_of GContainer.of k0
  obtain ⟨v1, rfl⟩ := list_of GFound.of k1
  obtain ⟨v2, rfl⟩ := list_of GContainer.of k2
  exact ⟨⟨v0, v1, v2⟩, rfl⟩
def GDisk.size (x : GDisk) : Nat := (x.Containers.length + (x.Containers.map GContainer.size).sum) + (x.Index.length) + (x.Wanted.length + (x.Wanted.map GContainer.size).sum)
structure GArchive where
  Site : List GVersion
  Script : List GOp
  Disk : GDisk
  Exclusions : List GExclusion
  Libraries : List GLibrary
  Keys : List Int
  Statements : List GStatement
  Now : Int
  deriving DecidableEq
def GArchive.enc (x : GArchive) : List T := [.sl 9 (x.Site.map GVersion.enc), .sl 4 (x.Script.map GOp.enc), .sl 4 (x.Disk.Containers.map GContainer.enc), .sl 6 (x.Disk.Index.map GFound.enc), .sl 4 (x.Disk.Wanted.map GContainer.enc), .sl 5 (x.Exclusions.map GExclusion.enc), .sl 4 (x.Libraries.map GLibrary.enc), .sl 1 (x.Keys.map encI), .sl 4 (x.Statements.map GStatement.enc), tI x.Now]
def GArchive.dt : DT := .st (.fc (.sl GVersion.dt) (.fc (.sl GOp.dt) (.fc GDisk.dt (.fc (.sl GExclusion.dt) (.fc (.sl GLibrary.dt) (.fc (.sl .int) (.fc (.sl GStatement.dt) (.fc .int .fn))))))))
theorem GArchive.of {ts : List T} (h : IsT GArchive.dt ts) : ∃ x : GArchive, ts = x.enc := by
  simp only [GArchive.dt, IsT] at h
  obtain ⟨_, _, rfl, ⟨l0, rfl, k0⟩, _, _, rfl, ⟨l1, rfl, k1⟩, _, _, rfl, k2, _, _, rfl, ⟨l3, rfl, k3⟩, _, _, rfl, ⟨l4, rfl, k4⟩, _, _, rfl, ⟨l5, rfl, k5⟩, _, _, rfl, ⟨l6, rfl, k6⟩, _, _, rfl, ⟨v7, rfl⟩, rfl⟩ := h
  obtain ⟨v0, rfl⟩ := list_of GVersion.of k0
  obtain ⟨v1, rfl⟩ := list_of GOp.of k1
  obtain ⟨v2, rfl⟩ := GDisk.of k2
  obtain ⟨v3, rfl⟩ := list_of GExclusion.of k3
  obtain ⟨v4, rfl⟩ := list_of GLibrary.of k4
  obtain ⟨v5, rfl⟩ := list_of int_of k5
  obtain ⟨v6, rfl⟩ := list_of GStatement.of k6
  exact ⟨⟨v0, v1, v2, v3, v4, v5, v6, v7⟩, rfl⟩
def GArchive.size (x : GArchive) : Nat := (x.Site.length + (x.Site.map GVersion.size).sum) + (x.Script.length) + (x.Disk.size) + (x.Exclusions.length) + (x.Libraries.length + (x.Libraries.map GLibrary.size).sum) + (x.Keys.length) + (x.Statements.length)
structure GEvent where
  Kind : Int
  N : Int
  Inputs : List Int
  Version : GVersion
  Exclusion : GExclusion
  deriving DecidableEq
def GEvent.enc (x : GEvent) : List T := [tI x.Kind, tI x.N, .sl 1 (x.Inputs.map encI), tI x.Version.Address.Host, tI x.Version.Address.Path, tI x.Version.Address.Query, tI x.Version.From, tI x.Version.Resource.Kind, .sl 1 (x.Version.Resource.Body.map encI), tI x.Version.Resource.To.Host, tI x.Version.Resource.To.Path, tI x.Version.Resource.To.Query, tI x.Exclusion.Host, tI x.Exclusion.Path, tI x.Exclusion.From, tI x.Exclusion.Until, tI x.Exclusion.Asked]
def GEvent.dt : DT := .st (.fc .int (.fc .int (.fc (.sl .int) (.fc GVersion.dt (.fc GExclusion.dt .fn)))))
theorem GEvent.of {ts : List T} (h : IsT GEvent.dt ts) : ∃ x : GEvent, ts = x.enc := by
  simp only [GEvent.dt, IsT] at h
  obtain ⟨_, _, rfl, ⟨v0, rfl⟩, _, _, rfl, ⟨v1, rfl⟩, _, _, rfl, ⟨l2, rfl, k2⟩, _, _, rfl, k3, _, _, rfl, k4, rfl⟩ := h
  obtain ⟨v2, rfl⟩ := list_of int_of k2
  obtain ⟨v3, rfl⟩ := GVersion.of k3
  obtain ⟨v4, rfl⟩ := GExclusion.of k4
  exact ⟨⟨v0, v1, v2, v3, v4⟩, rfl⟩
def GEvent.size (x : GEvent) : Nat := (x.Inputs.length) + (x.Version.size)
structure GChange where
  Tick : Int
  Digest : Int
  deriving DecidableEq
def GChange.enc (x : GChange) : List T := [tI x.Tick, tI x.Digest]
def GChange.dt : DT := .st (.fc .int (.fc .int .fn))
theorem GChange.of {ts : List T} (h : IsT GChange.dt ts) : ∃ x : GChange, ts = x.enc := by
  simp only [GChange.dt, IsT] at h
  obtain ⟨_, _, rfl, ⟨v0, rfl⟩, _, _, rfl, ⟨v1, rfl⟩, rfl⟩ := h
  exact ⟨⟨v0, v1⟩, rfl⟩
structure GPlayed where
  Code : Int
  At : Int
  State : GState
  deriving DecidableEq
def GPlayed.enc (x : GPlayed) : List T := [tI x.Code, tI x.At, tI x.State.Pc, .sl 1 (x.State.Regs.map encI), .sl 1 (x.State.Slots.map encI), .sl 1 (x.State.Nodes.map encI)]
def GPlayed.dt : DT := .st (.fc .int (.fc .int (.fc GState.dt .fn)))
theorem GPlayed.of {ts : List T} (h : IsT GPlayed.dt ts) : ∃ x : GPlayed, ts = x.enc := by
  simp only [GPlayed.dt, IsT] at h
  obtain ⟨_, _, rfl, ⟨v0, rfl⟩, _, _, rfl, ⟨v1, rfl⟩, _, _, rfl, k2, rfl⟩ := h
  obtain ⟨v2, rfl⟩ := GState.of k2
  exact ⟨⟨v0, v1, v2⟩, rfl⟩
def GPlayed.size (x : GPlayed) : Nat := (x.State.size)
attribute [go_sem] encI encB GAddress.enc GResource.enc GPart.enc GPiece.enc GVersion.enc GOp.enc GState.enc GVisit.enc GWant.enc GEntry.enc GCapture.enc GChoice.enc GWander.enc GModel.enc GShown.enc GLeaf.enc GEdition.enc GExclusion.enc GStatement.enc GLibrary.enc GContainer.enc GFound.enc GDisk.enc GArchive.enc GEvent.enc GChange.enc GPlayed.enc
end Go.Proofs.YtcbljemkihnmnaaR
namespace Go.Proofs.YtcbljemkihnmnaaR
open Go Go.RowKit
/-- What is left of a bound. -/
def szr (n : Nat) (left : Int) : Int := if (n : Int) ≤ left then left - n else -1
theorem szr_neg {n : Nat} {left : Int} (_ : 0 ≤ left) : szr n left < 0 ↔ left < n := by unfold szr; split <;> omega
theorem szr_add {n m : Nat} {left : Int} (_ : 0 ≤ left) (h1 : ¬ szr n left < 0) : 0 ≤ szr n left ∧ szr n left ≤ left ∧ szr (n + m) left = szr m (szr n left) := by
  unfold szr at *
  split at h1
  · rename_i h2
    simp only [h2, if_true]
    refine ⟨by omega, by omega, ?_⟩
    split <;> split <;> omega
  · omega
theorem szr_bad {n m : Nat} {left : Int} (h : 0 ≤ left) (h1 : szr n left < 0) : szr (n + m) left = -1 := by
  rw [szr_neg h] at h1
  unfold szr
  rw [if_neg (by omega)]
/-- Cells of a result: lists are the caller's own. -/
def own : List T → List (Bool × T)
  | [] => []
  | .sl k es :: l => (true, .sl k es) :: own l
  | t :: l => (false, t) :: own l
@[go_sem] theorem own_nil : own [] = [] := rfl
@[go_sem] theorem own_sl {k es l} : own (.sl k es :: l) = (true, .sl k es) :: own l := rfl
@[go_sem] theorem own_sc {v l} : own (.sc v :: l) = (false, .sc v) :: own l := rfl
/-- A struct, a list as results of the caller's own. -/
abbrev rS (ts : List T) : RV := ⟨true, own ts⟩
abbrev rL (k : Nat) (es : List (List T)) : RV := ⟨false, [(true, .sl k es)]⟩
abbrev aS (ts : List T) : Bool × List T := (true, ts)
attribute [go_sem] rS rL aS
/-- A row that is being filled. -/
def filled {α : Type} (f : α → List T) (z : List T) (xs : List α) (k : Nat) : List (List T) := (xs.take k).map f ++ List.replicate (xs.length - k) z
section
variable {α : Type} {f : α → List T} {z : List T} {xs : List α} {k : Nat}
@[go_sem] theorem filled_len (h : k ≤ xs.length) : (filled f z xs k).length = xs.length := by simp [filled]; omega
theorem filled_zero : filled f z xs 0 = List.replicate xs.length z := by simp [filled]
theorem filled_all : filled f z xs xs.length = xs.map f := by simp [filled]
theorem filled_get (h : k < xs.length) : (filled f z xs k)[k]? = some z := by
  unfold filled
  rw [List.getElem?_append_right (by simp; omega), List.getElem?_replicate, if_pos (by simp; omega)]
theorem filled_set {x : α} (h : xs[k]? = some x) : (filled f z xs k).set k (f x) = filled f z xs (k + 1) := by
  have hk := len_at h
  unfold filled
  rw [List.set_append_right _ _ (by simp; omega), take_snoc h]
  have e : xs.length - k = (xs.length - (k + 1)) + 1 := by omega
  rw [e, List.replicate_succ]
  have e2 : k - (List.map f (List.take k xs)).length = 0 := by simp; omega
  rw [e2]
  simp
end
theorem replicate_toNat {n : Nat} {z : List T} : List.replicate (n : Int).toNat z = List.replicate n z := by simp
theorem take_eq_step {α : Type} {xs ys : List α} {k : Nat} {x y : α} (hx : xs[k]? = some x) (hy : ys[k]? = some y) (h : xs.take k = ys.take k) : xs.take (k + 1) = ys.take (k + 1) ↔ x = y := by
  rw [take_snoc hx, take_snoc hy, h]
  simp
theorem ne_at {α : Type} [DecidableEq α] {xs ys : List α} {k : Nat} {x y : α} (hx : xs[k]? = some x) (hy : ys[k]? = some y) (h : ¬ x = y) : false = decide (xs = ys) := by
  symm
  rw [decide_eq_false_iff_not]
  rintro rfl
  rw [hx] at hy
  exact h (Option.some.inj hy)
theorem ne_len {α : Type} [DecidableEq α] {xs ys : List α} (h : ¬ (xs.length : Int) = ys.length) : false = decide (xs = ys) := by
  symm
  rw [decide_eq_false_iff_not]
  rintro rfl
  exact h rfl
theorem eq_all {α : Type} [DecidableEq α] {xs ys : List α} (he : xs.take xs.length = ys.take xs.length) (hl : xs.length = ys.length) : true = decide (xs = ys) := by
  symm
  rw [decide_eq_true_iff]
  rw [List.take_length] at he
  rw [he, hl, List.take_length]
theorem szr_bad' {n N : Nat} {left : Int} (h0 : 0 ≤ left) (h : szr n left < 0) (hn : n ≤ N) : -1 = szr N left := by
  rw [szr_neg h0] at h
  unfold szr
  rw [if_neg (by omega)]
theorem szr_ok {n : Nat} {left : Int} (h : ¬ szr n left < 0) : (n : Int) ≤ left := by
  unfold szr at h
  split at h <;> omega
theorem sum_snoc {α : Type} {f : α → Nat} {l : List α} {k : Nat} {x : α} (h : l[k]? = some x) : ((l.take (k + 1)).map f).sum = ((l.take k).map f).sum + f x := by
  rw [take_snoc h]; simp
theorem sum_take_le {α : Type} {f : α → Nat} (l : List α) (k : Nat) : ((l.take k).map f).sum ≤ (l.map f).sum := by
  have h : (l.map f).sum = ((l.take k).map f).sum + ((l.drop k).map f).sum := by
    rw [← List.sum_append, ← List.map_append, List.take_append_drop]
  omega
theorem mem_sum {α : Type} {f : α → Nat} {l : List α} {x : α} (h : x ∈ l) : f x ≤ (l.map f).sum := by
  induction l with
  | nil => simp at h
  | cons y l ih =>
    rcases List.mem_cons.1 h with rfl | h
    · simp
    · have := ih h; simp; omega
end Go.Proofs.YtcbljemkihnmnaaR
namespace Go.Proofs.YtcbljemkihnmnaaR
open Go Go.RowKit Go.Proofs
set_option linter.unusedSimpArgs false
set_option linter.unusedVariables false
theorem hmix : Try.prog.follows .mixedOrders = true := by kernel_rfl
abbrev n_laws_FnExactCountKind : Nat := 5
abbrev n_laws_szEventS : Nat := 20
abbrev n_spec_CountKind : Nat := 21
abbrev n_laws_toEventS : Nat := 22
abbrev n_impl_CountKind : Nat := 23
abbrev n_laws_eqEventS : Nat := 24
abbrev n_laws_eqVersion : Nat := 39
abbrev n_laws_szEvent : Nat := 42
abbrev n_laws_toEvent : Nat := 43
abbrev n_laws_eqEvent : Nat := 44
abbrev n_laws_szIntS : Nat := 50
abbrev n_laws_toIntS : Nat := 57
abbrev n_laws_eqIntS : Nat := 63
abbrev n_laws_eqAddress : Nat := 92
abbrev n_laws_eqResource : Nat := 93
abbrev n_laws_szVersion : Nat := 94
abbrev n_laws_toVersion : Nat := 95
abbrev n_laws_toExclusion : Nat := 96
abbrev n_laws_eqExclusion : Nat := 97
abbrev n_laws_szResource : Nat := 121
abbrev n_laws_toAddress : Nat := 122
abbrev n_laws_toResource : Nat := 123
def m_laws_szIntS : MC :=
(.seq (pr [.mv 4 (.c (.int .i64 0))] [0,1])
(.seq (pr [.mv 5 (.s 1), .mv 6 (.s 0), .len 7 false (.s 6), .bin 8 false .sub (.s 5) (.s 7), .mv 1 (.s 8)] [1])
(.seq (.seq (pr [.mv 9 (.s 1), .bin 10 false .lss (.s 9) (.c (.int .i64 0))] [1,10])
(.cond (.s 10) (.seq (pr [.mv 4 (.c (.int .i64 (-1)))] [4])
.ret) .skip))
(.seq (pr [.mv 11 (.s 1), .mv 4 (.s 11)] [4])
.ret))))
theorem c_laws_szIntS (xs : List Int) (left : Int) (h0 : 0 ≤ left) : Ctr Try.prog n_laws_szIntS [aL 1 (xs.map encI), aI left] [rI (szr xs.length left)] := by
  refine ctr_at (M := m_laws_szIntS) (m := 0) (n := 12) (res := [(.tmp 4, [false])]) hmix Try.func50 rfl rfl rfl (by kernel_rfl) (by kernel_rfl) (by simp) ?_; unfold m_laws_szIntS
  intro hb
  simp only [bdA, bdL, bdT, bdR, bdR_map, wfB_i64, wfB_bool, wfB_str, roomB, and_true, true_and, List.length_map] at hb
  obtain ⟨⟨hl, -⟩, hn⟩ := hb
  simp only [↓bk_bind, ↓bk_map, ↓bk_ite, ↓bk_some, ↓reduceIte, Nat.reduceEqDiff, Nat.reduceLT, Nat.reduceLeDiff, Nat.reduceAdd, Nat.reduceMul, reduceCtorEq, List.reduceReplicate, go_sem]
  rw [wI (by omega) (by omega)]
  unfold szr
  refine ⟨fun h => ?_, fun h => ?_⟩
  · rw [if_neg (by omega)]
  · rw [if_pos (by omega)]
def m_laws_toIntS : MC :=
(.seq (pr [.mv 2 (.nil 1)] [0])
(.seq (pr [.mv 5 (.s 0), .len 6 false (.s 5), .mk 7 0 1 8 [.sc (.int .i64 0)] (.s 6), .mv 3 (.s 7)] [0,3])
(.seq (.seq (pr [.mv 4 (.c (.int .i64 0))] [0,3,4])
(.block 0 (.loop ([0,3,4], []) (.seq (.seq (pr [.mv 8 (.s 4), .mv 9 (.s 0), .len 10 false (.s 9), .bin 11 false .lss (.s 8) (.s 10)] [0,3,4,11])
(.cond (.s 11) .skip (.exit 0)))
(.seq (.block 1 (pr [.mv 14 (.s 3), .mv 15 (.s 4), .mv 16 (.s 0), .mv 17 (.s 4), .idx 18 1 (.s 16) (.s 17), .load 19 false 1 (.s 18), .idx 20 1 (.s 14) (.s 15), .store 1 (.s 20) (.s 19)] [0,3,4]))
(pr [.mv 12 (.s 4), .bin 13 false .add (.s 12) (.c (.int .i64 1)), .mv 4 (.s 13)] [0,3,4]))))))
(.seq (pr [.mv 21 (.s 3), .mv 2 (.s 21)] [2])
.ret))))
theorem c_laws_toIntS (xs : List Int) (hs : xs.length ≤ 1073741824) : Ctr Try.prog n_laws_toIntS [aL 1 (xs.map encI)] [rL 1 (xs.map encI)] := by
  refine ctr_at (M := m_laws_toIntS) (m := 1) (n := 22) (res := [(.tmp 2, [true])]) hmix Try.func57 rfl rfl rfl (by kernel_rfl) (by kernel_rfl) (by simp) ?_; unfold m_laws_toIntS
  intro hb
  simp only [↓bk_bind, ↓bk_map, ↓bk_ite, ↓bk_some, ↓reduceIte, Nat.reduceEqDiff, Nat.reduceLT, Nat.reduceLeDiff, Nat.reduceAdd, Nat.reduceMul, reduceCtorEq, List.reduceReplicate, go_sem, replicate_toNat]
  refine ⟨⟨by omega, by simp only [roomB]; omega⟩, ?_⟩
  refine loopK_rng xs (fun k => [(4, vI k)]) (fun k => [(0, ⟨0, .row true 1 (filled encI [tI 0] xs k)⟩)]) (fun _ => True) (by simp only [roomB]; omega) ?_
  simp only [↓bk_bind, ↓bk_map, ↓bk_ite, ↓bk_some, ↓reduceIte, Nat.reduceEqDiff, Nat.reduceLT, Nat.reduceLeDiff, Nat.reduceAdd, Nat.reduceMul, reduceCtorEq, List.reduceReplicate, go_sem]
  refine ⟨?_, trivial, ?_, ?_⟩
  · simp only [↓bk_bind, ↓bk_map, ↓bk_ite, ↓bk_some, ↓reduceIte, Nat.reduceEqDiff, Nat.reduceLT, Nat.reduceLeDiff, Nat.reduceAdd, Nat.reduceMul, reduceCtorEq, List.reduceReplicate, go_sem, filled_zero]
    all_goals rfl
  · intro k x hx _ h0 h1 hw
    have h : k < xs.length := by omega
    simp only [↓bk_bind, ↓bk_map, ↓bk_ite, ↓bk_some, ↓reduceIte, Nat.reduceEqDiff, Nat.reduceLT, Nat.reduceLeDiff, Nat.reduceAdd, Nat.reduceMul, reduceCtorEq, List.reduceReplicate, go_sem, bk_eq hx, bk_eq (filled_get h), filled_len (Nat.le_of_lt h), h0, h1, hw]
    exact filled_set hx
  · intro _
    simp only [↓bk_bind, ↓bk_map, ↓bk_ite, ↓bk_some, ↓reduceIte, Nat.reduceEqDiff, Nat.reduceLT, Nat.reduceLeDiff, Nat.reduceAdd, Nat.reduceMul, reduceCtorEq, List.reduceReplicate, go_sem, filled_all]
def m_laws_eqIntS : MC :=
(.seq (pr [.mv 4 (.c (.bool false))] [0,1])
(.seq (.seq (pr [.mv 6 (.s 0), .len 7 false (.s 6), .mv 8 (.s 1), .len 9 false (.s 8), .bin 10 false .neq (.s 7) (.s 9)] [0,1,10])
(.cond (.s 10) (.seq (pr [.mv 4 (.c (.bool false))] [4])
.ret) .skip))
(.seq (.seq (pr [.mv 5 (.c (.int .i64 0))] [0,1,5])
(.block 0 (.loop ([0,1,5], []) (.seq (.seq (pr [.mv 11 (.s 5), .mv 12 (.s 0), .len 13 false (.s 12), .bin 14 false .lss (.s 11) (.s 13)] [0,1,5,14])
(.cond (.s 14) .skip (.exit 0)))
(.seq (.block 1 (.seq (.dreg [{ o := .mv 17 (.s 0), hs := [18,21,22,23,24] }, { o := .mv 18 (.s 5), hs := [17,21,22,23,24] }, { o := .idx 19 1 (.s 17) (.s 18), hs := [21,22,23,24], bf := [0,1] }, { o := .load 20 false 1 (.s 19), hs := [21,22,23,24], bf := [0,1,2] }, { o := .mv 21 (.s 1), hs := [17,18,19,20,22] }, { o := .mv 22 (.s 5), hs := [17,18,19,20,21] }, { o := .idx 23 1 (.s 21) (.s 22), hs := [17,18,19,20], bf := [4,5] }, { o := .load 24 false 1 (.s 23), hs := [17,18,19,20], bf := [4,5,6] }, { o := .bin 25 false .neq (.s 20) (.s 24), bf := [0,1,2,3,4,5,6,7] }] [0,1,5,25])
(.cond (.s 25) (.seq (pr [.mv 4 (.c (.bool false))] [4])
.ret) .skip)))
(pr [.mv 15 (.s 5), .bin 16 false .add (.s 15) (.c (.int .i64 1)), .mv 5 (.s 16)] [0,1,5]))))))
(.seq (pr [.mv 4 (.c (.bool true))] [4])
.ret))))
theorem c_laws_eqIntS (xs ys : List Int) : Ctr Try.prog n_laws_eqIntS [aL 1 (xs.map encI), aL 1 (ys.map encI)] [rB (decide (xs = ys))] := by
  refine ctr_at (M := m_laws_eqIntS) (m := 0) (n := 26) (res := [(.tmp 4, [false])]) hmix Try.func63 rfl rfl rfl (by kernel_rfl) (by kernel_rfl) (by simp) ?_; unfold m_laws_eqIntS
  intro hb
  simp only [bdA, bdL, bdT, bdR, bdR_map, wfB_i64, wfB_bool, wfB_str, roomB, and_true, true_and, List.length_map] at hb
  obtain ⟨⟨hl, -⟩, ⟨hl2, -⟩⟩ := hb
  simp only [↓bk_bind, ↓bk_map, ↓bk_ite, ↓bk_some, ↓reduceIte, Nat.reduceEqDiff, Nat.reduceLT, Nat.reduceLeDiff, Nat.reduceAdd, Nat.reduceMul, reduceCtorEq, List.reduceReplicate, go_sem]
  refine ⟨fun h => ne_len h, fun h => ?_⟩
  have hle : xs.length = ys.length := by omega
  refine loopK_rng xs (fun k => [(5, vI k)]) (fun k => []) (fun k => xs.take k = ys.take k) hl ?_
  simp only [↓bk_bind, ↓bk_map, ↓bk_ite, ↓bk_some, ↓reduceIte, Nat.reduceEqDiff, Nat.reduceLT, Nat.reduceLeDiff, Nat.reduceAdd, Nat.reduceMul, reduceCtorEq, List.reduceReplicate, go_sem]
  refine ⟨?_, rfl, ?_, ?_⟩
  · simp only [↓bk_bind, ↓bk_map, ↓bk_ite, ↓bk_some, ↓reduceIte, Nat.reduceEqDiff, Nat.reduceLT, Nat.reduceLeDiff, Nat.reduceAdd, Nat.reduceMul, reduceCtorEq, List.reduceReplicate, go_sem]
  · intro k x hx he h0 h1 hw
    obtain ⟨y, hy⟩ := at_some (show k < ys.length by omega)
    have h2 : (k : Int) < ys.length := by omega
    simp only [↓bk_bind, ↓bk_map, ↓bk_ite, ↓bk_some, ↓reduceIte, Nat.reduceEqDiff, Nat.reduceLT, Nat.reduceLeDiff, Nat.reduceAdd, Nat.reduceMul, reduceCtorEq, List.reduceReplicate, go_sem, bk_eq hx, bk_eq hy, h0, h1, h2, hw]
    exact ⟨fun hn => ne_at hx hy hn, fun hn => (take_eq_step hx hy he).2 hn⟩
  · intro he
    simp only [↓bk_bind, ↓bk_map, ↓bk_ite, ↓bk_some, ↓reduceIte, Nat.reduceEqDiff, Nat.reduceLT, Nat.reduceLeDiff, Nat.reduceAdd, Nat.reduceMul, reduceCtorEq, List.reduceReplicate, go_sem]
    exact eq_all he hle
def m_laws_toAddress : MC :=
(.seq (pr [.box 1 0 (.s 0), .alloc 2 1 [.pl (.sc (.int .i64 0)), .pl (.sc (.int .i64 0)), .pl (.sc (.int .i64 0))]] [1,2])
(.seq (pr [.alloc 3 2 [.pl (.sc (.int .i64 0)), .pl (.sc (.int .i64 0)), .pl (.sc (.int .i64 0))]] [1,2,3])
(.seq (pr [.fld 4 (.s 1) 0, .load 5 false 1 (.s 4), .fld 6 (.s 3) 0, .store 1 (.s 6) (.s 5)] [1,2,3])
(.seq (pr [.fld 7 (.s 1) 1, .load 8 false 1 (.s 7), .fld 9 (.s 3) 1, .store 1 (.s 9) (.s 8)] [1,2,3])
(.seq (pr [.fld 10 (.s 1) 2, .load 11 false 1 (.s 10), .fld 12 (.s 3) 2, .store 1 (.s 12) (.s 11)] [2,3])
(.seq (pr [.load 13 true 3 (.s 3), .store 3 (.s 2) (.s 13)] [2])
.ret))))))
theorem c_laws_toAddress (x : GAddress) : Ctr Try.prog n_laws_toAddress [aS x.enc] [rS x.enc] := by
  refine ctr_at (M := m_laws_toAddress) (m := 3) (n := 14) (res := [(.cell 2 true 3, [false, false, false])]) hmix Try.func122 rfl rfl rfl (by kernel_rfl) (by kernel_rfl) (by simp) ?_; unfold m_laws_toAddress
  intro hb
  simp only [↓bk_bind, ↓bk_map, ↓bk_ite, ↓bk_some, ↓reduceIte, Nat.reduceEqDiff, Nat.reduceLT, Nat.reduceLeDiff, Nat.reduceAdd, Nat.reduceMul, reduceCtorEq, List.reduceReplicate, go_sem]
def m_laws_eqAddress : MC :=
(.seq (pr [.box 2 0 (.s 0), .box 3 1 (.s 1), .mv 4 (.c (.bool false))] [2,3])
(.seq (.seq (pr [.fld 5 (.s 2) 0, .load 6 false 1 (.s 5), .fld 7 (.s 3) 0, .load 8 false 1 (.s 7), .bin 9 false .neq (.s 6) (.s 8)] [2,3,9])
(.cond (.s 9) (.seq (pr [.mv 4 (.c (.bool false))] [4])
.ret) .skip))
(.seq (.seq (pr [.fld 10 (.s 2) 1, .load 11 false 1 (.s 10), .fld 12 (.s 3) 1, .load 13 false 1 (.s 12), .bin 14 false .neq (.s 11) (.s 13)] [2,3,14])
(.cond (.s 14) (.seq (pr [.mv 4 (.c (.bool false))] [4])
.ret) .skip))
(.seq (.seq (pr [.fld 15 (.s 2) 2, .load 16 false 1 (.s 15), .fld 17 (.s 3) 2, .load 18 false 1 (.s 17), .bin 19 false .neq (.s 16) (.s 18)] [19])
(.cond (.s 19) (.seq (pr [.mv 4 (.c (.bool false))] [4])
.ret) .skip))
(.seq (pr [.mv 4 (.c (.bool true))] [4])
.ret)))))
theorem c_laws_eqAddress (x y : GAddress) : Ctr Try.prog n_laws_eqAddress [aS x.enc, aS y.enc] [rB (decide (x = y))] := by
  refine ctr_at (M := m_laws_eqAddress) (m := 2) (n := 20) (res := [(.tmp 4, [false])]) hmix Try.func92 rfl rfl rfl (by kernel_rfl) (by kernel_rfl) (by simp) ?_; unfold m_laws_eqAddress
  intro hb
  clear hb
  simp only [↓bk_bind, ↓bk_map, ↓bk_ite, ↓bk_some, ↓reduceIte, Nat.reduceEqDiff, Nat.reduceLT, Nat.reduceLeDiff, Nat.reduceAdd, Nat.reduceMul, reduceCtorEq, List.reduceReplicate, go_sem]
  refine ⟨fun h => ?_, fun h_Host => ?_⟩
  · symm
    rw [decide_eq_false_iff_not]
    rintro rfl
    exact h rfl
  refine ⟨fun h => ?_, fun h_Path => ?_⟩
  · symm
    rw [decide_eq_false_iff_not]
    rintro rfl
    exact h rfl
  refine ⟨fun h => ?_, fun h_Query => ?_⟩
  · symm
    rw [decide_eq_false_iff_not]
    rintro rfl
    exact h rfl
  cases x; cases y; simp_all
def m_laws_szResource : MC :=
(.seq (pr [.box 2 0 (.s 0), .mv 4 (.c (.int .i64 0))] [1,2])
(.seq (pr [.fld 5 (.s 2) 1, .load 6 false 1 (.s 5), .mv 7 (.s 1), .call 8 [] (.f n_laws_szIntS) [.s 6, .s 7], .mv 1 (.s 8)] [1])
(.seq (.seq (pr [.mv 9 (.s 1), .bin 10 false .lss (.s 9) (.c (.int .i64 0))] [1,10])
(.cond (.s 10) (.seq (pr [.mv 4 (.c (.int .i64 (-1)))] [4])
.ret) .skip))
(.seq (pr [.mv 11 (.s 1), .mv 4 (.s 11)] [4])
.ret))))
theorem c_laws_szResource (x : GResource) (left : Int) (h0 : 0 ≤ left) : Ctr Try.prog n_laws_szResource [aS x.enc, aI left] [rI (szr x.size left)] := by
  refine ctr_at (M := m_laws_szResource) (m := 1) (n := 12) (res := [(.tmp 4, [false])]) hmix Try.func121 rfl rfl rfl (by kernel_rfl) (by kernel_rfl) (by simp) ?_; unfold m_laws_szResource
  intro hb
  simp only [↓bk_bind, ↓bk_map, ↓bk_ite, ↓bk_some, ↓reduceIte, Nat.reduceEqDiff, Nat.reduceLT, Nat.reduceLeDiff, Nat.reduceAdd, Nat.reduceMul, reduceCtorEq, List.reduceReplicate, go_sem]
  refine callK_of (c_laws_szIntS x.Body left h0) ?_
  simp only [↓bk_bind, ↓bk_map, ↓bk_ite, ↓bk_some, ↓reduceIte, Nat.reduceEqDiff, Nat.reduceLT, Nat.reduceLeDiff, Nat.reduceAdd, Nat.reduceMul, reduceCtorEq, List.reduceReplicate, go_sem]
  intro _
  refine ⟨fun h => szr_bad' h0 h (by simp only [GResource.size]; omega), fun h1 => ?_⟩
  rfl
def m_laws_toResource : MC :=
(.seq (pr [.box 1 0 (.s 0), .alloc 2 1 [.pl (.sc (.int .i64 0)), .emp 1, .pl (.sc (.int .i64 0)), .pl (.sc (.int .i64 0)), .pl (.sc (.int .i64 0))]] [1,2])
(.seq (pr [.alloc 3 2 [.pl (.sc (.int .i64 0)), .emp 1, .pl (.sc (.int .i64 0)), .pl (.sc (.int .i64 0)), .pl (.sc (.int .i64 0))]] [1,2,3])
(.seq (pr [.fld 4 (.s 1) 0, .load 5 false 1 (.s 4), .fld 6 (.s 3) 0, .store 1 (.s 6) (.s 5)] [1,2,3])
(.seq (pr [.fld 7 (.s 1) 1, .load 8 false 1 (.s 7), .call 9 [3] (.f n_laws_toIntS) [.s 8], .fld 10 (.s 3) 1, .store 1 (.s 10) (.s 9)] [1,2,3])
(.seq (pr [.fld 11 (.s 1) 2, .load 12 true 3 (.s 11), .call 13 [] (.f n_laws_toAddress) [.s 12], .fld 14 (.s 3) 2, .store 3 (.s 14) (.s 13)] [2,3])
(.seq (pr [.load 15 true 5 (.s 3), .store 5 (.s 2) (.s 15)] [2])
.ret))))))
theorem c_laws_toResource (x : GResource) (hs : x.size ≤ 1073741824) : Ctr Try.prog n_laws_toResource [aS x.enc] [rS x.enc] := by
  refine ctr_at (M := m_laws_toResource) (m := 4) (n := 16) (res := [(.cell 2 true 5, [false, true, false, false, false])]) hmix Try.func123 rfl rfl rfl (by kernel_rfl) (by kernel_rfl) (by simp) ?_; unfold m_laws_toResource
  intro hb
  simp only [GResource.size] at hs
  simp only [↓bk_bind, ↓bk_map, ↓bk_ite, ↓bk_some, ↓reduceIte, Nat.reduceEqDiff, Nat.reduceLT, Nat.reduceLeDiff, Nat.reduceAdd, Nat.reduceMul, reduceCtorEq, List.reduceReplicate, go_sem]
  refine callK_of (c_laws_toIntS x.Body (by omega)) ?_
  simp only [↓bk_bind, ↓bk_map, ↓bk_ite, ↓bk_some, ↓reduceIte, Nat.reduceEqDiff, Nat.reduceLT, Nat.reduceLeDiff, Nat.reduceAdd, Nat.reduceMul, reduceCtorEq, List.reduceReplicate, go_sem]
  try intros
  refine callK_of (c_laws_toAddress x.To) ?_
  simp only [↓bk_bind, ↓bk_map, ↓bk_ite, ↓bk_some, ↓reduceIte, Nat.reduceEqDiff, Nat.reduceLT, Nat.reduceLeDiff, Nat.reduceAdd, Nat.reduceMul, reduceCtorEq, List.reduceReplicate, go_sem]
  try intros
def m_laws_eqResource : MC :=
(.seq (pr [.box 2 0 (.s 0), .box 3 1 (.s 1), .mv 4 (.c (.bool false))] [2,3])
(.seq (.seq (pr [.fld 5 (.s 2) 0, .load 6 false 1 (.s 5), .fld 7 (.s 3) 0, .load 8 false 1 (.s 7), .bin 9 false .neq (.s 6) (.s 8)] [2,3,9])
(.cond (.s 9) (.seq (pr [.mv 4 (.c (.bool false))] [4])
.ret) .skip))
(.seq (.seq (pr [.fld 10 (.s 2) 1, .load 11 false 1 (.s 10), .fld 12 (.s 3) 1, .load 13 false 1 (.s 12), .call 14 [] (.f n_laws_eqIntS) [.s 11, .s 13], .un 15 .not (.s 14)] [2,3,15])
(.cond (.s 15) (.seq (pr [.mv 4 (.c (.bool false))] [4])
.ret) .skip))
(.seq (.seq (pr [.fld 16 (.s 2) 2, .load 17 true 3 (.s 16), .fld 18 (.s 3) 2, .load 19 true 3 (.s 18), .call 20 [] (.f n_laws_eqAddress) [.s 17, .s 19], .un 21 .not (.s 20)] [21])
(.cond (.s 21) (.seq (pr [.mv 4 (.c (.bool false))] [4])
.ret) .skip))
(.seq (pr [.mv 4 (.c (.bool true))] [4])
.ret)))))
theorem c_laws_eqResource (x y : GResource) : Ctr Try.prog n_laws_eqResource [aS x.enc, aS y.enc] [rB (decide (x = y))] := by
  refine ctr_at (M := m_laws_eqResource) (m := 2) (n := 22) (res := [(.tmp 4, [false])]) hmix Try.func93 rfl rfl rfl (by kernel_rfl) (by kernel_rfl) (by simp) ?_; unfold m_laws_eqResource
  intro hb
  clear hb
  simp only [↓bk_bind, ↓bk_map, ↓bk_ite, ↓bk_some, ↓reduceIte, Nat.reduceEqDiff, Nat.reduceLT, Nat.reduceLeDiff, Nat.reduceAdd, Nat.reduceMul, reduceCtorEq, List.reduceReplicate, go_sem]
  refine ⟨fun h => ?_, fun h_Kind => ?_⟩
  · symm
    rw [decide_eq_false_iff_not]
    rintro rfl
    exact h rfl
  refine callK_of (c_laws_eqIntS x.Body y.Body) ?_
  simp only [↓bk_bind, ↓bk_map, ↓bk_ite, ↓bk_some, ↓reduceIte, Nat.reduceEqDiff, Nat.reduceLT, Nat.reduceLeDiff, Nat.reduceAdd, Nat.reduceMul, reduceCtorEq, List.reduceReplicate, go_sem]
  refine ⟨fun h => ?_, fun h_Body => ?_⟩
  · symm
    rw [decide_eq_false_iff_not]
    rintro rfl
    exact h rfl
  refine callK_of (c_laws_eqAddress x.To y.To) ?_
  simp only [↓bk_bind, ↓bk_map, ↓bk_ite, ↓bk_some, ↓reduceIte, Nat.reduceEqDiff, Nat.reduceLT, Nat.reduceLeDiff, Nat.reduceAdd, Nat.reduceMul, reduceCtorEq, List.reduceReplicate, go_sem]
  refine ⟨fun h => ?_, fun h_To => ?_⟩
  · symm
    rw [decide_eq_false_iff_not]
    rintro rfl
    exact h rfl
  cases x; cases y; simp_all
def m_laws_szVersion : MC :=
(.seq (pr [.box 2 0 (.s 0), .mv 4 (.c (.int .i64 0))] [1,2])
(.seq (pr [.fld 5 (.s 2) 4, .load 6 true 5 (.s 5), .mv 7 (.s 1), .call 8 [] (.f n_laws_szResource) [.s 6, .s 7], .mv 1 (.s 8)] [1])
(.seq (.seq (pr [.mv 9 (.s 1), .bin 10 false .lss (.s 9) (.c (.int .i64 0))] [1,10])
(.cond (.s 10) (.seq (pr [.mv 4 (.c (.int .i64 (-1)))] [4])
.ret) .skip))
(.seq (pr [.mv 11 (.s 1), .mv 4 (.s 11)] [4])
.ret))))
theorem c_laws_szVersion (x : GVersion) (left : Int) (h0 : 0 ≤ left) : Ctr Try.prog n_laws_szVersion [aS x.enc, aI left] [rI (szr x.size left)] := by
  refine ctr_at (M := m_laws_szVersion) (m := 1) (n := 12) (res := [(.tmp 4, [false])]) hmix Try.func94 rfl rfl rfl (by kernel_rfl) (by kernel_rfl) (by simp) ?_; unfold m_laws_szVersion
  intro hb
  simp only [↓bk_bind, ↓bk_map, ↓bk_ite, ↓bk_some, ↓reduceIte, Nat.reduceEqDiff, Nat.reduceLT, Nat.reduceLeDiff, Nat.reduceAdd, Nat.reduceMul, reduceCtorEq, List.reduceReplicate, go_sem]
  refine callK_of (c_laws_szResource x.Resource left h0) ?_
  simp only [↓bk_bind, ↓bk_map, ↓bk_ite, ↓bk_some, ↓reduceIte, Nat.reduceEqDiff, Nat.reduceLT, Nat.reduceLeDiff, Nat.reduceAdd, Nat.reduceMul, reduceCtorEq, List.reduceReplicate, go_sem]
  intro _
  refine ⟨fun h => szr_bad' h0 h (by simp only [GVersion.size]; omega), fun h1 => ?_⟩
  rfl
def m_laws_toVersion : MC :=
(.seq (pr [.box 1 0 (.s 0), .alloc 2 1 [.pl (.sc (.int .i64 0)), .pl (.sc (.int .i64 0)), .pl (.sc (.int .i64 0)), .pl (.sc (.int .i64 0)), .pl (.sc (.int .i64 0)), .emp 1, .pl (.sc (.int .i64 0)), .pl (.sc (.int .i64 0)), .pl (.sc (.int .i64 0))]] [1,2])
(.seq (pr [.alloc 3 2 [.pl (.sc (.int .i64 0)), .pl (.sc (.int .i64 0)), .pl (.sc (.int .i64 0)), .pl (.sc (.int .i64 0)), .pl (.sc (.int .i64 0)), .emp 1, .pl (.sc (.int .i64 0)), .pl (.sc (.int .i64 0)), .pl (.sc (.int .i64 0))]] [1,2,3])
(.seq (pr [.fld 4 (.s 1) 0, .load 5 true 3 (.s 4), .call 6 [] (.f n_laws_toAddress) [.s 5], .fld 7 (.s 3) 0, .store 3 (.s 7) (.s 6)] [1,2,3])
(.seq (pr [.fld 8 (.s 1) 3, .load 9 false 1 (.s 8), .fld 10 (.s 3) 3, .store 1 (.s 10) (.s 9)] [1,2,3])
(.seq (pr [.fld 11 (.s 1) 4, .load 12 true 5 (.s 11), .call 13 [3] (.f n_laws_toResource) [.s 12], .fld 14 (.s 3) 4, .store 5 (.s 14) (.s 13)] [2,3])
(.seq (pr [.load 15 true 9 (.s 3), .store 9 (.s 2) (.s 15)] [2])
.ret))))))
theorem c_laws_toVersion (x : GVersion) (hs : x.size ≤ 1073741824) : Ctr Try.prog n_laws_toVersion [aS x.enc] [rS x.enc] := by
  refine ctr_at (M := m_laws_toVersion) (m := 4) (n := 16) (res := [(.cell 2 true 9, [false, false, false, false, false, true, false, false, false])]) hmix Try.func95 rfl rfl rfl (by kernel_rfl) (by kernel_rfl) (by simp) ?_; unfold m_laws_toVersion
  intro hb
  simp only [GVersion.size] at hs
  simp only [↓bk_bind, ↓bk_map, ↓bk_ite, ↓bk_some, ↓reduceIte, Nat.reduceEqDiff, Nat.reduceLT, Nat.reduceLeDiff, Nat.reduceAdd, Nat.reduceMul, reduceCtorEq, List.reduceReplicate, go_sem]
  refine callK_of (c_laws_toAddress x.Address) ?_
  simp only [↓bk_bind, ↓bk_map, ↓bk_ite, ↓bk_some, ↓reduceIte, Nat.reduceEqDiff, Nat.reduceLT, Nat.reduceLeDiff, Nat.reduceAdd, Nat.reduceMul, reduceCtorEq, List.reduceReplicate, go_sem]
  try intros
  refine callK_of (c_laws_toResource x.Resource (by omega)) ?_
  simp only [↓bk_bind, ↓bk_map, ↓bk_ite, ↓bk_some, ↓reduceIte, Nat.reduceEqDiff, Nat.reduceLT, Nat.reduceLeDiff, Nat.reduceAdd, Nat.reduceMul, reduceCtorEq, List.reduceReplicate, go_sem]
  try intros
def m_laws_eqVersion : MC :=
(.seq (pr [.box 2 0 (.s 0), .box 3 1 (.s 1), .mv 4 (.c (.bool false))] [2,3])
(.seq (.seq (pr [.fld 5 (.s 2) 0, .load 6 true 3 (.s 5), .fld 7 (.s 3) 0, .load 8 true 3 (.s 7), .call 9 [] (.f n_laws_eqAddress) [.s 6, .s 8], .un 10 .not (.s 9)] [2,3,10])
(.cond (.s 10) (.seq (pr [.mv 4 (.c (.bool false))] [4])
.ret) .skip))
(.seq (.seq (pr [.fld 11 (.s 2) 3, .load 12 false 1 (.s 11), .fld 13 (.s 3) 3, .load 14 false 1 (.s 13), .bin 15 false .neq (.s 12) (.s 14)] [2,3,15])
(.cond (.s 15) (.seq (pr [.mv 4 (.c (.bool false))] [4])
.ret) .skip))
(.seq (.seq (pr [.fld 16 (.s 2) 4, .load 17 true 5 (.s 16), .fld 18 (.s 3) 4, .load 19 true 5 (.s 18), .call 20 [] (.f n_laws_eqResource) [.s 17, .s 19], .un 21 .not (.s 20)] [21])
(.cond (.s 21) (.seq (pr [.mv 4 (.c (.bool false))] [4])
.ret) .skip))
(.seq (pr [.mv 4 (.c (.bool true))] [4])
.ret)))))
theorem c_laws_eqVersion (x y : GVersion) : Ctr Try.prog n_laws_eqVersion [aS x.enc, aS y.enc] [rB (decide (x = y))] := by
  refine ctr_at (M := m_laws_eqVersion) (m := 2) (n := 22) (res := [(.tmp 4, [false])]) hmix Try.func39 rfl rfl rfl (by kernel_rfl) (by kernel_rfl) (by simp) ?_; unfold m_laws_eqVersion
  intro hb
  clear hb
  simp only [↓bk_bind, ↓bk_map, ↓bk_ite, ↓bk_some, ↓reduceIte, Nat.reduceEqDiff, Nat.reduceLT, Nat.reduceLeDiff, Nat.reduceAdd, Nat.reduceMul, reduceCtorEq, List.reduceReplicate, go_sem]
  refine callK_of (c_laws_eqAddress x.Address y.Address) ?_
  simp only [↓bk_bind, ↓bk_map, ↓bk_ite, ↓bk_some, ↓reduceIte, Nat.reduceEqDiff, Nat.reduceLT, Nat.reduceLeDiff, Nat.reduceAdd, Nat.reduceMul, reduceCtorEq, List.reduceReplicate, go_sem]
  refine ⟨fun h => ?_, fun h_Address => ?_⟩
  · symm
    rw [decide_eq_false_iff_not]
    rintro rfl
    exact h rfl
  refine ⟨fun h => ?_, fun h_From => ?_⟩
  · symm
    rw [decide_eq_false_iff_not]
    rintro rfl
    exact h rfl
  refine callK_of (c_laws_eqResource x.Resource y.Resource) ?_
  simp only [↓bk_bind, ↓bk_map, ↓bk_ite, ↓bk_some, ↓reduceIte, Nat.reduceEqDiff, Nat.reduceLT, Nat.reduceLeDiff, Nat.reduceAdd, Nat.reduceMul, reduceCtorEq, List.reduceReplicate, go_sem]
  refine ⟨fun h => ?_, fun h_Resource => ?_⟩
  · symm
    rw [decide_eq_false_iff_not]
    rintro rfl
    exact h rfl
  cases x; cases y; simp_all
def m_laws_toExclusion : MC :=
(.seq (pr [.box 1 0 (.s 0), .alloc 2 1 [.pl (.sc (.int .i64 0)), .pl (.sc (.int .i64 0)), .pl (.sc (.int .i64 0)), .pl (.sc (.int .i64 0)), .pl (.sc (.int .i64 0))]] [1,2])
(.seq (pr [.alloc 3 2 [.pl (.sc (.int .i64 0)), .pl (.sc (.int .i64 0)), .pl (.sc (.int .i64 0)), .pl (.sc (.int .i64 0)), .pl (.sc (.int .i64 0))]] [1,2,3])
(.seq (pr [.fld 4 (.s 1) 0, .load 5 false 1 (.s 4), .fld 6 (.s 3) 0, .store 1 (.s 6) (.s 5)] [1,2,3])
(.seq (pr [.fld 7 (.s 1) 1, .load 8 false 1 (.s 7), .fld 9 (.s 3) 1, .store 1 (.s 9) (.s 8)] [1,2,3])
(.seq (pr [.fld 10 (.s 1) 2, .load 11 false 1 (.s 10), .fld 12 (.s 3) 2, .store 1 (.s 12) (.s 11)] [1,2,3])
(.seq (pr [.fld 13 (.s 1) 3, .load 14 false 1 (.s 13), .fld 15 (.s 3) 3, .store 1 (.s 15) (.s 14)] [1,2,3])
(.seq (pr [.fld 16 (.s 1) 4, .load 17 false 1 (.s 16), .fld 18 (.s 3) 4, .store 1 (.s 18) (.s 17)] [2,3])
(.seq (pr [.load 19 true 5 (.s 3), .store 5 (.s 2) (.s 19)] [2])
.ret))))))))
theorem c_laws_toExclusion (x : GExclusion) : Ctr Try.prog n_laws_toExclusion [aS x.enc] [rS x.enc] := by
  refine ctr_at (M := m_laws_toExclusion) (m := 3) (n := 20) (res := [(.cell 2 true 5, [false, false, false, false, false])]) hmix Try.func96 rfl rfl rfl (by kernel_rfl) (by kernel_rfl) (by simp) ?_; unfold m_laws_toExclusion
  intro hb
  simp only [↓bk_bind, ↓bk_map, ↓bk_ite, ↓bk_some, ↓reduceIte, Nat.reduceEqDiff, Nat.reduceLT, Nat.reduceLeDiff, Nat.reduceAdd, Nat.reduceMul, reduceCtorEq, List.reduceReplicate, go_sem]
def m_laws_eqExclusion : MC :=
(.seq (pr [.box 2 0 (.s 0), .box 3 1 (.s 1), .mv 4 (.c (.bool false))] [2,3])
(.seq (.seq (pr [.fld 5 (.s 2) 0, .load 6 false 1 (.s 5), .fld 7 (.s 3) 0, .load 8 false 1 (.s 7), .bin 9 false .neq (.s 6) (.s 8)] [2,3,9])
(.cond (.s 9) (.seq (pr [.mv 4 (.c (.bool false))] [4])
.ret) .skip))
(.seq (.seq (pr [.fld 10 (.s 2) 1, .load 11 false 1 (.s 10), .fld 12 (.s 3) 1, .load 13 false 1 (.s 12), .bin 14 false .neq (.s 11) (.s 13)] [2,3,14])
(.cond (.s 14) (.seq (pr [.mv 4 (.c (.bool false))] [4])
.ret) .skip))
(.seq (.seq (pr [.fld 15 (.s 2) 2, .load 16 false 1 (.s 15), .fld 17 (.s 3) 2, .load 18 false 1 (.s 17), .bin 19 false .neq (.s 16) (.s 18)] [2,3,19])
(.cond (.s 19) (.seq (pr [.mv 4 (.c (.bool false))] [4])
.ret) .skip))
(.seq (.seq (pr [.fld 20 (.s 2) 3, .load 21 false 1 (.s 20), .fld 22 (.s 3) 3, .load 23 false 1 (.s 22), .bin 24 false .neq (.s 21) (.s 23)] [2,3,24])
(.cond (.s 24) (.seq (pr [.mv 4 (.c (.bool false))] [4])
.ret) .skip))
(.seq (.seq (pr [.fld 25 (.s 2) 4, .load 26 false 1 (.s 25), .fld 27 (.s 3) 4, .load 28 false 1 (.s 27), .bin 29 false .neq (.s 26) (.s 28)] [29])
(.cond (.s 29) (.seq (pr [.mv 4 (.c (.bool false))] [4])
.ret) .skip))
(.seq (pr [.mv 4 (.c (.bool true))] [4])
.ret)))))))
theorem c_laws_eqExclusion (x y : GExclusion) : Ctr Try.prog n_laws_eqExclusion [aS x.enc, aS y.enc] [rB (decide (x = y))] := by
  refine ctr_at (M := m_laws_eqExclusion) (m := 2) (n := 30) (res := [(.tmp 4, [false])]) hmix Try.func97 rfl rfl rfl (by kernel_rfl) (by kernel_rfl) (by simp) ?_; unfold m_laws_eqExclusion
  intro hb
  clear hb
  simp only [↓bk_bind, ↓bk_map, ↓bk_ite, ↓bk_some, ↓reduceIte, Nat.reduceEqDiff, Nat.reduceLT, Nat.reduceLeDiff, Nat.reduceAdd, Nat.reduceMul, reduceCtorEq, List.reduceReplicate, go_sem]
  refine ⟨fun h => ?_, fun h_Host => ?_⟩
  · symm
    rw [decide_eq_false_iff_not]
    rintro rfl
    exact h rfl
  refine ⟨fun h => ?_, fun h_Path => ?_⟩
  · symm
    rw [decide_eq_false_iff_not]
    rintro rfl
    exact h rfl
  refine ⟨fun h => ?_, fun h_From => ?_⟩
  · symm
    rw [decide_eq_false_iff_not]
    rintro rfl
    exact h rfl
  refine ⟨fun h => ?_, fun h_Until => ?_⟩
  · symm
    rw [decide_eq_false_iff_not]
    rintro rfl
    exact h rfl
  refine ⟨fun h => ?_, fun h_Asked => ?_⟩
  · symm
    rw [decide_eq_false_iff_not]
    rintro rfl
    exact h rfl
  cases x; cases y; simp_all
def m_laws_szEvent : MC :=
(.seq (pr [.box 2 0 (.s 0), .mv 4 (.c (.int .i64 0))] [1,2])
(.seq (pr [.fld 5 (.s 2) 2, .load 6 false 1 (.s 5), .mv 7 (.s 1), .call 8 [] (.f n_laws_szIntS) [.s 6, .s 7], .mv 1 (.s 8)] [1,2])
(.seq (.seq (pr [.mv 9 (.s 1), .bin 10 false .lss (.s 9) (.c (.int .i64 0))] [1,2,10])
(.cond (.s 10) (.seq (pr [.mv 4 (.c (.int .i64 (-1)))] [4])
.ret) .skip))
(.seq (pr [.fld 11 (.s 2) 3, .load 12 true 9 (.s 11), .mv 13 (.s 1), .call 14 [] (.f n_laws_szVersion) [.s 12, .s 13], .mv 1 (.s 14)] [1])
(.seq (.seq (pr [.mv 15 (.s 1), .bin 16 false .lss (.s 15) (.c (.int .i64 0))] [1,16])
(.cond (.s 16) (.seq (pr [.mv 4 (.c (.int .i64 (-1)))] [4])
.ret) .skip))
(.seq (pr [.mv 17 (.s 1), .mv 4 (.s 17)] [4])
.ret))))))
theorem c_laws_szEvent (x : GEvent) (left : Int) (h0 : 0 ≤ left) : Ctr Try.prog n_laws_szEvent [aS x.enc, aI left] [rI (szr x.size left)] := by
  refine ctr_at (M := m_laws_szEvent) (m := 1) (n := 18) (res := [(.tmp 4, [false])]) hmix Try.func42 rfl rfl rfl (by kernel_rfl) (by kernel_rfl) (by simp) ?_; unfold m_laws_szEvent
  intro hb
  simp only [↓bk_bind, ↓bk_map, ↓bk_ite, ↓bk_some, ↓reduceIte, Nat.reduceEqDiff, Nat.reduceLT, Nat.reduceLeDiff, Nat.reduceAdd, Nat.reduceMul, reduceCtorEq, List.reduceReplicate, go_sem]
  refine callK_of (c_laws_szIntS x.Inputs left h0) ?_
  simp only [↓bk_bind, ↓bk_map, ↓bk_ite, ↓bk_some, ↓reduceIte, Nat.reduceEqDiff, Nat.reduceLT, Nat.reduceLeDiff, Nat.reduceAdd, Nat.reduceMul, reduceCtorEq, List.reduceReplicate, go_sem]
  intro _
  refine ⟨fun h => szr_bad' h0 h (by simp only [GEvent.size]; omega), fun h1 => ?_⟩
  obtain ⟨a1, b1, e1⟩ := szr_add (m := x.Version.size) h0 h1
  refine callK_of (c_laws_szVersion x.Version _ a1) ?_
  rw [← e1]
  simp only [↓bk_bind, ↓bk_map, ↓bk_ite, ↓bk_some, ↓reduceIte, Nat.reduceEqDiff, Nat.reduceLT, Nat.reduceLeDiff, Nat.reduceAdd, Nat.reduceMul, reduceCtorEq, List.reduceReplicate, go_sem]
  intro _
  refine ⟨fun h => szr_bad' h0 h (by simp only [GEvent.size]; omega), fun h2 => ?_⟩
  rfl
def m_laws_toEvent : MC :=
(.seq (pr [.box 1 0 (.s 0), .alloc 2 1 [.pl (.sc (.int .i64 0)), .pl (.sc (.int .i64 0)), .emp 1, .pl (.sc (.int .i64 0)), .pl (.sc (.int .i64 0)), .pl (.sc (.int .i64 0)), .pl (.sc (.int .i64 0)), .pl (.sc (.int .i64 0)), .emp 1, .pl (.sc (.int .i64 0)), .pl (.sc (.int .i64 0)), .pl (.sc (.int .i64 0)), .pl (.sc (.int .i64 0)), .pl (.sc (.int .i64 0)), .pl (.sc (.int .i64 0)), .pl (.sc (.int .i64 0)), .pl (.sc (.int .i64 0))]] [1,2])
(.seq (pr [.alloc 3 2 [.pl (.sc (.int .i64 0)), .pl (.sc (.int .i64 0)), .emp 1, .pl (.sc (.int .i64 0)), .pl (.sc (.int .i64 0)), .pl (.sc (.int .i64 0)), .pl (.sc (.int .i64 0)), .pl (.sc (.int .i64 0)), .emp 1, .pl (.sc (.int .i64 0)), .pl (.sc (.int .i64 0)), .pl (.sc (.int .i64 0)), .pl (.sc (.int .i64 0)), .pl (.sc (.int .i64 0)), .pl (.sc (.int .i64 0)), .pl (.sc (.int .i64 0)), .pl (.sc (.int .i64 0))]] [1,2,3])
(.seq (pr [.fld 4 (.s 1) 0, .load 5 false 1 (.s 4), .fld 6 (.s 3) 0, .store 1 (.s 6) (.s 5)] [1,2,3])
(.seq (pr [.fld 7 (.s 1) 1, .load 8 false 1 (.s 7), .fld 9 (.s 3) 1, .store 1 (.s 9) (.s 8)] [1,2,3])
(.seq (pr [.fld 10 (.s 1) 2, .load 11 false 1 (.s 10), .call 12 [3] (.f n_laws_toIntS) [.s 11], .fld 13 (.s 3) 2, .store 1 (.s 13) (.s 12)] [1,2,3])
(.seq (pr [.fld 14 (.s 1) 3, .load 15 true 9 (.s 14), .call 16 [4] (.f n_laws_toVersion) [.s 15], .fld 17 (.s 3) 3, .store 9 (.s 17) (.s 16)] [1,2,3])
(.seq (pr [.fld 18 (.s 1) 12, .load 19 true 5 (.s 18), .call 20 [] (.f n_laws_toExclusion) [.s 19], .fld 21 (.s 3) 12, .store 5 (.s 21) (.s 20)] [2,3])
(.seq (pr [.load 22 true 17 (.s 3), .store 17 (.s 2) (.s 22)] [2])
.ret))))))))
theorem c_laws_toEvent (x : GEvent) (hs : x.size ≤ 1073741824) : Ctr Try.prog n_laws_toEvent [aS x.enc] [rS x.enc] := by
  refine ctr_at (M := m_laws_toEvent) (m := 5) (n := 23) (res := [(.cell 2 true 17, [false, false, true, false, false, false, false, false, true, false, false, false, false, false, false, false, false])]) hmix Try.func43 rfl rfl rfl (by kernel_rfl) (by kernel_rfl) (by simp) ?_; unfold m_laws_toEvent
  intro hb
  simp only [GEvent.size] at hs
  simp only [↓bk_bind, ↓bk_map, ↓bk_ite, ↓bk_some, ↓reduceIte, Nat.reduceEqDiff, Nat.reduceLT, Nat.reduceLeDiff, Nat.reduceAdd, Nat.reduceMul, reduceCtorEq, List.reduceReplicate, go_sem]
  refine callK_of (c_laws_toIntS x.Inputs (by omega)) ?_
  simp only [↓bk_bind, ↓bk_map, ↓bk_ite, ↓bk_some, ↓reduceIte, Nat.reduceEqDiff, Nat.reduceLT, Nat.reduceLeDiff, Nat.reduceAdd, Nat.reduceMul, reduceCtorEq, List.reduceReplicate, go_sem]
  try intros
  refine callK_of (c_laws_toVersion x.Version (by omega)) ?_
  simp only [↓bk_bind, ↓bk_map, ↓bk_ite, ↓bk_some, ↓reduceIte, Nat.reduceEqDiff, Nat.reduceLT, Nat.reduceLeDiff, Nat.reduceAdd, Nat.reduceMul, reduceCtorEq, List.reduceReplicate, go_sem]
  try intros
  refine callK_of (c_laws_toExclusion x.Exclusion) ?_
  simp only [↓bk_bind, ↓bk_map, ↓bk_ite, ↓bk_some, ↓reduceIte, Nat.reduceEqDiff, Nat.reduceLT, Nat.reduceLeDiff, Nat.reduceAdd, Nat.reduceMul, reduceCtorEq, List.reduceReplicate, go_sem]
  try intros
def m_laws_eqEvent : MC :=
(.seq (pr [.box 2 0 (.s 0), .box 3 1 (.s 1), .mv 4 (.c (.bool false))] [2,3])
(.seq (.seq (pr [.fld 5 (.s 2) 0, .load 6 false 1 (.s 5), .fld 7 (.s 3) 0, .load 8 false 1 (.s 7), .bin 9 false .neq (.s 6) (.s 8)] [2,3,9])
(.cond (.s 9) (.seq (pr [.mv 4 (.c (.bool false))] [4])
.ret) .skip))
(.seq (.seq (pr [.fld 10 (.s 2) 1, .load 11 false 1 (.s 10), .fld 12 (.s 3) 1, .load 13 false 1 (.s 12), .bin 14 false .neq (.s 11) (.s 13)] [2,3,14])
(.cond (.s 14) (.seq (pr [.mv 4 (.c (.bool false))] [4])
.ret) .skip))
(.seq (.seq (pr [.fld 15 (.s 2) 2, .load 16 false 1 (.s 15), .fld 17 (.s 3) 2, .load 18 false 1 (.s 17), .call 19 [] (.f n_laws_eqIntS) [.s 16, .s 18], .un 20 .not (.s 19)] [2,3,20])
(.cond (.s 20) (.seq (pr [.mv 4 (.c (.bool false))] [4])
.ret) .skip))
(.seq (.seq (pr [.fld 21 (.s 2) 3, .load 22 true 9 (.s 21), .fld 23 (.s 3) 3, .load 24 true 9 (.s 23), .call 25 [] (.f n_laws_eqVersion) [.s 22, .s 24], .un 26 .not (.s 25)] [2,3,26])
(.cond (.s 26) (.seq (pr [.mv 4 (.c (.bool false))] [4])
.ret) .skip))
(.seq (.seq (pr [.fld 27 (.s 2) 12, .load 28 true 5 (.s 27), .fld 29 (.s 3) 12, .load 30 true 5 (.s 29), .call 31 [] (.f n_laws_eqExclusion) [.s 28, .s 30], .un 32 .not (.s 31)] [32])
(.cond (.s 32) (.seq (pr [.mv 4 (.c (.bool false))] [4])
.ret) .skip))
(.seq (pr [.mv 4 (.c (.bool true))] [4])
.ret)))))))
theorem c_laws_eqEvent (x y : GEvent) : Ctr Try.prog n_laws_eqEvent [aS x.enc, aS y.enc] [rB (decide (x = y))] := by
  refine ctr_at (M := m_laws_eqEvent) (m := 2) (n := 33) (res := [(.tmp 4, [false])]) hmix Try.func44 rfl rfl rfl (by kernel_rfl) (by kernel_rfl) (by simp) ?_; unfold m_laws_eqEvent
  intro hb
  clear hb
  simp only [↓bk_bind, ↓bk_map, ↓bk_ite, ↓bk_some, ↓reduceIte, Nat.reduceEqDiff, Nat.reduceLT, Nat.reduceLeDiff, Nat.reduceAdd, Nat.reduceMul, reduceCtorEq, List.reduceReplicate, go_sem]
  refine ⟨fun h => ?_, fun h_Kind => ?_⟩
  · symm
    rw [decide_eq_false_iff_not]
    rintro rfl
    exact h rfl
  refine ⟨fun h => ?_, fun h_N => ?_⟩
  · symm
    rw [decide_eq_false_iff_not]
    rintro rfl
    exact h rfl
  refine callK_of (c_laws_eqIntS x.Inputs y.Inputs) ?_
  simp only [↓bk_bind, ↓bk_map, ↓bk_ite, ↓bk_some, ↓reduceIte, Nat.reduceEqDiff, Nat.reduceLT, Nat.reduceLeDiff, Nat.reduceAdd, Nat.reduceMul, reduceCtorEq, List.reduceReplicate, go_sem]
  refine ⟨fun h => ?_, fun h_Inputs => ?_⟩
  · symm
    rw [decide_eq_false_iff_not]
    rintro rfl
    exact h rfl
  refine callK_of (c_laws_eqVersion x.Version y.Version) ?_
  simp only [↓bk_bind, ↓bk_map, ↓bk_ite, ↓bk_some, ↓reduceIte, Nat.reduceEqDiff, Nat.reduceLT, Nat.reduceLeDiff, Nat.reduceAdd, Nat.reduceMul, reduceCtorEq, List.reduceReplicate, go_sem]
  refine ⟨fun h => ?_, fun h_Version => ?_⟩
  · symm
    rw [decide_eq_false_iff_not]
    rintro rfl
    exact h rfl
  refine callK_of (c_laws_eqExclusion x.Exclusion y.Exclusion) ?_
  simp only [↓bk_bind, ↓bk_map, ↓bk_ite, ↓bk_some, ↓reduceIte, Nat.reduceEqDiff, Nat.reduceLT, Nat.reduceLeDiff, Nat.reduceAdd, Nat.reduceMul, reduceCtorEq, List.reduceReplicate, go_sem]
  refine ⟨fun h => ?_, fun h_Exclusion => ?_⟩
  · symm
    rw [decide_eq_false_iff_not]
    rintro rfl
    exact h rfl
  cases x; cases y; simp_all
def m_laws_szEventS : MC :=
(.seq (pr [.mv 4 (.c (.int .i64 0))] [0,1])
(.seq (pr [.mv 6 (.s 1), .mv 7 (.s 0), .len 8 false (.s 7), .bin 9 false .sub (.s 6) (.s 8), .mv 1 (.s 9)] [0,1])
(.seq (.seq (pr [.mv 10 (.s 1), .bin 11 false .lss (.s 10) (.c (.int .i64 0))] [0,1,11])
(.cond (.s 11) (.seq (pr [.mv 4 (.c (.int .i64 (-1)))] [4])
.ret) .skip))
(.seq (.seq (pr [.mv 5 (.c (.int .i64 0))] [0,1,5])
(.block 0 (.loop ([0,1,5], []) (.seq (.seq (pr [.mv 12 (.s 5), .mv 13 (.s 0), .len 14 false (.s 13), .bin 15 false .lss (.s 12) (.s 14)] [0,1,5,15])
(.cond (.s 15) .skip (.exit 0)))
(.seq (.block 1 (.seq (pr [.mv 18 (.s 0), .mv 19 (.s 5), .idx 20 17 (.s 18) (.s 19), .load 21 true 17 (.s 20), .mv 22 (.s 1), .call 23 [] (.f n_laws_szEvent) [.s 21, .s 22], .mv 1 (.s 23)] [0,1,5])
(.seq (pr [.mv 24 (.s 1), .bin 25 false .lss (.s 24) (.c (.int .i64 0))] [0,1,5,25])
(.cond (.s 25) (.seq (pr [.mv 4 (.c (.int .i64 (-1)))] [4])
.ret) .skip))))
(pr [.mv 16 (.s 5), .bin 17 false .add (.s 16) (.c (.int .i64 1)), .mv 5 (.s 17)] [0,1,5]))))))
(.seq (pr [.mv 26 (.s 1), .mv 4 (.s 26)] [4])
.ret)))))
theorem c_laws_szEventS (xs : List GEvent) (left : Int) (h0 : 0 ≤ left) : Ctr Try.prog n_laws_szEventS [aL 17 (xs.map GEvent.enc), aI left] [rI (szr (xs.length + (xs.map GEvent.size).sum) left)] := by
  refine ctr_at (M := m_laws_szEventS) (m := 0) (n := 27) (res := [(.tmp 4, [false])]) hmix Try.func20 rfl rfl rfl (by kernel_rfl) (by kernel_rfl) (by simp) ?_; unfold m_laws_szEventS
  intro hb
  simp only [bdA, bdL, bdT, bdR, bdR_map, wfB_i64, wfB_bool, wfB_str, roomB, and_true, true_and, List.length_map] at hb
  obtain ⟨⟨hl, -⟩, hn⟩ := hb
  simp only [↓bk_bind, ↓bk_map, ↓bk_ite, ↓bk_some, ↓reduceIte, Nat.reduceEqDiff, Nat.reduceLT, Nat.reduceLeDiff, Nat.reduceAdd, Nat.reduceMul, reduceCtorEq, List.reduceReplicate, go_sem]
  rw [wI (by omega) (by omega)]
  refine ⟨fun h => ?_, fun h => ?_⟩
  · exact szr_bad' (n := xs.length) h0 ((szr_neg h0).2 (by omega)) (by omega)
  · have hz : szr xs.length left = left - xs.length := by unfold szr; rw [if_pos (by omega)]
    rw [← hz] at h ⊢
    refine loopK_rng xs (fun k => [(1, vI (szr (xs.length + ((xs.take k).map GEvent.size).sum) left)), (5, vI k)]) (fun k => []) (fun k => ¬ szr (xs.length + ((xs.take k).map GEvent.size).sum) left < 0) hl ?_
    simp only [↓bk_bind, ↓bk_map, ↓bk_ite, ↓bk_some, ↓reduceIte, Nat.reduceEqDiff, Nat.reduceLT, Nat.reduceLeDiff, Nat.reduceAdd, Nat.reduceMul, reduceCtorEq, List.reduceReplicate, go_sem]
    refine ⟨?_, by simpa using h, ?_, ?_⟩
    · simp only [↓bk_bind, ↓bk_map, ↓bk_ite, ↓bk_some, ↓reduceIte, Nat.reduceEqDiff, Nat.reduceLT, Nat.reduceLeDiff, Nat.reduceAdd, Nat.reduceMul, reduceCtorEq, List.reduceReplicate, go_sem, List.take_zero, List.map_nil, List.sum_nil, Nat.add_zero]
      all_goals rfl
    · intro k x hx hs hk0 h1 hw
      obtain ⟨a1, a2, a3⟩ := szr_add (m := x.size) h0 hs
      rw [Nat.add_assoc, ← sum_snoc hx] at a3
      simp only [↓bk_bind, ↓bk_map, ↓bk_ite, ↓bk_some, ↓reduceIte, Nat.reduceEqDiff, Nat.reduceLT, Nat.reduceLeDiff, Nat.reduceAdd, Nat.reduceMul, reduceCtorEq, List.reduceReplicate, go_sem, bk_eq hx, hk0, h1, hw]
      refine callK_of (c_laws_szEvent x _ a1) ?_
      rw [← a3]
      simp only [↓bk_bind, ↓bk_map, ↓bk_ite, ↓bk_some, ↓reduceIte, Nat.reduceEqDiff, Nat.reduceLT, Nat.reduceLeDiff, Nat.reduceAdd, Nat.reduceMul, reduceCtorEq, List.reduceReplicate, go_sem, hw]
      intro _
      refine ⟨fun hn => ?_, fun hn => hn⟩
      have := sum_take_le (f := GEvent.size) xs (k + 1)
      exact szr_bad' h0 hn (by omega)
    · intro _
      simp only [↓bk_bind, ↓bk_map, ↓bk_ite, ↓bk_some, ↓reduceIte, Nat.reduceEqDiff, Nat.reduceLT, Nat.reduceLeDiff, Nat.reduceAdd, Nat.reduceMul, reduceCtorEq, List.reduceReplicate, go_sem, List.take_length]
def m_laws_toEventS : MC :=
(.seq (pr [.mv 2 (.nil 17)] [0])
(.seq (pr [.mv 5 (.s 0), .len 6 false (.s 5), .mk 7 0 17 168 [.sc (.int .i64 0), .sc (.int .i64 0), .sl 1 [], .sc (.int .i64 0), .sc (.int .i64 0), .sc (.int .i64 0), .sc (.int .i64 0), .sc (.int .i64 0), .sl 1 [], .sc (.int .i64 0), .sc (.int .i64 0), .sc (.int .i64 0), .sc (.int .i64 0), .sc (.int .i64 0), .sc (.int .i64 0), .sc (.int .i64 0), .sc (.int .i64 0)] (.s 6), .mv 3 (.s 7)] [0,3])
(.seq (.seq (pr [.mv 4 (.c (.int .i64 0))] [0,3,4])
(.block 0 (.loop ([0,3,4], [1,2]) (.seq (.seq (pr [.mv 8 (.s 4), .mv 9 (.s 0), .len 10 false (.s 9), .bin 11 false .lss (.s 8) (.s 10)] [0,3,4,11])
(.cond (.s 11) .skip (.exit 0)))
(.seq (.block 1 (pr [.mv 14 (.s 3), .mv 15 (.s 4), .mv 16 (.s 0), .mv 17 (.s 4), .idx 18 17 (.s 16) (.s 17), .load 19 true 17 (.s 18), .call 20 [1, 2] (.f n_laws_toEvent) [.s 19], .idx 21 17 (.s 14) (.s 15), .store 17 (.s 21) (.s 20)] [0,3,4]))
(pr [.mv 12 (.s 4), .bin 13 false .add (.s 12) (.c (.int .i64 1)), .mv 4 (.s 13)] [0,3,4]))))))
(.seq (pr [.mv 22 (.s 3), .mv 2 (.s 22)] [2])
.ret))))
theorem c_laws_toEventS (xs : List GEvent) (hs : xs.length + (xs.map GEvent.size).sum ≤ 1073741824) : Ctr Try.prog n_laws_toEventS [aL 17 (xs.map GEvent.enc)] [rL 17 (xs.map GEvent.enc)] := by
  refine ctr_at (M := m_laws_toEventS) (m := 3) (n := 23) (res := [(.tmp 2, [true])]) hmix Try.func22 rfl rfl rfl (by kernel_rfl) (by kernel_rfl) (by simp) ?_; unfold m_laws_toEventS
  intro hb
  simp only [↓bk_bind, ↓bk_map, ↓bk_ite, ↓bk_some, ↓reduceIte, Nat.reduceEqDiff, Nat.reduceLT, Nat.reduceLeDiff, Nat.reduceAdd, Nat.reduceMul, reduceCtorEq, List.reduceReplicate, go_sem, replicate_toNat]
  refine ⟨⟨by omega, by simp only [roomB]; omega⟩, ?_⟩
  refine loopK_rng xs (fun k => [(4, vI k)]) (fun k => [(0, ⟨0, .row true 17 (filled GEvent.enc [tI 0, tI 0, .sl 1 [], tI 0, tI 0, tI 0, tI 0, tI 0, .sl 1 [], tI 0, tI 0, tI 0, tI 0, tI 0, tI 0, tI 0, tI 0] xs k)⟩)]) (fun _ => True) (by simp only [roomB]; omega) ?_
  simp only [↓bk_bind, ↓bk_map, ↓bk_ite, ↓bk_some, ↓reduceIte, Nat.reduceEqDiff, Nat.reduceLT, Nat.reduceLeDiff, Nat.reduceAdd, Nat.reduceMul, reduceCtorEq, List.reduceReplicate, go_sem]
  refine ⟨?_, trivial, ?_, ?_⟩
  · simp only [↓bk_bind, ↓bk_map, ↓bk_ite, ↓bk_some, ↓reduceIte, Nat.reduceEqDiff, Nat.reduceLT, Nat.reduceLeDiff, Nat.reduceAdd, Nat.reduceMul, reduceCtorEq, List.reduceReplicate, go_sem, filled_zero]
    all_goals rfl
  · intro k x hx _ h0 h1 hw
    have h : k < xs.length := by omega
    simp only [↓bk_bind, ↓bk_map, ↓bk_ite, ↓bk_some, ↓reduceIte, Nat.reduceEqDiff, Nat.reduceLT, Nat.reduceLeDiff, Nat.reduceAdd, Nat.reduceMul, reduceCtorEq, List.reduceReplicate, go_sem, bk_eq hx, bk_eq (filled_get h), filled_len (Nat.le_of_lt h), h0, h1, hw]
    have hx1 := mem_sum (f := GEvent.size) (at_mem hx)
    refine callK_of (c_laws_toEvent x (by omega)) ?_
    simp only [↓bk_bind, ↓bk_map, ↓bk_ite, ↓bk_some, ↓reduceIte, Nat.reduceEqDiff, Nat.reduceLT, Nat.reduceLeDiff, Nat.reduceAdd, Nat.reduceMul, reduceCtorEq, List.reduceReplicate, go_sem, bk_eq hx, bk_eq (filled_get h), filled_len (Nat.le_of_lt h), h0, h1, hw]
    intros; exact filled_set hx
  · intro _
    simp only [↓bk_bind, ↓bk_map, ↓bk_ite, ↓bk_some, ↓reduceIte, Nat.reduceEqDiff, Nat.reduceLT, Nat.reduceLeDiff, Nat.reduceAdd, Nat.reduceMul, reduceCtorEq, List.reduceReplicate, go_sem, filled_all]
def m_laws_eqEventS : MC :=
(.seq (pr [.mv 4 (.c (.bool false))] [0,1])
(.seq (.seq (pr [.mv 6 (.s 0), .len 7 false (.s 6), .mv 8 (.s 1), .len 9 false (.s 8), .bin 10 false .neq (.s 7) (.s 9)] [0,1,10])
(.cond (.s 10) (.seq (pr [.mv 4 (.c (.bool false))] [4])
.ret) .skip))
(.seq (.seq (pr [.mv 5 (.c (.int .i64 0))] [0,1,5])
(.block 0 (.loop ([0,1,5], []) (.seq (.seq (pr [.mv 11 (.s 5), .mv 12 (.s 0), .len 13 false (.s 12), .bin 14 false .lss (.s 11) (.s 13)] [0,1,5,14])
(.cond (.s 14) .skip (.exit 0)))
(.seq (.block 1 (.seq (.dreg [{ o := .mv 17 (.s 0), hs := [18,21,22,23,24] }, { o := .mv 18 (.s 5), hs := [17,21,22,23,24] }, { o := .idx 19 17 (.s 17) (.s 18), hs := [21,22,23,24], bf := [0,1] }, { o := .load 20 true 17 (.s 19), hs := [21,22,23,24], bf := [0,1,2] }, { o := .mv 21 (.s 1), hs := [17,18,19,20,22] }, { o := .mv 22 (.s 5), hs := [17,18,19,20,21] }, { o := .idx 23 17 (.s 21) (.s 22), hs := [17,18,19,20], bf := [4,5] }, { o := .load 24 true 17 (.s 23), hs := [17,18,19,20], bf := [4,5,6] }, { o := .call 25 [] (.f n_laws_eqEvent) [.s 20, .s 24], bf := [0,1,2,3,4,5,6,7] }, { o := .un 26 .not (.s 25), bf := [0,1,2,3,4,5,6,7,8] }] [0,1,5,26])
(.cond (.s 26) (.seq (pr [.mv 4 (.c (.bool false))] [4])
.ret) .skip)))
(pr [.mv 15 (.s 5), .bin 16 false .add (.s 15) (.c (.int .i64 1)), .mv 5 (.s 16)] [0,1,5]))))))
(.seq (pr [.mv 4 (.c (.bool true))] [4])
.ret))))
theorem c_laws_eqEventS (xs ys : List GEvent) : Ctr Try.prog n_laws_eqEventS [aL 17 (xs.map GEvent.enc), aL 17 (ys.map GEvent.enc)] [rB (decide (xs = ys))] := by
  refine ctr_at (M := m_laws_eqEventS) (m := 0) (n := 27) (res := [(.tmp 4, [false])]) hmix Try.func24 rfl rfl rfl (by kernel_rfl) (by kernel_rfl) (by simp) ?_; unfold m_laws_eqEventS
  intro hb
  simp only [bdA, bdL, bdT, bdR, bdR_map, wfB_i64, wfB_bool, wfB_str, roomB, and_true, true_and, List.length_map] at hb
  obtain ⟨⟨hl, -⟩, ⟨hl2, -⟩⟩ := hb
  simp only [↓bk_bind, ↓bk_map, ↓bk_ite, ↓bk_some, ↓reduceIte, Nat.reduceEqDiff, Nat.reduceLT, Nat.reduceLeDiff, Nat.reduceAdd, Nat.reduceMul, reduceCtorEq, List.reduceReplicate, go_sem]
  refine ⟨fun h => ne_len h, fun h => ?_⟩
  have hle : xs.length = ys.length := by omega
  refine loopK_rng xs (fun k => [(5, vI k)]) (fun k => []) (fun k => xs.take k = ys.take k) hl ?_
  simp only [↓bk_bind, ↓bk_map, ↓bk_ite, ↓bk_some, ↓reduceIte, Nat.reduceEqDiff, Nat.reduceLT, Nat.reduceLeDiff, Nat.reduceAdd, Nat.reduceMul, reduceCtorEq, List.reduceReplicate, go_sem]
  refine ⟨?_, rfl, ?_, ?_⟩
  · simp only [↓bk_bind, ↓bk_map, ↓bk_ite, ↓bk_some, ↓reduceIte, Nat.reduceEqDiff, Nat.reduceLT, Nat.reduceLeDiff, Nat.reduceAdd, Nat.reduceMul, reduceCtorEq, List.reduceReplicate, go_sem]
  · intro k x hx he h0 h1 hw
    obtain ⟨y, hy⟩ := at_some (show k < ys.length by omega)
    have h2 : (k : Int) < ys.length := by omega
    simp only [↓bk_bind, ↓bk_map, ↓bk_ite, ↓bk_some, ↓reduceIte, Nat.reduceEqDiff, Nat.reduceLT, Nat.reduceLeDiff, Nat.reduceAdd, Nat.reduceMul, reduceCtorEq, List.reduceReplicate, go_sem, bk_eq hx, bk_eq hy, h0, h1, h2, hw]
    refine callK_of (c_laws_eqEvent x y) ?_
    simp only [↓bk_bind, ↓bk_map, ↓bk_ite, ↓bk_some, ↓reduceIte, Nat.reduceEqDiff, Nat.reduceLT, Nat.reduceLeDiff, Nat.reduceAdd, Nat.reduceMul, reduceCtorEq, List.reduceReplicate, go_sem, hw]
    exact ⟨fun hn => ne_at hx hy hn, fun hn => (take_eq_step hx hy he).2 hn⟩
  · intro he
    simp only [↓bk_bind, ↓bk_map, ↓bk_ite, ↓bk_some, ↓reduceIte, Nat.reduceEqDiff, Nat.reduceLT, Nat.reduceLeDiff, Nat.reduceAdd, Nat.reduceMul, reduceCtorEq, List.reduceReplicate, go_sem]
    exact eq_all he hle
end Go.Proofs.YtcbljemkihnmnaaR
namespace Go.Proofs.YtcbljemkihnmnaaR
open Go Go.RowKit Go.Proofs
set_option linter.unusedSimpArgs false
set_option linter.unusedVariables false
def digestAt (tick : Int) (l : List GChange) : Int := l.foldl (fun d c => if c.Tick ≤ tick then c.Digest else d) 0
end Go.Proofs.YtcbljemkihnmnaaR
namespace Go.Proofs.YtcbljemkihnmnaaR
open Go Go.RowKit Go.Proofs
set_option linter.unusedSimpArgs false
set_option linter.unusedVariables false
def countKind (kind : Int) (l : List GEvent) : Int := l.foldl (fun n e => if e.Kind = kind then IntKind.i64.wrap (n + 1) else n) 0
theorem countKind_snoc {kind : Int} {l : List GEvent} {k : Nat} {x : GEvent} (h : l[k]? = some x) : countKind kind (l.take (k + 1)) = if x.Kind = kind then IntKind.i64.wrap (countKind kind (l.take k) + 1) else countKind kind (l.take k) := by
  rw [take_snoc h, countKind, List.foldl_append]; rfl
def m_impl_CountKind : MC :=
(.seq (pr [.mv 4 (.c (.int .i64 0))] [0,1])
(.seq (pr [.mv 5 (.c (.int .i64 0))] [0,1,5])
(.seq (.seq (pr [.mv 8 (.s 0), .len 9 false (.s 8), .mv 10 (.c (.int .i64 0))] [1,5,8,9,10])
(.block 0 (.loop ([1,5,8,9,10], [0]) (.seq (pr [.bin 11 false .lss (.s 10) (.s 9)] [1,5,8,9,10,11])
(.seq (.cond (.s 11) .skip (.exit 0))
(.seq (.block 1 (.seq (pr [.idx 12 17 (.s 8) (.s 10), .load 13 true 17 (.s 12), .alloc 7 0 [.pl (.sc (.int .i64 0)), .pl (.sc (.int .i64 0)), .emp 1, .pl (.sc (.int .i64 0)), .pl (.sc (.int .i64 0)), .pl (.sc (.int .i64 0)), .pl (.sc (.int .i64 0)), .pl (.sc (.int .i64 0)), .emp 1, .pl (.sc (.int .i64 0)), .pl (.sc (.int .i64 0)), .pl (.sc (.int .i64 0)), .pl (.sc (.int .i64 0)), .pl (.sc (.int .i64 0)), .pl (.sc (.int .i64 0)), .pl (.sc (.int .i64 0)), .pl (.sc (.int .i64 0))], .store 17 (.s 7) (.s 13)] [1,5,7,8,9,10])
(.seq (pr [.fld 14 (.s 7) 0, .load 15 false 1 (.s 14), .mv 16 (.s 1), .bin 17 false .eql (.s 15) (.s 16)] [1,5,8,9,10,17])
(.cond (.s 17) (pr [.mv 18 (.s 5), .bin 19 false .add (.s 18) (.c (.int .i64 1)), .mv 5 (.s 19)] [1,5,8,9,10]) .skip))))
(pr [.bin 20 false .add (.s 10) (.c (.int .i64 1)), .mv 10 (.s 20)] [1,5,8,9,10])))))))
(.seq (pr [.mv 21 (.s 5), .mv 4 (.s 21)] [4])
.ret))))
theorem c_impl_CountKind (xs : List GEvent) (kind : Int) : Ctr Try.prog n_impl_CountKind [aL 17 (xs.map GEvent.enc), aI kind] [rI (countKind kind xs)] := by
  refine ctr_at (M := m_impl_CountKind) (m := 1) (n := 22) (res := [(.tmp 4, [false])]) hmix Try.func23 rfl rfl rfl (by kernel_rfl) (by kernel_rfl) (by simp) ?_; unfold m_impl_CountKind
  intro hb
  simp only [bdA, bdL, bdT, bdR, bdR_map, wfB_i64, wfB_bool, wfB_str, roomB, and_true, true_and, List.length_map] at hb
  obtain ⟨⟨hl, -⟩, -⟩ := hb
  simp only [↓bk_bind, ↓bk_map, ↓bk_ite, ↓bk_some, ↓reduceIte, Nat.reduceEqDiff, Nat.reduceLT, Nat.reduceLeDiff, Nat.reduceAdd, Nat.reduceMul, reduceCtorEq, List.reduceReplicate, go_sem]
  refine loopK_rng xs (fun k => [(5, vI (countKind kind (xs.take k))), (10, vI k)]) (fun k => []) (fun _ => True) hl ?_
  simp only [↓bk_bind, ↓bk_map, ↓bk_ite, ↓bk_some, ↓reduceIte, Nat.reduceEqDiff, Nat.reduceLT, Nat.reduceLeDiff, Nat.reduceAdd, Nat.reduceMul, reduceCtorEq, List.reduceReplicate, go_sem]
  refine ⟨?_, trivial, ?_, ?_⟩
  · simp only [↓bk_bind, ↓bk_map, ↓bk_ite, ↓bk_some, ↓reduceIte, Nat.reduceEqDiff, Nat.reduceLT, Nat.reduceLeDiff, Nat.reduceAdd, Nat.reduceMul, reduceCtorEq, List.reduceReplicate, go_sem]
    rfl
  · intro k x hx _ h0 h1 hw
    simp only [↓bk_bind, ↓bk_map, ↓bk_ite, ↓bk_some, ↓reduceIte, Nat.reduceEqDiff, Nat.reduceLT, Nat.reduceLeDiff, Nat.reduceAdd, Nat.reduceMul, reduceCtorEq, List.reduceReplicate, go_sem, bk_eq hx, h0, h1, hw, countKind_snoc hx]
    exact ⟨fun h => by rw [if_pos h], fun h => by rw [if_neg h]⟩
  · intro _
    simp only [↓bk_bind, ↓bk_map, ↓bk_ite, ↓bk_some, ↓reduceIte, Nat.reduceEqDiff, Nat.reduceLT, Nat.reduceLeDiff, Nat.reduceAdd, Nat.reduceMul, reduceCtorEq, List.reduceReplicate, go_sem, List.take_length]
def m_spec_CountKind : MC :=
(.seq (pr [.mv 4 (.c (.int .i64 0))] [0,1])
(.seq (pr [.mv 5 (.c (.int .i64 0))] [0,1,5])
(.seq (.seq (pr [.mv 6 (.c (.int .i64 0))] [0,1,5,6])
(.block 0 (.loop ([0,1,5,6], []) (.seq (.seq (pr [.mv 7 (.s 6), .mv 8 (.s 0), .len 9 false (.s 8), .bin 10 false .lss (.s 7) (.s 9)] [0,1,5,6,10])
(.cond (.s 10) .skip (.exit 0)))
(.seq (.block 1 (.seq (pr [.mv 13 (.s 0), .mv 14 (.s 6), .idx 15 17 (.s 13) (.s 14), .fld 16 (.s 15) 0, .load 17 false 1 (.s 16), .mv 18 (.s 1), .bin 19 false .eql (.s 17) (.s 18)] [0,1,5,6,19])
(.cond (.s 19) (pr [.mv 20 (.s 5), .bin 21 false .add (.s 20) (.c (.int .i64 1)), .mv 5 (.s 21)] [0,1,5,6]) .skip)))
(pr [.mv 11 (.s 6), .bin 12 false .add (.s 11) (.c (.int .i64 1)), .mv 6 (.s 12)] [0,1,5,6]))))))
(.seq (pr [.mv 22 (.s 5), .mv 4 (.s 22)] [4])
.ret))))
theorem c_spec_CountKind (xs : List GEvent) (kind : Int) : Ctr Try.prog n_spec_CountKind [aL 17 (xs.map GEvent.enc), aI kind] [rI (countKind kind xs)] := by
  refine ctr_at (M := m_spec_CountKind) (m := 0) (n := 23) (res := [(.tmp 4, [false])]) hmix Try.func21 rfl rfl rfl (by kernel_rfl) (by kernel_rfl) (by simp) ?_; unfold m_spec_CountKind
  intro hb
  simp only [bdA, bdL, bdT, bdR, bdR_map, wfB_i64, wfB_bool, wfB_str, roomB, and_true, true_and, List.length_map] at hb
  obtain ⟨⟨hl, -⟩, -⟩ := hb
  simp only [↓bk_bind, ↓bk_map, ↓bk_ite, ↓bk_some, ↓reduceIte, Nat.reduceEqDiff, Nat.reduceLT, Nat.reduceLeDiff, Nat.reduceAdd, Nat.reduceMul, reduceCtorEq, List.reduceReplicate, go_sem]
  refine loopK_rng xs (fun k => [(5, vI (countKind kind (xs.take k))), (6, vI k)]) (fun k => []) (fun _ => True) hl ?_
  simp only [↓bk_bind, ↓bk_map, ↓bk_ite, ↓bk_some, ↓reduceIte, Nat.reduceEqDiff, Nat.reduceLT, Nat.reduceLeDiff, Nat.reduceAdd, Nat.reduceMul, reduceCtorEq, List.reduceReplicate, go_sem]
  refine ⟨?_, trivial, ?_, ?_⟩
  · simp only [↓bk_bind, ↓bk_map, ↓bk_ite, ↓bk_some, ↓reduceIte, Nat.reduceEqDiff, Nat.reduceLT, Nat.reduceLeDiff, Nat.reduceAdd, Nat.reduceMul, reduceCtorEq, List.reduceReplicate, go_sem]
    rfl
  · intro k x hx _ h0 h1 hw
    simp only [↓bk_bind, ↓bk_map, ↓bk_ite, ↓bk_some, ↓reduceIte, Nat.reduceEqDiff, Nat.reduceLT, Nat.reduceLeDiff, Nat.reduceAdd, Nat.reduceMul, reduceCtorEq, List.reduceReplicate, go_sem, bk_eq hx, h0, h1, hw, countKind_snoc hx]
    exact ⟨fun h => by rw [if_pos h], fun h => by rw [if_neg h]⟩
  · intro _
    simp only [↓bk_bind, ↓bk_map, ↓bk_ite, ↓bk_some, ↓reduceIte, Nat.reduceEqDiff, Nat.reduceLT, Nat.reduceLeDiff, Nat.reduceAdd, Nat.reduceMul, reduceCtorEq, List.reduceReplicate, go_sem, List.take_length]
def m_laws_FnExactCountKind : MC :=
(.seq (pr [.mv 4 (.c (.bool false))] [0,1])
(.seq (pr [.mv 5 (.c (.int .i64 1048576))] [0,1,5])
(.seq (pr [.mv 9 (.s 0), .mv 10 (.s 5), .call 11 [] (.f n_laws_szEventS) [.s 9, .s 10], .mv 5 (.s 11)] [0,1,5])
(.seq (.seq (pr [.mv 12 (.s 5), .bin 13 false .lss (.s 12) (.c (.int .i64 0))] [0,1,13])
(.cond (.s 13) (.seq (pr [.mv 4 (.c (.bool true))] [4])
.ret) .skip))
(.seq (pr [.mv 14 (.s 0), .call 15 [0] (.f n_laws_toEventS) [.s 14], .mv 16 (.s 1), .call 17 [] (.f n_spec_CountKind) [.s 15, .s 16], .mv 6 (.s 17)] [0,1,6])
(.seq (pr [.mv 18 (.s 0), .call 19 [1] (.f n_laws_toEventS) [.s 18], .mv 7 (.s 19)] [0,1,6,7])
(.seq (pr [.mv 20 (.s 7), .mv 21 (.s 1), .call 22 [] (.f n_impl_CountKind) [.s 20, .s 21], .mv 8 (.s 22)] [0,6,7,8])
(.seq (.seq (pr [.mv 23 (.s 8), .mv 24 (.s 6), .bin 25 false .neq (.s 23) (.s 24)] [0,7,25])
(.cond (.s 25) (.seq (pr [.mv 4 (.c (.bool false))] [4])
.ret) .skip))
(.seq (.seq (pr [.mv 26 (.s 7), .mv 27 (.s 0), .call 28 [2] (.f n_laws_toEventS) [.s 27], .call 29 [] (.f n_laws_eqEventS) [.s 26, .s 28], .un 30 .not (.s 29)] [30])
(.cond (.s 30) (.seq (pr [.mv 4 (.c (.bool false))] [4])
.ret) .skip))
(.seq (pr [.mv 4 (.c (.bool true))] [4])
.ret))))))))))
theorem c_laws_FnExactCountKind (xs : List GEvent) (kind : Int) : Ctr Try.prog n_laws_FnExactCountKind [aL 17 (xs.map GEvent.enc), aI kind] [rB true] := by
  refine ctr_at (M := m_laws_FnExactCountKind) (m := 3) (n := 31) (res := [(.tmp 4, [false])]) hmix Try.func5 rfl rfl rfl (by kernel_rfl) (by kernel_rfl) (by simp) ?_; unfold m_laws_FnExactCountKind
  intro hb
  clear hb
  simp only [↓bk_bind, ↓bk_map, ↓bk_ite, ↓bk_some, ↓reduceIte, Nat.reduceEqDiff, Nat.reduceLT, Nat.reduceLeDiff, Nat.reduceAdd, Nat.reduceMul, reduceCtorEq, List.reduceReplicate, go_sem]
  refine callK_of (c_laws_szEventS xs _ (by omega)) ?_
  simp only [↓bk_bind, ↓bk_map, ↓bk_ite, ↓bk_some, ↓reduceIte, Nat.reduceEqDiff, Nat.reduceLT, Nat.reduceLeDiff, Nat.reduceAdd, Nat.reduceMul, reduceCtorEq, List.reduceReplicate, go_sem]
  intro _ hz
  have hs := szr_ok hz
  refine callK_of (c_laws_toEventS xs (by omega)) ?_
  simp only [↓bk_bind, ↓bk_map, ↓bk_ite, ↓bk_some, ↓reduceIte, Nat.reduceEqDiff, Nat.reduceLT, Nat.reduceLeDiff, Nat.reduceAdd, Nat.reduceMul, reduceCtorEq, List.reduceReplicate, go_sem]
  refine callK_of (c_spec_CountKind xs kind) ?_
  simp only [↓bk_bind, ↓bk_map, ↓bk_ite, ↓bk_some, ↓reduceIte, Nat.reduceEqDiff, Nat.reduceLT, Nat.reduceLeDiff, Nat.reduceAdd, Nat.reduceMul, reduceCtorEq, List.reduceReplicate, go_sem]
  intros
  refine callK_of (c_laws_toEventS xs (by omega)) ?_
  simp only [↓bk_bind, ↓bk_map, ↓bk_ite, ↓bk_some, ↓reduceIte, Nat.reduceEqDiff, Nat.reduceLT, Nat.reduceLeDiff, Nat.reduceAdd, Nat.reduceMul, reduceCtorEq, List.reduceReplicate, go_sem]
  intros
  refine callK_of (c_impl_CountKind xs kind) ?_
  simp only [↓bk_bind, ↓bk_map, ↓bk_ite, ↓bk_some, ↓reduceIte, Nat.reduceEqDiff, Nat.reduceLT, Nat.reduceLeDiff, Nat.reduceAdd, Nat.reduceMul, reduceCtorEq, List.reduceReplicate, go_sem]
  intros
  refine callK_of (c_laws_toEventS xs (by omega)) ?_
  simp only [↓bk_bind, ↓bk_map, ↓bk_ite, ↓bk_some, ↓reduceIte, Nat.reduceEqDiff, Nat.reduceLT, Nat.reduceLeDiff, Nat.reduceAdd, Nat.reduceMul, reduceCtorEq, List.reduceReplicate, go_sem]
  refine callK_of (c_laws_eqEventS xs xs) ?_
  simp only [↓bk_bind, ↓bk_map, ↓bk_ite, ↓bk_some, ↓reduceIte, Nat.reduceEqDiff, Nat.reduceLT, Nat.reduceLeDiff, Nat.reduceAdd, Nat.reduceMul, reduceCtorEq, List.reduceReplicate, go_sem]
end Go.Proofs.YtcbljemkihnmnaaR
