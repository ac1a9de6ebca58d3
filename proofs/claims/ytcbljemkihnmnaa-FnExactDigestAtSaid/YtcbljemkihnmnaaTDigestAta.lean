/- What the functions compute that the law of DigestAt reaches: contracts, function by function. Conditions stand in each theorem. -/
import Derived.Test.YtcbljemkihnmnaaProg
import Derived.KernelRfl
import Derived.Test.YtcbljemkihnmnaaRab
namespace Go.Proofs.YtcbljemkihnmnaaR
open Go Go.RowKit
def encI (n : Int) : List T := [tI n]
def encB (b : Bool) : List T := [tB b]
theorem int_of {ts : List T} (h : IsT .int ts) : ∃ n, ts = encI n := h
theorem list_of {α : Type} {enc : α → List T} {ty : DT} (h : ∀ {ts}, IsT ty ts → ∃ x, ts = enc x) : ∀ {es : List (List T)}, (∀ x ∈ es, IsT ty x) → ∃ xs : List α, es = xs.map enc
  | [], _ => ⟨[], rfl⟩
  | e :: es, k => by
    obtain ⟨x, rfl⟩ := h (k e (by simp))
    obtain ⟨xs, hx⟩ := list_of h (es := es) fun y hy => k y (by simp [hy])
    subst hx
    exact ⟨x :: xs, rfl⟩
theorem encI_inj {a b : Int} (h : encI a = encI b) : a = b := by simpa [encI] using h
structure GAddress where
  Host : Int
  Path : Int
  Query : Int
  deriving DecidableEq
def GAddress.enc (x : GAddress) : List T := [tI x.Host, tI x.Path, tI x.Query]
def GAddress.dt : DT := .st (.fc .int (.fc .int (.fc .int .fn)))
theorem GAddress.of {ts : List T} (h : IsT GAddress.dt ts) : ∃ x : GAddress, ts = x.enc := by
  simp only [GAddress.dt, IsT] at h
  obtain ⟨_, _, rfl, ⟨v0, rfl⟩, _, _, rfl, ⟨v1, rfl⟩, _, _, rfl, ⟨v2, rfl⟩, rfl⟩ := h
  exact ⟨⟨v0, v1, v2⟩, rfl⟩
structure GResource where
  Kind : Int
  Body : List Int
  To : GAddress
  deriving DecidableEq
def GResource.enc (x : GResource) : List T := [tI x.Kind, .sl 1 (x.Body.map encI), tI x.To.Host, tI x.To.Path, tI x.To.Query]
def GResource.dt : DT := .st (.fc .int (.fc (.sl .int) (.fc GAddress.dt .fn)))
theorem GResource.of {ts : List T} (h : IsT GResource.dt ts) : ∃ x : GResource, ts = x.enc := by
  simp only [GResource.dt, IsT] at h
  obtain ⟨_, _, rfl, ⟨v0, rfl⟩, _, _, rfl, ⟨l1, rfl, k1⟩, _, _, rfl, k2, rfl⟩ := h
  obtain ⟨v1, rfl⟩ := list_of int_of k1
  obtain ⟨v2, rfl⟩ := GAddress.of k2
  exact ⟨⟨v0, v1, v2⟩, rfl⟩
def GResource.size (x : GResource) : Nat := (x.Body.length)
structure GPart where
  Digest : Int
  Resource : GResource
  Uses : Int
  deriving DecidableEq
def GPart.enc (x : GPart) : List T := [tI x.Digest, tI x.Resource.Kind, .sl 1 (x.Resource.Body.map encI), tI x.Resource.To.Host, tI x.Resource.To.Path, tI x.Resource.To.Query, tI x.Uses]
def GPart.dt : DT := .st (.fc .int (.fc GResource.dt (.fc .int .fn)))
theorem GPart.of {ts : List T} (h : IsT GPart.dt ts) : ∃ x : GPart, ts = x.enc := by
  simp only [GPart.dt, IsT] at h
  obtain ⟨_, _, rfl, ⟨v0, rfl⟩, _, _, rfl, k1, _, _, rfl, ⟨v2, rfl⟩, rfl⟩ := h
  obtain ⟨v1, rfl⟩ := GResource.of k1
  exact ⟨⟨v0, v1, v2⟩, rfl⟩
def GPart.size (x : GPart) : Nat := (x.Resource.size)
structure GPiece where
  From : Int
  Count : Int
  New : List Int
  deriving DecidableEq
def GPiece.enc (x : GPiece) : List T := [tI x.From, tI x.Count, .sl 1 (x.New.map encI)]
def GPiece.dt : DT := .st (.fc .int (.fc .int (.fc (.sl .int) .fn)))
theorem GPiece.of {ts : List T} (h : IsT GPiece.dt ts) : ∃ x : GPiece, ts = x.enc := by
  simp only [GPiece.dt, IsT] at h
  obtain ⟨_, _, rfl, ⟨v0, rfl⟩, _, _, rfl, ⟨v1, rfl⟩, _, _, rfl, ⟨l2, rfl, k2⟩, rfl⟩ := h
  obtain ⟨v2, rfl⟩ := list_of int_of k2
  exact ⟨⟨v0, v1, v2⟩, rfl⟩
def GPiece.size (x : GPiece) : Nat := (x.New.length)
structure GVersion where
  Address : GAddress
  From : Int
  Resource : GResource
  deriving DecidableEq
def GVersion.enc (x : GVersion) : List T := [tI x.Address.Host, tI x.Address.Path, tI x.Address.Query, tI x.From, tI x.Resource.Kind, .sl 1 (x.Resource.Body.map encI), tI x.Resource.To.Host, tI x.Resource.To.Path, tI x.Resource.To.Query]
def GVersion.dt : DT := .st (.fc GAddress.dt (.fc .int (.fc GResource.dt .fn)))
theorem GVersion.of {ts : List T} (h : IsT GVersion.dt ts) : ∃ x : GVersion, ts = x.enc := by
  simp only [GVersion.dt, IsT] at h
  obtain ⟨_, _, rfl, k0, _, _, rfl, ⟨v1, rfl⟩, _, _, rfl, k2, rfl⟩ := h
  obtain ⟨v0, rfl⟩ := GAddress.of k0
  obtain ⟨v2, rfl⟩ := GResource.of k2
  exact ⟨⟨v0, v1, v2⟩, rfl⟩
def GVersion.size (x : GVersion) : Nat := (x.Resource.size)
structure GOp where
  Kind : Int
  A : Int
  B : Int
  C : Int
  deriving DecidableEq
def GOp.enc (x : GOp) : List T := [tI x.Kind, tI x.A, tI x.B, tI x.C]
def GOp.dt : DT := .st (.fc .int (.fc .int (.fc .int (.fc .int .fn))))
theorem GOp.of {ts : List T} (h : IsT GOp.dt ts) : ∃ x : GOp, ts = x.enc := by
  simp only [GOp.dt, IsT] at h
  obtain ⟨_, _, rfl, ⟨v0, rfl⟩, _, _, rfl, ⟨v1, rfl⟩, _, _, rfl, ⟨v2, rfl⟩, _, _, rfl, ⟨v3, rfl⟩, rfl⟩ := h
  exact ⟨⟨v0, v1, v2, v3⟩, rfl⟩
structure GState where
  Pc : Int
  Regs : List Int
  Slots : List Int
  Nodes : List Int
  deriving DecidableEq
def GState.enc (x : GState) : List T := [tI x.Pc, .sl 1 (x.Regs.map encI), .sl 1 (x.Slots.map encI), .sl 1 (x.Nodes.map encI)]
def GState.dt : DT := .st (.fc .int (.fc (.sl .int) (.fc (.sl .int) (.fc (.sl .int) .fn))))
theorem GState.of {ts : List T} (h : IsT GState.dt ts) : ∃ x : GState, ts = x.enc := by
  simp only [GState.dt, IsT] at h
  obtain ⟨_, _, rfl, ⟨v0, rfl⟩, _, _, rfl, ⟨l1, rfl, k1⟩, _, _, rfl, ⟨l2, rfl, k2⟩, _, _, rfl, ⟨l3, rfl, k3⟩, rfl⟩ := h
  obtain ⟨v1, rfl⟩ := list_of int_of k1
  obtain ⟨v2, rfl⟩ := list_of int_of k2
  obtain ⟨v3, rfl⟩ := list_of int_of k3
  exact ⟨⟨v0, v1, v2, v3⟩, rfl⟩
def GState.size (x : GState) : Nat := (x.Regs.length) + (x.Slots.length) + (x.Nodes.length)
structure GVisit where
  Site : List GVersion
  Tick : Int
  Seed : Int
  Inputs : List Int
  deriving DecidableEq
def GVisit.enc (x : GVisit) : List T := [.sl 9 (x.Site.map GVersion.enc), tI x.Tick, tI x.Seed, .sl 1 (x.Inputs.map encI)]
def GVisit.dt : DT := .st (.fc (.sl GVersion.dt) (.fc .int (.fc .int (.fc (.sl .int) .fn))))
theorem GVisit.of {ts : List T} (h : IsT GVisit.dt ts) : ∃ x : GVisit, ts = x.enc := by
  simp only [GVisit.dt, IsT] at h
  obtain ⟨_, _, rfl, ⟨l0, rfl, k0⟩, _, _, rfl, ⟨v1, rfl⟩, _, _, rfl, ⟨v2, rfl⟩, _, _, rfl, ⟨l3, rfl, k3⟩, rfl⟩ := h
  obtain ⟨v0, rfl⟩ := list_of GVersion.of k0
  obtain ⟨v3, rfl⟩ := list_of int_of k3
  exact ⟨⟨v0, v1, v2, v3⟩, rfl⟩
def GVisit.size (x : GVisit) : Nat := (x.Site.length + (x.Site.map GVersion.size).sum) + (x.Inputs.length)
structure GWant where
  Kind : Int
  Address : GAddress
  deriving DecidableEq
def GWant.enc (x : GWant) : List T := [tI x.Kind, tI x.Address.Host, tI x.Address.Path, tI x.Address.Query]
def GWant.dt : DT := .st (.fc .int (.fc GAddress.dt .fn))
theorem GWant.of {ts : List T} (h : IsT GWant.dt ts) : ∃ x : GWant, ts = x.enc := by
  simp only [GWant.dt, IsT] at h
  obtain ⟨_, _, rfl, ⟨v0, rfl⟩, _, _, rfl, k1, rfl⟩ := h
  obtain ⟨v1, rfl⟩ := GAddress.of k1
  exact ⟨⟨v0, v1⟩, rfl⟩
structure GEntry where
  Kind : Int
  Address : GAddress
  Value : Int
  deriving DecidableEq
def GEntry.enc (x : GEntry) : List T := [tI x.Kind, tI x.Address.Host, tI x.Address.Path, tI x.Address.Query, tI x.Value]
def GEntry.dt : DT := .st (.fc .int (.fc GAddress.dt (.fc .int .fn)))
theorem GEntry.of {ts : List T} (h : IsT GEntry.dt ts) : ∃ x : GEntry, ts = x.enc := by
  simp only [GEntry.dt, IsT] at h
  obtain ⟨_, _, rfl, ⟨v0, rfl⟩, _, _, rfl, k1, _, _, rfl, ⟨v2, rfl⟩, rfl⟩ := h
  obtain ⟨v1, rfl⟩ := GAddress.of k1
  exact ⟨⟨v0, v1, v2⟩, rfl⟩
structure GCapture where
  Address : GAddress
  Tick : Int
  Resource : GResource
  deriving DecidableEq
def GCapture.enc (x : GCapture) : List T := [tI x.Address.Host, tI x.Address.Path, tI x.Address.Query, tI x.Tick, tI x.Resource.Kind, .sl 1 (x.Resource.Body.map encI), tI x.Resource.To.Host, tI x.Resource.To.Path, tI x.Resource.To.Query]
def GCapture.dt : DT := .st (.fc GAddress.dt (.fc .int (.fc GResource.dt .fn)))
theorem GCapture.of {ts : List T} (h : IsT GCapture.dt ts) : ∃ x : GCapture, ts = x.enc := by
  simp only [GCapture.dt, IsT] at h
  obtain ⟨_, _, rfl, k0, _, _, rfl, ⟨v1, rfl⟩, _, _, rfl, k2, rfl⟩ := h
  obtain ⟨v0, rfl⟩ := GAddress.of k0
  obtain ⟨v2, rfl⟩ := GResource.of k2
  exact ⟨⟨v0, v1, v2⟩, rfl⟩
def GCapture.size (x : GCapture) : Nat := (x.Resource.size)
structure GChoice where
  Rule : Int
  At : Int
  deriving DecidableEq
def GChoice.enc (x : GChoice) : List T := [tI x.Rule, tI x.At]
def GChoice.dt : DT := .st (.fc .int (.fc .int .fn))
theorem GChoice.of {ts : List T} (h : IsT GChoice.dt ts) : ∃ x : GChoice, ts = x.enc := by
  simp only [GChoice.dt, IsT] at h
  obtain ⟨_, _, rfl, ⟨v0, rfl⟩, _, _, rfl, ⟨v1, rfl⟩, rfl⟩ := h
  exact ⟨⟨v0, v1⟩, rfl⟩
structure GWander where
  State : GState
  Choices : List GChoice
  Labels : List Int
  Missing : Int
  deriving DecidableEq
def GWander.enc (x : GWander) : List T := [tI x.State.Pc, .sl 1 (x.State.Regs.map encI), .sl 1 (x.State.Slots.map encI), .sl 1 (x.State.Nodes.map encI), .sl 2 (x.Choices.map GChoice.enc), .sl 1 (x.Labels.map encI), tI x.Missing]
def GWander.dt : DT := .st (.fc GState.dt (.fc (.sl GChoice.dt) (.fc (.sl .int) (.fc .int .fn))))
theorem GWander.of {ts : List T} (h : IsT GWander.dt ts) : ∃ x : GWander, ts = x.enc := by
  simp only [GWander.dt, IsT] at h
  obtain ⟨_, _, rfl, k0, _, _, rfl, ⟨l1, rfl, k1⟩, _, _, rfl, ⟨l2, rfl, k2⟩, _, _, rfl, ⟨v3, rfl⟩, rfl⟩ := h
  obtain ⟨v0, rfl⟩ := GState.of k0
  obtain ⟨v1, rfl⟩ := list_of GChoice.of k1
  obtain ⟨v2, rfl⟩ := list_of int_of k2
  exact ⟨⟨v0, v1, v2, v3⟩, rfl⟩
def GWander.size (x : GWander) : Nat := (x.State.size) + (x.Choices.length) + (x.Labels.length)
structure GModel where
  Base : Int
  Step : Int
  Seen : Int
  Fits : Bool
  deriving DecidableEq
def GModel.enc (x : GModel) : List T := [tI x.Base, tI x.Step, tI x.Seen, tB x.Fits]
def GModel.dt : DT := .st (.fc .int (.fc .int (.fc .int (.fc .bool .fn))))
theorem GModel.of {ts : List T} (h : IsT GModel.dt ts) : ∃ x : GModel, ts = x.enc := by
  simp only [GModel.dt, IsT] at h
  obtain ⟨_, _, rfl, ⟨v0, rfl⟩, _, _, rfl, ⟨v1, rfl⟩, _, _, rfl, ⟨v2, rfl⟩, _, _, rfl, ⟨v3, rfl⟩, rfl⟩ := h
  exact ⟨⟨v0, v1, v2, v3⟩, rfl⟩
structure GShown where
  Tick : Int
  Address : GAddress
  deriving DecidableEq
def GShown.enc (x : GShown) : List T := [tI x.Tick, tI x.Address.Host, tI x.Address.Path, tI x.Address.Query]
def GShown.dt : DT := .st (.fc .int (.fc GAddress.dt .fn))
theorem GShown.of {ts : List T} (h : IsT GShown.dt ts) : ∃ x : GShown, ts = x.enc := by
  simp only [GShown.dt, IsT] at h
  obtain ⟨_, _, rfl, ⟨v0, rfl⟩, _, _, rfl, k1, rfl⟩ := h
  obtain ⟨v1, rfl⟩ := GAddress.of k1
  exact ⟨⟨v0, v1⟩, rfl⟩
structure GLeaf where
  Value : Int
  Salt : Int
  Hidden : Bool
  Seal : Int
  deriving DecidableEq
def GLeaf.enc (x : GLeaf) : List T := [tI x.Value, tI x.Salt, tB x.Hidden, tI x.Seal]
def GLeaf.dt : DT := .st (.fc .int (.fc .int (.fc .bool (.fc .int .fn))))
theorem GLeaf.of {ts : List T} (h : IsT GLeaf.dt ts) : ∃ x : GLeaf, ts = x.enc := by
  simp only [GLeaf.dt, IsT] at h
  obtain ⟨_, _, rfl, ⟨v0, rfl⟩, _, _, rfl, ⟨v1, rfl⟩, _, _, rfl, ⟨v2, rfl⟩, _, _, rfl, ⟨v3, rfl⟩, rfl⟩ := h
  exact ⟨⟨v0, v1, v2, v3⟩, rfl⟩
structure GEdition where
  Captures : List GCapture
  From : Int
  Until : Int
  Hidden : List GAddress
  deriving DecidableEq
def GEdition.enc (x : GEdition) : List T := [.sl 9 (x.Captures.map GCapture.enc), tI x.From, tI x.Until, .sl 3 (x.Hidden.map GAddress.enc)]
def GEdition.dt : DT := .st (.fc (.sl GCapture.dt) (.fc .int (.fc .int (.fc (.sl GAddress.dt) .fn))))
theorem GEdition.of {ts : List T} (h : IsT GEdition.dt ts) : ∃ x : GEdition, ts = x.enc := by
  simp only [GEdition.dt, IsT] at h
  obtain ⟨_, _, rfl, ⟨l0, rfl, k0⟩, _, _, rfl, ⟨v1, rfl⟩, _, _, rfl, ⟨v2, rfl⟩, _, _, rfl, ⟨l3, rfl, k3⟩, rfl⟩ := h
  obtain ⟨v0, rfl⟩ := list_of GCapture.of k0
  obtain ⟨v3, rfl⟩ := list_of GAddress.of k3
  exact ⟨⟨v0, v1, v2, v3⟩, rfl⟩
def GEdition.size (x : GEdition) : Nat := (x.Captures.length + (x.Captures.map GCapture.size).sum) + (x.Hidden.length)
structure GExclusion where
  Host : Int
  Path : Int
  From : Int
  Until : Int
  Asked : Int
  deriving DecidableEq
def GExclusion.enc (x : GExclusion) : List T := [tI x.Host, tI x.Path, tI x.From, tI x.Until, tI x.Asked]
def GExclusion.dt : DT := .st (.fc .int (.fc .int (.fc .int (.fc .int (.fc .int .fn)))))
theorem GExclusion.of {ts : List T} (h : IsT GExclusion.dt ts) : ∃ x : GExclusion, ts = x.enc := by
  simp only [GExclusion.dt, IsT] at h
  obtain ⟨_, _, rfl, ⟨v0, rfl⟩, _, _, rfl, ⟨v1, rfl⟩, _, _, rfl, ⟨v2, rfl⟩, _, _, rfl, ⟨v3, rfl⟩, _, _, rfl, ⟨v4, rfl⟩, rfl⟩ := h
  exact ⟨⟨v0, v1, v2, v3, v4⟩, rfl⟩
structure GStatement where
  Witness : Int
  Digest : Int
  Tick : Int
  Seal : Int
  deriving DecidableEq
def GStatement.enc (x : GStatement) : List T := [tI x.Witness, tI x.Digest, tI x.Tick, tI x.Seal]
def GStatement.dt : DT := .st (.fc .int (.fc .int (.fc .int (.fc .int .fn))))
theorem GStatement.of {ts : List T} (h : IsT GStatement.dt ts) : ∃ x : GStatement, ts = x.enc := by
  simp only [GStatement.dt, IsT] at h
  obtain ⟨_, _, rfl, ⟨v0, rfl⟩, _, _, rfl, ⟨v1, rfl⟩, _, _, rfl, ⟨v2, rfl⟩, _, _, rfl, ⟨v3, rfl⟩, rfl⟩ := h
  exact ⟨⟨v0, v1, v2, v3⟩, rfl⟩
structure GLibrary where
  Id : Int
  Digests : List Int
  Up : Bool
  Lies : Bool
  deriving DecidableEq
def GLibrary.enc (x : GLibrary) : List T := [tI x.Id, .sl 1 (x.Digests.map encI), tB x.Up, tB x.Lies]
def GLibrary.dt : DT := .st (.fc .int (.fc (.sl .int) (.fc .bool (.fc .bool .fn))))
theorem GLibrary.of {ts : List T} (h : IsT GLibrary.dt ts) : ∃ x : GLibrary, ts = x.enc := by
  simp only [GLibrary.dt, IsT] at h
  obtain ⟨_, _, rfl, ⟨v0, rfl⟩, _, _, rfl, ⟨l1, rfl, k1⟩, _, _, rfl, ⟨v2, rfl⟩, _, _, rfl, ⟨v3, rfl⟩, rfl⟩ := h
  obtain ⟨v1, rfl⟩ := list_of int_of k1
  exact ⟨⟨v0, v1, v2, v3⟩, rfl⟩
def GLibrary.size (x : GLibrary) : Nat := (x.Digests.length)
structure GContainer where
  Script : List GOp
  Entries : List GEntry
  Captures : List GCapture
  Root : Int
  deriving DecidableEq
def GContainer.enc (x : GContainer) : List T := [.sl 4 (x.Script.map GOp.enc), .sl 5 (x.Entries.map GEntry.enc), .sl 9 (x.Captures.map GCapture.enc), tI x.Root]
def GContainer.dt : DT := .st (.fc (.sl GOp.dt) (.fc (.sl GEntry.dt) (.fc (.sl GCapture.dt) (.fc .int .fn))))
theorem GContainer.of {ts : List T} (h : IsT GContainer.dt ts) : ∃ x : GContainer, ts = x.enc := by
  simp only [GContainer.dt, IsT] at h
  obtain ⟨_, _, rfl, ⟨l0, rfl, k0⟩, _, _, rfl, ⟨l1, rfl, k1⟩, _, _, rfl, ⟨l2, rfl, k2⟩, _, _, rfl, ⟨v3, rfl⟩, rfl⟩ := h
  obtain ⟨v0, rfl⟩ := list_of GOp.of k0
  obtain ⟨v1, rfl⟩ := list_of GEntry.of k1
  obtain ⟨v2, rfl⟩ := list_of GCapture.of k2
  exact ⟨⟨v0, v1, v2, v3⟩, rfl⟩
def GContainer.size (x : GContainer) : Nat := (x.Script.length) + (x.Entries.length) + (x.Captures.length + (x.Captures.map GCapture.size).sum)
structure GFound where
  Address : GAddress
  Tick : Int
  Container : Int
  At : Int
  deriving DecidableEq
def GFound.enc (x : GFound) : List T := [tI x.Address.Host, tI x.Address.Path, tI x.Address.Query, tI x.Tick, tI x.Container, tI x.At]
def GFound.dt : DT := .st (.fc GAddress.dt (.fc .int (.fc .int (.fc .int .fn))))
theorem GFound.of {ts : List T} (h : IsT GFound.dt ts) : ∃ x : GFound, ts = x.enc := by
  simp only [GFound.dt, IsT] at h
  obtain ⟨_, _, rfl, k0, _, _, rfl, ⟨v1, rfl⟩, _, _, rfl, ⟨v2, rfl⟩, _, _, rfl, ⟨v3, rfl⟩, rfl⟩ := h
  obtain ⟨v0, rfl⟩ := GAddress.of k0
  exact ⟨⟨v0, v1, v2, v3⟩, rfl⟩
structure GDisk where
  Containers : List GContainer
  Index : List GFound
  Wanted : List GContainer
  deriving DecidableEq
def GDisk.enc (x : GDisk) : List T := [.sl 4 (x.Containers.map GContainer.enc), .sl 6 (x.Index.map GFound.enc), .sl 4 (x.Wanted.map GContainer.enc)]
def GDisk.dt : DT := .st (.fc (.sl GContainer.dt) (.fc (.sl GFound.dt) (.fc (.sl GContainer.dt) .fn)))
theorem GDisk.of {ts : List T} (h : IsT GDisk.dt ts) : ∃ x : GDisk, ts = x.enc := by
  simp only [GDisk.dt, IsT] at h
  obtain ⟨_, _, rfl, ⟨l0, rfl, k0⟩, _, _, rfl, ⟨l1, rfl, k1⟩, _, _, rfl, ⟨l2, rfl, k2⟩, rfl⟩ := h
  obtain ⟨v0, rfl⟩ := list_of GContainer.of k0
  obtain ⟨v1, rfl⟩ := list_of GFound.of k1
  obtain ⟨v2, rfl⟩ := list_of GContainer.of k2
  exact ⟨⟨v0, v1, v2⟩, rfl⟩
def GDisk.size (x : GDisk) : Nat := (x.Containers.length + (x.Containers.map GContainer.size).sum) + (x.Index.length) + (x.Wanted.length + (x.Wanted.map GContainer.size).sum)
structure GArchive where
  Site : List GVersion
  Script : List GOp
  Disk : GDisk
  Exclusions : List GExclusion
  Libraries : List GLibrary
  Keys : List Int
  Statements : List GStatement
  Now : Int
  deriving DecidableEq
def GArchive.enc (x : GArchive) : List T := [.sl 9 (x.Site.map GVersion.enc), .sl 4 (x.Script.map GOp.enc), .sl 4 (x.Disk.Containers.map GContainer.enc), .sl 6 (x.Disk.Index.map GFound.enc), .sl 4 (x.Disk.Wanted.map GContainer.enc), .sl 5 (x.Exclusions.map GExclusion.enc), .sl 4 (x.Libraries.map GLibrary.enc), .sl 1 (x.Keys.map encI), .sl 4 (x.Statements.map GStatement.enc), tI x.Now]
def GArchive.dt : DT := .st (.fc (.sl GVersion.dt) (.fc (.sl GOp.dt) (.fc GDisk.dt (.fc (.sl GExclusion.dt) (.fc (.sl GLibrary.dt) (.fc (.sl .int) (.fc (.sl GStatement.dt) (.fc .int .fn))))))))
theorem GArchive.of {ts : List T} (h : IsT GArchive.dt ts) : ∃ x : GArchive, ts = x.enc := by
  simp only [GArchive.dt, IsT] at h
  obtain ⟨_, _, rfl, ⟨l0, rfl, k0⟩, _, _, rfl, ⟨l1, rfl, k1⟩, _, _, rfl, k2, _, _, rfl, ⟨l3, rfl, k3⟩, _, _, rfl, ⟨l4, rfl, k4⟩, _, _, rfl, ⟨l5, rfl, k5⟩, _, _, rfl, ⟨l6, rfl, k6⟩, _, _, rfl, ⟨v7, rfl⟩, rfl⟩ := h
  obtain ⟨v0, rfl⟩ := list_of GVersion.of k0
  obtain ⟨v1, rfl⟩ := list_of GOp.of k1
  obtain ⟨v2, rfl⟩ := GDisk.of k2
  obtain ⟨v3, rfl⟩ := list_of GExclusion.of k3
  obtain ⟨v4, rfl⟩ := list_of GLibrary.of k4
  obtain ⟨v5, rfl⟩ := list_of int_of k5
  obtain ⟨v6, rfl⟩ := list_of GStatement.of k6
  exact ⟨⟨v0, v1, v2, v3, v4, v5, v6, v7⟩, rfl⟩
def GArchive.size (x : GArchive) : Nat := (x.Site.length + (x.Site.map GVersion.size).sum) + (x.Script.length) + (x.Disk.size) + (x.Exclusions.length) + (x.Libraries.length + (x.Libraries.map GLibrary.size).sum) + (x.Keys.length) + (x.Statements.length)
structure GEvent where
  Kind : Int
  N : Int
  Inputs : List Int
  Version : GVersion
  Exclusion : GExclusion
  deriving DecidableEq
def GEvent.enc (x : GEvent) : List T := [tI x.Kind, tI x.N, .sl 1 (x.Inputs.map encI), tI x.Version.Address.Host, tI x.Version.Address.Path, tI x.Version.Address.Query, tI x.Version.From, tI x.Version.Resource.Kind, .sl 1 (x.Version.Resource.Body.map encI), tI x.Version.Resource.To.Host, tI x.Version.Resource.To.Path, tI x.Version.Resource.To.Query, tI x.Exclusion.Host, tI x.Exclusion.Path, tI x.Exclusion.From, tI x.Exclusion.Until, tI x.Exclusion.Asked]
def GEvent.dt : DT := .st (.fc .int (.fc .int (.fc (.sl .int) (.fc GVersion.dt (.fc GExclusion.dt .fn)))))
theorem GEvent.of {ts : List T} (h : IsT GEvent.dt ts) : ∃ x : GEvent, ts = x.enc := by
  simp only [GEvent.dt, IsT] at h
  obtain ⟨_, _, rfl, ⟨v0, rfl⟩, _, _, rfl, ⟨v1, rfl⟩, _, _, rfl, ⟨l2, rfl, k2⟩, _, _, rfl, k3, _, _, rfl, k4, rfl⟩ := h
  obtain ⟨v2, rfl⟩ := list_of int_of k2
  obtain ⟨v3, rfl⟩ := GVersion.of k3
  obtain ⟨v4, rfl⟩ := GExclusion.of k4
  exact ⟨⟨v0, v1, v2, v3, v4⟩, rfl⟩
def GEvent.size (x : GEvent) : Nat := (x.Inputs.length) + (x.Version.size)
structure GChange where
  Tick : Int
  Digest : Int
  deriving DecidableEq
def GChange.enc (x : GChange) : List T := [tI x.Tick, tI x.Digest]
def GChange.dt : DT := .st (.fc .int (.fc .int .fn))
theorem GChange.of {ts : List T} (h : IsT GChange.dt ts) : ∃ x : GChange, ts = x.enc := by
  simp only [GChange.dt, IsT] at h
  obtain ⟨_, _, rfl, ⟨v0, rfl⟩, _, _, rfl, ⟨v1, rfl⟩, rfl⟩ := h
  exact ⟨⟨v0, v1⟩, rfl⟩
structure GPlayed where
  Code : Int
  At : Int
  State : GState
  deriving DecidableEq
def GPlayed.enc (x : GPlayed) : List T := [tI x.Code, tI x.At, tI x.State.Pc, .sl 1 (x.State.Regs.map encI), .sl 1 (x.State.Slots.map encI), .sl 1 (x.State.Nodes.map encI)]
def GPlayed.dt : DT := .st (.fc .int (.fc .int (.fc GState.dt .fn)))
theorem GPlayed.of {ts : List T} (h : IsT GPlayed.dt ts) : ∃ x : GPlayed, ts = x.enc := by
  simp only [GPlayed.dt, IsT] at h
  obtain ⟨_, _, rfl, ⟨v0, rfl⟩, _, _, rfl, ⟨v1, rfl⟩, _, _, rfl, k2, rfl⟩ := h
  obtain ⟨v2, rfl⟩ := GState.of k2
  exact ⟨⟨v0, v1, v2⟩, rfl⟩
def GPlayed.size (x : GPlayed) : Nat := (x.State.size)
attribute [go_sem] encI encB GAddress.enc GResource.enc GPart.enc GPiece.enc GVersion.enc GOp.enc GState.enc GVisit.enc GWant.enc GEntry.enc GCapture.enc GChoice.enc GWander.enc GModel.enc GShown.enc GLeaf.enc GEdition.enc GExclusion.enc GStatement.enc GLibrary.enc GContainer.enc GFound.enc GDisk.enc GArchive.enc GEvent.enc GChange.enc GPlayed.enc
end Go.Proofs.YtcbljemkihnmnaaR
namespace Go.Proofs.YtcbljemkihnmnaaR
open Go Go.RowKit
/-- What is left of a bound. -/
def szr (n : Nat) (left : Int) : Int := if (n : Int) ≤ left then left - n else -1
theorem szr_neg {n : Nat} {left : Int} (_ : 0 ≤ left) : szr n left < 0 ↔ left < n := by unfold szr; split <;> omega
theorem szr_add {n m : Nat} {left : Int} (_ : 0 ≤ left) (h1 : ¬ szr n left < 0) : 0 ≤ szr n left ∧ szr n left ≤ left ∧ szr (n + m) left = szr m (szr n left) := by
  unfold szr at *
  split at h1
  · rename_i h2
    simp only [h2, if_true]
    refine ⟨by omega, by omega, ?_⟩
    split <;> split <;> omega
  · omega
theorem szr_bad {n m : Nat} {left : Int} (h : 0 ≤ left) (h1 : szr n left < 0) : szr (n + m) left = -1 := by
  rw [szr_neg h] at h1
  unfold szr
  rw [if_neg (by omega)]
/-- Cells of a result: lists are the caller's own. -/
def own : List T → List (Bool × T)
  | [] => []
  | .sl k es :: l => (true, .sl k es) :: own l
  | t :: l => (false, t) :: own l
@[go_sem] theorem own_nil : own [] = [] := rfl
@[go_sem] theorem own_sl {k es l} : own (.sl k es :: l) = (true, .sl k es) :: own l := rfl
@[go_sem] theorem own_sc {v l} : own (.sc v :: l) = (false, .sc v) :: own l := rfl
/-- A struct, a list as results of the caller's own. -/
abbrev rS (ts : List T) : RV := ⟨true, own ts⟩
abbrev rL (k : Nat) (es : List (List T)) : RV := ⟨false, [(true, .sl k es)]⟩
abbrev aS (ts : List T) : Bool × List T := (true, ts)
attribute [go_sem] rS rL aS
/-- A row that is being filled. -/
def filled {α : Type} (f : α → List T) (z : List T) (xs : List α) (k : Nat) : List (List T) := (xs.take k).map f ++ List.replicate (xs.length - k) z
section
variable {α : Type} {f : α → List T} {z : List T} {xs : List α} {k : Nat}
@[go_sem] theorem filled_len (h : k ≤ xs.length) : (filled f z xs k).length = xs.length := by simp [filled]; omega
theorem filled_zero : filled f z xs 0 = List.replicate xs.length z := by simp [filled]
theorem filled_all : filled f z xs xs.length = xs.map f := by simp [filled]
theorem filled_get (h : k < xs.length) : (filled f z xs k)[k]? = some z := by
  unfold filled
  rw [List.getElem?_append_right (by simp; omega), List.getElem?_replicate, if_pos (by simp; omega)]
theorem filled_set {x : α} (h : xs[k]? = some x) : (filled f z xs k).set k (f x) = filled f z xs (k + 1) := by
  have hk := len_at h
  unfold filled
  rw [List.set_append_right _ _ (by simp; omega), take_snoc h]
  have e : xs.length - k = (xs.length - (k + 1)) + 1 := by omega
  rw [e, List.replicate_succ]
  have e2 : k - (List.map f (List.take k xs)).length = 0 := by simp; omega
  rw [e2]
  simp
end
theorem replicate_toNat {n : Nat} {z : List T} : List.replicate (n : Int).toNat z = List.replicate n z := by simp
theorem take_eq_step {α : Type} {xs ys : List α} {k : Nat} {x y : α} (hx : xs[k]? = some x) (hy : ys[k]? = some y) (h : xs.take k = ys.take k) : xs.take (k + 1) = ys.take (k + 1) ↔ x = y := by
  rw [take_snoc hx, take_snoc hy, h]
  simp
theorem ne_at {α : Type} [DecidableEq α] {xs ys : List α} {k : Nat} {x y : α} (hx : xs[k]? = some x) (hy : ys[k]? = some y) (h : ¬ x = y) : false = decide (xs = ys) := by
  symm
  rw [decide_eq_false_iff_not]
  rintro rfl
  rw [hx] at hy
  exact h (Option.some.inj hy)
theorem ne_len {α : Type} [DecidableEq α] {xs ys : List α} (h : ¬ (xs.length : Int) = ys.length) : false = decide (xs = ys) := by
  symm
  rw [decide_eq_false_iff_not]
  rintro rfl
  exact h rfl
theorem eq_all {α : Type} [DecidableEq α] {xs ys : List α} (he : xs.take xs.length = ys.take xs.length) (hl : xs.length = ys.length) : true = decide (xs = ys) := by
  symm
  rw [decide_eq_true_iff]
  rw [List.take_length] at he
  rw [he, hl, List.take_length]
theorem szr_bad' {n N : Nat} {left : Int} (h0 : 0 ≤ left) (h : szr n left < 0) (hn : n ≤ N) : -1 = szr N left := by
  rw [szr_neg h0] at h
  unfold szr
  rw [if_neg (by omega)]
theorem sum_snoc {α : Type} {f : α → Nat} {l : List α} {k : Nat} {x : α} (h : l[k]? = some x) : ((l.take (k + 1)).map f).sum = ((l.take k).map f).sum + f x := by
  rw [take_snoc h]; simp
theorem sum_take_le {α : Type} {f : α → Nat} (l : List α) (k : Nat) : ((l.take k).map f).sum ≤ (l.map f).sum := by
  have h : (l.map f).sum = ((l.take k).map f).sum + ((l.drop k).map f).sum := by
    rw [← List.sum_append, ← List.map_append, List.take_append_drop]
  omega
theorem mem_sum {α : Type} {f : α → Nat} {l : List α} {x : α} (h : x ∈ l) : f x ≤ (l.map f).sum := by
  induction l with
  | nil => simp at h
  | cons y l ih =>
    rcases List.mem_cons.1 h with rfl | h
    · simp
    · have := ih h; simp; omega
end Go.Proofs.YtcbljemkihnmnaaR
namespace Go.Proofs.YtcbljemkihnmnaaR
open Go Go.RowKit Go.Proofs
set_option linter.unusedSimpArgs false
set_option linter.unusedVariables false
theorem hmix : Try.prog.follows .mixedOrders = true := by kernel_rfl
abbrev n_laws_FnExactDigestAt : Nat := 3
abbrev n_laws_szChangeS : Nat := 10
abbrev n_spec_DigestAt : Nat := 11
abbrev n_laws_toChangeS : Nat := 12
abbrev n_impl_DigestAt : Nat := 13
abbrev n_laws_eqChangeS : Nat := 14
abbrev n_laws_toChange : Nat := 36
abbrev n_laws_eqChange : Nat := 37
def m_laws_toChange : MC :=
(.seq (pr [.box 1 0 (.s 0), .alloc 2 1 [.pl (.sc (.int .i64 0)), .pl (.sc (.int .i64 0))]] [1,2])
(.seq (pr [.alloc 3 2 [.pl (.sc (.int .i64 0)), .pl (.sc (.int .i64 0))]] [1,2,3])
(.seq (pr [.fld 4 (.s 1) 0, .load 5 false 1 (.s 4), .fld 6 (.s 3) 0, .store 1 (.s 6) (.s 5)] [1,2,3])
(.seq (pr [.fld 7 (.s 1) 1, .load 8 false 1 (.s 7), .fld 9 (.s 3) 1, .store 1 (.s 9) (.s 8)] [2,3])
(.seq (pr [.load 10 true 2 (.s 3), .store 2 (.s 2) (.s 10)] [2])
.ret)))))
theorem c_laws_toChange (x : GChange) : Ctr Try.prog n_laws_toChange [aS x.enc] [rS x.enc] := by
  refine ctr_at (M := m_laws_toChange) (m := 3) (n := 11) (res := [(.cell 2 true 2, [false, false])]) hmix Try.func36 rfl rfl rfl (by kernel_rfl) (by kernel_rfl) (by simp) ?_; unfold m_laws_toChange
  intro hb
  simp only [↓bk_bind, ↓bk_map, ↓bk_ite, ↓bk_some, ↓reduceIte, Nat.reduceEqDiff, Nat.reduceLT, Nat.reduceLeDiff, Nat.reduceAdd, Nat.reduceMul, reduceCtorEq, List.reduceReplicate, go_sem]
def m_laws_eqChange : MC :=
(.seq (pr [.box 2 0 (.s 0), .box 3 1 (.s 1), .mv 4 (.c (.bool false))] [2,3])
(.seq (.seq (pr [.fld 5 (.s 2) 0, .load 6 false 1 (.s 5), .fld 7 (.s 3) 0, .load 8 false 1 (.s 7), .bin 9 false .neq (.s 6) (.s 8)] [2,3,9])
(.cond (.s 9) (.seq (pr [.mv 4 (.c (.bool false))] [4])
.ret) .skip))
(.seq (.seq (pr [.fld 10 (.s 2) 1, .load 11 false 1 (.s 10), .fld 12 (.s 3) 1, .load 13 false 1 (.s 12), .bin 14 false .neq (.s 11) (.s 13)] [14])
(.cond (.s 14) (.seq (pr [.mv 4 (.c (.bool false))] [4])
.ret) .skip))
(.seq (pr [.mv 4 (.c (.bool true))] [4])
.ret))))
theorem c_laws_eqChange (x y : GChange) : Ctr Try.prog n_laws_eqChange [aS x.enc, aS y.enc] [rB (decide (x = y))] := by
  refine ctr_at (M := m_laws_eqChange) (m := 2) (n := 15) (res := [(.tmp 4, [false])]) hmix Try.func37 rfl rfl rfl (by kernel_rfl) (by kernel_rfl) (by simp) ?_; unfold m_laws_eqChange
  intro hb
  clear hb
  simp only [↓bk_bind, ↓bk_map, ↓bk_ite, ↓bk_some, ↓reduceIte, Nat.reduceEqDiff, Nat.reduceLT, Nat.reduceLeDiff, Nat.reduceAdd, Nat.reduceMul, reduceCtorEq, List.reduceReplicate, go_sem]
  refine ⟨fun h => ?_, fun h_Tick => ?_⟩
  · symm
    rw [decide_eq_false_iff_not]
    rintro rfl
    exact h rfl
  refine ⟨fun h => ?_, fun h_Digest => ?_⟩
  · symm
    rw [decide_eq_false_iff_not]
    rintro rfl
    exact h rfl
  cases x; cases y; simp_all
def m_laws_szChangeS : MC :=
(.seq (pr [.mv 4 (.c (.int .i64 0))] [0,1])
(.seq (pr [.mv 5 (.s 1), .mv 6 (.s 0), .len 7 false (.s 6), .bin 8 false .sub (.s 5) (.s 7), .mv 1 (.s 8)] [1])
(.seq (.seq (pr [.mv 9 (.s 1), .bin 10 false .lss (.s 9) (.c (.int .i64 0))] [1,10])
(.cond (.s 10) (.seq (pr [.mv 4 (.c (.int .i64 (-1)))] [4])
.ret) .skip))
(.seq (pr [.mv 11 (.s 1), .mv 4 (.s 11)] [4])
.ret))))
theorem c_laws_szChangeS (xs : List GChange) (left : Int) (h0 : 0 ≤ left) : Ctr Try.prog n_laws_szChangeS [aL 2 (xs.map GChange.enc), aI left] [rI (szr xs.length left)] := by
  refine ctr_at (M := m_laws_szChangeS) (m := 0) (n := 12) (res := [(.tmp 4, [false])]) hmix Try.func10 rfl rfl rfl (by kernel_rfl) (by kernel_rfl) (by simp) ?_; unfold m_laws_szChangeS
  intro hb
  simp only [bdA, bdL, bdT, bdR, bdR_map, wfB_i64, wfB_bool, wfB_str, roomB, and_true, true_and] at hb
  obtain ⟨⟨hl, -⟩, hn⟩ := hb
  rw [List.length_map] at hl
  simp only [↓bk_bind, ↓bk_map, ↓bk_ite, ↓bk_some, ↓reduceIte, Nat.reduceEqDiff, Nat.reduceLT, Nat.reduceLeDiff, Nat.reduceAdd, Nat.reduceMul, reduceCtorEq, List.reduceReplicate, go_sem]
  rw [wI (by omega) (by omega)]
  unfold szr
  refine ⟨fun h => ?_, fun h => ?_⟩
  · rw [if_neg (by omega)]
  · rw [if_pos (by omega)]
def m_laws_toChangeS : MC :=
(.seq (pr [.mv 2 (.nil 2)] [0])
(.seq (pr [.mv 5 (.s 0), .len 6 false (.s 5), .mk 7 0 2 16 [.sc (.int .i64 0), .sc (.int .i64 0)] (.s 6), .mv 3 (.s 7)] [0,3])
(.seq (.seq (pr [.mv 4 (.c (.int .i64 0))] [0,3,4])
(.block 0 (.loop ([0,3,4], []) (.seq (.seq (pr [.mv 8 (.s 4), .mv 9 (.s 0), .len 10 false (.s 9), .bin 11 false .lss (.s 8) (.s 10)] [0,3,4,11])
(.cond (.s 11) .skip (.exit 0)))
(.seq (.block 1 (pr [.mv 14 (.s 3), .mv 15 (.s 4), .mv 16 (.s 0), .mv 17 (.s 4), .idx 18 2 (.s 16) (.s 17), .load 19 true 2 (.s 18), .call 20 [] (.f n_laws_toChange) [.s 19], .idx 21 2 (.s 14) (.s 15), .store 2 (.s 21) (.s 20)] [0,3,4]))
(pr [.mv 12 (.s 4), .bin 13 false .add (.s 12) (.c (.int .i64 1)), .mv 4 (.s 13)] [0,3,4]))))))
(.seq (pr [.mv 22 (.s 3), .mv 2 (.s 22)] [2])
.ret))))
theorem c_laws_toChangeS (xs : List GChange) (hs : xs.length ≤ 1073741824) : Ctr Try.prog n_laws_toChangeS [aL 2 (xs.map GChange.enc)] [rL 2 (xs.map GChange.enc)] := by
  refine ctr_at (M := m_laws_toChangeS) (m := 1) (n := 23) (res := [(.tmp 2, [true])]) hmix Try.func12 rfl rfl rfl (by kernel_rfl) (by kernel_rfl) (by simp) ?_; unfold m_laws_toChangeS
  intro hb
  simp only [↓bk_bind, ↓bk_map, ↓bk_ite, ↓bk_some, ↓reduceIte, Nat.reduceEqDiff, Nat.reduceLT, Nat.reduceLeDiff, Nat.reduceAdd, Nat.reduceMul, reduceCtorEq, List.reduceReplicate, go_sem, replicate_toNat]
  refine ⟨⟨by omega, by simp only [roomB]; omega⟩, ?_⟩
  refine loopK_up (fun k : Nat => [(4, vI k)]) (fun k => [(0, ⟨0, .row true 2 (filled GChange.enc [tI 0, tI 0] xs k)⟩)]) (fun k => k ≤ xs.length) (fun k => xs.length - k) 0 ?_
  simp only [↓bk_bind, ↓bk_map, ↓bk_ite, ↓bk_some, ↓reduceIte, Nat.reduceEqDiff, Nat.reduceLT, Nat.reduceLeDiff, Nat.reduceAdd, Nat.reduceMul, reduceCtorEq, List.reduceReplicate, go_sem]
  refine ⟨?_, ?_, ?_⟩
  · simp only [↓bk_bind, ↓bk_map, ↓bk_ite, ↓bk_some, ↓reduceIte, Nat.reduceEqDiff, Nat.reduceLT, Nat.reduceLeDiff, Nat.reduceAdd, Nat.reduceMul, reduceCtorEq, List.reduceReplicate, go_sem, filled_zero]
    rfl
  · omega
  · intro k hk
    have h0 : (0 : Int) ≤ k := by omega
    rcases Nat.lt_or_ge k xs.length with h | h
    · obtain ⟨x, hx⟩ := at_some h
      have h1 : (k : Int) < xs.length := by omega
      simp only [↓bk_bind, ↓bk_map, ↓bk_ite, ↓bk_some, ↓reduceIte, Nat.reduceEqDiff, Nat.reduceLT, Nat.reduceLeDiff, Nat.reduceAdd, Nat.reduceMul, reduceCtorEq, List.reduceReplicate, go_sem, bk_eq hx, bk_eq (filled_get h), filled_len hk, h0, h1]
      refine callK_of (c_laws_toChange x) ?_
      simp only [↓bk_bind, ↓bk_map, ↓bk_ite, ↓bk_some, ↓reduceIte, Nat.reduceEqDiff, Nat.reduceLT, Nat.reduceLeDiff, Nat.reduceAdd, Nat.reduceMul, reduceCtorEq, List.reduceReplicate, go_sem, bk_eq hx, bk_eq (filled_get h), filled_len hk, h0, h1]
      intros; exact ⟨k + 1, ⟨by rw [wI (by omega) (by omega)]; rfl, filled_set hx⟩, by omega, by omega⟩
    · obtain rfl : k = xs.length := by omega
      simp only [↓bk_bind, ↓bk_map, ↓bk_ite, ↓bk_some, ↓reduceIte, Nat.reduceEqDiff, Nat.reduceLT, Nat.reduceLeDiff, Nat.reduceAdd, Nat.reduceMul, reduceCtorEq, List.reduceReplicate, go_sem, filled_all, Int.lt_irrefl]
def m_laws_eqChangeS : MC :=
(.seq (pr [.mv 4 (.c (.bool false))] [0,1])
(.seq (.seq (pr [.mv 6 (.s 0), .len 7 false (.s 6), .mv 8 (.s 1), .len 9 false (.s 8), .bin 10 false .neq (.s 7) (.s 9)] [0,1,10])
(.cond (.s 10) (.seq (pr [.mv 4 (.c (.bool false))] [4])
.ret) .skip))
(.seq (.seq (pr [.mv 5 (.c (.int .i64 0))] [0,1,5])
(.block 0 (.loop ([0,1,5], []) (.seq (.seq (pr [.mv 11 (.s 5), .mv 12 (.s 0), .len 13 false (.s 12), .bin 14 false .lss (.s 11) (.s 13)] [0,1,5,14])
(.cond (.s 14) .skip (.exit 0)))
(.seq (.block 1 (.seq (.dreg [{ o := .mv 17 (.s 0), hs := [18,21,22,23,24] }, { o := .mv 18 (.s 5), hs := [17,21,22,23,24] }, { o := .idx 19 2 (.s 17) (.s 18), hs := [21,22,23,24], bf := [0,1] }, { o := .load 20 true 2 (.s 19), hs := [21,22,23,24], bf := [0,1,2] }, { o := .mv 21 (.s 1), hs := [17,18,19,20,22] }, { o := .mv 22 (.s 5), hs := [17,18,19,20,21] }, { o := .idx 23 2 (.s 21) (.s 22), hs := [17,18,19,20], bf := [4,5] }, { o := .load 24 true 2 (.s 23), hs := [17,18,19,20], bf := [4,5,6] }, { o := .call 25 [] (.f n_laws_eqChange) [.s 20, .s 24], bf := [0,1,2,3,4,5,6,7] }, { o := .un 26 .not (.s 25), bf := [0,1,2,3,4,5,6,7,8] }] [0,1,5,26])
(.cond (.s 26) (.seq (pr [.mv 4 (.c (.bool false))] [4])
.ret) .skip)))
(pr [.mv 15 (.s 5), .bin 16 false .add (.s 15) (.c (.int .i64 1)), .mv 5 (.s 16)] [0,1,5]))))))
(.seq (pr [.mv 4 (.c (.bool true))] [4])
.ret))))
theorem c_laws_eqChangeS (xs ys : List GChange) : Ctr Try.prog n_laws_eqChangeS [aL 2 (xs.map GChange.enc), aL 2 (ys.map GChange.enc)] [rB (decide (xs = ys))] := by
  refine ctr_at (M := m_laws_eqChangeS) (m := 0) (n := 27) (res := [(.tmp 4, [false])]) hmix Try.func14 rfl rfl rfl (by kernel_rfl) (by kernel_rfl) (by simp) ?_; unfold m_laws_eqChangeS
  intro hb
  simp only [bdA, bdL, bdT, bdR, bdR_map, wfB_i64, wfB_bool, wfB_str, roomB, and_true, true_and] at hb
  obtain ⟨⟨hl, -⟩, ⟨hl2, -⟩⟩ := hb
  rw [List.length_map] at hl hl2
  simp only [↓bk_bind, ↓bk_map, ↓bk_ite, ↓bk_some, ↓reduceIte, Nat.reduceEqDiff, Nat.reduceLT, Nat.reduceLeDiff, Nat.reduceAdd, Nat.reduceMul, reduceCtorEq, List.reduceReplicate, go_sem]
  refine ⟨fun h => ne_len h, fun h => ?_⟩
  have hle : xs.length = ys.length := by omega
  refine loopK_up (fun k : Nat => [(5, vI k)]) (fun k => []) (fun k => k ≤ xs.length ∧ xs.take k = ys.take k) (fun k => xs.length - k) 0 ?_
  simp only [↓bk_bind, ↓bk_map, ↓bk_ite, ↓bk_some, ↓reduceIte, Nat.reduceEqDiff, Nat.reduceLT, Nat.reduceLeDiff, Nat.reduceAdd, Nat.reduceMul, reduceCtorEq, List.reduceReplicate, go_sem]
  refine ⟨?_, ?_, ?_⟩
  · simp only [↓bk_bind, ↓bk_map, ↓bk_ite, ↓bk_some, ↓reduceIte, Nat.reduceEqDiff, Nat.reduceLT, Nat.reduceLeDiff, Nat.reduceAdd, Nat.reduceMul, reduceCtorEq, List.reduceReplicate, go_sem]
    rfl
  · simp
  · intro k ⟨hk, he⟩
    have h0 : (0 : Int) ≤ k := by omega
    rcases Nat.lt_or_ge k xs.length with h | h
    · obtain ⟨x, hx⟩ := at_some h
      obtain ⟨y, hy⟩ := at_some (show k < ys.length by omega)
      have h1 : (k : Int) < xs.length := by omega
      have h2 : (k : Int) < ys.length := by omega
      simp only [↓bk_bind, ↓bk_map, ↓bk_ite, ↓bk_some, ↓reduceIte, Nat.reduceEqDiff, Nat.reduceLT, Nat.reduceLeDiff, Nat.reduceAdd, Nat.reduceMul, reduceCtorEq, List.reduceReplicate, go_sem, bk_eq hx, bk_eq hy, h0, h1, h2]
      refine callK_of (c_laws_eqChange x y) ?_
      simp only [↓bk_bind, ↓bk_map, ↓bk_ite, ↓bk_some, ↓reduceIte, Nat.reduceEqDiff, Nat.reduceLT, Nat.reduceLeDiff, Nat.reduceAdd, Nat.reduceMul, reduceCtorEq, List.reduceReplicate, go_sem]
      refine ⟨fun hn => ne_at hx hy hn, fun hn => ⟨k + 1, by rw [wI (by omega) (by omega)]; rfl, ⟨by omega, (take_eq_step hx hy he).2 hn⟩, by omega⟩⟩
    · obtain rfl : k = xs.length := by omega
      simp only [↓bk_bind, ↓bk_map, ↓bk_ite, ↓bk_some, ↓reduceIte, Nat.reduceEqDiff, Nat.reduceLT, Nat.reduceLeDiff, Nat.reduceAdd, Nat.reduceMul, reduceCtorEq, List.reduceReplicate, go_sem, Int.lt_irrefl]
      exact eq_all he hle
end Go.Proofs.YtcbljemkihnmnaaR
namespace Go.Proofs.YtcbljemkihnmnaaR
open Go Go.RowKit Go.Proofs
set_option linter.unusedSimpArgs false
set_option linter.unusedVariables false
def digestAt (tick : Int) (l : List GChange) : Int := l.foldl (fun d c => if c.Tick ≤ tick then c.Digest else d) 0
def m_impl_DigestAt : MC :=
(.seq (pr [.mv 4 (.c (.int .i64 0))] [0,1])
(.seq (.seq (pr [.mv 6 (.s 0), .len 7 false (.s 6), .bin 8 false .sub (.s 7) (.c (.int .i64 1)), .mv 5 (.s 8)] [0,1,5])
(.block 0 (.loop ([0,1,5], []) (.seq (.seq (pr [.mv 9 (.s 5), .bin 10 false .geq (.s 9) (.c (.int .i64 0))] [0,1,5,10])
(.cond (.s 10) .skip (.exit 0)))
(.seq (.block 1 (.seq (pr [.mv 13 (.s 0), .mv 14 (.s 5), .idx 15 2 (.s 13) (.s 14), .fld 16 (.s 15) 0, .load 17 false 1 (.s 16), .mv 18 (.s 1), .bin 19 false .leq (.s 17) (.s 18)] [0,1,5,19])
(.cond (.s 19) (.seq (pr [.mv 20 (.s 0), .mv 21 (.s 5), .idx 22 2 (.s 20) (.s 21), .fld 23 (.s 22) 1, .load 24 false 1 (.s 23), .mv 4 (.s 24)] [4])
.ret) .skip)))
(pr [.mv 11 (.s 5), .bin 12 false .sub (.s 11) (.c (.int .i64 1)), .mv 5 (.s 12)] [0,1,5]))))))
(.seq (pr [.mv 4 (.c (.int .i64 0))] [4])
.ret)))
theorem c_impl_DigestAt (xs : List GChange) (tick : Int) : Ctr Try.prog n_impl_DigestAt [aL 2 (xs.map GChange.enc), aI tick] [rI (digestAt tick xs)] := by
  refine ctr_at (M := m_impl_DigestAt) (m := 0) (n := 25) (res := [(.tmp 4, [false])]) hmix Try.func13 rfl rfl rfl (by kernel_rfl) (by kernel_rfl) (by simp) ?_; unfold m_impl_DigestAt
  intro hb
  simp only [bdA, bdL, bdT, bdR, bdR_map, wfB_i64, wfB_bool, wfB_str, roomB, and_true, true_and] at hb
  obtain ⟨⟨hl, -⟩, -⟩ := hb
  rw [List.length_map] at hl
  simp only [↓bk_bind, ↓bk_map, ↓bk_ite, ↓bk_some, ↓reduceIte, Nat.reduceEqDiff, Nat.reduceLT, Nat.reduceLeDiff, Nat.reduceAdd, Nat.reduceMul, reduceCtorEq, List.reduceReplicate, go_sem]
  refine loopK_up (fun k : Nat => [(5, vI ((k : Int) - 1))]) (fun _ => []) (fun k => k ≤ xs.length ∧ digestAt tick xs = digestAt tick (xs.take k)) (fun k => k) xs.length ?_
  simp only [↓bk_bind, ↓bk_map, ↓bk_ite, ↓bk_some, ↓reduceIte, Nat.reduceEqDiff, Nat.reduceLT, Nat.reduceLeDiff, Nat.reduceAdd, Nat.reduceMul, reduceCtorEq, List.reduceReplicate, go_sem]
  refine ⟨?_, ?_, ?_⟩
  · simp only [↓bk_bind, ↓bk_map, ↓bk_ite, ↓bk_some, ↓reduceIte, Nat.reduceEqDiff, Nat.reduceLT, Nat.reduceLeDiff, Nat.reduceAdd, Nat.reduceMul, reduceCtorEq, List.reduceReplicate, go_sem]
    rw [wI (by omega) (by omega)]
  · simp
  · rintro k ⟨hk, hd⟩
    cases k with
    | zero =>
      simp only [↓bk_bind, ↓bk_map, ↓bk_ite, ↓bk_some, ↓reduceIte, Nat.reduceEqDiff, Nat.reduceLT, Nat.reduceLeDiff, Nat.reduceAdd, Nat.reduceMul, reduceCtorEq, List.reduceReplicate, go_sem]
      refine ⟨fun h => by omega, fun _ => ?_⟩
      rw [hd]; rfl
    | succ k =>
      obtain ⟨x, hx⟩ := at_some (show k < xs.length by omega)
      have e1 : ((k + 1 : Nat) : Int) - 1 = k := by omega
      rw [take_snoc hx] at hd
      simp only [digestAt, List.foldl_append, List.foldl_cons, List.foldl_nil] at hd
      simp only [e1]
      simp only [↓bk_bind, ↓bk_map, ↓bk_ite, ↓bk_some, ↓reduceIte, Nat.reduceEqDiff, Nat.reduceLT, Nat.reduceLeDiff, Nat.reduceAdd, Nat.reduceMul, reduceCtorEq, List.reduceReplicate, go_sem, bk_eq hx]
      refine ⟨fun _ => ⟨by omega, fun h => ⟨by omega, ?_⟩, fun h => ⟨k, ?_, ⟨by omega, ?_⟩, by omega⟩⟩, fun h => by omega⟩
      · rw [digestAt, hd, if_pos h]
      · rw [wI (by omega) (by omega)]
      · rw [digestAt, digestAt, hd, if_neg h]
def m_spec_DigestAt : MC :=
(.seq (pr [.mv 4 (.c (.int .i64 0))] [0,1])
(.seq (pr [.mv 5 (.c (.int .i64 0))] [0,1,5])
(.seq (.seq (pr [.mv 6 (.c (.int .i64 0))] [0,1,5,6])
(.block 0 (.loop ([0,1,5,6], []) (.seq (.seq (pr [.mv 7 (.s 6), .mv 8 (.s 0), .len 9 false (.s 8), .bin 10 false .lss (.s 7) (.s 9)] [0,1,5,6,10])
(.cond (.s 10) .skip (.exit 0)))
(.seq (.block 1 (.seq (pr [.mv 13 (.s 0), .mv 14 (.s 6), .idx 15 2 (.s 13) (.s 14), .fld 16 (.s 15) 0, .load 17 false 1 (.s 16), .mv 18 (.s 1), .bin 19 false .leq (.s 17) (.s 18)] [0,1,5,6,19])
(.cond (.s 19) (pr [.mv 20 (.s 0), .mv 21 (.s 6), .idx 22 2 (.s 20) (.s 21), .fld 23 (.s 22) 1, .load 24 false 1 (.s 23), .mv 5 (.s 24)] [0,1,5,6]) .skip)))
(pr [.mv 11 (.s 6), .bin 12 false .add (.s 11) (.c (.int .i64 1)), .mv 6 (.s 12)] [0,1,5,6]))))))
(.seq (pr [.mv 25 (.s 5), .mv 4 (.s 25)] [4])
.ret))))
theorem c_spec_DigestAt (xs : List GChange) (tick : Int) : Ctr Try.prog n_spec_DigestAt [aL 2 (xs.map GChange.enc), aI tick] [rI (digestAt tick xs)] := by
  refine ctr_at (M := m_spec_DigestAt) (m := 0) (n := 26) (res := [(.tmp 4, [false])]) hmix Try.func11 rfl rfl rfl (by kernel_rfl) (by kernel_rfl) (by simp) ?_; unfold m_spec_DigestAt
  intro hb
  simp only [bdA, bdL, bdT, bdR, bdR_map, wfB_i64, wfB_bool, wfB_str, roomB, and_true, true_and] at hb
  obtain ⟨⟨hl, -⟩, -⟩ := hb
  rw [List.length_map] at hl
  simp only [↓bk_bind, ↓bk_map, ↓bk_ite, ↓bk_some, ↓reduceIte, Nat.reduceEqDiff, Nat.reduceLT, Nat.reduceLeDiff, Nat.reduceAdd, Nat.reduceMul, reduceCtorEq, List.reduceReplicate, go_sem]
  refine loopK_up (fun k : Nat => [(5, vI (digestAt tick (xs.take k))), (6, vI k)]) (fun _ => []) (fun k => k ≤ xs.length) (fun k => xs.length - k) 0 ?_
  simp only [↓bk_bind, ↓bk_map, ↓bk_ite, ↓bk_some, ↓reduceIte, Nat.reduceEqDiff, Nat.reduceLT, Nat.reduceLeDiff, Nat.reduceAdd, Nat.reduceMul, reduceCtorEq, List.reduceReplicate, go_sem]
  refine ⟨?_, ?_, ?_⟩
  · simp only [↓bk_bind, ↓bk_map, ↓bk_ite, ↓bk_some, ↓reduceIte, Nat.reduceEqDiff, Nat.reduceLT, Nat.reduceLeDiff, Nat.reduceAdd, Nat.reduceMul, reduceCtorEq, List.reduceReplicate, go_sem]
    exact ⟨rfl, rfl⟩
  · omega
  · intro k hk
    have h0 : (0 : Int) ≤ k := by omega
    rcases Nat.lt_or_ge k xs.length with h | h
    · obtain ⟨x, hx⟩ := at_some h
      have h1 : (k : Int) < xs.length := by omega
      have e : digestAt tick (xs.take (k + 1)) = if x.Tick ≤ tick then x.Digest else digestAt tick (xs.take k) := by
        rw [take_snoc hx, digestAt, List.foldl_append]; rfl
      simp only [↓bk_bind, ↓bk_map, ↓bk_ite, ↓bk_some, ↓reduceIte, Nat.reduceEqDiff, Nat.reduceLT, Nat.reduceLeDiff, Nat.reduceAdd, Nat.reduceMul, reduceCtorEq, List.reduceReplicate, go_sem, bk_eq hx, h0, h1]
      refine ⟨fun hc => ⟨k + 1, ⟨?_, ?_⟩, by omega, by omega⟩, fun hc => ⟨k + 1, ⟨?_, ?_⟩, by omega, by omega⟩⟩
      · rw [e, if_pos hc]
      · rw [wI (by omega) (by omega)]; rfl
      · rw [e, if_neg hc]
      · rw [wI (by omega) (by omega)]; rfl
    · obtain rfl : k = xs.length := by omega
      simp only [↓bk_bind, ↓bk_map, ↓bk_ite, ↓bk_some, ↓reduceIte, Nat.reduceEqDiff, Nat.reduceLT, Nat.reduceLeDiff, Nat.reduceAdd, Nat.reduceMul, reduceCtorEq, List.reduceReplicate, go_sem, Int.lt_irrefl, List.take_length]
def m_laws_FnExactDigestAt : MC :=
(.seq (pr [.mv 4 (.c (.bool false))] [0,1])
(.seq (pr [.mv 5 (.c (.int .i64 1048576))] [0,1,5])
(.seq (pr [.mv 9 (.s 0), .mv 10 (.s 5), .call 11 [] (.f n_laws_szChangeS) [.s 9, .s 10], .mv 5 (.s 11)] [0,1,5])
(.seq (.seq (pr [.mv 12 (.s 5), .bin 13 false .lss (.s 12) (.c (.int .i64 0))] [0,1,13])
(.cond (.s 13) (.seq (pr [.mv 4 (.c (.bool true))] [4])
.ret) .skip))
(.seq (pr [.mv 14 (.s 0), .call 15 [0] (.f n_laws_toChangeS) [.s 14], .mv 16 (.s 1), .call 17 [] (.f n_spec_DigestAt) [.s 15, .s 16], .mv 6 (.s 17)] [0,1,6])
(.seq (pr [.mv 18 (.s 0), .call 19 [1] (.f n_laws_toChangeS) [.s 18], .mv 7 (.s 19)] [0,1,6,7])
(.seq (pr [.mv 20 (.s 7), .mv 21 (.s 1), .call 22 [] (.f n_impl_DigestAt) [.s 20, .s 21], .mv 8 (.s 22)] [0,6,7,8])
(.seq (.seq (pr [.mv 23 (.s 8), .mv 24 (.s 6), .bin 25 false .neq (.s 23) (.s 24)] [0,7,25])
(.cond (.s 25) (.seq (pr [.mv 4 (.c (.bool false))] [4])
.ret) .skip))
(.seq (.seq (pr [.mv 26 (.s 7), .mv 27 (.s 0), .call 28 [2] (.f n_laws_toChangeS) [.s 27], .call 29 [] (.f n_laws_eqChangeS) [.s 26, .s 28], .un 30 .not (.s 29)] [30])
(.cond (.s 30) (.seq (pr [.mv 4 (.c (.bool false))] [4])
.ret) .skip))
(.seq (pr [.mv 4 (.c (.bool true))] [4])
.ret))))))))))
theorem c_laws_FnExactDigestAt (xs : List GChange) (tick : Int) : Ctr Try.prog n_laws_FnExactDigestAt [aL 2 (xs.map GChange.enc), aI tick] [rB true] := by
  refine ctr_at (M := m_laws_FnExactDigestAt) (m := 3) (n := 31) (res := [(.tmp 4, [false])]) hmix Try.func3 rfl rfl rfl (by kernel_rfl) (by kernel_rfl) (by simp) ?_; unfold m_laws_FnExactDigestAt
  intro hb
  clear hb
  simp only [↓bk_bind, ↓bk_map, ↓bk_ite, ↓bk_some, ↓reduceIte, Nat.reduceEqDiff, Nat.reduceLT, Nat.reduceLeDiff, Nat.reduceAdd, Nat.reduceMul, reduceCtorEq, List.reduceReplicate, go_sem]
  refine callK_of (c_laws_szChangeS xs _ (by omega)) ?_
  simp only [↓bk_bind, ↓bk_map, ↓bk_ite, ↓bk_some, ↓reduceIte, Nat.reduceEqDiff, Nat.reduceLT, Nat.reduceLeDiff, Nat.reduceAdd, Nat.reduceMul, reduceCtorEq, List.reduceReplicate, go_sem]
  intro _ hz
  have hs : xs.length ≤ 1048576 := by unfold szr at hz; split at hz <;> omega
  refine callK_of (c_laws_toChangeS xs (by omega)) ?_
  simp only [↓bk_bind, ↓bk_map, ↓bk_ite, ↓bk_some, ↓reduceIte, Nat.reduceEqDiff, Nat.reduceLT, Nat.reduceLeDiff, Nat.reduceAdd, Nat.reduceMul, reduceCtorEq, List.reduceReplicate, go_sem]
  refine callK_of (c_spec_DigestAt xs tick) ?_
  simp only [↓bk_bind, ↓bk_map, ↓bk_ite, ↓bk_some, ↓reduceIte, Nat.reduceEqDiff, Nat.reduceLT, Nat.reduceLeDiff, Nat.reduceAdd, Nat.reduceMul, reduceCtorEq, List.reduceReplicate, go_sem]
  intros
  refine callK_of (c_laws_toChangeS xs (by omega)) ?_
  simp only [↓bk_bind, ↓bk_map, ↓bk_ite, ↓bk_some, ↓reduceIte, Nat.reduceEqDiff, Nat.reduceLT, Nat.reduceLeDiff, Nat.reduceAdd, Nat.reduceMul, reduceCtorEq, List.reduceReplicate, go_sem]
  intros
  refine callK_of (c_impl_DigestAt xs tick) ?_
  simp only [↓bk_bind, ↓bk_map, ↓bk_ite, ↓bk_some, ↓reduceIte, Nat.reduceEqDiff, Nat.reduceLT, Nat.reduceLeDiff, Nat.reduceAdd, Nat.reduceMul, reduceCtorEq, List.reduceReplicate, go_sem]
  intros
  refine callK_of (c_laws_toChangeS xs (by omega)) ?_
  simp only [↓bk_bind, ↓bk_map, ↓bk_ite, ↓bk_some, ↓reduceIte, Nat.reduceEqDiff, Nat.reduceLT, Nat.reduceLeDiff, Nat.reduceAdd, Nat.reduceMul, reduceCtorEq, List.reduceReplicate, go_sem]
  refine callK_of (c_laws_eqChangeS xs xs) ?_
  simp only [↓bk_bind, ↓bk_map, ↓bk_ite, ↓bk_some, ↓reduceIte, Nat.reduceEqDiff, Nat.reduceLT, Nat.reduceLeDiff, Nat.reduceAdd, Nat.reduceMul, reduceCtorEq, List.reduceReplicate, go_sem]
end Go.Proofs.YtcbljemkihnmnaaR
