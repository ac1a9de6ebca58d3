/- What the functions compute that the laws of SpanKept, BestTick reach: contracts. Conditions stand in each theorem. -/
import Derived.Test.YtpclnmleldeleaaGreatProg
import Derived.KernelRfl
import Derived.Test.YtpclnmleldeleaaGreatRac
namespace Go.Proofs.YtpclnmleldeleaaGreatR
set_option linter.unusedSimpArgs false
open Go Go.RowKit
attribute [go_sem ↓] bk_bind bk_map bk_ite bk_some
def Za (o : MO) : MOp := { o := o }
def Zb (k : Nat) (b : Bool) (o : MO) : MOp := { o := o, g := some (k, b) }
def Zc (h : List Nat) (o : MO) : MOp := { o := o, hs := h }
def Zd (h b : List Nat) (o : MO) : MOp := { o := o, hs := h, bf := b }
def Ze (b : List Nat) (o : MO) : MOp := { o := o, bf := b }
def Zf (h g : List Nat) (o : MO) : MOp := { o := o, hs := h, ho := g }
def Zg (h g b : List Nat) (o : MO) : MOp := { o := o, hs := h, ho := g, bf := b }
def pz : SC := .pl (.sc (.int .i64 0))
def ci (n : Int) : Od := .c (.int .i64 n)
def cT : Od := .c (.bool true)
def cF : Od := .c (.bool false)
attribute [go_sem] Za Zb Zc Zd Ze Zf Zg pz ci cT cF
open Nat (reduceEqDiff reduceLT reduceLeDiff reduceAdd reduceMul)
open List (reduceReplicate)
def encI (n : Int) : List T := [tI n]
def encB (b : Bool) : List T := [tB b]
theorem int_of {ts : List T} (h : IsT .int ts) : ∃ n, ts = encI n := h
theorem list_of {α : Type} {enc : α → List T} {ty : DT} (h : ∀ {ts}, IsT ty ts → ∃ x, ts = enc x) : ∀ {es : List (List T)}, (∀ x ∈ es, IsT ty x) → ∃ xs : List α, es = xs.map enc
 | [], _ => ⟨[], rfl⟩
 | e :: es, k => by
  obtain ⟨x, rfl⟩ := h (k e (by simp))
  obtain ⟨xs, hx⟩ := list_of h (es := es) fun y hy => k y (by simp [hy])
  subst hx
  exact ⟨x :: xs, rfl⟩
structure GAddress where
 Host : Int
 Path : Int
 Query : Int
 deriving DecidableEq
def GAddress.enc (x : GAddress) : List T := [tI x.Host, tI x.Path, tI x.Query]
def GAddress.dt : DT := .st (.fc .int (.fc .int (.fc .int .fn)))
theorem GAddress.of {ts : List T} (h : IsT GAddress.dt ts) : ∃ x : GAddress, ts = x.enc := by
 simp only [GAddress.dt, IsT] at h
 obtain ⟨_, _, rfl, ⟨v0, rfl⟩, _, _, rfl, ⟨v1, rfl⟩, _, _, rfl, ⟨v2, rfl⟩, rfl⟩ := h
 exact ⟨⟨v0, v1, v2⟩, rfl⟩
theorem GAddress.eqv {x y : GAddress} : x = y ↔ x.Host = y.Host ∧ x.Path = y.Path ∧ x.Query = y.Query := by
 constructor
 ·rintro rfl; simp
 ·intro h
  rcases x with ⟨aHost, aPath, aQuery⟩
  rcases y with ⟨bHost, bPath, bQuery⟩
  simp only at h
  obtain ⟨rfl, rfl, rfl⟩ := h
  rfl
structure GResource where
 Kind : Int
 Body : List Int
 To : GAddress
 deriving DecidableEq
def GResource.enc (x : GResource) : List T := [tI x.Kind, .sl 1 (x.Body.map encI), tI x.To.Host, tI x.To.Path, tI x.To.Query]
def GResource.dt : DT := .st (.fc .int (.fc (.sl .int) (.fc GAddress.dt .fn)))
theorem GResource.of {ts : List T} (h : IsT GResource.dt ts) : ∃ x : GResource, ts = x.enc := by
 simp only [GResource.dt, IsT] at h
 obtain ⟨_, _, rfl, ⟨v0, rfl⟩, _, _, rfl, ⟨l1, rfl, k1⟩, _, _, rfl, k2, rfl⟩ := h
 obtain ⟨v1, rfl⟩ := list_of int_of k1
 obtain ⟨v2, rfl⟩ := GAddress.of k2
 exact ⟨⟨v0, v1, v2⟩, rfl⟩
theorem GResource.eqv {x y : GResource} : x = y ↔ x.Kind = y.Kind ∧ x.Body = y.Body ∧ x.To.Host = y.To.Host ∧ x.To.Path = y.To.Path ∧ x.To.Query = y.To.Query := by
 constructor
 ·rintro rfl; simp
 ·intro h
  rcases x with ⟨aKind, aBody, ⟨aToHost, aToPath, aToQuery⟩⟩
  rcases y with ⟨bKind, bBody, ⟨bToHost, bToPath, bToQuery⟩⟩
  simp only at h
  obtain ⟨rfl, rfl, rfl, rfl, rfl⟩ := h
  rfl
def GResource.size (x : GResource) : Nat := (x.Body.length)
structure GPart where
 Digest : Int
 Resource : GResource
 Uses : Int
 deriving DecidableEq
def GPart.enc (x : GPart) : List T := [tI x.Digest, tI x.Resource.Kind, .sl 1 (x.Resource.Body.map encI), tI x.Resource.To.Host, tI x.Resource.To.Path, tI x.Resource.To.Query, tI x.Uses]
def GPart.dt : DT := .st (.fc .int (.fc GResource.dt (.fc .int .fn)))
theorem GPart.of {ts : List T} (h : IsT GPart.dt ts) : ∃ x : GPart, ts = x.enc := by
 simp only [GPart.dt, IsT] at h
 obtain ⟨_, _, rfl, ⟨v0, rfl⟩, _, _, rfl, k1, _, _, rfl, ⟨v2, rfl⟩, rfl⟩ := h
 obtain ⟨v1, rfl⟩ := GResource.of k1
 exact ⟨⟨v0, v1, v2⟩, rfl⟩
theorem GPart.eqv {x y : GPart} : x = y ↔ x.Digest = y.Digest ∧ x.Resource.Kind = y.Resource.Kind ∧ x.Resource.Body = y.Resource.Body ∧ x.Resource.To.Host = y.Resource.To.Host ∧ x.Resource.To.Path = y.Resource.To.Path ∧ x.Resource.To.Query = y.Resource.To.Query ∧ x.Uses = y.Uses := by
 constructor
 ·rintro rfl; simp
 ·intro h
  rcases x with ⟨aDigest, ⟨aResourceKind, aResourceBody, ⟨aResourceToHost, aResourceToPath, aResourceToQuery⟩⟩, aUses⟩
  rcases y with ⟨bDigest, ⟨bResourceKind, bResourceBody, ⟨bResourceToHost, bResourceToPath, bResourceToQuery⟩⟩, bUses⟩
  simp only at h
  obtain ⟨rfl, rfl, rfl, rfl, rfl, rfl, rfl⟩ := h
  rfl
def GPart.size (x : GPart) : Nat := (x.Resource.size)
structure GPiece where
 From : Int
 Count : Int
 New : List Int
 deriving DecidableEq
def GPiece.enc (x : GPiece) : List T := [tI x.From, tI x.Count, .sl 1 (x.New.map encI)]
def GPiece.dt : DT := .st (.fc .int (.fc .int (.fc (.sl .int) .fn)))
theorem GPiece.of {ts : List T} (h : IsT GPiece.dt ts) : ∃ x : GPiece, ts = x.enc := by
 simp only [GPiece.dt, IsT] at h
 obtain ⟨_, _, rfl, ⟨v0, rfl⟩, _, _, rfl, ⟨v1, rfl⟩, _, _, rfl, ⟨l2, rfl, k2⟩, rfl⟩ := h
 obtain ⟨v2, rfl⟩ := list_of int_of k2
 exact ⟨⟨v0, v1, v2⟩, rfl⟩
theorem GPiece.eqv {x y : GPiece} : x = y ↔ x.From = y.From ∧ x.Count = y.Count ∧ x.New = y.New := by
 constructor
 ·rintro rfl; simp
 ·intro h
  rcases x with ⟨aFrom, aCount, aNew⟩
  rcases y with ⟨bFrom, bCount, bNew⟩
  simp only at h
  obtain ⟨rfl, rfl, rfl⟩ := h
  rfl
def GPiece.size (x : GPiece) : Nat := (x.New.length)
structure GVersion where
 Address : GAddress
 From : Int
 Resource : GResource
 deriving DecidableEq
def GVersion.enc (x : GVersion) : List T := [tI x.Address.Host, tI x.Address.Path, tI x.Address.Query, tI x.From, tI x.Resource.Kind, .sl 1 (x.Resource.Body.map encI), tI x.Resource.To.Host, tI x.Resource.To.Path, tI x.Resource.To.Query]
def GVersion.dt : DT := .st (.fc GAddress.dt (.fc .int (.fc GResource.dt .fn)))
theorem GVersion.of {ts : List T} (h : IsT GVersion.dt ts) : ∃ x : GVersion, ts = x.enc := by
 simp only [GVersion.dt, IsT] at h
 obtain ⟨_, _, rfl, k0, _, _, rfl, ⟨v1, rfl⟩, _, _, rfl, k2, rfl⟩ := h
 obtain ⟨v0, rfl⟩ := GAddress.of k0
 obtain ⟨v2, rfl⟩ := GResource.of k2
 exact ⟨⟨v0, v1, v2⟩, rfl⟩
theorem GVersion.eqv {x y : GVersion} : x = y ↔ x.Address.Host = y.Address.Host ∧ x.Address.Path = y.Address.Path ∧ x.Address.Query = y.Address.Query ∧ x.From = y.From ∧ x.Resource.Kind = y.Resource.Kind ∧ x.Resource.Body = y.Resource.Body ∧ x.Resource.To.Host = y.Resource.To.Host ∧ x.Resource.To.Path = y.Resource.To.Path ∧ x.Resource.To.Query = y.Resource.To.Query := by
 constructor
 ·rintro rfl; simp
 ·intro h
  rcases x with ⟨⟨aAddressHost, aAddressPath, aAddressQuery⟩, aFrom, ⟨aResourceKind, aResourceBody, ⟨aResourceToHost, aResourceToPath, aResourceToQuery⟩⟩⟩
  rcases y with ⟨⟨bAddressHost, bAddressPath, bAddressQuery⟩, bFrom, ⟨bResourceKind, bResourceBody, ⟨bResourceToHost, bResourceToPath, bResourceToQuery⟩⟩⟩
  simp only at h
  obtain ⟨rfl, rfl, rfl, rfl, rfl, rfl, rfl, rfl, rfl⟩ := h
  rfl
def GVersion.size (x : GVersion) : Nat := (x.Resource.size)
structure GOp where
 Kind : Int
 A : Int
 B : Int
 C : Int
 deriving DecidableEq
def GOp.enc (x : GOp) : List T := [tI x.Kind, tI x.A, tI x.B, tI x.C]
def GOp.dt : DT := .st (.fc .int (.fc .int (.fc .int (.fc .int .fn))))
theorem GOp.of {ts : List T} (h : IsT GOp.dt ts) : ∃ x : GOp, ts = x.enc := by
 simp only [GOp.dt, IsT] at h
 obtain ⟨_, _, rfl, ⟨v0, rfl⟩, _, _, rfl, ⟨v1, rfl⟩, _, _, rfl, ⟨v2, rfl⟩, _, _, rfl, ⟨v3, rfl⟩, rfl⟩ := h
 exact ⟨⟨v0, v1, v2, v3⟩, rfl⟩
theorem GOp.eqv {x y : GOp} : x = y ↔ x.Kind = y.Kind ∧ x.A = y.A ∧ x.B = y.B ∧ x.C = y.C := by
 constructor
 ·rintro rfl; simp
 ·intro h
  rcases x with ⟨aKind, aA, aB, aC⟩
  rcases y with ⟨bKind, bA, bB, bC⟩
  simp only at h
  obtain ⟨rfl, rfl, rfl, rfl⟩ := h
  rfl
structure GState where
 Pc : Int
 Regs : List Int
 Slots : List Int
 Nodes : List Int
 deriving DecidableEq
def GState.enc (x : GState) : List T := [tI x.Pc, .sl 1 (x.Regs.map encI), .sl 1 (x.Slots.map encI), .sl 1 (x.Nodes.map encI)]
def GState.dt : DT := .st (.fc .int (.fc (.sl .int) (.fc (.sl .int) (.fc (.sl .int) .fn))))
theorem GState.of {ts : List T} (h : IsT GState.dt ts) : ∃ x : GState, ts = x.enc := by
 simp only [GState.dt, IsT] at h
 obtain ⟨_, _, rfl, ⟨v0, rfl⟩, _, _, rfl, ⟨l1, rfl, k1⟩, _, _, rfl, ⟨l2, rfl, k2⟩, _, _, rfl, ⟨l3, rfl, k3⟩, rfl⟩ := h
 obtain ⟨v1, rfl⟩ := list_of int_of k1
 obtain ⟨v2, rfl⟩ := list_of int_of k2
 obtain ⟨v3, rfl⟩ := list_of int_of k3
 exact ⟨⟨v0, v1, v2, v3⟩, rfl⟩
theorem GState.eqv {x y : GState} : x = y ↔ x.Pc = y.Pc ∧ x.Regs = y.Regs ∧ x.Slots = y.Slots ∧ x.Nodes = y.Nodes := by
 constructor
 ·rintro rfl; simp
 ·intro h
  rcases x with ⟨aPc, aRegs, aSlots, aNodes⟩
  rcases y with ⟨bPc, bRegs, bSlots, bNodes⟩
  simp only at h
  obtain ⟨rfl, rfl, rfl, rfl⟩ := h
  rfl
def GState.size (x : GState) : Nat := (x.Regs.length) + (x.Slots.length) + (x.Nodes.length)
structure GVisit where
 Site : List GVersion
 Tick : Int
 Seed : Int
 Inputs : List Int
 deriving DecidableEq
def GVisit.enc (x : GVisit) : List T := [.sl 9 (x.Site.map GVersion.enc), tI x.Tick, tI x.Seed, .sl 1 (x.Inputs.map encI)]
def GVisit.dt : DT := .st (.fc (.sl GVersion.dt) (.fc .int (.fc .int (.fc (.sl .int) .fn))))
theorem GVisit.of {ts : List T} (h : IsT GVisit.dt ts) : ∃ x : GVisit, ts = x.enc := by
 simp only [GVisit.dt, IsT] at h
 obtain ⟨_, _, rfl, ⟨l0, rfl, k0⟩, _, _, rfl, ⟨v1, rfl⟩, _, _, rfl, ⟨v2, rfl⟩, _, _, rfl, ⟨l3, rfl, k3⟩, rfl⟩ := h
 obtain ⟨v0, rfl⟩ := list_of GVersion.of k0
 obtain ⟨v3, rfl⟩ := list_of int_of k3
 exact ⟨⟨v0, v1, v2, v3⟩, rfl⟩
theorem GVisit.eqv {x y : GVisit} : x = y ↔ x.Site = y.Site ∧ x.Tick = y.Tick ∧ x.Seed = y.Seed ∧ x.Inputs = y.Inputs := by
 constructor
 ·rintro rfl; simp
 ·intro h
  rcases x with ⟨aSite, aTick, aSeed, aInputs⟩
  rcases y with ⟨bSite, bTick, bSeed, bInputs⟩
  simp only at h
  obtain ⟨rfl, rfl, rfl, rfl⟩ := h
  rfl
def GVisit.size (x : GVisit) : Nat := (x.Site.length + (x.Site.map GVersion.size).sum) + (x.Inputs.length)
structure GWant where
 Kind : Int
 Address : GAddress
 deriving DecidableEq
def GWant.enc (x : GWant) : List T := [tI x.Kind, tI x.Address.Host, tI x.Address.Path, tI x.Address.Query]
def GWant.dt : DT := .st (.fc .int (.fc GAddress.dt .fn))
theorem GWant.of {ts : List T} (h : IsT GWant.dt ts) : ∃ x : GWant, ts = x.enc := by
 simp only [GWant.dt, IsT] at h
 obtain ⟨_, _, rfl, ⟨v0, rfl⟩, _, _, rfl, k1, rfl⟩ := h
 obtain ⟨v1, rfl⟩ := GAddress.of k1
 exact ⟨⟨v0, v1⟩, rfl⟩
theorem GWant.eqv {x y : GWant} : x = y ↔ x.Kind = y.Kind ∧ x.Address.Host = y.Address.Host ∧ x.Address.Path = y.Address.Path ∧ x.Address.Query = y.Address.Query := by
 constructor
 ·rintro rfl; simp
 ·intro h
  rcases x with ⟨aKind, ⟨aAddressHost, aAddressPath, aAddressQuery⟩⟩
  rcases y with ⟨bKind, ⟨bAddressHost, bAddressPath, bAddressQuery⟩⟩
  simp only at h
  obtain ⟨rfl, rfl, rfl, rfl⟩ := h
  rfl
structure GEntry where
 Kind : Int
 Address : GAddress
 Value : Int
 deriving DecidableEq
def GEntry.enc (x : GEntry) : List T := [tI x.Kind, tI x.Address.Host, tI x.Address.Path, tI x.Address.Query, tI x.Value]
def GEntry.dt : DT := .st (.fc .int (.fc GAddress.dt (.fc .int .fn)))
theorem GEntry.of {ts : List T} (h : IsT GEntry.dt ts) : ∃ x : GEntry, ts = x.enc := by
 simp only [GEntry.dt, IsT] at h
 obtain ⟨_, _, rfl, ⟨v0, rfl⟩, _, _, rfl, k1, _, _, rfl, ⟨v2, rfl⟩, rfl⟩ := h
 obtain ⟨v1, rfl⟩ := GAddress.of k1
 exact ⟨⟨v0, v1, v2⟩, rfl⟩
theorem GEntry.eqv {x y : GEntry} : x = y ↔ x.Kind = y.Kind ∧ x.Address.Host = y.Address.Host ∧ x.Address.Path = y.Address.Path ∧ x.Address.Query = y.Address.Query ∧ x.Value = y.Value := by
 constructor
 ·rintro rfl; simp
 ·intro h
  rcases x with ⟨aKind, ⟨aAddressHost, aAddressPath, aAddressQuery⟩, aValue⟩
  rcases y with ⟨bKind, ⟨bAddressHost, bAddressPath, bAddressQuery⟩, bValue⟩
  simp only at h
  obtain ⟨rfl, rfl, rfl, rfl, rfl⟩ := h
  rfl
structure GCapture where
 Address : GAddress
 Tick : Int
 Resource : GResource
 deriving DecidableEq
def GCapture.enc (x : GCapture) : List T := [tI x.Address.Host, tI x.Address.Path, tI x.Address.Query, tI x.Tick, tI x.Resource.Kind, .sl 1 (x.Resource.Body.map encI), tI x.Resource.To.Host, tI x.Resource.To.Path, tI x.Resource.To.Query]
def GCapture.dt : DT := .st (.fc GAddress.dt (.fc .int (.fc GResource.dt .fn)))
theorem GCapture.of {ts : List T} (h : IsT GCapture.dt ts) : ∃ x : GCapture, ts = x.enc := by
 simp only [GCapture.dt, IsT] at h
 obtain ⟨_, _, rfl, k0, _, _, rfl, ⟨v1, rfl⟩, _, _, rfl, k2, rfl⟩ := h
 obtain ⟨v0, rfl⟩ := GAddress.of k0
 obtain ⟨v2, rfl⟩ := GResource.of k2
 exact ⟨⟨v0, v1, v2⟩, rfl⟩
theorem GCapture.eqv {x y : GCapture} : x = y ↔ x.Address.Host = y.Address.Host ∧ x.Address.Path = y.Address.Path ∧ x.Address.Query = y.Address.Query ∧ x.Tick = y.Tick ∧ x.Resource.Kind = y.Resource.Kind ∧ x.Resource.Body = y.Resource.Body ∧ x.Resource.To.Host = y.Resource.To.Host ∧ x.Resource.To.Path = y.Resource.To.Path ∧ x.Resource.To.Query = y.Resource.To.Query := by
 constructor
 ·rintro rfl; simp
 ·intro h
  rcases x with ⟨⟨aAddressHost, aAddressPath, aAddressQuery⟩, aTick, ⟨aResourceKind, aResourceBody, ⟨aResourceToHost, aResourceToPath, aResourceToQuery⟩⟩⟩
  rcases y with ⟨⟨bAddressHost, bAddressPath, bAddressQuery⟩, bTick, ⟨bResourceKind, bResourceBody, ⟨bResourceToHost, bResourceToPath, bResourceToQuery⟩⟩⟩
  simp only at h
  obtain ⟨rfl, rfl, rfl, rfl, rfl, rfl, rfl, rfl, rfl⟩ := h
  rfl
def GCapture.size (x : GCapture) : Nat := (x.Resource.size)
structure GChoice where
 Rule : Int
 At : Int
 deriving DecidableEq
def GChoice.enc (x : GChoice) : List T := [tI x.Rule, tI x.At]
def GChoice.dt : DT := .st (.fc .int (.fc .int .fn))
theorem GChoice.of {ts : List T} (h : IsT GChoice.dt ts) : ∃ x : GChoice, ts = x.enc := by
 simp only [GChoice.dt, IsT] at h
 obtain ⟨_, _, rfl, ⟨v0, rfl⟩, _, _, rfl, ⟨v1, rfl⟩, rfl⟩ := h
 exact ⟨⟨v0, v1⟩, rfl⟩
theorem GChoice.eqv {x y : GChoice} : x = y ↔ x.Rule = y.Rule ∧ x.At = y.At := by
 constructor
 ·rintro rfl; simp
 ·intro h
  rcases x with ⟨aRule, aAt⟩
  rcases y with ⟨bRule, bAt⟩
  simp only at h
  obtain ⟨rfl, rfl⟩ := h
  rfl
structure GWander where
 State : GState
 Choices : List GChoice
 Labels : List Int
 Missing : Int
 deriving DecidableEq
def GWander.enc (x : GWander) : List T := [tI x.State.Pc, .sl 1 (x.State.Regs.map encI), .sl 1 (x.State.Slots.map encI), .sl 1 (x.State.Nodes.map encI), .sl 2 (x.Choices.map GChoice.enc), .sl 1 (x.Labels.map encI), tI x.Missing]
def GWander.dt : DT := .st (.fc GState.dt (.fc (.sl GChoice.dt) (.fc (.sl .int) (.fc .int .fn))))
theorem GWander.of {ts : List T} (h : IsT GWander.dt ts) : ∃ x : GWander, ts = x.enc := by
 simp only [GWander.dt, IsT] at h
 obtain ⟨_, _, rfl, k0, _, _, rfl, ⟨l1, rfl, k1⟩, _, _, rfl, ⟨l2, rfl, k2⟩, _, _, rfl, ⟨v3, rfl⟩, rfl⟩ := h
 obtain ⟨v0, rfl⟩ := GState.of k0
 obtain ⟨v1, rfl⟩ := list_of GChoice.of k1
 obtain ⟨v2, rfl⟩ := list_of int_of k2
 exact ⟨⟨v0, v1, v2, v3⟩, rfl⟩
theorem GWander.eqv {x y : GWander} : x = y ↔ x.State.Pc = y.State.Pc ∧ x.State.Regs = y.State.Regs ∧ x.State.Slots = y.State.Slots ∧ x.State.Nodes = y.State.Nodes ∧ x.Choices = y.Choices ∧ x.Labels = y.Labels ∧ x.Missing = y.Missing := by
 constructor
 ·rintro rfl; simp
 ·intro h
  rcases x with ⟨⟨aStatePc, aStateRegs, aStateSlots, aStateNodes⟩, aChoices, aLabels, aMissing⟩
  rcases y with ⟨⟨bStatePc, bStateRegs, bStateSlots, bStateNodes⟩, bChoices, bLabels, bMissing⟩
  simp only at h
  obtain ⟨rfl, rfl, rfl, rfl, rfl, rfl, rfl⟩ := h
  rfl
def GWander.size (x : GWander) : Nat := (x.State.size) + (x.Choices.length) + (x.Labels.length)
structure GModel where
 Base : Int
 Step : Int
 Seen : Int
 Fits : Bool
 deriving DecidableEq
def GModel.enc (x : GModel) : List T := [tI x.Base, tI x.Step, tI x.Seen, tB x.Fits]
def GModel.dt : DT := .st (.fc .int (.fc .int (.fc .int (.fc .bool .fn))))
theorem GModel.of {ts : List T} (h : IsT GModel.dt ts) : ∃ x : GModel, ts = x.enc := by
 simp only [GModel.dt, IsT] at h
 obtain ⟨_, _, rfl, ⟨v0, rfl⟩, _, _, rfl, ⟨v1, rfl⟩, _, _, rfl, ⟨v2, rfl⟩, _, _, rfl, ⟨v3, rfl⟩, rfl⟩ := h
 exact ⟨⟨v0, v1, v2, v3⟩, rfl⟩
theorem GModel.eqv {x y : GModel} : x = y ↔ x.Base = y.Base ∧ x.Step = y.Step ∧ x.Seen = y.Seen ∧ x.Fits = y.Fits := by
 constructor
 ·rintro rfl; simp
 ·intro h
  rcases x with ⟨aBase, aStep, aSeen, aFits⟩
  rcases y with ⟨bBase, bStep, bSeen, bFits⟩
  simp only at h
  obtain ⟨rfl, rfl, rfl, rfl⟩ := h
  rfl
structure GShown where
 Tick : Int
 Address : GAddress
 deriving DecidableEq
def GShown.enc (x : GShown) : List T := [tI x.Tick, tI x.Address.Host, tI x.Address.Path, tI x.Address.Query]
def GShown.dt : DT := .st (.fc .int (.fc GAddress.dt .fn))
theorem GShown.of {ts : List T} (h : IsT GShown.dt ts) : ∃ x : GShown, ts = x.enc := by
 simp only [GShown.dt, IsT] at h
 obtain ⟨_, _, rfl, ⟨v0, rfl⟩, _, _, rfl, k1, rfl⟩ := h
 obtain ⟨v1, rfl⟩ := GAddress.of k1
 exact ⟨⟨v0, v1⟩, rfl⟩
theorem GShown.eqv {x y : GShown} : x = y ↔ x.Tick = y.Tick ∧ x.Address.Host = y.Address.Host ∧ x.Address.Path = y.Address.Path ∧ x.Address.Query = y.Address.Query := by
 constructor
 ·rintro rfl; simp
 ·intro h
  rcases x with ⟨aTick, ⟨aAddressHost, aAddressPath, aAddressQuery⟩⟩
  rcases y with ⟨bTick, ⟨bAddressHost, bAddressPath, bAddressQuery⟩⟩
  simp only at h
  obtain ⟨rfl, rfl, rfl, rfl⟩ := h
  rfl
structure GLeaf where
 Value : Int
 Salt : Int
 Hidden : Bool
 Seal : Int
 deriving DecidableEq
def GLeaf.enc (x : GLeaf) : List T := [tI x.Value, tI x.Salt, tB x.Hidden, tI x.Seal]
def GLeaf.dt : DT := .st (.fc .int (.fc .int (.fc .bool (.fc .int .fn))))
theorem GLeaf.of {ts : List T} (h : IsT GLeaf.dt ts) : ∃ x : GLeaf, ts = x.enc := by
 simp only [GLeaf.dt, IsT] at h
 obtain ⟨_, _, rfl, ⟨v0, rfl⟩, _, _, rfl, ⟨v1, rfl⟩, _, _, rfl, ⟨v2, rfl⟩, _, _, rfl, ⟨v3, rfl⟩, rfl⟩ := h
 exact ⟨⟨v0, v1, v2, v3⟩, rfl⟩
theorem GLeaf.eqv {x y : GLeaf} : x = y ↔ x.Value = y.Value ∧ x.Salt = y.Salt ∧ x.Hidden = y.Hidden ∧ x.Seal = y.Seal := by
 constructor
 ·rintro rfl; simp
 ·intro h
  rcases x with ⟨aValue, aSalt, aHidden, aSeal⟩
  rcases y with ⟨bValue, bSalt, bHidden, bSeal⟩
  simp only at h
  obtain ⟨rfl, rfl, rfl, rfl⟩ := h
  rfl
structure GEdition where
 Captures : List GCapture
 From : Int
 Until : Int
 Hidden : List GAddress
 deriving DecidableEq
def GEdition.enc (x : GEdition) : List T := [.sl 9 (x.Captures.map GCapture.enc), tI x.From, tI x.Until, .sl 3 (x.Hidden.map GAddress.enc)]
def GEdition.dt : DT := .st (.fc (.sl GCapture.dt) (.fc .int (.fc .int (.fc (.sl GAddress.dt) .fn))))
theorem GEdition.of {ts : List T} (h : IsT GEdition.dt ts) : ∃ x : GEdition, ts = x.enc := by
 simp only [GEdition.dt, IsT] at h
 obtain ⟨_, _, rfl, ⟨l0, rfl, k0⟩, _, _, rfl, ⟨v1, rfl⟩, _, _, rfl, ⟨v2, rfl⟩, _, _, rfl, ⟨l3, rfl, k3⟩, rfl⟩ := h
 obtain ⟨v0, rfl⟩ := list_of GCapture.of k0
 obtain ⟨v3, rfl⟩ := list_of GAddress.of k3
 exact ⟨⟨v0, v1, v2, v3⟩, rfl⟩
theorem GEdition.eqv {x y : GEdition} : x = y ↔ x.Captures = y.Captures ∧ x.From = y.From ∧ x.Until = y.Until ∧ x.Hidden = y.Hidden := by
 constructor
 ·rintro rfl; simp
 ·intro h
  rcases x with ⟨aCaptures, aFrom, aUntil, aHidden⟩
  rcases y with ⟨bCaptures, bFrom, bUntil, bHidden⟩
  simp only at h
  obtain ⟨rfl, rfl, rfl, rfl⟩ := h
  rfl
def GEdition.size (x : GEdition) : Nat := (x.Captures.length + (x.Captures.map GCapture.size).sum) + (x.Hidden.length)
structure GExclusion where
 Host : Int
 Path : Int
 From : Int
 Until : Int
 Asked : Int
 deriving DecidableEq
def GExclusion.enc (x : GExclusion) : List T := [tI x.Host, tI x.Path, tI x.From, tI x.Until, tI x.Asked]
def GExclusion.dt : DT := .st (.fc .int (.fc .int (.fc .int (.fc .int (.fc .int .fn)))))
theorem GExclusion.of {ts : List T} (h : IsT GExclusion.dt ts) : ∃ x : GExclusion, ts = x.enc := by
 simp only [GExclusion.dt, IsT] at h
 obtain ⟨_, _, rfl, ⟨v0, rfl⟩, _, _, rfl, ⟨v1, rfl⟩, _, _, rfl, ⟨v2, rfl⟩, _, _, rfl, ⟨v3, rfl⟩, _, _, rfl, ⟨v4, rfl⟩, rfl⟩ := h
 exact ⟨⟨v0, v1, v2, v3, v4⟩, rfl⟩
theorem GExclusion.eqv {x y : GExclusion} : x = y ↔ x.Host = y.Host ∧ x.Path = y.Path ∧ x.From = y.From ∧ x.Until = y.Until ∧ x.Asked = y.Asked := by
 constructor
 ·rintro rfl; simp
 ·intro h
  rcases x with ⟨aHost, aPath, aFrom, aUntil, aAsked⟩
  rcases y with ⟨bHost, bPath, bFrom, bUntil, bAsked⟩
  simp only at h
  obtain ⟨rfl, rfl, rfl, rfl, rfl⟩ := h
  rfl
structure GStatement where
 Witness : Int
 Digest : Int
 Tick : Int
 Seal : Int
 deriving DecidableEq
def GStatement.enc (x : GStatement) : List T := [tI x.Witness, tI x.Digest, tI x.Tick, tI x.Seal]
def GStatement.dt : DT := .st (.fc .int (.fc .int (.fc .int (.fc .int .fn))))
theorem GStatement.of {ts : List T} (h : IsT GStatement.dt ts) : ∃ x : GStatement, ts = x.enc := by
 simp only [GStatement.dt, IsT] at h
 obtain ⟨_, _, rfl, ⟨v0, rfl⟩, _, _, rfl, ⟨v1, rfl⟩, _, _, rfl, ⟨v2, rfl⟩, _, _, rfl, ⟨v3, rfl⟩, rfl⟩ := h
 exact ⟨⟨v0, v1, v2, v3⟩, rfl⟩
theorem GStatement.eqv {x y : GStatement} : x = y ↔ x.Witness = y.Witness ∧ x.Digest = y.Digest ∧ x.Tick = y.Tick ∧ x.Seal = y.Seal := by
 constructor
 ·rintro rfl; simp
 ·intro h
  rcases x with ⟨aWitness, aDigest, aTick, aSeal⟩
  rcases y with ⟨bWitness, bDigest, bTick, bSeal⟩
  simp only at h
  obtain ⟨rfl, rfl, rfl, rfl⟩ := h
  rfl
structure GLibrary where
 Id : Int
 Digests : List Int
 Up : Bool
 Lies : Bool
 deriving DecidableEq
def GLibrary.enc (x : GLibrary) : List T := [tI x.Id, .sl 1 (x.Digests.map encI), tB x.Up, tB x.Lies]
def GLibrary.dt : DT := .st (.fc .int (.fc (.sl .int) (.fc .bool (.fc .bool .fn))))
theorem GLibrary.of {ts : List T} (h : IsT GLibrary.dt ts) : ∃ x : GLibrary, ts = x.enc := by
 simp only [GLibrary.dt, IsT] at h
 obtain ⟨_, _, rfl, ⟨v0, rfl⟩, _, _, rfl, ⟨l1, rfl, k1⟩, _, _, rfl, ⟨v2, rfl⟩, _, _, rfl, ⟨v3, rfl⟩, rfl⟩ := h
 obtain ⟨v1, rfl⟩ := list_of int_of k1
 exact ⟨⟨v0, v1, v2, v3⟩, rfl⟩
theorem GLibrary.eqv {x y : GLibrary} : x = y ↔ x.Id = y.Id ∧ x.Digests = y.Digests ∧ x.Up = y.Up ∧ x.Lies = y.Lies := by
 constructor
 ·rintro rfl; simp
 ·intro h
  rcases x with ⟨aId, aDigests, aUp, aLies⟩
  rcases y with ⟨bId, bDigests, bUp, bLies⟩
  simp only at h
  obtain ⟨rfl, rfl, rfl, rfl⟩ := h
  rfl
def GLibrary.size (x : GLibrary) : Nat := (x.Digests.length)
structure GContainer where
 Script : List GOp
 Entries : List GEntry
 Captures : List GCapture
 Root : Int
 deriving DecidableEq
def GContainer.enc (x : GContainer) : List T := [.sl 4 (x.Script.map GOp.enc), .sl 5 (x.Entries.map GEntry.enc), .sl 9 (x.Captures.map GCapture.enc), tI x.Root]
def GContainer.dt : DT := .st (.fc (.sl GOp.dt) (.fc (.sl GEntry.dt) (.fc (.sl GCapture.dt) (.fc .int .fn))))
theorem GContainer.of {ts : List T} (h : IsT GContainer.dt ts) : ∃ x : GContainer, ts = x.enc := by
 simp only [GContainer.dt, IsT] at h
 obtain ⟨_, _, rfl, ⟨l0, rfl, k0⟩, _, _, rfl, ⟨l1, rfl, k1⟩, _, _, rfl, ⟨l2, rfl, k2⟩, _, _, rfl, ⟨v3, rfl⟩, rfl⟩ := h
 obtain ⟨v0, rfl⟩ := list_of GOp.of k0
 obtain ⟨v1, rfl⟩ := list_of GEntry.of k1
 obtain ⟨v2, rfl⟩ := list_of GCapture.of k2
 exact ⟨⟨v0, v1, v2, v3⟩, rfl⟩
theorem GContainer.eqv {x y : GContainer} : x = y ↔ x.Script = y.Script ∧ x.Entries = y.Entries ∧ x.Captures = y.Captures ∧ x.Root = y.Root := by
 constructor
 ·rintro rfl; simp
 ·intro h
  rcases x with ⟨aScript, aEntries, aCaptures, aRoot⟩
  rcases y with ⟨bScript, bEntries, bCaptures, bRoot⟩
  simp only at h
  obtain ⟨rfl, rfl, rfl, rfl⟩ := h
  rfl
def GContainer.size (x : GContainer) : Nat := (x.Script.length) + (x.Entries.length) + (x.Captures.length + (x.Captures.map GCapture.size).sum)
structure GFound where
 Address : GAddress
 Tick : Int
 Container : Int
 At : Int
 deriving DecidableEq
def GFound.enc (x : GFound) : List T := [tI x.Address.Host, tI x.Address.Path, tI x.Address.Query, tI x.Tick, tI x.Container, tI x.At]
def GFound.dt : DT := .st (.fc GAddress.dt (.fc .int (.fc .int (.fc .int .fn))))
theorem GFound.of {ts : List T} (h : IsT GFound.dt ts) : ∃ x : GFound, ts = x.enc := by
 simp only [GFound.dt, IsT] at h
 obtain ⟨_, _, rfl, k0, _, _, rfl, ⟨v1, rfl⟩, _, _, rfl, ⟨v2, rfl⟩, _, _, rfl, ⟨v3, rfl⟩, rfl⟩ := h
 obtain ⟨v0, rfl⟩ := GAddress.of k0
 exact ⟨⟨v0, v1, v2, v3⟩, rfl⟩
theorem GFound.eqv {x y : GFound} : x = y ↔ x.Address.Host = y.Address.Host ∧ x.Address.Path = y.Address.Path ∧ x.Address.Query = y.Address.Query ∧ x.Tick = y.Tick ∧ x.Container = y.Container ∧ x.At = y.At := by
 constructor
 ·rintro rfl; simp
 ·intro h
  rcases x with ⟨⟨aAddressHost, aAddressPath, aAddressQuery⟩, aTick, aContainer, aAt⟩
  rcases y with ⟨⟨bAddressHost, bAddressPath, bAddressQuery⟩, bTick, bContainer, bAt⟩
  simp only at h
  obtain ⟨rfl, rfl, rfl, rfl, rfl, rfl⟩ := h
  rfl
structure GDisk where
 Containers : List GContainer
 Index : List GFound
 Wanted : List GContainer
 deriving DecidableEq
def GDisk.enc (x : GDisk) : List T := [.sl 4 (x.Containers.map GContainer.enc), .sl 6 (x.Index.map GFound.enc), .sl 4 (x.Wanted.map GContainer.enc)]
def GDisk.dt : DT := .st (.fc (.sl GContainer.dt) (.fc (.sl GFound.dt) (.fc (.sl GContainer.dt) .fn)))
theorem GDisk.of {ts : List T} (h : IsT GDisk.dt ts) : ∃ x : GDisk, ts = x.enc := by
 simp only [GDisk.dt, IsT] at h
 obtain ⟨_, _, rfl, ⟨l0, rfl, k0⟩, _, _, rfl, ⟨l1, rfl, k1⟩, _, _, rfl, ⟨l2, rfl, k2⟩, rfl⟩ := h
 obtain ⟨v0, rfl⟩ := list_of GContainer.of k0
 obtain ⟨v1, rfl⟩ := list_of GFound.of k1
 obtain ⟨v2, rfl⟩ := list_of GContainer.of k2
 exact ⟨⟨v0, v1, v2⟩, rfl⟩
theorem GDisk.eqv {x y : GDisk} : x = y ↔ x.Containers = y.Containers ∧ x.Index = y.Index ∧ x.Wanted = y.Wanted := by
 constructor
 ·rintro rfl; simp
 ·intro h
  rcases x with ⟨aContainers, aIndex, aWanted⟩
  rcases y with ⟨bContainers, bIndex, bWanted⟩
  simp only at h
  obtain ⟨rfl, rfl, rfl⟩ := h
  rfl
def GDisk.size (x : GDisk) : Nat := (x.Containers.length + (x.Containers.map GContainer.size).sum) + (x.Index.length) + (x.Wanted.length + (x.Wanted.map GContainer.size).sum)
structure GArchive where
 Site : List GVersion
 Script : List GOp
 Disk : GDisk
 Exclusions : List GExclusion
 Libraries : List GLibrary
 Keys : List Int
 Statements : List GStatement
 Now : Int
 deriving DecidableEq
def GArchive.enc (x : GArchive) : List T := [.sl 9 (x.Site.map GVersion.enc), .sl 4 (x.Script.map GOp.enc), .sl 4 (x.Disk.Containers.map GContainer.enc), .sl 6 (x.Disk.Index.map GFound.enc), .sl 4 (x.Disk.Wanted.map GContainer.enc), .sl 5 (x.Exclusions.map GExclusion.enc), .sl 4 (x.Libraries.map GLibrary.enc), .sl 1 (x.Keys.map encI), .sl 4 (x.Statements.map GStatement.enc), tI x.Now]
def GArchive.dt : DT := .st (.fc (.sl GVersion.dt) (.fc (.sl GOp.dt) (.fc GDisk.dt (.fc (.sl GExclusion.dt) (.fc (.sl GLibrary.dt) (.fc (.sl .int) (.fc (.sl GStatement.dt) (.fc .int .fn))))))))
theorem GArchive.of {ts : List T} (h : IsT GArchive.dt ts) : ∃ x : GArchive, ts = x.enc := by
 simp only [GArchive.dt, IsT] at h
 obtain ⟨_, _, rfl, ⟨l0, rfl, k0⟩, _, _, rfl, ⟨l1, rfl, k1⟩, _, _, rfl, k2, _, _, rfl, ⟨l3, rfl, k3⟩, _, _, rfl, ⟨l4, rfl, k4⟩, _, _, rfl, ⟨l5, rfl, k5⟩, _, _, rfl, ⟨l6, rfl, k6⟩, _, _, rfl, ⟨v7, rfl⟩, rfl⟩ := h
 obtain ⟨v0, rfl⟩ := list_of GVersion.of k0
 obtain ⟨v1, rfl⟩ := list_of GOp.of k1
 obtain ⟨v2, rfl⟩ := GDisk.of k2
 obtain ⟨v3, rfl⟩ := list_of GExclusion.of k3
 obtain ⟨v4, rfl⟩ := list_of GLibrary.of k4
 obtain ⟨v5, rfl⟩ := list_of int_of k5
 obtain ⟨v6, rfl⟩ := list_of GStatement.of k6
 exact ⟨⟨v0, v1, v2, v3, v4, v5, v6, v7⟩, rfl⟩
theorem GArchive.eqv {x y : GArchive} : x = y ↔ x.Site = y.Site ∧ x.Script = y.Script ∧ x.Disk.Containers = y.Disk.Containers ∧ x.Disk.Index = y.Disk.Index ∧ x.Disk.Wanted = y.Disk.Wanted ∧ x.Exclusions = y.Exclusions ∧ x.Libraries = y.Libraries ∧ x.Keys = y.Keys ∧ x.Statements = y.Statements ∧ x.Now = y.Now := by
 constructor
 ·rintro rfl; simp
 ·intro h
  rcases x with ⟨aSite, aScript, ⟨aDiskContainers, aDiskIndex, aDiskWanted⟩, aExclusions, aLibraries, aKeys, aStatements, aNow⟩
  rcases y with ⟨bSite, bScript, ⟨bDiskContainers, bDiskIndex, bDiskWanted⟩, bExclusions, bLibraries, bKeys, bStatements, bNow⟩
  simp only at h
  obtain ⟨rfl, rfl, rfl, rfl, rfl, rfl, rfl, rfl, rfl, rfl⟩ := h
  rfl
def GArchive.size (x : GArchive) : Nat := (x.Site.length + (x.Site.map GVersion.size).sum) + (x.Script.length) + (x.Disk.size) + (x.Exclusions.length) + (x.Libraries.length + (x.Libraries.map GLibrary.size).sum) + (x.Keys.length) + (x.Statements.length)
structure GEvent where
 Kind : Int
 N : Int
 Inputs : List Int
 Version : GVersion
 Exclusion : GExclusion
 deriving DecidableEq
def GEvent.enc (x : GEvent) : List T := [tI x.Kind, tI x.N, .sl 1 (x.Inputs.map encI), tI x.Version.Address.Host, tI x.Version.Address.Path, tI x.Version.Address.Query, tI x.Version.From, tI x.Version.Resource.Kind, .sl 1 (x.Version.Resource.Body.map encI), tI x.Version.Resource.To.Host, tI x.Version.Resource.To.Path, tI x.Version.Resource.To.Query, tI x.Exclusion.Host, tI x.Exclusion.Path, tI x.Exclusion.From, tI x.Exclusion.Until, tI x.Exclusion.Asked]
def GEvent.dt : DT := .st (.fc .int (.fc .int (.fc (.sl .int) (.fc GVersion.dt (.fc GExclusion.dt .fn)))))
theorem GEvent.of {ts : List T} (h : IsT GEvent.dt ts) : ∃ x : GEvent, ts = x.enc := by
 simp only [GEvent.dt, IsT] at h
 obtain ⟨_, _, rfl, ⟨v0, rfl⟩, _, _, rfl, ⟨v1, rfl⟩, _, _, rfl, ⟨l2, rfl, k2⟩, _, _, rfl, k3, _, _, rfl, k4, rfl⟩ := h
 obtain ⟨v2, rfl⟩ := list_of int_of k2
 obtain ⟨v3, rfl⟩ := GVersion.of k3
 obtain ⟨v4, rfl⟩ := GExclusion.of k4
 exact ⟨⟨v0, v1, v2, v3, v4⟩, rfl⟩
theorem GEvent.eqv {x y : GEvent} : x = y ↔ x.Kind = y.Kind ∧ x.N = y.N ∧ x.Inputs = y.Inputs ∧ x.Version.Address.Host = y.Version.Address.Host ∧ x.Version.Address.Path = y.Version.Address.Path ∧ x.Version.Address.Query = y.Version.Address.Query ∧ x.Version.From = y.Version.From ∧ x.Version.Resource.Kind = y.Version.Resource.Kind ∧ x.Version.Resource.Body = y.Version.Resource.Body ∧ x.Version.Resource.To.Host = y.Version.Resource.To.Host ∧ x.Version.Resource.To.Path = y.Version.Resource.To.Path ∧ x.Version.Resource.To.Query = y.Version.Resource.To.Query ∧ x.Exclusion.Host = y.Exclusion.Host ∧ x.Exclusion.Path = y.Exclusion.Path ∧ x.Exclusion.From = y.Exclusion.From ∧ x.Exclusion.Until = y.Exclusion.Until ∧ x.Exclusion.Asked = y.Exclusion.Asked := by
 constructor
 ·rintro rfl; simp
 ·intro h
  rcases x with ⟨aKind, aN, aInputs, ⟨⟨aVersionAddressHost, aVersionAddressPath, aVersionAddressQuery⟩, aVersionFrom, ⟨aVersionResourceKind, aVersionResourceBody, ⟨aVersionResourceToHost, aVersionResourceToPath, aVersionResourceToQuery⟩⟩⟩, ⟨aExclusionHost, aExclusionPath, aExclusionFrom, aExclusionUntil, aExclusionAsked⟩⟩
  rcases y with ⟨bKind, bN, bInputs, ⟨⟨bVersionAddressHost, bVersionAddressPath, bVersionAddressQuery⟩, bVersionFrom, ⟨bVersionResourceKind, bVersionResourceBody, ⟨bVersionResourceToHost, bVersionResourceToPath, bVersionResourceToQuery⟩⟩⟩, ⟨bExclusionHost, bExclusionPath, bExclusionFrom, bExclusionUntil, bExclusionAsked⟩⟩
  simp only at h
  obtain ⟨rfl, rfl, rfl, rfl, rfl, rfl, rfl, rfl, rfl, rfl, rfl, rfl, rfl, rfl, rfl, rfl, rfl⟩ := h
  rfl
def GEvent.size (x : GEvent) : Nat := (x.Inputs.length) + (x.Version.size)
structure GChange where
 Tick : Int
 Digest : Int
 deriving DecidableEq
def GChange.enc (x : GChange) : List T := [tI x.Tick, tI x.Digest]
def GChange.dt : DT := .st (.fc .int (.fc .int .fn))
theorem GChange.of {ts : List T} (h : IsT GChange.dt ts) : ∃ x : GChange, ts = x.enc := by
 simp only [GChange.dt, IsT] at h
 obtain ⟨_, _, rfl, ⟨v0, rfl⟩, _, _, rfl, ⟨v1, rfl⟩, rfl⟩ := h
 exact ⟨⟨v0, v1⟩, rfl⟩
theorem GChange.eqv {x y : GChange} : x = y ↔ x.Tick = y.Tick ∧ x.Digest = y.Digest := by
 constructor
 ·rintro rfl; simp
 ·intro h
  rcases x with ⟨aTick, aDigest⟩
  rcases y with ⟨bTick, bDigest⟩
  simp only at h
  obtain ⟨rfl, rfl⟩ := h
  rfl
structure GPlayed where
 Code : Int
 At : Int
 State : GState
 deriving DecidableEq
def GPlayed.enc (x : GPlayed) : List T := [tI x.Code, tI x.At, tI x.State.Pc, .sl 1 (x.State.Regs.map encI), .sl 1 (x.State.Slots.map encI), .sl 1 (x.State.Nodes.map encI)]
def GPlayed.dt : DT := .st (.fc .int (.fc .int (.fc GState.dt .fn)))
theorem GPlayed.of {ts : List T} (h : IsT GPlayed.dt ts) : ∃ x : GPlayed, ts = x.enc := by
 simp only [GPlayed.dt, IsT] at h
 obtain ⟨_, _, rfl, ⟨v0, rfl⟩, _, _, rfl, ⟨v1, rfl⟩, _, _, rfl, k2, rfl⟩ := h
 obtain ⟨v2, rfl⟩ := GState.of k2
 exact ⟨⟨v0, v1, v2⟩, rfl⟩
theorem GPlayed.eqv {x y : GPlayed} : x = y ↔ x.Code = y.Code ∧ x.At = y.At ∧ x.State.Pc = y.State.Pc ∧ x.State.Regs = y.State.Regs ∧ x.State.Slots = y.State.Slots ∧ x.State.Nodes = y.State.Nodes := by
 constructor
 ·rintro rfl; simp
 ·intro h
  rcases x with ⟨aCode, aAt, ⟨aStatePc, aStateRegs, aStateSlots, aStateNodes⟩⟩
  rcases y with ⟨bCode, bAt, ⟨bStatePc, bStateRegs, bStateSlots, bStateNodes⟩⟩
  simp only at h
  obtain ⟨rfl, rfl, rfl, rfl, rfl, rfl⟩ := h
  rfl
def GPlayed.size (x : GPlayed) : Nat := (x.State.size)
attribute [go_sem] encI encB GAddress.enc GResource.enc GPart.enc GPiece.enc GVersion.enc GOp.enc GState.enc GVisit.enc GWant.enc GEntry.enc GCapture.enc GChoice.enc GWander.enc GModel.enc GShown.enc GLeaf.enc GEdition.enc GExclusion.enc GStatement.enc GLibrary.enc GContainer.enc GFound.enc GDisk.enc GArchive.enc GEvent.enc GChange.enc GPlayed.enc
end Go.Proofs.YtpclnmleldeleaaGreatR
namespace Go.Proofs.YtpclnmleldeleaaGreatR
set_option linter.unusedSimpArgs false
open Go Go.RowKit
open Nat (reduceEqDiff reduceLT reduceLeDiff reduceAdd reduceMul)
open List (reduceReplicate)
def szr (n : Nat) (left : Int) : Int := if (n : Int) ≤ left then left - n else -1
theorem szr_neg {n : Nat} {left : Int} (_ : 0 ≤ left) : szr n left < 0 ↔ left < n := by unfold szr; split <;> omega
theorem szr_add {n m : Nat} {left : Int} (_ : 0 ≤ left) (h1 : ¬ szr n left < 0) : 0 ≤ szr n left ∧ szr n left ≤ left ∧ szr (n + m) left = szr m (szr n left) := by
 unfold szr at *
 split at h1
 ·rename_i h2
  simp only [h2, if_true]
  refine ⟨by omega, by omega, ?_⟩
  split <;> split <;> omega
 ·omega
def own : List T → List (Bool × T)
 | [] => []
 | .sl k es :: l => (true, .sl k es) :: own l
 | t :: l => (false, t) :: own l
@[go_sem] theorem own_nil : own [] = [] := rfl
@[go_sem] theorem own_sl {k es l} : own (.sl k es :: l) = (true, .sl k es) :: own l := rfl
@[go_sem] theorem own_sc {v l} : own (.sc v :: l) = (false, .sc v) :: own l := rfl
abbrev rS (ts : List T) : RV := ⟨true, own ts⟩
abbrev rL (k : Nat) (es : List (List T)) : RV := ⟨false, [(true, .sl k es)]⟩
abbrev aS (ts : List T) : Bool × List T := (true, ts)
attribute [go_sem] rS rL aS
def filled {α : Type} (f : α → List T) (z : List T) (xs : List α) (k : Nat) : List (List T) := (xs.take k).map f ++ List.replicate (xs.length - k) z
section
variable {α : Type} {f : α → List T} {z : List T} {xs : List α} {k : Nat}
@[go_sem] theorem filled_len (h : k ≤ xs.length) : (filled f z xs k).length = xs.length := by simp [filled]; omega
theorem filled_zero : filled f z xs 0 = List.replicate xs.length z := by simp [filled]
theorem filled_all : filled f z xs xs.length = xs.map f := by simp [filled]
theorem filled_get (h : k < xs.length) : (filled f z xs k)[k]? = some z := by
 unfold filled
 rw [List.getElem?_append_right (by simp; omega), List.getElem?_replicate, if_pos (by simp; omega)]
theorem filled_set {x : α} (h : xs[k]? = some x) : (filled f z xs k).set k (f x) = filled f z xs (k + 1) := by
 have hk := len_at h
 unfold filled
 rw [List.set_append_right _ _ (by simp; omega), take_snoc h]
 have e : xs.length - k = (xs.length - (k + 1)) + 1 := by omega
 rw [e, List.replicate_succ]
 have e2 : k - (List.map f (List.take k xs)).length = 0 := by simp; omega
 rw [e2]
 simp
end
theorem take_eq_step {α : Type} {xs ys : List α} {k : Nat} {x y : α} (hx : xs[k]? = some x) (hy : ys[k]? = some y) (h : xs.take k = ys.take k) : xs.take (k + 1) = ys.take (k + 1) ↔ x = y := by
 rw [take_snoc hx, take_snoc hy, h]
 simp
theorem ne_at {α : Type} [DecidableEq α] {xs ys : List α} {k : Nat} {x y : α} (hx : xs[k]? = some x) (hy : ys[k]? = some y) (h : ¬ x = y) : false = decide (xs = ys) := by
 symm
 rw [decide_eq_false_iff_not]
 rintro rfl
 rw [hx] at hy
 exact h (Option.some.inj hy)
theorem ne_len {α : Type} [DecidableEq α] {xs ys : List α} (h : ¬ (xs.length : Int) = ys.length) : false = decide (xs = ys) := by
 symm
 rw [decide_eq_false_iff_not]
 rintro rfl
 exact h rfl
theorem eq_all {α : Type} [DecidableEq α] {xs ys : List α} (he : xs.take xs.length = ys.take xs.length) (hl : xs.length = ys.length) : true = decide (xs = ys) := by
 symm
 rw [decide_eq_true_iff]
 rw [List.take_length] at he
 rw [he, hl, List.take_length]
theorem szr_bad' {n N : Nat} {left : Int} (h0 : 0 ≤ left) (h : szr n left < 0) (hn : n ≤ N) : -1 = szr N left := by
 rw [szr_neg h0] at h
 unfold szr
 rw [if_neg (by omega)]
theorem szr_ok {n : Nat} {left : Int} (h : ¬ szr n left < 0) : (n : Int) ≤ left := by
 unfold szr at h
 split at h <;> omega
theorem sum_snoc {α : Type} {f : α → Nat} {l : List α} {k : Nat} {x : α} (h : l[k]? = some x) : ((l.take (k + 1)).map f).sum = ((l.take k).map f).sum + f x := by
 rw [take_snoc h]; simp
theorem sum_take_le {α : Type} {f : α → Nat} (l : List α) (k : Nat) : ((l.take k).map f).sum ≤ (l.map f).sum := by
 have h : (l.map f).sum = ((l.take k).map f).sum + ((l.drop k).map f).sum := by
  rw [← List.sum_append, ← List.map_append, List.take_append_drop]
 omega
theorem mem_sum {α : Type} {f : α → Nat} {l : List α} {x : α} (h : x ∈ l) : f x ≤ (l.map f).sum := by
 induction l with
 | nil => simp at h
 | cons y l ih =>
  rcases List.mem_cons.1 h with rfl | h
  ·simp
  ·have := ih h; simp; omega
theorem snoc_len {α : Type} {l : List α} {k : Nat} {x : α} (h : l[k]? = some x) : (l.take k).length + 1 = (l.take (k + 1)).length := by
 rw [take_snoc h]; simp
theorem snoc_map {α : Type} {f : α → List T} {l : List α} {k : Nat} {x : α} (h : l[k]? = some x) : (l.take k).map f ++ [f x] = (l.take (k + 1)).map f := by
 rw [take_snoc h]; simp
end Go.Proofs.YtpclnmleldeleaaGreatR
namespace Go.Proofs.YtpclnmleldeleaaGreatR
open Go Go.RowKit Go.Proofs
open Nat (reduceEqDiff reduceLT reduceLeDiff reduceAdd reduceMul)
open List (reduceReplicate)
set_option linter.unusedSimpArgs false
set_option linter.unusedVariables false
theorem hmix : Tryz.prog.follows .mixedOrders = true := by kernel_rfl
theorem cA {f : FuncId} {fn : Func} {c : Code} {args : List (Bool × List T)} {rs : List RV} (M : MC) (m n : Nat) (res : List (MR × List Bool)) (hf : Tryz.prog.funcs[f]? = some fn) (hb : fn.body = some c) (hnt : fn.ntmps = n)
    (h : bdA args → wpC Tryz.prog M (kF res rs) (startS args n m)) (hname : (fn.name == "runtime.NumGoroutine") = false := by kernel_rfl) (hc : chkC Tryz.prog c M = true := by kernel_rfl) (hres : chkRes Tryz.prog fn.results.toList (res.map (·.1)) = true := by kernel_rfl) (hn : args.length ≤ n := by exact Nat.le_of_ble_eq_true rfl) : Ctr Tryz.prog f args rs :=
  ctr_at hmix hf hb hname hnt hc hres hn h
abbrev n_laws_FnExactSpanKept : Nat := 6
abbrev n_laws_FnExactBestTick : Nat := 7
abbrev n_laws_szArchive : Nat := 11
abbrev n_laws_szVersion : Nat := 12
abbrev n_laws_toArchive : Nat := 14
abbrev n_laws_toVersion : Nat := 15
abbrev n_laws_eqArchive : Nat := 17
abbrev n_laws_eqVersion : Nat := 18
abbrev n_laws_toIntS : Nat := 25
abbrev n_laws_eqIntS : Nat := 27
abbrev n_spec_SpanKept : Nat := 29
abbrev n_laws_toAddress : Nat := 30
abbrev n_impl_SpanKept : Nat := 31
abbrev n_spec_BestTick : Nat := 32
abbrev n_impl_BestTick : Nat := 33
abbrev n_laws_szVersionS : Nat := 41
abbrev n_laws_szOpS : Nat := 42
abbrev n_laws_szLibraryS : Nat := 43
abbrev n_laws_toVersionS : Nat := 45
abbrev n_laws_toOpS : Nat := 46
abbrev n_laws_toLibraryS : Nat := 47
abbrev n_laws_eqVersionS : Nat := 49
abbrev n_laws_eqOpS : Nat := 50
abbrev n_laws_eqLibraryS : Nat := 51
abbrev n_laws_szDisk : Nat := 55
abbrev n_laws_szExclusionS : Nat := 56
abbrev n_laws_szIntS : Nat := 57
abbrev n_laws_szStatementS : Nat := 58
abbrev n_laws_szResource : Nat := 59
abbrev n_laws_toDisk : Nat := 63
abbrev n_laws_toExclusionS : Nat := 64
abbrev n_laws_toStatementS : Nat := 65
abbrev n_laws_toResource : Nat := 66
abbrev n_laws_eqDisk : Nat := 70
abbrev n_laws_eqExclusionS : Nat := 71
abbrev n_laws_eqStatementS : Nat := 72
abbrev n_laws_eqAddress : Nat := 73
abbrev n_laws_eqResource : Nat := 74
abbrev n_spec_TicksOf : Nat := 95
abbrev n_spec_ServedCaptures : Nat := 96
abbrev n_impl_TicksOf : Nat := 97
abbrev n_impl_ServedCaptures : Nat := 98
abbrev n_spec_IsExclusion : Nat := 99
abbrev n_spec_l1In : Nat := 104
abbrev n_slices_ContainsFunc_impl_Exclusion_impl_Exclusion : Nat := 108
abbrev n_impl_IsExclusion : Nat := 110
abbrev n_impl_InRange : Nat := 112
abbrev n_laws_szLibrary : Nat := 118
abbrev n_laws_toOp : Nat := 119
abbrev n_laws_toLibrary : Nat := 120
abbrev n_laws_eqOp : Nat := 121
abbrev n_laws_eqLibrary : Nat := 122
abbrev n_laws_szContainerS : Nat := 123
abbrev n_laws_szFoundS : Nat := 124
abbrev n_spec_l5Copy : Nat := 127
abbrev n_laws_toContainerS : Nat := 130
abbrev n_laws_toFoundS : Nat := 131
abbrev n_laws_toExclusion : Nat := 132
abbrev n_laws_toStatement : Nat := 133
abbrev n_slices_Clone_int_int : Nat := 138
abbrev n_impl_copyResource : Nat := 140
abbrev n_laws_eqContainerS : Nat := 145
abbrev n_laws_eqFoundS : Nat := 146
abbrev n_laws_eqExclusion : Nat := 147
abbrev n_laws_eqStatement : Nat := 148
abbrev n_spec_BuildIndex : Nat := 153
abbrev n_impl_BuildIndex : Nat := 154
abbrev n_spec_l31Whole : Nat := 160
abbrev n_impl_Disk_follows : Nat := 169
abbrev n_spec_l9Put : Nat := 173
abbrev n_spec_VisibleAt : Nat := 174
abbrev n_spec_AllCaptures : Nat := 175
abbrev n_spec_l15Copy : Nat := 176
abbrev n_spec_Max : Nat := 177
abbrev n_impl_sorted : Nat := 178
abbrev n_impl_VisibleAt : Nat := 179
abbrev n_impl_AllCaptures : Nat := 180
abbrev n_spec_l31Same : Nat := 182
abbrev n_slices_Equal_impl_Found_impl_Found : Nat := 188
abbrev n_slices_IndexFunc_impl_Exclusion_impl_Exclusion : Nat := 190
abbrev n_laws_szContainer : Nat := 196
abbrev n_laws_toContainer : Nat := 198
abbrev n_laws_toFound : Nat := 199
abbrev n_laws_eqContainer : Nat := 202
abbrev n_laws_eqFound : Nat := 203
abbrev n_spec_l31Before : Nat := 208
abbrev n_slices_SortStableFunc_impl_Found_impl_Found : Nat := 209
abbrev n_impl_BuildIndex_1 : Nat := 210
abbrev n_impl_BeforeAddress : Nat := 211
abbrev n_cmp_Compare_int : Nat := 212
abbrev n_impl_copyCaptures : Nat := 227
abbrev n_spec_l25Hidden : Nat := 233
abbrev n_slices_Sort_int_int : Nat := 234
abbrev n_slices_Compact_int_int : Nat := 235
abbrev n_impl_VisibleAt_1 : Nat := 236
abbrev n_impl_IsHiddenBy : Nat := 237
abbrev n_laws_szEntryS : Nat := 244
abbrev n_laws_szCaptureS : Nat := 245
abbrev n_laws_toEntryS : Nat := 246
abbrev n_laws_toCaptureS : Nat := 247
abbrev n_laws_eqEntryS : Nat := 248
abbrev n_laws_eqCaptureS : Nat := 249
abbrev n_spec_BeforeAddress : Nat := 250
abbrev n_slices_stableCmpFunc_impl_Found : Nat := 251
abbrev n_cmp_isNaN_int : Nat := 252
abbrev n_spec_IsHiddenBy : Nat := 275
abbrev n_impl_Exclusion_hides : Nat := 278
abbrev n_laws_szCapture : Nat := 279
abbrev n_laws_toEntry : Nat := 280
abbrev n_laws_toCapture : Nat := 281
abbrev n_laws_eqEntry : Nat := 282
abbrev n_laws_eqCapture : Nat := 283
abbrev n_slices_insertionSortCmpFunc_impl_Found : Nat := 284
abbrev n_slices_symMergeCmpFunc_impl_Found : Nat := 285
abbrev n_spec_l25Meets : Nat := 294
abbrev n_slices_rotateCmpFunc_impl_Found : Nat := 306
abbrev n_slices_swapRangeCmpFunc_impl_Found : Nat := 315
def m_laws_szIntS : MC :=
(.seq (pr [.mv 4 (ci 0)] [0,1])
(.seq (pr [.mv 5 (.s 1), .mv 6 (.s 0), .len 7 false (.s 6), .bin 8 false .sub (.s 5) (.s 7), .mv 1 (.s 8)] [1])
(.seq (.seq (pr [.mv 9 (.s 1), .bin 10 false .lss (.s 9) (ci 0)] [1,10])
(.cond (.s 10) (.seq (pr [.mv 4 (.c (.int .i64 (-1)))] [4])
.ret) .skip))
(.seq (pr [.mv 11 (.s 1), .mv 4 (.s 11)] [4])
.ret))))
theorem c_laws_szIntS (xs : List Int) (left : Int) (h0 : 0 ≤ left) : Ctr Tryz.prog n_laws_szIntS [aL 1 (xs.map encI), aI left] [rI (szr xs.length left)] := by
 refine cA m_laws_szIntS 0 12 [(.tmp 4, [false])] Tryz.func57 rfl rfl ?_; unfold m_laws_szIntS
 intro hb
 simp only [bdA, bdL, bdT, bdR_map, wfB_i64, roomB, and_true, List.length_map] at hb
 obtain ⟨⟨hl, -⟩, hn⟩ := hb
 simp only [↓reduceIte, reduceEqDiff, reduceLT, reduceCtorEq, go_sem]
 rw [wI (by omega) (by omega)]
 unfold szr
 refine ⟨fun h => ?_, fun h => ?_⟩
 ·rw [if_neg (by omega)]
 ·rw [if_pos (by omega)]
def m_laws_toIntS : MC :=
(.seq (pr [.nilo 2 0 1] [0])
(.seq (pr [.mv 5 (.s 0), .len 6 false (.s 5), .mk 7 0 1 8 [.sc (.int .i64 0)] (.s 6), .mv 3 (.s 7)] [0,3])
(.seq (.seq (pr [.mv 4 (ci 0)] [0,3,4])
(.block 0 (.loop ([0,3,4], []) (.seq (.seq (pr [.mv 8 (.s 4), .mv 9 (.s 0), .len 10 false (.s 9), .bin 11 false .lss (.s 8) (.s 10)] [0,3,4,11])
(.cond (.s 11) .skip (.exit 0)))
(.seq (.block 1 (pr [.mv 14 (.s 3), .mv 15 (.s 4), .mv 16 (.s 0), .mv 17 (.s 4), .idx 18 1 (.s 16) (.s 17), .load 19 false 1 (.s 18), .idx 20 1 (.s 14) (.s 15), .store 1 (.s 20) (.s 19)] [0,3,4]))
(pr [.mv 12 (.s 4), .bin 13 false .add (.s 12) (ci 1), .mv 4 (.s 13)] [0,3,4]))))))
(.seq (pr [.mv 21 (.s 3), .mv 2 (.s 21)] [2])
.ret))))
theorem c_laws_toIntS (xs : List Int) (hs : xs.length ≤ 1073741824) : Ctr Tryz.prog n_laws_toIntS [aL 1 (xs.map encI)] [rL 1 (xs.map encI)] := by
 refine cA m_laws_toIntS 1 22 [(.tmp 2, [true])] Tryz.func25 rfl rfl ?_; unfold m_laws_toIntS
 intro hb
 simp only [↓reduceIte, reduceEqDiff, reduceLT, reduceAdd, reduceCtorEq, go_sem]
 refine ⟨⟨by omega, by simp only [roomB]; omega⟩, ?_⟩
 refine loopK_rng xs (fun k => [(4, vI k)]) (fun k => [(0, ⟨0, .row true 1 (filled encI [tI 0] xs k)⟩)]) (fun _ => True) (by simp only [roomB]; omega) ?_
 simp only [↓reduceIte, reduceEqDiff, reduceCtorEq, go_sem]
 refine ⟨?_, trivial, ?_, ?_⟩
 ·simp only [↓reduceIte, reduceEqDiff, reduceLT, reduceCtorEq, go_sem, filled_zero]
  all_goals rfl
 ·intro k x hx _ h0 h1 hw
  have h : k < xs.length := by omega
  simp only [↓reduceIte, reduceEqDiff, reduceLT, reduceCtorEq, go_sem, bk_eq hx, bk_eq (filled_get h), filled_len (Nat.le_of_lt h), h0, h1, hw]
  exact filled_set hx
 ·intro _
  simp only [↓reduceIte, reduceEqDiff, reduceLT, reduceCtorEq, go_sem, filled_all]
def m_laws_eqIntS : MC :=
(.seq (pr [.mv 4 cF] [0,1])
(.seq (.seq (pr [.mv 6 (.s 0), .len 7 false (.s 6), .mv 8 (.s 1), .len 9 false (.s 8), .bin 10 false .neq (.s 7) (.s 9)] [0,1,10])
(.cond (.s 10) (.seq (pr [.mv 4 cF] [4])
.ret) .skip))
(.seq (.seq (pr [.mv 5 (ci 0)] [0,1,5])
(.block 0 (.loop ([0,1,5], []) (.seq (.seq (pr [.mv 11 (.s 5), .mv 12 (.s 0), .len 13 false (.s 12), .bin 14 false .lss (.s 11) (.s 13)] [0,1,5,14])
(.cond (.s 14) .skip (.exit 0)))
(.seq (.block 1 (.seq (.dreg [Zc [18,21,22,23,24] (.mv 17 (.s 0)), Zc [17,21,22,23,24] (.mv 18 (.s 5)), Zd [21,22,23,24] [0,1] (.idx 19 1 (.s 17) (.s 18)), Zd [21,22,23,24] [0,1,2] (.load 20 false 1 (.s 19)), Zc [17,18,19,20,22] (.mv 21 (.s 1)), Zc [17,18,19,20,21] (.mv 22 (.s 5)), Zd [17,18,19,20] [4,5] (.idx 23 1 (.s 21) (.s 22)), Zd [17,18,19,20] [4,5,6] (.load 24 false 1 (.s 23)), Ze (.range 8) (.bin 25 false .neq (.s 20) (.s 24))] [0,1,5,25])
(.cond (.s 25) (.seq (pr [.mv 4 cF] [4])
.ret) .skip)))
(pr [.mv 15 (.s 5), .bin 16 false .add (.s 15) (ci 1), .mv 5 (.s 16)] [0,1,5]))))))
(.seq (pr [.mv 4 cT] [4])
.ret))))
theorem c_laws_eqIntS (xs ys : List Int) : Ctr Tryz.prog n_laws_eqIntS [aL 1 (xs.map encI), aL 1 (ys.map encI)] [rB (decide (xs = ys))] := by
 refine cA m_laws_eqIntS 0 26 [(.tmp 4, [false])] Tryz.func27 rfl rfl ?_; unfold m_laws_eqIntS
 intro hb
 simp only [bdA, bdL, bdT, bdR_map, roomB, and_true, List.length_map] at hb
 obtain ⟨⟨hl, -⟩, ⟨hl2, -⟩⟩ := hb
 simp only [↓reduceIte, reduceEqDiff, reduceLT, reduceCtorEq, go_sem]
 refine ⟨fun h => ne_len h, fun h => ?_⟩
 have hle : xs.length = ys.length := by omega
 refine loopK_rng xs (fun k => [(5, vI k)]) (fun k => []) (fun k => xs.take k = ys.take k) hl ?_
 simp only [↓reduceIte, reduceEqDiff, reduceCtorEq, go_sem]
 refine ⟨?_, rfl, ?_, ?_⟩
 ·simp only [↓reduceIte, reduceEqDiff, reduceLT, reduceCtorEq, go_sem]
 ·intro k x hx he h0 h1 hw
  obtain ⟨y, hy⟩ := at_some (show k < ys.length by omega)
  have h2 : (k : Int) < ys.length := by omega
  simp only [↓reduceIte, reduceEqDiff, reduceLT, reduceCtorEq, go_sem, bk_eq hx, bk_eq hy, h0, h1, h2, hw]
  exact ⟨fun hn => ne_at hx hy hn, fun hn => (take_eq_step hx hy he).2 hn⟩
 ·intro he
  simp only [↓reduceIte, reduceEqDiff, reduceLT, reduceCtorEq, go_sem]
  exact eq_all he hle
def m_laws_toAddress : MC :=
(.seq (pr [.box 1 0 (.s 0), .alloc 2 1 [pz, pz, pz]] [1,2])
(.seq (pr [.alloc 3 2 [pz, pz, pz]] [1,2,3])
(.seq (pr [.fld 4 (.s 1) 0, .load 5 false 1 (.s 4), .fld 6 (.s 3) 0, .store 1 (.s 6) (.s 5)] [1,2,3])
(.seq (pr [.fld 7 (.s 1) 1, .load 8 false 1 (.s 7), .fld 9 (.s 3) 1, .store 1 (.s 9) (.s 8)] [1,2,3])
(.seq (pr [.fld 10 (.s 1) 2, .load 11 false 1 (.s 10), .fld 12 (.s 3) 2, .store 1 (.s 12) (.s 11)] [2,3])
(.seq (pr [.load 13 true 3 (.s 3), .store 3 (.s 2) (.s 13)] [2])
.ret))))))
theorem c_laws_toAddress (x : GAddress) : Ctr Tryz.prog n_laws_toAddress [aS x.enc] [rS x.enc] := by
 refine cA m_laws_toAddress 3 14 [(.cell 2 true 3, [false, false, false])] Tryz.func30 rfl rfl ?_; unfold m_laws_toAddress
 intro hb
 simp only [↓reduceIte, reduceEqDiff, reduceLT, reduceLeDiff, reduceAdd, reduceCtorEq, go_sem]
def m_laws_eqAddress : MC :=
(.seq (pr [.box 2 0 (.s 0), .box 3 1 (.s 1), .mv 4 cF] [2,3])
(.seq (.seq (pr [.fld 5 (.s 2) 0, .load 6 false 1 (.s 5), .fld 7 (.s 3) 0, .load 8 false 1 (.s 7), .bin 9 false .neq (.s 6) (.s 8)] [2,3,9])
(.cond (.s 9) (.seq (pr [.mv 4 cF] [4])
.ret) .skip))
(.seq (.seq (pr [.fld 10 (.s 2) 1, .load 11 false 1 (.s 10), .fld 12 (.s 3) 1, .load 13 false 1 (.s 12), .bin 14 false .neq (.s 11) (.s 13)] [2,3,14])
(.cond (.s 14) (.seq (pr [.mv 4 cF] [4])
.ret) .skip))
(.seq (.seq (pr [.fld 15 (.s 2) 2, .load 16 false 1 (.s 15), .fld 17 (.s 3) 2, .load 18 false 1 (.s 17), .bin 19 false .neq (.s 16) (.s 18)] [19])
(.cond (.s 19) (.seq (pr [.mv 4 cF] [4])
.ret) .skip))
(.seq (pr [.mv 4 cT] [4])
.ret)))))
theorem c_laws_eqAddress (x y : GAddress) : Ctr Tryz.prog n_laws_eqAddress [aS x.enc, aS y.enc] [rB (decide (x = y))] := by
 refine cA m_laws_eqAddress 2 20 [(.tmp 4, [false])] Tryz.func73 rfl rfl ?_; unfold m_laws_eqAddress
 intro hb
 clear hb
 simp only [↓reduceIte, reduceEqDiff, reduceLT, reduceLeDiff, reduceAdd, reduceCtorEq, go_sem]
 refine ⟨fun h => ?_, fun h_Host => ?_⟩
 ·symm
  rw [decide_eq_false_iff_not]
  rintro rfl
  exact h rfl
 refine ⟨fun h => ?_, fun h_Path => ?_⟩
 ·symm
  rw [decide_eq_false_iff_not]
  rintro rfl
  exact h rfl
 refine ⟨fun h => ?_, fun h_Query => ?_⟩
 ·symm
  rw [decide_eq_false_iff_not]
  rintro rfl
  exact h rfl
 cases x; cases y; simp_all
def m_laws_szResource : MC :=
(.seq (pr [.box 2 0 (.s 0), .mv 4 (ci 0)] [1,2])
(.seq (pr [.fld 5 (.s 2) 1, .load 6 false 1 (.s 5), .mv 7 (.s 1), .call 8 [] (.f n_laws_szIntS) [.s 6, .s 7], .mv 1 (.s 8)] [1])
(.seq (.seq (pr [.mv 9 (.s 1), .bin 10 false .lss (.s 9) (ci 0)] [1,10])
(.cond (.s 10) (.seq (pr [.mv 4 (.c (.int .i64 (-1)))] [4])
.ret) .skip))
(.seq (pr [.mv 11 (.s 1), .mv 4 (.s 11)] [4])
.ret))))
theorem c_laws_szResource (x : GResource) (left : Int) (h0 : 0 ≤ left) : Ctr Tryz.prog n_laws_szResource [aS x.enc, aI left] [rI (szr x.size left)] := by
 refine cA m_laws_szResource 1 12 [(.tmp 4, [false])] Tryz.func59 rfl rfl ?_; unfold m_laws_szResource
 intro hb
 simp only [↓reduceIte, reduceEqDiff, reduceLT, reduceLeDiff, reduceAdd, reduceCtorEq, go_sem]
 refine callK_of (c_laws_szIntS x.Body left h0) ?_
 simp only [↓reduceIte, reduceEqDiff, reduceLT, reduceCtorEq, go_sem]
 intro _
 refine ⟨fun h => szr_bad' h0 h (by simp only [GResource.size]; omega), fun h1 => ?_⟩
 rfl
def m_laws_toResource : MC :=
(.seq (pr [.box 1 0 (.s 0), .alloc 2 1 [pz, .emp 1, pz, pz, pz]] [1,2])
(.seq (pr [.alloc 3 2 [pz, .emp 1, pz, pz, pz]] [1,2,3])
(.seq (pr [.fld 4 (.s 1) 0, .load 5 false 1 (.s 4), .fld 6 (.s 3) 0, .store 1 (.s 6) (.s 5)] [1,2,3])
(.seq (pr [.fld 7 (.s 1) 1, .load 8 false 1 (.s 7), .call 9 [3] (.f n_laws_toIntS) [.s 8], .fld 10 (.s 3) 1, .store 1 (.s 10) (.s 9)] [1,2,3])
(.seq (pr [.fld 11 (.s 1) 2, .load 12 true 3 (.s 11), .call 13 [] (.f n_laws_toAddress) [.s 12], .fld 14 (.s 3) 2, .store 3 (.s 14) (.s 13)] [2,3])
(.seq (pr [.load 15 true 5 (.s 3), .store 5 (.s 2) (.s 15)] [2])
.ret))))))
theorem c_laws_toResource (x : GResource) (hs : x.size ≤ 1073741824) : Ctr Tryz.prog n_laws_toResource [aS x.enc] [rS x.enc] := by
 refine cA m_laws_toResource 4 16 [(.cell 2 true 5, [false, true, false, false, false])] Tryz.func66 rfl rfl ?_; unfold m_laws_toResource
 intro hb
 simp only [GResource.size] at hs
 simp only [↓reduceIte, reduceEqDiff, reduceLT, reduceLeDiff, reduceAdd, reduceCtorEq, go_sem]
 refine callK_of (c_laws_toIntS x.Body (by omega)) ?_
 simp only [↓reduceIte, reduceEqDiff, reduceLT, reduceLeDiff, reduceAdd, reduceCtorEq, go_sem]
 try intros
 refine callK_of (c_laws_toAddress x.To) ?_
 simp only [↓reduceIte, reduceEqDiff, reduceLT, reduceAdd, reduceCtorEq, go_sem]
 try intros
def m_laws_eqResource : MC :=
(.seq (pr [.box 2 0 (.s 0), .box 3 1 (.s 1), .mv 4 cF] [2,3])
(.seq (.seq (pr [.fld 5 (.s 2) 0, .load 6 false 1 (.s 5), .fld 7 (.s 3) 0, .load 8 false 1 (.s 7), .bin 9 false .neq (.s 6) (.s 8)] [2,3,9])
(.cond (.s 9) (.seq (pr [.mv 4 cF] [4])
.ret) .skip))
(.seq (.seq (pr [.fld 10 (.s 2) 1, .load 11 false 1 (.s 10), .fld 12 (.s 3) 1, .load 13 false 1 (.s 12), .call 14 [] (.f n_laws_eqIntS) [.s 11, .s 13], .un 15 .not (.s 14)] [2,3,15])
(.cond (.s 15) (.seq (pr [.mv 4 cF] [4])
.ret) .skip))
(.seq (.seq (pr [.fld 16 (.s 2) 2, .load 17 true 3 (.s 16), .fld 18 (.s 3) 2, .load 19 true 3 (.s 18), .call 20 [] (.f n_laws_eqAddress) [.s 17, .s 19], .un 21 .not (.s 20)] [21])
(.cond (.s 21) (.seq (pr [.mv 4 cF] [4])
.ret) .skip))
(.seq (pr [.mv 4 cT] [4])
.ret)))))
theorem c_laws_eqResource (x y : GResource) : Ctr Tryz.prog n_laws_eqResource [aS x.enc, aS y.enc] [rB (decide (x = y))] := by
 refine cA m_laws_eqResource 2 22 [(.tmp 4, [false])] Tryz.func74 rfl rfl ?_; unfold m_laws_eqResource
 intro hb
 clear hb
 simp only [↓reduceIte, reduceEqDiff, reduceLT, reduceLeDiff, reduceAdd, reduceCtorEq, go_sem]
 refine ⟨fun h => ?_, fun h_Kind => ?_⟩
 ·symm
  rw [decide_eq_false_iff_not]
  rintro rfl
  exact h rfl
 refine callK_of (c_laws_eqIntS x.Body y.Body) ?_
 simp only [↓reduceIte, reduceEqDiff, reduceLT, reduceAdd, go_sem]
 refine ⟨fun h => ?_, fun h_Body => ?_⟩
 ·symm
  rw [decide_eq_false_iff_not]
  rintro rfl
  exact h rfl
 refine callK_of (c_laws_eqAddress x.To y.To) ?_
 simp only [↓reduceIte, reduceEqDiff, reduceLT, go_sem]
 refine ⟨fun h => ?_, fun h_To => ?_⟩
 ·symm
  rw [decide_eq_false_iff_not]
  rintro rfl
  exact h rfl
 cases x; cases y; simp_all
def m_laws_szVersion : MC :=
(.seq (pr [.box 2 0 (.s 0), .mv 4 (ci 0)] [1,2])
(.seq (pr [.fld 5 (.s 2) 4, .load 6 true 5 (.s 5), .mv 7 (.s 1), .call 8 [] (.f n_laws_szResource) [.s 6, .s 7], .mv 1 (.s 8)] [1])
(.seq (.seq (pr [.mv 9 (.s 1), .bin 10 false .lss (.s 9) (ci 0)] [1,10])
(.cond (.s 10) (.seq (pr [.mv 4 (.c (.int .i64 (-1)))] [4])
.ret) .skip))
(.seq (pr [.mv 11 (.s 1), .mv 4 (.s 11)] [4])
.ret))))
theorem c_laws_szVersion (x : GVersion) (left : Int) (h0 : 0 ≤ left) : Ctr Tryz.prog n_laws_szVersion [aS x.enc, aI left] [rI (szr x.size left)] := by
 refine cA m_laws_szVersion 1 12 [(.tmp 4, [false])] Tryz.func12 rfl rfl ?_; unfold m_laws_szVersion
 intro hb
 simp only [↓reduceIte, reduceEqDiff, reduceLT, reduceAdd, reduceCtorEq, go_sem]
 refine callK_of (c_laws_szResource x.Resource left h0) ?_
 simp only [↓reduceIte, reduceEqDiff, reduceLT, reduceCtorEq, go_sem]
 intro _
 refine ⟨fun h => szr_bad' h0 h (by simp only [GVersion.size]; omega), fun h1 => ?_⟩
 rfl
def m_laws_toVersion : MC :=
(.seq (pr [.box 1 0 (.s 0), .alloc 2 1 [pz, pz, pz, pz, pz, .emp 1, pz, pz, pz]] [1,2])
(.seq (pr [.alloc 3 2 [pz, pz, pz, pz, pz, .emp 1, pz, pz, pz]] [1,2,3])
(.seq (pr [.fld 4 (.s 1) 0, .load 5 true 3 (.s 4), .call 6 [] (.f n_laws_toAddress) [.s 5], .fld 7 (.s 3) 0, .store 3 (.s 7) (.s 6)] [1,2,3])
(.seq (pr [.fld 8 (.s 1) 3, .load 9 false 1 (.s 8), .fld 10 (.s 3) 3, .store 1 (.s 10) (.s 9)] [1,2,3])
(.seq (pr [.fld 11 (.s 1) 4, .load 12 true 5 (.s 11), .call 13 [3] (.f n_laws_toResource) [.s 12], .fld 14 (.s 3) 4, .store 5 (.s 14) (.s 13)] [2,3])
(.seq (pr [.load 15 true 9 (.s 3), .store 9 (.s 2) (.s 15)] [2])
.ret))))))
theorem c_laws_toVersion (x : GVersion) (hs : x.size ≤ 1073741824) : Ctr Tryz.prog n_laws_toVersion [aS x.enc] [rS x.enc] := by
 refine cA m_laws_toVersion 4 16 [(.cell 2 true 9, [false, false, false, false, false, true, false, false, false])] Tryz.func15 rfl rfl ?_; unfold m_laws_toVersion
 intro hb
 simp only [GVersion.size] at hs
 simp only [↓reduceIte, reduceEqDiff, reduceLT, reduceLeDiff, reduceAdd, go_sem]
 refine callK_of (c_laws_toAddress x.Address) ?_
 simp only [↓reduceIte, reduceEqDiff, reduceLT, reduceLeDiff, reduceAdd, reduceCtorEq, go_sem]
 try intros
 refine callK_of (c_laws_toResource x.Resource (by omega)) ?_
 simp only [↓reduceIte, reduceEqDiff, reduceLT, reduceAdd, reduceCtorEq, go_sem]
 try intros
def m_laws_eqVersion : MC :=
(.seq (pr [.box 2 0 (.s 0), .box 3 1 (.s 1), .mv 4 cF] [2,3])
(.seq (.seq (pr [.fld 5 (.s 2) 0, .load 6 true 3 (.s 5), .fld 7 (.s 3) 0, .load 8 true 3 (.s 7), .call 9 [] (.f n_laws_eqAddress) [.s 6, .s 8], .un 10 .not (.s 9)] [2,3,10])
(.cond (.s 10) (.seq (pr [.mv 4 cF] [4])
.ret) .skip))
(.seq (.seq (pr [.fld 11 (.s 2) 3, .load 12 false 1 (.s 11), .fld 13 (.s 3) 3, .load 14 false 1 (.s 13), .bin 15 false .neq (.s 12) (.s 14)] [2,3,15])
(.cond (.s 15) (.seq (pr [.mv 4 cF] [4])
.ret) .skip))
(.seq (.seq (pr [.fld 16 (.s 2) 4, .load 17 true 5 (.s 16), .fld 18 (.s 3) 4, .load 19 true 5 (.s 18), .call 20 [] (.f n_laws_eqResource) [.s 17, .s 19], .un 21 .not (.s 20)] [21])
(.cond (.s 21) (.seq (pr [.mv 4 cF] [4])
.ret) .skip))
(.seq (pr [.mv 4 cT] [4])
.ret)))))
theorem c_laws_eqVersion (x y : GVersion) : Ctr Tryz.prog n_laws_eqVersion [aS x.enc, aS y.enc] [rB (decide (x = y))] := by
 refine cA m_laws_eqVersion 2 22 [(.tmp 4, [false])] Tryz.func18 rfl rfl ?_; unfold m_laws_eqVersion
 intro hb
 clear hb
 simp only [↓reduceIte, reduceEqDiff, reduceLT, reduceLeDiff, reduceAdd, reduceCtorEq, go_sem]
 refine callK_of (c_laws_eqAddress x.Address y.Address) ?_
 simp only [↓reduceIte, reduceEqDiff, reduceLT, reduceLeDiff, reduceAdd, reduceCtorEq, go_sem]
 refine ⟨fun h => ?_, fun h_Address => ?_⟩
 ·symm
  rw [decide_eq_false_iff_not]
  rintro rfl
  exact h rfl
 refine ⟨fun h => ?_, fun h_From => ?_⟩
 ·symm
  rw [decide_eq_false_iff_not]
  rintro rfl
  exact h rfl
 refine callK_of (c_laws_eqResource x.Resource y.Resource) ?_
 simp only [↓reduceIte, reduceEqDiff, reduceLT, go_sem]
 refine ⟨fun h => ?_, fun h_Resource => ?_⟩
 ·symm
  rw [decide_eq_false_iff_not]
  rintro rfl
  exact h rfl
 cases x; cases y; simp_all
def m_laws_szVersionS : MC :=
(.seq (pr [.mv 4 (ci 0)] [0,1])
(.seq (pr [.mv 6 (.s 1), .mv 7 (.s 0), .len 8 false (.s 7), .bin 9 false .sub (.s 6) (.s 8), .mv 1 (.s 9)] [0,1])
(.seq (.seq (pr [.mv 10 (.s 1), .bin 11 false .lss (.s 10) (ci 0)] [0,1,11])
(.cond (.s 11) (.seq (pr [.mv 4 (.c (.int .i64 (-1)))] [4])
.ret) .skip))
(.seq (.seq (pr [.mv 5 (ci 0)] [0,1,5])
(.block 0 (.loop ([0,1,5], []) (.seq (.seq (pr [.mv 12 (.s 5), .mv 13 (.s 0), .len 14 false (.s 13), .bin 15 false .lss (.s 12) (.s 14)] [0,1,5,15])
(.cond (.s 15) .skip (.exit 0)))
(.seq (.block 1 (.seq (pr [.mv 18 (.s 0), .mv 19 (.s 5), .idx 20 9 (.s 18) (.s 19), .load 21 true 9 (.s 20), .mv 22 (.s 1), .call 23 [] (.f n_laws_szVersion) [.s 21, .s 22], .mv 1 (.s 23)] [0,1,5])
(.seq (pr [.mv 24 (.s 1), .bin 25 false .lss (.s 24) (ci 0)] [0,1,5,25])
(.cond (.s 25) (.seq (pr [.mv 4 (.c (.int .i64 (-1)))] [4])
.ret) .skip))))
(pr [.mv 16 (.s 5), .bin 17 false .add (.s 16) (ci 1), .mv 5 (.s 17)] [0,1,5]))))))
(.seq (pr [.mv 26 (.s 1), .mv 4 (.s 26)] [4])
.ret)))))
theorem c_laws_szVersionS (xs : List GVersion) (left : Int) (h0 : 0 ≤ left) : Ctr Tryz.prog n_laws_szVersionS [aL 9 (xs.map GVersion.enc), aI left] [rI (szr (xs.length + (xs.map GVersion.size).sum) left)] := by
 refine cA m_laws_szVersionS 0 27 [(.tmp 4, [false])] Tryz.func41 rfl rfl ?_; unfold m_laws_szVersionS
 intro hb
 simp only [bdA, bdL, bdT, bdR_map, wfB_i64, roomB, and_true, List.length_map] at hb
 obtain ⟨⟨hl, -⟩, hn⟩ := hb
 simp only [↓reduceIte, reduceEqDiff, reduceLT, reduceCtorEq, go_sem]
 rw [wI (by omega) (by omega)]
 refine ⟨fun h => ?_, fun h => ?_⟩
 ·exact szr_bad' (n := xs.length) h0 ((szr_neg h0).2 (by omega)) (by omega)
 ·have hz : szr xs.length left = left - xs.length := by unfold szr; rw [if_pos (by omega)]
  rw [← hz] at h ⊢
  refine loopK_rng xs (fun k => [(1, vI (szr (xs.length + ((xs.take k).map GVersion.size).sum) left)), (5, vI k)]) (fun k => []) (fun k => ¬ szr (xs.length + ((xs.take k).map GVersion.size).sum) left < 0) hl ?_
  simp only [↓reduceIte, reduceEqDiff, reduceCtorEq, go_sem]
  refine ⟨?_, by simpa using h, ?_, ?_⟩
  ·simp only [↓reduceIte, reduceEqDiff, reduceLT, reduceCtorEq, go_sem, List.take_zero, List.map_nil, List.sum_nil, Nat.add_zero]
   all_goals rfl
  ·intro k x hx hs hk0 h1 hw
   obtain ⟨a1, a2, a3⟩ := szr_add (m := x.size) h0 hs
   rw [Nat.add_assoc, ← sum_snoc hx] at a3
   simp only [↓reduceIte, reduceEqDiff, reduceLT, reduceAdd, reduceCtorEq, go_sem, bk_eq hx, hk0, h1]
   refine callK_of (c_laws_szVersion x _ a1) ?_
   rw [← a3]
   simp only [↓reduceIte, reduceEqDiff, reduceLT, reduceCtorEq, go_sem, hw]
   intro _
   refine ⟨fun hn => ?_, fun hn => hn⟩
   have := sum_take_le (f := GVersion.size) xs (k + 1)
   exact szr_bad' h0 hn (by omega)
  ·intro _
   simp only [↓reduceIte, reduceEqDiff, reduceLT, reduceCtorEq, go_sem, List.take_length]
def m_laws_toVersionS : MC :=
(.seq (pr [.nilo 2 0 9] [0])
(.seq (pr [.mv 5 (.s 0), .len 6 false (.s 5), .mk 7 0 9 88 [.sc (.int .i64 0), .sc (.int .i64 0), .sc (.int .i64 0), .sc (.int .i64 0), .sc (.int .i64 0), .sl 1 [], .sc (.int .i64 0), .sc (.int .i64 0), .sc (.int .i64 0)] (.s 6), .mv 3 (.s 7)] [0,3])
(.seq (.seq (pr [.mv 4 (ci 0)] [0,3,4])
(.block 0 (.loop ([0,3,4], [1]) (.seq (.seq (pr [.mv 8 (.s 4), .mv 9 (.s 0), .len 10 false (.s 9), .bin 11 false .lss (.s 8) (.s 10)] [0,3,4,11])
(.cond (.s 11) .skip (.exit 0)))
(.seq (.block 1 (pr [.mv 14 (.s 3), .mv 15 (.s 4), .mv 16 (.s 0), .mv 17 (.s 4), .idx 18 9 (.s 16) (.s 17), .load 19 true 9 (.s 18), .call 20 [1] (.f n_laws_toVersion) [.s 19], .idx 21 9 (.s 14) (.s 15), .store 9 (.s 21) (.s 20)] [0,3,4]))
(pr [.mv 12 (.s 4), .bin 13 false .add (.s 12) (ci 1), .mv 4 (.s 13)] [0,3,4]))))))
(.seq (pr [.mv 22 (.s 3), .mv 2 (.s 22)] [2])
.ret))))
theorem c_laws_toVersionS (xs : List GVersion) (hs : xs.length + (xs.map GVersion.size).sum ≤ 1073741824) : Ctr Tryz.prog n_laws_toVersionS [aL 9 (xs.map GVersion.enc)] [rL 9 (xs.map GVersion.enc)] := by
 refine cA m_laws_toVersionS 2 23 [(.tmp 2, [true])] Tryz.func45 rfl rfl ?_; unfold m_laws_toVersionS
 intro hb
 simp only [↓reduceIte, reduceEqDiff, reduceLT, reduceAdd, reduceCtorEq, go_sem]
 refine ⟨⟨by omega, by simp only [roomB]; omega⟩, ?_⟩
 refine loopK_rng xs (fun k => [(4, vI k)]) (fun k => [(0, ⟨0, .row true 9 (filled GVersion.enc [tI 0, tI 0, tI 0, tI 0, tI 0, .sl 1 [], tI 0, tI 0, tI 0] xs k)⟩)]) (fun _ => True) (by simp only [roomB]; omega) ?_
 simp only [↓reduceIte, reduceEqDiff, reduceAdd, reduceCtorEq, go_sem]
 refine ⟨?_, trivial, ?_, ?_⟩
 ·simp only [↓reduceIte, reduceEqDiff, reduceLT, reduceCtorEq, go_sem, filled_zero]
  all_goals rfl
 ·intro k x hx _ h0 h1 hw
  have h : k < xs.length := by omega
  simp only [↓reduceIte, reduceEqDiff, reduceLT, reduceAdd, reduceCtorEq, go_sem, bk_eq hx, h0, h1]
  have hx1 := mem_sum (f := GVersion.size) (at_mem hx)
  refine callK_of (c_laws_toVersion x (by omega)) ?_
  simp only [↓reduceIte, reduceEqDiff, reduceLT, reduceAdd, reduceCtorEq, go_sem, bk_eq (filled_get h), filled_len (Nat.le_of_lt h), h0, h1, hw]
  intros; exact filled_set hx
 ·intro _
  simp only [↓reduceIte, reduceEqDiff, reduceLT, reduceCtorEq, go_sem, filled_all]
def m_laws_eqVersionS : MC :=
(.seq (pr [.mv 4 cF] [0,1])
(.seq (.seq (pr [.mv 6 (.s 0), .len 7 false (.s 6), .mv 8 (.s 1), .len 9 false (.s 8), .bin 10 false .neq (.s 7) (.s 9)] [0,1,10])
(.cond (.s 10) (.seq (pr [.mv 4 cF] [4])
.ret) .skip))
(.seq (.seq (pr [.mv 5 (ci 0)] [0,1,5])
(.block 0 (.loop ([0,1,5], []) (.seq (.seq (pr [.mv 11 (.s 5), .mv 12 (.s 0), .len 13 false (.s 12), .bin 14 false .lss (.s 11) (.s 13)] [0,1,5,14])
(.cond (.s 14) .skip (.exit 0)))
(.seq (.block 1 (.seq (.dreg [Zc [18,21,22,23,24] (.mv 17 (.s 0)), Zc [17,21,22,23,24] (.mv 18 (.s 5)), Zd [21,22,23,24] [0,1] (.idx 19 9 (.s 17) (.s 18)), Zd [21,22,23,24] [0,1,2] (.load 20 true 9 (.s 19)), Zc [17,18,19,20,22] (.mv 21 (.s 1)), Zc [17,18,19,20,21] (.mv 22 (.s 5)), Zd [17,18,19,20] [4,5] (.idx 23 9 (.s 21) (.s 22)), Zd [17,18,19,20] [4,5,6] (.load 24 true 9 (.s 23)), Ze (.range 8) (.call 25 [] (.f n_laws_eqVersion) [.s 20, .s 24]), Ze (.range 9) (.un 26 .not (.s 25))] [0,1,5,26])
(.cond (.s 26) (.seq (pr [.mv 4 cF] [4])
.ret) .skip)))
(pr [.mv 15 (.s 5), .bin 16 false .add (.s 15) (ci 1), .mv 5 (.s 16)] [0,1,5]))))))
(.seq (pr [.mv 4 cT] [4])
.ret))))
theorem c_laws_eqVersionS (xs ys : List GVersion) : Ctr Tryz.prog n_laws_eqVersionS [aL 9 (xs.map GVersion.enc), aL 9 (ys.map GVersion.enc)] [rB (decide (xs = ys))] := by
 refine cA m_laws_eqVersionS 0 27 [(.tmp 4, [false])] Tryz.func49 rfl rfl ?_; unfold m_laws_eqVersionS
 intro hb
 simp only [bdA, bdL, bdT, bdR_map, roomB, and_true, List.length_map] at hb
 obtain ⟨⟨hl, -⟩, ⟨hl2, -⟩⟩ := hb
 simp only [↓reduceIte, reduceEqDiff, reduceLT, reduceCtorEq, go_sem]
 refine ⟨fun h => ne_len h, fun h => ?_⟩
 have hle : xs.length = ys.length := by omega
 refine loopK_rng xs (fun k => [(5, vI k)]) (fun k => []) (fun k => xs.take k = ys.take k) hl ?_
 simp only [↓reduceIte, reduceEqDiff, reduceCtorEq, go_sem]
 refine ⟨?_, rfl, ?_, ?_⟩
 ·simp only [↓reduceIte, reduceEqDiff, reduceLT, reduceCtorEq, go_sem]
 ·intro k x hx he h0 h1 hw
  obtain ⟨y, hy⟩ := at_some (show k < ys.length by omega)
  have h2 : (k : Int) < ys.length := by omega
  simp only [↓reduceIte, reduceEqDiff, reduceLT, reduceAdd, reduceCtorEq, go_sem, bk_eq hx, bk_eq hy, h0, h1, h2]
  refine callK_of (c_laws_eqVersion x y) ?_
  simp only [↓reduceIte, reduceEqDiff, reduceLT, reduceCtorEq, go_sem, hw]
  exact ⟨fun hn => ne_at hx hy hn, fun hn => (take_eq_step hx hy he).2 hn⟩
 ·intro he
  simp only [↓reduceIte, reduceEqDiff, reduceLT, reduceCtorEq, go_sem]
  exact eq_all he hle
def m_laws_toOp : MC :=
(.seq (pr [.box 1 0 (.s 0), .alloc 2 1 [pz, pz, pz, pz]] [1,2])
(.seq (pr [.alloc 3 2 [pz, pz, pz, pz]] [1,2,3])
(.seq (pr [.fld 4 (.s 1) 0, .load 5 false 1 (.s 4), .fld 6 (.s 3) 0, .store 1 (.s 6) (.s 5)] [1,2,3])
(.seq (pr [.fld 7 (.s 1) 1, .load 8 false 1 (.s 7), .fld 9 (.s 3) 1, .store 1 (.s 9) (.s 8)] [1,2,3])
(.seq (pr [.fld 10 (.s 1) 2, .load 11 false 1 (.s 10), .fld 12 (.s 3) 2, .store 1 (.s 12) (.s 11)] [1,2,3])
(.seq (pr [.fld 13 (.s 1) 3, .load 14 false 1 (.s 13), .fld 15 (.s 3) 3, .store 1 (.s 15) (.s 14)] [2,3])
(.seq (pr [.load 16 true 4 (.s 3), .store 4 (.s 2) (.s 16)] [2])
.ret)))))))
theorem c_laws_toOp (x : GOp) : Ctr Tryz.prog n_laws_toOp [aS x.enc] [rS x.enc] := by
 refine cA m_laws_toOp 3 17 [(.cell 2 true 4, [false, false, false, false])] Tryz.func119 rfl rfl ?_; unfold m_laws_toOp
 intro hb
 simp only [↓reduceIte, reduceEqDiff, reduceLT, reduceLeDiff, reduceAdd, reduceCtorEq, go_sem]
def m_laws_eqOp : MC :=
(.seq (pr [.box 2 0 (.s 0), .box 3 1 (.s 1), .mv 4 cF] [2,3])
(.seq (.seq (pr [.fld 5 (.s 2) 0, .load 6 false 1 (.s 5), .fld 7 (.s 3) 0, .load 8 false 1 (.s 7), .bin 9 false .neq (.s 6) (.s 8)] [2,3,9])
(.cond (.s 9) (.seq (pr [.mv 4 cF] [4])
.ret) .skip))
(.seq (.seq (pr [.fld 10 (.s 2) 1, .load 11 false 1 (.s 10), .fld 12 (.s 3) 1, .load 13 false 1 (.s 12), .bin 14 false .neq (.s 11) (.s 13)] [2,3,14])
(.cond (.s 14) (.seq (pr [.mv 4 cF] [4])
.ret) .skip))
(.seq (.seq (pr [.fld 15 (.s 2) 2, .load 16 false 1 (.s 15), .fld 17 (.s 3) 2, .load 18 false 1 (.s 17), .bin 19 false .neq (.s 16) (.s 18)] [2,3,19])
(.cond (.s 19) (.seq (pr [.mv 4 cF] [4])
.ret) .skip))
(.seq (.seq (pr [.fld 20 (.s 2) 3, .load 21 false 1 (.s 20), .fld 22 (.s 3) 3, .load 23 false 1 (.s 22), .bin 24 false .neq (.s 21) (.s 23)] [24])
(.cond (.s 24) (.seq (pr [.mv 4 cF] [4])
.ret) .skip))
(.seq (pr [.mv 4 cT] [4])
.ret))))))
theorem c_laws_eqOp (x y : GOp) : Ctr Tryz.prog n_laws_eqOp [aS x.enc, aS y.enc] [rB (decide (x = y))] := by
 refine cA m_laws_eqOp 2 25 [(.tmp 4, [false])] Tryz.func121 rfl rfl ?_; unfold m_laws_eqOp
 intro hb
 clear hb
 simp only [↓reduceIte, reduceEqDiff, reduceLT, reduceLeDiff, reduceAdd, reduceCtorEq, go_sem]
 refine ⟨fun h => ?_, fun h_Kind => ?_⟩
 ·symm
  rw [decide_eq_false_iff_not]
  rintro rfl
  exact h rfl
 refine ⟨fun h => ?_, fun h_A => ?_⟩
 ·symm
  rw [decide_eq_false_iff_not]
  rintro rfl
  exact h rfl
 refine ⟨fun h => ?_, fun h_B => ?_⟩
 ·symm
  rw [decide_eq_false_iff_not]
  rintro rfl
  exact h rfl
 refine ⟨fun h => ?_, fun h_C => ?_⟩
 ·symm
  rw [decide_eq_false_iff_not]
  rintro rfl
  exact h rfl
 cases x; cases y; simp_all
def m_laws_szOpS : MC :=
(.seq (pr [.mv 4 (ci 0)] [0,1])
(.seq (pr [.mv 5 (.s 1), .mv 6 (.s 0), .len 7 false (.s 6), .bin 8 false .sub (.s 5) (.s 7), .mv 1 (.s 8)] [1])
(.seq (.seq (pr [.mv 9 (.s 1), .bin 10 false .lss (.s 9) (ci 0)] [1,10])
(.cond (.s 10) (.seq (pr [.mv 4 (.c (.int .i64 (-1)))] [4])
.ret) .skip))
(.seq (pr [.mv 11 (.s 1), .mv 4 (.s 11)] [4])
.ret))))
theorem c_laws_szOpS (xs : List GOp) (left : Int) (h0 : 0 ≤ left) : Ctr Tryz.prog n_laws_szOpS [aL 4 (xs.map GOp.enc), aI left] [rI (szr xs.length left)] := by
 refine cA m_laws_szOpS 0 12 [(.tmp 4, [false])] Tryz.func42 rfl rfl ?_; unfold m_laws_szOpS
 intro hb
 simp only [bdA, bdL, bdT, bdR_map, wfB_i64, roomB, and_true, List.length_map] at hb
 obtain ⟨⟨hl, -⟩, hn⟩ := hb
 simp only [↓reduceIte, reduceEqDiff, reduceLT, reduceCtorEq, go_sem]
 rw [wI (by omega) (by omega)]
 unfold szr
 refine ⟨fun h => ?_, fun h => ?_⟩
 ·rw [if_neg (by omega)]
 ·rw [if_pos (by omega)]
def m_laws_toOpS : MC :=
(.seq (pr [.nilo 2 0 4] [0])
(.seq (pr [.mv 5 (.s 0), .len 6 false (.s 5), .mk 7 0 4 32 [.sc (.int .i64 0), .sc (.int .i64 0), .sc (.int .i64 0), .sc (.int .i64 0)] (.s 6), .mv 3 (.s 7)] [0,3])
(.seq (.seq (pr [.mv 4 (ci 0)] [0,3,4])
(.block 0 (.loop ([0,3,4], []) (.seq (.seq (pr [.mv 8 (.s 4), .mv 9 (.s 0), .len 10 false (.s 9), .bin 11 false .lss (.s 8) (.s 10)] [0,3,4,11])
(.cond (.s 11) .skip (.exit 0)))
(.seq (.block 1 (pr [.mv 14 (.s 3), .mv 15 (.s 4), .mv 16 (.s 0), .mv 17 (.s 4), .idx 18 4 (.s 16) (.s 17), .load 19 true 4 (.s 18), .call 20 [] (.f n_laws_toOp) [.s 19], .idx 21 4 (.s 14) (.s 15), .store 4 (.s 21) (.s 20)] [0,3,4]))
(pr [.mv 12 (.s 4), .bin 13 false .add (.s 12) (ci 1), .mv 4 (.s 13)] [0,3,4]))))))
(.seq (pr [.mv 22 (.s 3), .mv 2 (.s 22)] [2])
.ret))))
theorem c_laws_toOpS (xs : List GOp) (hs : xs.length ≤ 1073741824) : Ctr Tryz.prog n_laws_toOpS [aL 4 (xs.map GOp.enc)] [rL 4 (xs.map GOp.enc)] := by
 refine cA m_laws_toOpS 1 23 [(.tmp 2, [true])] Tryz.func46 rfl rfl ?_; unfold m_laws_toOpS
 intro hb
 simp only [↓reduceIte, reduceEqDiff, reduceLT, reduceAdd, reduceCtorEq, go_sem]
 refine ⟨⟨by omega, by simp only [roomB]; omega⟩, ?_⟩
 refine loopK_rng xs (fun k => [(4, vI k)]) (fun k => [(0, ⟨0, .row true 4 (filled GOp.enc [tI 0, tI 0, tI 0, tI 0] xs k)⟩)]) (fun _ => True) (by simp only [roomB]; omega) ?_
 simp only [↓reduceIte, reduceEqDiff, reduceCtorEq, go_sem]
 refine ⟨?_, trivial, ?_, ?_⟩
 ·simp only [↓reduceIte, reduceEqDiff, reduceLT, reduceCtorEq, go_sem, filled_zero]
  all_goals rfl
 ·intro k x hx _ h0 h1 hw
  have h : k < xs.length := by omega
  simp only [↓reduceIte, reduceEqDiff, reduceLT, reduceAdd, reduceCtorEq, go_sem, bk_eq hx, h0, h1]
  refine callK_of (c_laws_toOp x) ?_
  simp only [↓reduceIte, reduceEqDiff, reduceLT, reduceAdd, reduceCtorEq, go_sem, bk_eq (filled_get h), filled_len (Nat.le_of_lt h), h0, h1, hw]
  intros; exact filled_set hx
 ·intro _
  simp only [↓reduceIte, reduceEqDiff, reduceLT, reduceCtorEq, go_sem, filled_all]
def m_laws_eqOpS : MC :=
(.seq (pr [.mv 4 cF] [0,1])
(.seq (.seq (pr [.mv 6 (.s 0), .len 7 false (.s 6), .mv 8 (.s 1), .len 9 false (.s 8), .bin 10 false .neq (.s 7) (.s 9)] [0,1,10])
(.cond (.s 10) (.seq (pr [.mv 4 cF] [4])
.ret) .skip))
(.seq (.seq (pr [.mv 5 (ci 0)] [0,1,5])
(.block 0 (.loop ([0,1,5], []) (.seq (.seq (pr [.mv 11 (.s 5), .mv 12 (.s 0), .len 13 false (.s 12), .bin 14 false .lss (.s 11) (.s 13)] [0,1,5,14])
(.cond (.s 14) .skip (.exit 0)))
(.seq (.block 1 (.seq (.dreg [Zc [18,21,22,23,24] (.mv 17 (.s 0)), Zc [17,21,22,23,24] (.mv 18 (.s 5)), Zd [21,22,23,24] [0,1] (.idx 19 4 (.s 17) (.s 18)), Zd [21,22,23,24] [0,1,2] (.load 20 true 4 (.s 19)), Zc [17,18,19,20,22] (.mv 21 (.s 1)), Zc [17,18,19,20,21] (.mv 22 (.s 5)), Zd [17,18,19,20] [4,5] (.idx 23 4 (.s 21) (.s 22)), Zd [17,18,19,20] [4,5,6] (.load 24 true 4 (.s 23)), Ze (.range 8) (.call 25 [] (.f n_laws_eqOp) [.s 20, .s 24]), Ze (.range 9) (.un 26 .not (.s 25))] [0,1,5,26])
(.cond (.s 26) (.seq (pr [.mv 4 cF] [4])
.ret) .skip)))
(pr [.mv 15 (.s 5), .bin 16 false .add (.s 15) (ci 1), .mv 5 (.s 16)] [0,1,5]))))))
(.seq (pr [.mv 4 cT] [4])
.ret))))
theorem c_laws_eqOpS (xs ys : List GOp) : Ctr Tryz.prog n_laws_eqOpS [aL 4 (xs.map GOp.enc), aL 4 (ys.map GOp.enc)] [rB (decide (xs = ys))] := by
 refine cA m_laws_eqOpS 0 27 [(.tmp 4, [false])] Tryz.func50 rfl rfl ?_; unfold m_laws_eqOpS
 intro hb
 simp only [bdA, bdL, bdT, bdR_map, roomB, and_true, List.length_map] at hb
 obtain ⟨⟨hl, -⟩, ⟨hl2, -⟩⟩ := hb
 simp only [↓reduceIte, reduceEqDiff, reduceLT, reduceCtorEq, go_sem]
 refine ⟨fun h => ne_len h, fun h => ?_⟩
 have hle : xs.length = ys.length := by omega
 refine loopK_rng xs (fun k => [(5, vI k)]) (fun k => []) (fun k => xs.take k = ys.take k) hl ?_
 simp only [↓reduceIte, reduceEqDiff, reduceCtorEq, go_sem]
 refine ⟨?_, rfl, ?_, ?_⟩
 ·simp only [↓reduceIte, reduceEqDiff, reduceLT, reduceCtorEq, go_sem]
 ·intro k x hx he h0 h1 hw
  obtain ⟨y, hy⟩ := at_some (show k < ys.length by omega)
  have h2 : (k : Int) < ys.length := by omega
  simp only [↓reduceIte, reduceEqDiff, reduceLT, reduceAdd, reduceCtorEq, go_sem, bk_eq hx, bk_eq hy, h0, h1, h2]
  refine callK_of (c_laws_eqOp x y) ?_
  simp only [↓reduceIte, reduceEqDiff, reduceLT, reduceCtorEq, go_sem, hw]
  exact ⟨fun hn => ne_at hx hy hn, fun hn => (take_eq_step hx hy he).2 hn⟩
 ·intro he
  simp only [↓reduceIte, reduceEqDiff, reduceLT, reduceCtorEq, go_sem]
  exact eq_all he hle
def m_laws_toEntry : MC :=
(.seq (pr [.box 1 0 (.s 0), .alloc 2 1 [pz, pz, pz, pz, pz]] [1,2])
(.seq (pr [.alloc 3 2 [pz, pz, pz, pz, pz]] [1,2,3])
(.seq (pr [.fld 4 (.s 1) 0, .load 5 false 1 (.s 4), .fld 6 (.s 3) 0, .store 1 (.s 6) (.s 5)] [1,2,3])
(.seq (pr [.fld 7 (.s 1) 1, .load 8 true 3 (.s 7), .call 9 [] (.f n_laws_toAddress) [.s 8], .fld 10 (.s 3) 1, .store 3 (.s 10) (.s 9)] [1,2,3])
(.seq (pr [.fld 11 (.s 1) 4, .load 12 false 1 (.s 11), .fld 13 (.s 3) 4, .store 1 (.s 13) (.s 12)] [2,3])
(.seq (pr [.load 14 true 5 (.s 3), .store 5 (.s 2) (.s 14)] [2])
.ret))))))
theorem c_laws_toEntry (x : GEntry) : Ctr Tryz.prog n_laws_toEntry [aS x.enc] [rS x.enc] := by
 refine cA m_laws_toEntry 3 15 [(.cell 2 true 5, [false, false, false, false, false])] Tryz.func280 rfl rfl ?_; unfold m_laws_toEntry
 intro hb
 simp only [↓reduceIte, reduceEqDiff, reduceLT, reduceLeDiff, reduceAdd, reduceCtorEq, go_sem]
 refine callK_of (c_laws_toAddress x.Address) ?_
 simp only [↓reduceIte, reduceEqDiff, reduceLT, reduceLeDiff, reduceAdd, reduceCtorEq, go_sem]
 try intros
def m_laws_eqEntry : MC :=
(.seq (pr [.box 2 0 (.s 0), .box 3 1 (.s 1), .mv 4 cF] [2,3])
(.seq (.seq (pr [.fld 5 (.s 2) 0, .load 6 false 1 (.s 5), .fld 7 (.s 3) 0, .load 8 false 1 (.s 7), .bin 9 false .neq (.s 6) (.s 8)] [2,3,9])
(.cond (.s 9) (.seq (pr [.mv 4 cF] [4])
.ret) .skip))
(.seq (.seq (pr [.fld 10 (.s 2) 1, .load 11 true 3 (.s 10), .fld 12 (.s 3) 1, .load 13 true 3 (.s 12), .call 14 [] (.f n_laws_eqAddress) [.s 11, .s 13], .un 15 .not (.s 14)] [2,3,15])
(.cond (.s 15) (.seq (pr [.mv 4 cF] [4])
.ret) .skip))
(.seq (.seq (pr [.fld 16 (.s 2) 4, .load 17 false 1 (.s 16), .fld 18 (.s 3) 4, .load 19 false 1 (.s 18), .bin 20 false .neq (.s 17) (.s 19)] [20])
(.cond (.s 20) (.seq (pr [.mv 4 cF] [4])
.ret) .skip))
(.seq (pr [.mv 4 cT] [4])
.ret)))))
theorem c_laws_eqEntry (x y : GEntry) : Ctr Tryz.prog n_laws_eqEntry [aS x.enc, aS y.enc] [rB (decide (x = y))] := by
 refine cA m_laws_eqEntry 2 21 [(.tmp 4, [false])] Tryz.func282 rfl rfl ?_; unfold m_laws_eqEntry
 intro hb
 clear hb
 simp only [↓reduceIte, reduceEqDiff, reduceLT, reduceLeDiff, reduceAdd, reduceCtorEq, go_sem]
 refine ⟨fun h => ?_, fun h_Kind => ?_⟩
 ·symm
  rw [decide_eq_false_iff_not]
  rintro rfl
  exact h rfl
 refine callK_of (c_laws_eqAddress x.Address y.Address) ?_
 simp only [↓reduceIte, reduceEqDiff, reduceLT, reduceAdd, reduceCtorEq, go_sem]
 refine ⟨fun h => ?_, fun h_Address => ?_⟩
 ·symm
  rw [decide_eq_false_iff_not]
  rintro rfl
  exact h rfl
 refine ⟨fun h => ?_, fun h_Value => ?_⟩
 ·symm
  rw [decide_eq_false_iff_not]
  rintro rfl
  exact h rfl
 cases x; cases y; simp_all
def m_laws_szEntryS : MC :=
(.seq (pr [.mv 4 (ci 0)] [0,1])
(.seq (pr [.mv 5 (.s 1), .mv 6 (.s 0), .len 7 false (.s 6), .bin 8 false .sub (.s 5) (.s 7), .mv 1 (.s 8)] [1])
(.seq (.seq (pr [.mv 9 (.s 1), .bin 10 false .lss (.s 9) (ci 0)] [1,10])
(.cond (.s 10) (.seq (pr [.mv 4 (.c (.int .i64 (-1)))] [4])
.ret) .skip))
(.seq (pr [.mv 11 (.s 1), .mv 4 (.s 11)] [4])
.ret))))
theorem c_laws_szEntryS (xs : List GEntry) (left : Int) (h0 : 0 ≤ left) : Ctr Tryz.prog n_laws_szEntryS [aL 5 (xs.map GEntry.enc), aI left] [rI (szr xs.length left)] := by
 refine cA m_laws_szEntryS 0 12 [(.tmp 4, [false])] Tryz.func244 rfl rfl ?_; unfold m_laws_szEntryS
 intro hb
 simp only [bdA, bdL, bdT, bdR_map, wfB_i64, roomB, and_true, List.length_map] at hb
 obtain ⟨⟨hl, -⟩, hn⟩ := hb
 simp only [↓reduceIte, reduceEqDiff, reduceLT, reduceCtorEq, go_sem]
 rw [wI (by omega) (by omega)]
 unfold szr
 refine ⟨fun h => ?_, fun h => ?_⟩
 ·rw [if_neg (by omega)]
 ·rw [if_pos (by omega)]
def m_laws_toEntryS : MC :=
(.seq (pr [.nilo 2 0 5] [0])
(.seq (pr [.mv 5 (.s 0), .len 6 false (.s 5), .mk 7 0 5 40 [.sc (.int .i64 0), .sc (.int .i64 0), .sc (.int .i64 0), .sc (.int .i64 0), .sc (.int .i64 0)] (.s 6), .mv 3 (.s 7)] [0,3])
(.seq (.seq (pr [.mv 4 (ci 0)] [0,3,4])
(.block 0 (.loop ([0,3,4], []) (.seq (.seq (pr [.mv 8 (.s 4), .mv 9 (.s 0), .len 10 false (.s 9), .bin 11 false .lss (.s 8) (.s 10)] [0,3,4,11])
(.cond (.s 11) .skip (.exit 0)))
(.seq (.block 1 (pr [.mv 14 (.s 3), .mv 15 (.s 4), .mv 16 (.s 0), .mv 17 (.s 4), .idx 18 5 (.s 16) (.s 17), .load 19 true 5 (.s 18), .call 20 [] (.f n_laws_toEntry) [.s 19], .idx 21 5 (.s 14) (.s 15), .store 5 (.s 21) (.s 20)] [0,3,4]))
(pr [.mv 12 (.s 4), .bin 13 false .add (.s 12) (ci 1), .mv 4 (.s 13)] [0,3,4]))))))
(.seq (pr [.mv 22 (.s 3), .mv 2 (.s 22)] [2])
.ret))))
theorem c_laws_toEntryS (xs : List GEntry) (hs : xs.length ≤ 1073741824) : Ctr Tryz.prog n_laws_toEntryS [aL 5 (xs.map GEntry.enc)] [rL 5 (xs.map GEntry.enc)] := by
 refine cA m_laws_toEntryS 1 23 [(.tmp 2, [true])] Tryz.func246 rfl rfl ?_; unfold m_laws_toEntryS
 intro hb
 simp only [↓reduceIte, reduceEqDiff, reduceLT, reduceAdd, reduceCtorEq, go_sem]
 refine ⟨⟨by omega, by simp only [roomB]; omega⟩, ?_⟩
 refine loopK_rng xs (fun k => [(4, vI k)]) (fun k => [(0, ⟨0, .row true 5 (filled GEntry.enc [tI 0, tI 0, tI 0, tI 0, tI 0] xs k)⟩)]) (fun _ => True) (by simp only [roomB]; omega) ?_
 simp only [↓reduceIte, reduceEqDiff, reduceCtorEq, go_sem]
 refine ⟨?_, trivial, ?_, ?_⟩
 ·simp only [↓reduceIte, reduceEqDiff, reduceLT, reduceCtorEq, go_sem, filled_zero]
  all_goals rfl
 ·intro k x hx _ h0 h1 hw
  have h : k < xs.length := by omega
  simp only [↓reduceIte, reduceEqDiff, reduceLT, reduceAdd, reduceCtorEq, go_sem, bk_eq hx, h0, h1]
  refine callK_of (c_laws_toEntry x) ?_
  simp only [↓reduceIte, reduceEqDiff, reduceLT, reduceAdd, reduceCtorEq, go_sem, bk_eq (filled_get h), filled_len (Nat.le_of_lt h), h0, h1, hw]
  intros; exact filled_set hx
 ·intro _
  simp only [↓reduceIte, reduceEqDiff, reduceLT, reduceCtorEq, go_sem, filled_all]
def m_laws_eqEntryS : MC :=
(.seq (pr [.mv 4 cF] [0,1])
(.seq (.seq (pr [.mv 6 (.s 0), .len 7 false (.s 6), .mv 8 (.s 1), .len 9 false (.s 8), .bin 10 false .neq (.s 7) (.s 9)] [0,1,10])
(.cond (.s 10) (.seq (pr [.mv 4 cF] [4])
.ret) .skip))
(.seq (.seq (pr [.mv 5 (ci 0)] [0,1,5])
(.block 0 (.loop ([0,1,5], []) (.seq (.seq (pr [.mv 11 (.s 5), .mv 12 (.s 0), .len 13 false (.s 12), .bin 14 false .lss (.s 11) (.s 13)] [0,1,5,14])
(.cond (.s 14) .skip (.exit 0)))
(.seq (.block 1 (.seq (.dreg [Zc [18,21,22,23,24] (.mv 17 (.s 0)), Zc [17,21,22,23,24] (.mv 18 (.s 5)), Zd [21,22,23,24] [0,1] (.idx 19 5 (.s 17) (.s 18)), Zd [21,22,23,24] [0,1,2] (.load 20 true 5 (.s 19)), Zc [17,18,19,20,22] (.mv 21 (.s 1)), Zc [17,18,19,20,21] (.mv 22 (.s 5)), Zd [17,18,19,20] [4,5] (.idx 23 5 (.s 21) (.s 22)), Zd [17,18,19,20] [4,5,6] (.load 24 true 5 (.s 23)), Ze (.range 8) (.call 25 [] (.f n_laws_eqEntry) [.s 20, .s 24]), Ze (.range 9) (.un 26 .not (.s 25))] [0,1,5,26])
(.cond (.s 26) (.seq (pr [.mv 4 cF] [4])
.ret) .skip)))
(pr [.mv 15 (.s 5), .bin 16 false .add (.s 15) (ci 1), .mv 5 (.s 16)] [0,1,5]))))))
(.seq (pr [.mv 4 cT] [4])
.ret))))
theorem c_laws_eqEntryS (xs ys : List GEntry) : Ctr Tryz.prog n_laws_eqEntryS [aL 5 (xs.map GEntry.enc), aL 5 (ys.map GEntry.enc)] [rB (decide (xs = ys))] := by
 refine cA m_laws_eqEntryS 0 27 [(.tmp 4, [false])] Tryz.func248 rfl rfl ?_; unfold m_laws_eqEntryS
 intro hb
 simp only [bdA, bdL, bdT, bdR_map, roomB, and_true, List.length_map] at hb
 obtain ⟨⟨hl, -⟩, ⟨hl2, -⟩⟩ := hb
 simp only [↓reduceIte, reduceEqDiff, reduceLT, reduceCtorEq, go_sem]
 refine ⟨fun h => ne_len h, fun h => ?_⟩
 have hle : xs.length = ys.length := by omega
 refine loopK_rng xs (fun k => [(5, vI k)]) (fun k => []) (fun k => xs.take k = ys.take k) hl ?_
 simp only [↓reduceIte, reduceEqDiff, reduceCtorEq, go_sem]
 refine ⟨?_, rfl, ?_, ?_⟩
 ·simp only [↓reduceIte, reduceEqDiff, reduceLT, reduceCtorEq, go_sem]
 ·intro k x hx he h0 h1 hw
  obtain ⟨y, hy⟩ := at_some (show k < ys.length by omega)
  have h2 : (k : Int) < ys.length := by omega
  simp only [↓reduceIte, reduceEqDiff, reduceLT, reduceAdd, reduceCtorEq, go_sem, bk_eq hx, bk_eq hy, h0, h1, h2]
  refine callK_of (c_laws_eqEntry x y) ?_
  simp only [↓reduceIte, reduceEqDiff, reduceLT, reduceCtorEq, go_sem, hw]
  exact ⟨fun hn => ne_at hx hy hn, fun hn => (take_eq_step hx hy he).2 hn⟩
 ·intro he
  simp only [↓reduceIte, reduceEqDiff, reduceLT, reduceCtorEq, go_sem]
  exact eq_all he hle
def m_laws_szCapture : MC :=
(.seq (pr [.box 2 0 (.s 0), .mv 4 (ci 0)] [1,2])
(.seq (pr [.fld 5 (.s 2) 4, .load 6 true 5 (.s 5), .mv 7 (.s 1), .call 8 [] (.f n_laws_szResource) [.s 6, .s 7], .mv 1 (.s 8)] [1])
(.seq (.seq (pr [.mv 9 (.s 1), .bin 10 false .lss (.s 9) (ci 0)] [1,10])
(.cond (.s 10) (.seq (pr [.mv 4 (.c (.int .i64 (-1)))] [4])
.ret) .skip))
(.seq (pr [.mv 11 (.s 1), .mv 4 (.s 11)] [4])
.ret))))
theorem c_laws_szCapture (x : GCapture) (left : Int) (h0 : 0 ≤ left) : Ctr Tryz.prog n_laws_szCapture [aS x.enc, aI left] [rI (szr x.size left)] := by
 refine cA m_laws_szCapture 1 12 [(.tmp 4, [false])] Tryz.func279 rfl rfl ?_; unfold m_laws_szCapture
 intro hb
 simp only [↓reduceIte, reduceEqDiff, reduceLT, reduceAdd, reduceCtorEq, go_sem]
 refine callK_of (c_laws_szResource x.Resource left h0) ?_
 simp only [↓reduceIte, reduceEqDiff, reduceLT, reduceCtorEq, go_sem]
 intro _
 refine ⟨fun h => szr_bad' h0 h (by simp only [GCapture.size]; omega), fun h1 => ?_⟩
 rfl
def m_laws_toCapture : MC :=
(.seq (pr [.box 1 0 (.s 0), .alloc 2 1 [pz, pz, pz, pz, pz, .emp 1, pz, pz, pz]] [1,2])
(.seq (pr [.alloc 3 2 [pz, pz, pz, pz, pz, .emp 1, pz, pz, pz]] [1,2,3])
(.seq (pr [.fld 4 (.s 1) 0, .load 5 true 3 (.s 4), .call 6 [] (.f n_laws_toAddress) [.s 5], .fld 7 (.s 3) 0, .store 3 (.s 7) (.s 6)] [1,2,3])
(.seq (pr [.fld 8 (.s 1) 3, .load 9 false 1 (.s 8), .fld 10 (.s 3) 3, .store 1 (.s 10) (.s 9)] [1,2,3])
(.seq (pr [.fld 11 (.s 1) 4, .load 12 true 5 (.s 11), .call 13 [3] (.f n_laws_toResource) [.s 12], .fld 14 (.s 3) 4, .store 5 (.s 14) (.s 13)] [2,3])
(.seq (pr [.load 15 true 9 (.s 3), .store 9 (.s 2) (.s 15)] [2])
.ret))))))
theorem c_laws_toCapture (x : GCapture) (hs : x.size ≤ 1073741824) : Ctr Tryz.prog n_laws_toCapture [aS x.enc] [rS x.enc] := by
 refine cA m_laws_toCapture 4 16 [(.cell 2 true 9, [false, false, false, false, false, true, false, false, false])] Tryz.func281 rfl rfl ?_; unfold m_laws_toCapture
 intro hb
 simp only [GCapture.size] at hs
 simp only [↓reduceIte, reduceEqDiff, reduceLT, reduceLeDiff, reduceAdd, go_sem]
 refine callK_of (c_laws_toAddress x.Address) ?_
 simp only [↓reduceIte, reduceEqDiff, reduceLT, reduceLeDiff, reduceAdd, reduceCtorEq, go_sem]
 try intros
 refine callK_of (c_laws_toResource x.Resource (by omega)) ?_
 simp only [↓reduceIte, reduceEqDiff, reduceLT, reduceAdd, reduceCtorEq, go_sem]
 try intros
def m_laws_eqCapture : MC :=
(.seq (pr [.box 2 0 (.s 0), .box 3 1 (.s 1), .mv 4 cF] [2,3])
(.seq (.seq (pr [.fld 5 (.s 2) 0, .load 6 true 3 (.s 5), .fld 7 (.s 3) 0, .load 8 true 3 (.s 7), .call 9 [] (.f n_laws_eqAddress) [.s 6, .s 8], .un 10 .not (.s 9)] [2,3,10])
(.cond (.s 10) (.seq (pr [.mv 4 cF] [4])
.ret) .skip))
(.seq (.seq (pr [.fld 11 (.s 2) 3, .load 12 false 1 (.s 11), .fld 13 (.s 3) 3, .load 14 false 1 (.s 13), .bin 15 false .neq (.s 12) (.s 14)] [2,3,15])
(.cond (.s 15) (.seq (pr [.mv 4 cF] [4])
.ret) .skip))
(.seq (.seq (pr [.fld 16 (.s 2) 4, .load 17 true 5 (.s 16), .fld 18 (.s 3) 4, .load 19 true 5 (.s 18), .call 20 [] (.f n_laws_eqResource) [.s 17, .s 19], .un 21 .not (.s 20)] [21])
(.cond (.s 21) (.seq (pr [.mv 4 cF] [4])
.ret) .skip))
(.seq (pr [.mv 4 cT] [4])
.ret)))))
theorem c_laws_eqCapture (x y : GCapture) : Ctr Tryz.prog n_laws_eqCapture [aS x.enc, aS y.enc] [rB (decide (x = y))] := by
 refine cA m_laws_eqCapture 2 22 [(.tmp 4, [false])] Tryz.func283 rfl rfl ?_; unfold m_laws_eqCapture
 intro hb
 clear hb
 simp only [↓reduceIte, reduceEqDiff, reduceLT, reduceLeDiff, reduceAdd, reduceCtorEq, go_sem]
 refine callK_of (c_laws_eqAddress x.Address y.Address) ?_
 simp only [↓reduceIte, reduceEqDiff, reduceLT, reduceLeDiff, reduceAdd, reduceCtorEq, go_sem]
 refine ⟨fun h => ?_, fun h_Address => ?_⟩
 ·symm
  rw [decide_eq_false_iff_not]
  rintro rfl
  exact h rfl
 refine ⟨fun h => ?_, fun h_Tick => ?_⟩
 ·symm
  rw [decide_eq_false_iff_not]
  rintro rfl
  exact h rfl
 refine callK_of (c_laws_eqResource x.Resource y.Resource) ?_
 simp only [↓reduceIte, reduceEqDiff, reduceLT, go_sem]
 refine ⟨fun h => ?_, fun h_Resource => ?_⟩
 ·symm
  rw [decide_eq_false_iff_not]
  rintro rfl
  exact h rfl
 cases x; cases y; simp_all
def m_laws_szCaptureS : MC :=
(.seq (pr [.mv 4 (ci 0)] [0,1])
(.seq (pr [.mv 6 (.s 1), .mv 7 (.s 0), .len 8 false (.s 7), .bin 9 false .sub (.s 6) (.s 8), .mv 1 (.s 9)] [0,1])
(.seq (.seq (pr [.mv 10 (.s 1), .bin 11 false .lss (.s 10) (ci 0)] [0,1,11])
(.cond (.s 11) (.seq (pr [.mv 4 (.c (.int .i64 (-1)))] [4])
.ret) .skip))
(.seq (.seq (pr [.mv 5 (ci 0)] [0,1,5])
(.block 0 (.loop ([0,1,5], []) (.seq (.seq (pr [.mv 12 (.s 5), .mv 13 (.s 0), .len 14 false (.s 13), .bin 15 false .lss (.s 12) (.s 14)] [0,1,5,15])
(.cond (.s 15) .skip (.exit 0)))
(.seq (.block 1 (.seq (pr [.mv 18 (.s 0), .mv 19 (.s 5), .idx 20 9 (.s 18) (.s 19), .load 21 true 9 (.s 20), .mv 22 (.s 1), .call 23 [] (.f n_laws_szCapture) [.s 21, .s 22], .mv 1 (.s 23)] [0,1,5])
(.seq (pr [.mv 24 (.s 1), .bin 25 false .lss (.s 24) (ci 0)] [0,1,5,25])
(.cond (.s 25) (.seq (pr [.mv 4 (.c (.int .i64 (-1)))] [4])
.ret) .skip))))
(pr [.mv 16 (.s 5), .bin 17 false .add (.s 16) (ci 1), .mv 5 (.s 17)] [0,1,5]))))))
(.seq (pr [.mv 26 (.s 1), .mv 4 (.s 26)] [4])
.ret)))))
theorem c_laws_szCaptureS (xs : List GCapture) (left : Int) (h0 : 0 ≤ left) : Ctr Tryz.prog n_laws_szCaptureS [aL 9 (xs.map GCapture.enc), aI left] [rI (szr (xs.length + (xs.map GCapture.size).sum) left)] := by
 refine cA m_laws_szCaptureS 0 27 [(.tmp 4, [false])] Tryz.func245 rfl rfl ?_; unfold m_laws_szCaptureS
 intro hb
 simp only [bdA, bdL, bdT, bdR_map, wfB_i64, roomB, and_true, List.length_map] at hb
 obtain ⟨⟨hl, -⟩, hn⟩ := hb
 simp only [↓reduceIte, reduceEqDiff, reduceLT, reduceCtorEq, go_sem]
 rw [wI (by omega) (by omega)]
 refine ⟨fun h => ?_, fun h => ?_⟩
 ·exact szr_bad' (n := xs.length) h0 ((szr_neg h0).2 (by omega)) (by omega)
 ·have hz : szr xs.length left = left - xs.length := by unfold szr; rw [if_pos (by omega)]
  rw [← hz] at h ⊢
  refine loopK_rng xs (fun k => [(1, vI (szr (xs.length + ((xs.take k).map GCapture.size).sum) left)), (5, vI k)]) (fun k => []) (fun k => ¬ szr (xs.length + ((xs.take k).map GCapture.size).sum) left < 0) hl ?_
  simp only [↓reduceIte, reduceEqDiff, reduceCtorEq, go_sem]
  refine ⟨?_, by simpa using h, ?_, ?_⟩
  ·simp only [↓reduceIte, reduceEqDiff, reduceLT, reduceCtorEq, go_sem, List.take_zero, List.map_nil, List.sum_nil, Nat.add_zero]
   all_goals rfl
  ·intro k x hx hs hk0 h1 hw
   obtain ⟨a1, a2, a3⟩ := szr_add (m := x.size) h0 hs
   rw [Nat.add_assoc, ← sum_snoc hx] at a3
   simp only [↓reduceIte, reduceEqDiff, reduceLT, reduceAdd, reduceCtorEq, go_sem, bk_eq hx, hk0, h1]
   refine callK_of (c_laws_szCapture x _ a1) ?_
   rw [← a3]
   simp only [↓reduceIte, reduceEqDiff, reduceLT, reduceCtorEq, go_sem, hw]
   intro _
   refine ⟨fun hn => ?_, fun hn => hn⟩
   have := sum_take_le (f := GCapture.size) xs (k + 1)
   exact szr_bad' h0 hn (by omega)
  ·intro _
   simp only [↓reduceIte, reduceEqDiff, reduceLT, reduceCtorEq, go_sem, List.take_length]
def m_laws_toCaptureS : MC :=
(.seq (pr [.nilo 2 0 9] [0])
(.seq (pr [.mv 5 (.s 0), .len 6 false (.s 5), .mk 7 0 9 88 [.sc (.int .i64 0), .sc (.int .i64 0), .sc (.int .i64 0), .sc (.int .i64 0), .sc (.int .i64 0), .sl 1 [], .sc (.int .i64 0), .sc (.int .i64 0), .sc (.int .i64 0)] (.s 6), .mv 3 (.s 7)] [0,3])
(.seq (.seq (pr [.mv 4 (ci 0)] [0,3,4])
(.block 0 (.loop ([0,3,4], [1]) (.seq (.seq (pr [.mv 8 (.s 4), .mv 9 (.s 0), .len 10 false (.s 9), .bin 11 false .lss (.s 8) (.s 10)] [0,3,4,11])
(.cond (.s 11) .skip (.exit 0)))
(.seq (.block 1 (pr [.mv 14 (.s 3), .mv 15 (.s 4), .mv 16 (.s 0), .mv 17 (.s 4), .idx 18 9 (.s 16) (.s 17), .load 19 true 9 (.s 18), .call 20 [1] (.f n_laws_toCapture) [.s 19], .idx 21 9 (.s 14) (.s 15), .store 9 (.s 21) (.s 20)] [0,3,4]))
(pr [.mv 12 (.s 4), .bin 13 false .add (.s 12) (ci 1), .mv 4 (.s 13)] [0,3,4]))))))
(.seq (pr [.mv 22 (.s 3), .mv 2 (.s 22)] [2])
.ret))))
theorem c_laws_toCaptureS (xs : List GCapture) (hs : xs.length + (xs.map GCapture.size).sum ≤ 1073741824) : Ctr Tryz.prog n_laws_toCaptureS [aL 9 (xs.map GCapture.enc)] [rL 9 (xs.map GCapture.enc)] := by
 refine cA m_laws_toCaptureS 2 23 [(.tmp 2, [true])] Tryz.func247 rfl rfl ?_; unfold m_laws_toCaptureS
 intro hb
 simp only [↓reduceIte, reduceEqDiff, reduceLT, reduceAdd, reduceCtorEq, go_sem]
 refine ⟨⟨by omega, by simp only [roomB]; omega⟩, ?_⟩
 refine loopK_rng xs (fun k => [(4, vI k)]) (fun k => [(0, ⟨0, .row true 9 (filled GCapture.enc [tI 0, tI 0, tI 0, tI 0, tI 0, .sl 1 [], tI 0, tI 0, tI 0] xs k)⟩)]) (fun _ => True) (by simp only [roomB]; omega) ?_
 simp only [↓reduceIte, reduceEqDiff, reduceAdd, reduceCtorEq, go_sem]
 refine ⟨?_, trivial, ?_, ?_⟩
 ·simp only [↓reduceIte, reduceEqDiff, reduceLT, reduceCtorEq, go_sem, filled_zero]
  all_goals rfl
 ·intro k x hx _ h0 h1 hw
  have h : k < xs.length := by omega
  simp only [↓reduceIte, reduceEqDiff, reduceLT, reduceAdd, reduceCtorEq, go_sem, bk_eq hx, h0, h1]
  have hx1 := mem_sum (f := GCapture.size) (at_mem hx)
  refine callK_of (c_laws_toCapture x (by omega)) ?_
  simp only [↓reduceIte, reduceEqDiff, reduceLT, reduceAdd, reduceCtorEq, go_sem, bk_eq (filled_get h), filled_len (Nat.le_of_lt h), h0, h1, hw]
  intros; exact filled_set hx
 ·intro _
  simp only [↓reduceIte, reduceEqDiff, reduceLT, reduceCtorEq, go_sem, filled_all]
def m_laws_eqCaptureS : MC :=
(.seq (pr [.mv 4 cF] [0,1])
(.seq (.seq (pr [.mv 6 (.s 0), .len 7 false (.s 6), .mv 8 (.s 1), .len 9 false (.s 8), .bin 10 false .neq (.s 7) (.s 9)] [0,1,10])
(.cond (.s 10) (.seq (pr [.mv 4 cF] [4])
.ret) .skip))
(.seq (.seq (pr [.mv 5 (ci 0)] [0,1,5])
(.block 0 (.loop ([0,1,5], []) (.seq (.seq (pr [.mv 11 (.s 5), .mv 12 (.s 0), .len 13 false (.s 12), .bin 14 false .lss (.s 11) (.s 13)] [0,1,5,14])
(.cond (.s 14) .skip (.exit 0)))
(.seq (.block 1 (.seq (.dreg [Zc [18,21,22,23,24] (.mv 17 (.s 0)), Zc [17,21,22,23,24] (.mv 18 (.s 5)), Zd [21,22,23,24] [0,1] (.idx 19 9 (.s 17) (.s 18)), Zd [21,22,23,24] [0,1,2] (.load 20 true 9 (.s 19)), Zc [17,18,19,20,22] (.mv 21 (.s 1)), Zc [17,18,19,20,21] (.mv 22 (.s 5)), Zd [17,18,19,20] [4,5] (.idx 23 9 (.s 21) (.s 22)), Zd [17,18,19,20] [4,5,6] (.load 24 true 9 (.s 23)), Ze (.range 8) (.call 25 [] (.f n_laws_eqCapture) [.s 20, .s 24]), Ze (.range 9) (.un 26 .not (.s 25))] [0,1,5,26])
(.cond (.s 26) (.seq (pr [.mv 4 cF] [4])
.ret) .skip)))
(pr [.mv 15 (.s 5), .bin 16 false .add (.s 15) (ci 1), .mv 5 (.s 16)] [0,1,5]))))))
(.seq (pr [.mv 4 cT] [4])
.ret))))
theorem c_laws_eqCaptureS (xs ys : List GCapture) : Ctr Tryz.prog n_laws_eqCaptureS [aL 9 (xs.map GCapture.enc), aL 9 (ys.map GCapture.enc)] [rB (decide (xs = ys))] := by
 refine cA m_laws_eqCaptureS 0 27 [(.tmp 4, [false])] Tryz.func249 rfl rfl ?_; unfold m_laws_eqCaptureS
 intro hb
 simp only [bdA, bdL, bdT, bdR_map, roomB, and_true, List.length_map] at hb
 obtain ⟨⟨hl, -⟩, ⟨hl2, -⟩⟩ := hb
 simp only [↓reduceIte, reduceEqDiff, reduceLT, reduceCtorEq, go_sem]
 refine ⟨fun h => ne_len h, fun h => ?_⟩
 have hle : xs.length = ys.length := by omega
 refine loopK_rng xs (fun k => [(5, vI k)]) (fun k => []) (fun k => xs.take k = ys.take k) hl ?_
 simp only [↓reduceIte, reduceEqDiff, reduceCtorEq, go_sem]
 refine ⟨?_, rfl, ?_, ?_⟩
 ·simp only [↓reduceIte, reduceEqDiff, reduceLT, reduceCtorEq, go_sem]
 ·intro k x hx he h0 h1 hw
  obtain ⟨y, hy⟩ := at_some (show k < ys.length by omega)
  have h2 : (k : Int) < ys.length := by omega
  simp only [↓reduceIte, reduceEqDiff, reduceLT, reduceAdd, reduceCtorEq, go_sem, bk_eq hx, bk_eq hy, h0, h1, h2]
  refine callK_of (c_laws_eqCapture x y) ?_
  simp only [↓reduceIte, reduceEqDiff, reduceLT, reduceCtorEq, go_sem, hw]
  exact ⟨fun hn => ne_at hx hy hn, fun hn => (take_eq_step hx hy he).2 hn⟩
 ·intro he
  simp only [↓reduceIte, reduceEqDiff, reduceLT, reduceCtorEq, go_sem]
  exact eq_all he hle
def m_laws_toExclusion : MC :=
(.seq (pr [.box 1 0 (.s 0), .alloc 2 1 [pz, pz, pz, pz, pz]] [1,2])
(.seq (pr [.alloc 3 2 [pz, pz, pz, pz, pz]] [1,2,3])
(.seq (pr [.fld 4 (.s 1) 0, .load 5 false 1 (.s 4), .fld 6 (.s 3) 0, .store 1 (.s 6) (.s 5)] [1,2,3])
(.seq (pr [.fld 7 (.s 1) 1, .load 8 false 1 (.s 7), .fld 9 (.s 3) 1, .store 1 (.s 9) (.s 8)] [1,2,3])
(.seq (pr [.fld 10 (.s 1) 2, .load 11 false 1 (.s 10), .fld 12 (.s 3) 2, .store 1 (.s 12) (.s 11)] [1,2,3])
(.seq (pr [.fld 13 (.s 1) 3, .load 14 false 1 (.s 13), .fld 15 (.s 3) 3, .store 1 (.s 15) (.s 14)] [1,2,3])
(.seq (pr [.fld 16 (.s 1) 4, .load 17 false 1 (.s 16), .fld 18 (.s 3) 4, .store 1 (.s 18) (.s 17)] [2,3])
(.seq (pr [.load 19 true 5 (.s 3), .store 5 (.s 2) (.s 19)] [2])
.ret))))))))
theorem c_laws_toExclusion (x : GExclusion) : Ctr Tryz.prog n_laws_toExclusion [aS x.enc] [rS x.enc] := by
 refine cA m_laws_toExclusion 3 20 [(.cell 2 true 5, [false, false, false, false, false])] Tryz.func132 rfl rfl ?_; unfold m_laws_toExclusion
 intro hb
 simp only [↓reduceIte, reduceEqDiff, reduceLT, reduceLeDiff, reduceAdd, reduceCtorEq, go_sem]
def m_laws_eqExclusion : MC :=
(.seq (pr [.box 2 0 (.s 0), .box 3 1 (.s 1), .mv 4 cF] [2,3])
(.seq (.seq (pr [.fld 5 (.s 2) 0, .load 6 false 1 (.s 5), .fld 7 (.s 3) 0, .load 8 false 1 (.s 7), .bin 9 false .neq (.s 6) (.s 8)] [2,3,9])
(.cond (.s 9) (.seq (pr [.mv 4 cF] [4])
.ret) .skip))
(.seq (.seq (pr [.fld 10 (.s 2) 1, .load 11 false 1 (.s 10), .fld 12 (.s 3) 1, .load 13 false 1 (.s 12), .bin 14 false .neq (.s 11) (.s 13)] [2,3,14])
(.cond (.s 14) (.seq (pr [.mv 4 cF] [4])
.ret) .skip))
(.seq (.seq (pr [.fld 15 (.s 2) 2, .load 16 false 1 (.s 15), .fld 17 (.s 3) 2, .load 18 false 1 (.s 17), .bin 19 false .neq (.s 16) (.s 18)] [2,3,19])
(.cond (.s 19) (.seq (pr [.mv 4 cF] [4])
.ret) .skip))
(.seq (.seq (pr [.fld 20 (.s 2) 3, .load 21 false 1 (.s 20), .fld 22 (.s 3) 3, .load 23 false 1 (.s 22), .bin 24 false .neq (.s 21) (.s 23)] [2,3,24])
(.cond (.s 24) (.seq (pr [.mv 4 cF] [4])
.ret) .skip))
(.seq (.seq (pr [.fld 25 (.s 2) 4, .load 26 false 1 (.s 25), .fld 27 (.s 3) 4, .load 28 false 1 (.s 27), .bin 29 false .neq (.s 26) (.s 28)] [29])
(.cond (.s 29) (.seq (pr [.mv 4 cF] [4])
.ret) .skip))
(.seq (pr [.mv 4 cT] [4])
.ret)))))))
theorem c_laws_eqExclusion (x y : GExclusion) : Ctr Tryz.prog n_laws_eqExclusion [aS x.enc, aS y.enc] [rB (decide (x = y))] := by
 refine cA m_laws_eqExclusion 2 30 [(.tmp 4, [false])] Tryz.func147 rfl rfl ?_; unfold m_laws_eqExclusion
 intro hb
 clear hb
 simp only [↓reduceIte, reduceEqDiff, reduceLT, reduceLeDiff, reduceAdd, reduceCtorEq, go_sem]
 refine ⟨fun h => ?_, fun h_Host => ?_⟩
 ·symm
  rw [decide_eq_false_iff_not]
  rintro rfl
  exact h rfl
 refine ⟨fun h => ?_, fun h_Path => ?_⟩
 ·symm
  rw [decide_eq_false_iff_not]
  rintro rfl
  exact h rfl
 refine ⟨fun h => ?_, fun h_From => ?_⟩
 ·symm
  rw [decide_eq_false_iff_not]
  rintro rfl
  exact h rfl
 refine ⟨fun h => ?_, fun h_Until => ?_⟩
 ·symm
  rw [decide_eq_false_iff_not]
  rintro rfl
  exact h rfl
 refine ⟨fun h => ?_, fun h_Asked => ?_⟩
 ·symm
  rw [decide_eq_false_iff_not]
  rintro rfl
  exact h rfl
 cases x; cases y; simp_all
def m_laws_szExclusionS : MC :=
(.seq (pr [.mv 4 (ci 0)] [0,1])
(.seq (pr [.mv 5 (.s 1), .mv 6 (.s 0), .len 7 false (.s 6), .bin 8 false .sub (.s 5) (.s 7), .mv 1 (.s 8)] [1])
(.seq (.seq (pr [.mv 9 (.s 1), .bin 10 false .lss (.s 9) (ci 0)] [1,10])
(.cond (.s 10) (.seq (pr [.mv 4 (.c (.int .i64 (-1)))] [4])
.ret) .skip))
(.seq (pr [.mv 11 (.s 1), .mv 4 (.s 11)] [4])
.ret))))
theorem c_laws_szExclusionS (xs : List GExclusion) (left : Int) (h0 : 0 ≤ left) : Ctr Tryz.prog n_laws_szExclusionS [aL 5 (xs.map GExclusion.enc), aI left] [rI (szr xs.length left)] := by
 refine cA m_laws_szExclusionS 0 12 [(.tmp 4, [false])] Tryz.func56 rfl rfl ?_; unfold m_laws_szExclusionS
 intro hb
 simp only [bdA, bdL, bdT, bdR_map, wfB_i64, roomB, and_true, List.length_map] at hb
 obtain ⟨⟨hl, -⟩, hn⟩ := hb
 simp only [↓reduceIte, reduceEqDiff, reduceLT, reduceCtorEq, go_sem]
 rw [wI (by omega) (by omega)]
 unfold szr
 refine ⟨fun h => ?_, fun h => ?_⟩
 ·rw [if_neg (by omega)]
 ·rw [if_pos (by omega)]
def m_laws_toExclusionS : MC :=
(.seq (pr [.nilo 2 0 5] [0])
(.seq (pr [.mv 5 (.s 0), .len 6 false (.s 5), .mk 7 0 5 40 [.sc (.int .i64 0), .sc (.int .i64 0), .sc (.int .i64 0), .sc (.int .i64 0), .sc (.int .i64 0)] (.s 6), .mv 3 (.s 7)] [0,3])
(.seq (.seq (pr [.mv 4 (ci 0)] [0,3,4])
(.block 0 (.loop ([0,3,4], []) (.seq (.seq (pr [.mv 8 (.s 4), .mv 9 (.s 0), .len 10 false (.s 9), .bin 11 false .lss (.s 8) (.s 10)] [0,3,4,11])
(.cond (.s 11) .skip (.exit 0)))
(.seq (.block 1 (pr [.mv 14 (.s 3), .mv 15 (.s 4), .mv 16 (.s 0), .mv 17 (.s 4), .idx 18 5 (.s 16) (.s 17), .load 19 true 5 (.s 18), .call 20 [] (.f n_laws_toExclusion) [.s 19], .idx 21 5 (.s 14) (.s 15), .store 5 (.s 21) (.s 20)] [0,3,4]))
(pr [.mv 12 (.s 4), .bin 13 false .add (.s 12) (ci 1), .mv 4 (.s 13)] [0,3,4]))))))
(.seq (pr [.mv 22 (.s 3), .mv 2 (.s 22)] [2])
.ret))))
theorem c_laws_toExclusionS (xs : List GExclusion) (hs : xs.length ≤ 1073741824) : Ctr Tryz.prog n_laws_toExclusionS [aL 5 (xs.map GExclusion.enc)] [rL 5 (xs.map GExclusion.enc)] := by
 refine cA m_laws_toExclusionS 1 23 [(.tmp 2, [true])] Tryz.func64 rfl rfl ?_; unfold m_laws_toExclusionS
 intro hb
 simp only [↓reduceIte, reduceEqDiff, reduceLT, reduceAdd, reduceCtorEq, go_sem]
 refine ⟨⟨by omega, by simp only [roomB]; omega⟩, ?_⟩
 refine loopK_rng xs (fun k => [(4, vI k)]) (fun k => [(0, ⟨0, .row true 5 (filled GExclusion.enc [tI 0, tI 0, tI 0, tI 0, tI 0] xs k)⟩)]) (fun _ => True) (by simp only [roomB]; omega) ?_
 simp only [↓reduceIte, reduceEqDiff, reduceCtorEq, go_sem]
 refine ⟨?_, trivial, ?_, ?_⟩
 ·simp only [↓reduceIte, reduceEqDiff, reduceLT, reduceCtorEq, go_sem, filled_zero]
  all_goals rfl
 ·intro k x hx _ h0 h1 hw
  have h : k < xs.length := by omega
  simp only [↓reduceIte, reduceEqDiff, reduceLT, reduceAdd, reduceCtorEq, go_sem, bk_eq hx, h0, h1]
  refine callK_of (c_laws_toExclusion x) ?_
  simp only [↓reduceIte, reduceEqDiff, reduceLT, reduceAdd, reduceCtorEq, go_sem, bk_eq (filled_get h), filled_len (Nat.le_of_lt h), h0, h1, hw]
  intros; exact filled_set hx
 ·intro _
  simp only [↓reduceIte, reduceEqDiff, reduceLT, reduceCtorEq, go_sem, filled_all]
def m_laws_eqExclusionS : MC :=
(.seq (pr [.mv 4 cF] [0,1])
(.seq (.seq (pr [.mv 6 (.s 0), .len 7 false (.s 6), .mv 8 (.s 1), .len 9 false (.s 8), .bin 10 false .neq (.s 7) (.s 9)] [0,1,10])
(.cond (.s 10) (.seq (pr [.mv 4 cF] [4])
.ret) .skip))
(.seq (.seq (pr [.mv 5 (ci 0)] [0,1,5])
(.block 0 (.loop ([0,1,5], []) (.seq (.seq (pr [.mv 11 (.s 5), .mv 12 (.s 0), .len 13 false (.s 12), .bin 14 false .lss (.s 11) (.s 13)] [0,1,5,14])
(.cond (.s 14) .skip (.exit 0)))
(.seq (.block 1 (.seq (.dreg [Zc [18,21,22,23,24] (.mv 17 (.s 0)), Zc [17,21,22,23,24] (.mv 18 (.s 5)), Zd [21,22,23,24] [0,1] (.idx 19 5 (.s 17) (.s 18)), Zd [21,22,23,24] [0,1,2] (.load 20 true 5 (.s 19)), Zc [17,18,19,20,22] (.mv 21 (.s 1)), Zc [17,18,19,20,21] (.mv 22 (.s 5)), Zd [17,18,19,20] [4,5] (.idx 23 5 (.s 21) (.s 22)), Zd [17,18,19,20] [4,5,6] (.load 24 true 5 (.s 23)), Ze (.range 8) (.call 25 [] (.f n_laws_eqExclusion) [.s 20, .s 24]), Ze (.range 9) (.un 26 .not (.s 25))] [0,1,5,26])
(.cond (.s 26) (.seq (pr [.mv 4 cF] [4])
.ret) .skip)))
(pr [.mv 15 (.s 5), .bin 16 false .add (.s 15) (ci 1), .mv 5 (.s 16)] [0,1,5]))))))
(.seq (pr [.mv 4 cT] [4])
.ret))))
theorem c_laws_eqExclusionS (xs ys : List GExclusion) : Ctr Tryz.prog n_laws_eqExclusionS [aL 5 (xs.map GExclusion.enc), aL 5 (ys.map GExclusion.enc)] [rB (decide (xs = ys))] := by
 refine cA m_laws_eqExclusionS 0 27 [(.tmp 4, [false])] Tryz.func71 rfl rfl ?_; unfold m_laws_eqExclusionS
 intro hb
 simp only [bdA, bdL, bdT, bdR_map, roomB, and_true, List.length_map] at hb
 obtain ⟨⟨hl, -⟩, ⟨hl2, -⟩⟩ := hb
 simp only [↓reduceIte, reduceEqDiff, reduceLT, reduceCtorEq, go_sem]
 refine ⟨fun h => ne_len h, fun h => ?_⟩
 have hle : xs.length = ys.length := by omega
 refine loopK_rng xs (fun k => [(5, vI k)]) (fun k => []) (fun k => xs.take k = ys.take k) hl ?_
 simp only [↓reduceIte, reduceEqDiff, reduceCtorEq, go_sem]
 refine ⟨?_, rfl, ?_, ?_⟩
 ·simp only [↓reduceIte, reduceEqDiff, reduceLT, reduceCtorEq, go_sem]
 ·intro k x hx he h0 h1 hw
  obtain ⟨y, hy⟩ := at_some (show k < ys.length by omega)
  have h2 : (k : Int) < ys.length := by omega
  simp only [↓reduceIte, reduceEqDiff, reduceLT, reduceAdd, reduceCtorEq, go_sem, bk_eq hx, bk_eq hy, h0, h1, h2]
  refine callK_of (c_laws_eqExclusion x y) ?_
  simp only [↓reduceIte, reduceEqDiff, reduceLT, reduceCtorEq, go_sem, hw]
  exact ⟨fun hn => ne_at hx hy hn, fun hn => (take_eq_step hx hy he).2 hn⟩
 ·intro he
  simp only [↓reduceIte, reduceEqDiff, reduceLT, reduceCtorEq, go_sem]
  exact eq_all he hle
def m_laws_toStatement : MC :=
(.seq (pr [.box 1 0 (.s 0), .alloc 2 1 [pz, pz, pz, pz]] [1,2])
(.seq (pr [.alloc 3 2 [pz, pz, pz, pz]] [1,2,3])
(.seq (pr [.fld 4 (.s 1) 0, .load 5 false 1 (.s 4), .fld 6 (.s 3) 0, .store 1 (.s 6) (.s 5)] [1,2,3])
(.seq (pr [.fld 7 (.s 1) 1, .load 8 false 1 (.s 7), .fld 9 (.s 3) 1, .store 1 (.s 9) (.s 8)] [1,2,3])
(.seq (pr [.fld 10 (.s 1) 2, .load 11 false 1 (.s 10), .fld 12 (.s 3) 2, .store 1 (.s 12) (.s 11)] [1,2,3])
(.seq (pr [.fld 13 (.s 1) 3, .load 14 false 1 (.s 13), .fld 15 (.s 3) 3, .store 1 (.s 15) (.s 14)] [2,3])
(.seq (pr [.load 16 true 4 (.s 3), .store 4 (.s 2) (.s 16)] [2])
.ret)))))))
theorem c_laws_toStatement (x : GStatement) : Ctr Tryz.prog n_laws_toStatement [aS x.enc] [rS x.enc] := by
 refine cA m_laws_toStatement 3 17 [(.cell 2 true 4, [false, false, false, false])] Tryz.func133 rfl rfl ?_; unfold m_laws_toStatement
 intro hb
 simp only [↓reduceIte, reduceEqDiff, reduceLT, reduceLeDiff, reduceAdd, reduceCtorEq, go_sem]
def m_laws_eqStatement : MC :=
(.seq (pr [.box 2 0 (.s 0), .box 3 1 (.s 1), .mv 4 cF] [2,3])
(.seq (.seq (pr [.fld 5 (.s 2) 0, .load 6 false 1 (.s 5), .fld 7 (.s 3) 0, .load 8 false 1 (.s 7), .bin 9 false .neq (.s 6) (.s 8)] [2,3,9])
(.cond (.s 9) (.seq (pr [.mv 4 cF] [4])
.ret) .skip))
(.seq (.seq (pr [.fld 10 (.s 2) 1, .load 11 false 1 (.s 10), .fld 12 (.s 3) 1, .load 13 false 1 (.s 12), .bin 14 false .neq (.s 11) (.s 13)] [2,3,14])
(.cond (.s 14) (.seq (pr [.mv 4 cF] [4])
.ret) .skip))
(.seq (.seq (pr [.fld 15 (.s 2) 2, .load 16 false 1 (.s 15), .fld 17 (.s 3) 2, .load 18 false 1 (.s 17), .bin 19 false .neq (.s 16) (.s 18)] [2,3,19])
(.cond (.s 19) (.seq (pr [.mv 4 cF] [4])
.ret) .skip))
(.seq (.seq (pr [.fld 20 (.s 2) 3, .load 21 false 1 (.s 20), .fld 22 (.s 3) 3, .load 23 false 1 (.s 22), .bin 24 false .neq (.s 21) (.s 23)] [24])
(.cond (.s 24) (.seq (pr [.mv 4 cF] [4])
.ret) .skip))
(.seq (pr [.mv 4 cT] [4])
.ret))))))
theorem c_laws_eqStatement (x y : GStatement) : Ctr Tryz.prog n_laws_eqStatement [aS x.enc, aS y.enc] [rB (decide (x = y))] := by
 refine cA m_laws_eqStatement 2 25 [(.tmp 4, [false])] Tryz.func148 rfl rfl ?_; unfold m_laws_eqStatement
 intro hb
 clear hb
 simp only [↓reduceIte, reduceEqDiff, reduceLT, reduceLeDiff, reduceAdd, reduceCtorEq, go_sem]
 refine ⟨fun h => ?_, fun h_Witness => ?_⟩
 ·symm
  rw [decide_eq_false_iff_not]
  rintro rfl
  exact h rfl
 refine ⟨fun h => ?_, fun h_Digest => ?_⟩
 ·symm
  rw [decide_eq_false_iff_not]
  rintro rfl
  exact h rfl
 refine ⟨fun h => ?_, fun h_Tick => ?_⟩
 ·symm
  rw [decide_eq_false_iff_not]
  rintro rfl
  exact h rfl
 refine ⟨fun h => ?_, fun h_Seal => ?_⟩
 ·symm
  rw [decide_eq_false_iff_not]
  rintro rfl
  exact h rfl
 cases x; cases y; simp_all
def m_laws_szStatementS : MC :=
(.seq (pr [.mv 4 (ci 0)] [0,1])
(.seq (pr [.mv 5 (.s 1), .mv 6 (.s 0), .len 7 false (.s 6), .bin 8 false .sub (.s 5) (.s 7), .mv 1 (.s 8)] [1])
(.seq (.seq (pr [.mv 9 (.s 1), .bin 10 false .lss (.s 9) (ci 0)] [1,10])
(.cond (.s 10) (.seq (pr [.mv 4 (.c (.int .i64 (-1)))] [4])
.ret) .skip))
(.seq (pr [.mv 11 (.s 1), .mv 4 (.s 11)] [4])
.ret))))
theorem c_laws_szStatementS (xs : List GStatement) (left : Int) (h0 : 0 ≤ left) : Ctr Tryz.prog n_laws_szStatementS [aL 4 (xs.map GStatement.enc), aI left] [rI (szr xs.length left)] := by
 refine cA m_laws_szStatementS 0 12 [(.tmp 4, [false])] Tryz.func58 rfl rfl ?_; unfold m_laws_szStatementS
 intro hb
 simp only [bdA, bdL, bdT, bdR_map, wfB_i64, roomB, and_true, List.length_map] at hb
 obtain ⟨⟨hl, -⟩, hn⟩ := hb
 simp only [↓reduceIte, reduceEqDiff, reduceLT, reduceCtorEq, go_sem]
 rw [wI (by omega) (by omega)]
 unfold szr
 refine ⟨fun h => ?_, fun h => ?_⟩
 ·rw [if_neg (by omega)]
 ·rw [if_pos (by omega)]
def m_laws_toStatementS : MC :=
(.seq (pr [.nilo 2 0 4] [0])
(.seq (pr [.mv 5 (.s 0), .len 6 false (.s 5), .mk 7 0 4 32 [.sc (.int .i64 0), .sc (.int .i64 0), .sc (.int .i64 0), .sc (.int .i64 0)] (.s 6), .mv 3 (.s 7)] [0,3])
(.seq (.seq (pr [.mv 4 (ci 0)] [0,3,4])
(.block 0 (.loop ([0,3,4], []) (.seq (.seq (pr [.mv 8 (.s 4), .mv 9 (.s 0), .len 10 false (.s 9), .bin 11 false .lss (.s 8) (.s 10)] [0,3,4,11])
(.cond (.s 11) .skip (.exit 0)))
(.seq (.block 1 (pr [.mv 14 (.s 3), .mv 15 (.s 4), .mv 16 (.s 0), .mv 17 (.s 4), .idx 18 4 (.s 16) (.s 17), .load 19 true 4 (.s 18), .call 20 [] (.f n_laws_toStatement) [.s 19], .idx 21 4 (.s 14) (.s 15), .store 4 (.s 21) (.s 20)] [0,3,4]))
(pr [.mv 12 (.s 4), .bin 13 false .add (.s 12) (ci 1), .mv 4 (.s 13)] [0,3,4]))))))
(.seq (pr [.mv 22 (.s 3), .mv 2 (.s 22)] [2])
.ret))))
theorem c_laws_toStatementS (xs : List GStatement) (hs : xs.length ≤ 1073741824) : Ctr Tryz.prog n_laws_toStatementS [aL 4 (xs.map GStatement.enc)] [rL 4 (xs.map GStatement.enc)] := by
 refine cA m_laws_toStatementS 1 23 [(.tmp 2, [true])] Tryz.func65 rfl rfl ?_; unfold m_laws_toStatementS
 intro hb
 simp only [↓reduceIte, reduceEqDiff, reduceLT, reduceAdd, reduceCtorEq, go_sem]
 refine ⟨⟨by omega, by simp only [roomB]; omega⟩, ?_⟩
 refine loopK_rng xs (fun k => [(4, vI k)]) (fun k => [(0, ⟨0, .row true 4 (filled GStatement.enc [tI 0, tI 0, tI 0, tI 0] xs k)⟩)]) (fun _ => True) (by simp only [roomB]; omega) ?_
 simp only [↓reduceIte, reduceEqDiff, reduceCtorEq, go_sem]
 refine ⟨?_, trivial, ?_, ?_⟩
 ·simp only [↓reduceIte, reduceEqDiff, reduceLT, reduceCtorEq, go_sem, filled_zero]
  all_goals rfl
 ·intro k x hx _ h0 h1 hw
  have h : k < xs.length := by omega
  simp only [↓reduceIte, reduceEqDiff, reduceLT, reduceAdd, reduceCtorEq, go_sem, bk_eq hx, h0, h1]
  refine callK_of (c_laws_toStatement x) ?_
  simp only [↓reduceIte, reduceEqDiff, reduceLT, reduceAdd, reduceCtorEq, go_sem, bk_eq (filled_get h), filled_len (Nat.le_of_lt h), h0, h1, hw]
  intros; exact filled_set hx
 ·intro _
  simp only [↓reduceIte, reduceEqDiff, reduceLT, reduceCtorEq, go_sem, filled_all]
def m_laws_eqStatementS : MC :=
(.seq (pr [.mv 4 cF] [0,1])
(.seq (.seq (pr [.mv 6 (.s 0), .len 7 false (.s 6), .mv 8 (.s 1), .len 9 false (.s 8), .bin 10 false .neq (.s 7) (.s 9)] [0,1,10])
(.cond (.s 10) (.seq (pr [.mv 4 cF] [4])
.ret) .skip))
(.seq (.seq (pr [.mv 5 (ci 0)] [0,1,5])
(.block 0 (.loop ([0,1,5], []) (.seq (.seq (pr [.mv 11 (.s 5), .mv 12 (.s 0), .len 13 false (.s 12), .bin 14 false .lss (.s 11) (.s 13)] [0,1,5,14])
(.cond (.s 14) .skip (.exit 0)))
(.seq (.block 1 (.seq (.dreg [Zc [18,21,22,23,24] (.mv 17 (.s 0)), Zc [17,21,22,23,24] (.mv 18 (.s 5)), Zd [21,22,23,24] [0,1] (.idx 19 4 (.s 17) (.s 18)), Zd [21,22,23,24] [0,1,2] (.load 20 true 4 (.s 19)), Zc [17,18,19,20,22] (.mv 21 (.s 1)), Zc [17,18,19,20,21] (.mv 22 (.s 5)), Zd [17,18,19,20] [4,5] (.idx 23 4 (.s 21) (.s 22)), Zd [17,18,19,20] [4,5,6] (.load 24 true 4 (.s 23)), Ze (.range 8) (.call 25 [] (.f n_laws_eqStatement) [.s 20, .s 24]), Ze (.range 9) (.un 26 .not (.s 25))] [0,1,5,26])
(.cond (.s 26) (.seq (pr [.mv 4 cF] [4])
.ret) .skip)))
(pr [.mv 15 (.s 5), .bin 16 false .add (.s 15) (ci 1), .mv 5 (.s 16)] [0,1,5]))))))
(.seq (pr [.mv 4 cT] [4])
.ret))))
theorem c_laws_eqStatementS (xs ys : List GStatement) : Ctr Tryz.prog n_laws_eqStatementS [aL 4 (xs.map GStatement.enc), aL 4 (ys.map GStatement.enc)] [rB (decide (xs = ys))] := by
 refine cA m_laws_eqStatementS 0 27 [(.tmp 4, [false])] Tryz.func72 rfl rfl ?_; unfold m_laws_eqStatementS
 intro hb
 simp only [bdA, bdL, bdT, bdR_map, roomB, and_true, List.length_map] at hb
 obtain ⟨⟨hl, -⟩, ⟨hl2, -⟩⟩ := hb
 simp only [↓reduceIte, reduceEqDiff, reduceLT, reduceCtorEq, go_sem]
 refine ⟨fun h => ne_len h, fun h => ?_⟩
 have hle : xs.length = ys.length := by omega
 refine loopK_rng xs (fun k => [(5, vI k)]) (fun k => []) (fun k => xs.take k = ys.take k) hl ?_
 simp only [↓reduceIte, reduceEqDiff, reduceCtorEq, go_sem]
 refine ⟨?_, rfl, ?_, ?_⟩
 ·simp only [↓reduceIte, reduceEqDiff, reduceLT, reduceCtorEq, go_sem]
 ·intro k x hx he h0 h1 hw
  obtain ⟨y, hy⟩ := at_some (show k < ys.length by omega)
  have h2 : (k : Int) < ys.length := by omega
  simp only [↓reduceIte, reduceEqDiff, reduceLT, reduceAdd, reduceCtorEq, go_sem, bk_eq hx, bk_eq hy, h0, h1, h2]
  refine callK_of (c_laws_eqStatement x y) ?_
  simp only [↓reduceIte, reduceEqDiff, reduceLT, reduceCtorEq, go_sem, hw]
  exact ⟨fun hn => ne_at hx hy hn, fun hn => (take_eq_step hx hy he).2 hn⟩
 ·intro he
  simp only [↓reduceIte, reduceEqDiff, reduceLT, reduceCtorEq, go_sem]
  exact eq_all he hle
def m_laws_szLibrary : MC :=
(.seq (pr [.box 2 0 (.s 0), .mv 4 (ci 0)] [1,2])
(.seq (pr [.fld 5 (.s 2) 1, .load 6 false 1 (.s 5), .mv 7 (.s 1), .call 8 [] (.f n_laws_szIntS) [.s 6, .s 7], .mv 1 (.s 8)] [1])
(.seq (.seq (pr [.mv 9 (.s 1), .bin 10 false .lss (.s 9) (ci 0)] [1,10])
(.cond (.s 10) (.seq (pr [.mv 4 (.c (.int .i64 (-1)))] [4])
.ret) .skip))
(.seq (pr [.mv 11 (.s 1), .mv 4 (.s 11)] [4])
.ret))))
theorem c_laws_szLibrary (x : GLibrary) (left : Int) (h0 : 0 ≤ left) : Ctr Tryz.prog n_laws_szLibrary [aS x.enc, aI left] [rI (szr x.size left)] := by
 refine cA m_laws_szLibrary 1 12 [(.tmp 4, [false])] Tryz.func118 rfl rfl ?_; unfold m_laws_szLibrary
 intro hb
 simp only [↓reduceIte, reduceEqDiff, reduceLT, reduceLeDiff, reduceAdd, reduceCtorEq, go_sem]
 refine callK_of (c_laws_szIntS x.Digests left h0) ?_
 simp only [↓reduceIte, reduceEqDiff, reduceLT, reduceCtorEq, go_sem]
 intro _
 refine ⟨fun h => szr_bad' h0 h (by simp only [GLibrary.size]; omega), fun h1 => ?_⟩
 rfl
def m_laws_toLibrary : MC :=
(.seq (pr [.box 1 0 (.s 0), .alloc 2 1 [pz, .emp 1, .pl (.sc (.bool false)), .pl (.sc (.bool false))]] [1,2])
(.seq (pr [.alloc 3 2 [pz, .emp 1, .pl (.sc (.bool false)), .pl (.sc (.bool false))]] [1,2,3])
(.seq (pr [.fld 4 (.s 1) 0, .load 5 false 1 (.s 4), .fld 6 (.s 3) 0, .store 1 (.s 6) (.s 5)] [1,2,3])
(.seq (pr [.fld 7 (.s 1) 1, .load 8 false 1 (.s 7), .call 9 [3] (.f n_laws_toIntS) [.s 8], .fld 10 (.s 3) 1, .store 1 (.s 10) (.s 9)] [1,2,3])
(.seq (pr [.fld 11 (.s 1) 2, .load 12 false 1 (.s 11), .fld 13 (.s 3) 2, .store 1 (.s 13) (.s 12)] [1,2,3])
(.seq (pr [.fld 14 (.s 1) 3, .load 15 false 1 (.s 14), .fld 16 (.s 3) 3, .store 1 (.s 16) (.s 15)] [2,3])
(.seq (pr [.load 17 true 4 (.s 3), .store 4 (.s 2) (.s 17)] [2])
.ret)))))))
theorem c_laws_toLibrary (x : GLibrary) (hs : x.size ≤ 1073741824) : Ctr Tryz.prog n_laws_toLibrary [aS x.enc] [rS x.enc] := by
 refine cA m_laws_toLibrary 4 18 [(.cell 2 true 4, [false, true, false, false])] Tryz.func120 rfl rfl ?_; unfold m_laws_toLibrary
 intro hb
 simp only [GLibrary.size] at hs
 simp only [↓reduceIte, reduceEqDiff, reduceLT, reduceLeDiff, reduceAdd, reduceCtorEq, go_sem]
 refine callK_of (c_laws_toIntS x.Digests (by omega)) ?_
 simp only [↓reduceIte, reduceEqDiff, reduceLT, reduceLeDiff, reduceAdd, reduceCtorEq, go_sem]
 try intros
def m_laws_eqLibrary : MC :=
(.seq (pr [.box 2 0 (.s 0), .box 3 1 (.s 1), .mv 4 cF] [2,3])
(.seq (.seq (pr [.fld 5 (.s 2) 0, .load 6 false 1 (.s 5), .fld 7 (.s 3) 0, .load 8 false 1 (.s 7), .bin 9 false .neq (.s 6) (.s 8)] [2,3,9])
(.cond (.s 9) (.seq (pr [.mv 4 cF] [4])
.ret) .skip))
(.seq (.seq (pr [.fld 10 (.s 2) 1, .load 11 false 1 (.s 10), .fld 12 (.s 3) 1, .load 13 false 1 (.s 12), .call 14 [] (.f n_laws_eqIntS) [.s 11, .s 13], .un 15 .not (.s 14)] [2,3,15])
(.cond (.s 15) (.seq (pr [.mv 4 cF] [4])
.ret) .skip))
(.seq (.seq (pr [.fld 16 (.s 2) 2, .load 17 false 1 (.s 16), .fld 18 (.s 3) 2, .load 19 false 1 (.s 18), .bin 20 true .neq (.s 17) (.s 19)] [2,3,20])
(.cond (.s 20) (.seq (pr [.mv 4 cF] [4])
.ret) .skip))
(.seq (.seq (pr [.fld 21 (.s 2) 3, .load 22 false 1 (.s 21), .fld 23 (.s 3) 3, .load 24 false 1 (.s 23), .bin 25 true .neq (.s 22) (.s 24)] [25])
(.cond (.s 25) (.seq (pr [.mv 4 cF] [4])
.ret) .skip))
(.seq (pr [.mv 4 cT] [4])
.ret))))))
theorem c_laws_eqLibrary (x y : GLibrary) : Ctr Tryz.prog n_laws_eqLibrary [aS x.enc, aS y.enc] [rB (decide (x = y))] := by
 refine cA m_laws_eqLibrary 2 26 [(.tmp 4, [false])] Tryz.func122 rfl rfl ?_; unfold m_laws_eqLibrary
 intro hb
 clear hb
 simp only [↓reduceIte, reduceEqDiff, reduceLT, reduceLeDiff, reduceAdd, reduceCtorEq, go_sem]
 refine ⟨fun h => ?_, fun h_Id => ?_⟩
 ·symm
  rw [decide_eq_false_iff_not]
  rintro rfl
  exact h rfl
 refine callK_of (c_laws_eqIntS x.Digests y.Digests) ?_
 simp only [↓reduceIte, reduceEqDiff, reduceLT, reduceLeDiff, reduceAdd, reduceCtorEq, go_sem]
 refine ⟨fun h => ?_, fun h_Digests => ?_⟩
 ·symm
  rw [decide_eq_false_iff_not]
  rintro rfl
  exact h rfl
 refine ⟨fun h => ?_, fun h_Up => ?_⟩
 ·symm
  rw [decide_eq_false_iff_not]
  rintro rfl
  exact h rfl
 refine ⟨fun h => ?_, fun h_Lies => ?_⟩
 ·symm
  rw [decide_eq_false_iff_not]
  rintro rfl
  exact h rfl
 cases x; cases y; simp_all
def m_laws_szLibraryS : MC :=
(.seq (pr [.mv 4 (ci 0)] [0,1])
(.seq (pr [.mv 6 (.s 1), .mv 7 (.s 0), .len 8 false (.s 7), .bin 9 false .sub (.s 6) (.s 8), .mv 1 (.s 9)] [0,1])
(.seq (.seq (pr [.mv 10 (.s 1), .bin 11 false .lss (.s 10) (ci 0)] [0,1,11])
(.cond (.s 11) (.seq (pr [.mv 4 (.c (.int .i64 (-1)))] [4])
.ret) .skip))
(.seq (.seq (pr [.mv 5 (ci 0)] [0,1,5])
(.block 0 (.loop ([0,1,5], []) (.seq (.seq (pr [.mv 12 (.s 5), .mv 13 (.s 0), .len 14 false (.s 13), .bin 15 false .lss (.s 12) (.s 14)] [0,1,5,15])
(.cond (.s 15) .skip (.exit 0)))
(.seq (.block 1 (.seq (pr [.mv 18 (.s 0), .mv 19 (.s 5), .idx 20 4 (.s 18) (.s 19), .load 21 true 4 (.s 20), .mv 22 (.s 1), .call 23 [] (.f n_laws_szLibrary) [.s 21, .s 22], .mv 1 (.s 23)] [0,1,5])
(.seq (pr [.mv 24 (.s 1), .bin 25 false .lss (.s 24) (ci 0)] [0,1,5,25])
(.cond (.s 25) (.seq (pr [.mv 4 (.c (.int .i64 (-1)))] [4])
.ret) .skip))))
(pr [.mv 16 (.s 5), .bin 17 false .add (.s 16) (ci 1), .mv 5 (.s 17)] [0,1,5]))))))
(.seq (pr [.mv 26 (.s 1), .mv 4 (.s 26)] [4])
.ret)))))
theorem c_laws_szLibraryS (xs : List GLibrary) (left : Int) (h0 : 0 ≤ left) : Ctr Tryz.prog n_laws_szLibraryS [aL 4 (xs.map GLibrary.enc), aI left] [rI (szr (xs.length + (xs.map GLibrary.size).sum) left)] := by
 refine cA m_laws_szLibraryS 0 27 [(.tmp 4, [false])] Tryz.func43 rfl rfl ?_; unfold m_laws_szLibraryS
 intro hb
 simp only [bdA, bdL, bdT, bdR_map, wfB_i64, roomB, and_true, List.length_map] at hb
 obtain ⟨⟨hl, -⟩, hn⟩ := hb
 simp only [↓reduceIte, reduceEqDiff, reduceLT, reduceCtorEq, go_sem]
 rw [wI (by omega) (by omega)]
 refine ⟨fun h => ?_, fun h => ?_⟩
 ·exact szr_bad' (n := xs.length) h0 ((szr_neg h0).2 (by omega)) (by omega)
 ·have hz : szr xs.length left = left - xs.length := by unfold szr; rw [if_pos (by omega)]
  rw [← hz] at h ⊢
  refine loopK_rng xs (fun k => [(1, vI (szr (xs.length + ((xs.take k).map GLibrary.size).sum) left)), (5, vI k)]) (fun k => []) (fun k => ¬ szr (xs.length + ((xs.take k).map GLibrary.size).sum) left < 0) hl ?_
  simp only [↓reduceIte, reduceEqDiff, reduceCtorEq, go_sem]
  refine ⟨?_, by simpa using h, ?_, ?_⟩
  ·simp only [↓reduceIte, reduceEqDiff, reduceLT, reduceCtorEq, go_sem, List.take_zero, List.map_nil, List.sum_nil, Nat.add_zero]
   all_goals rfl
  ·intro k x hx hs hk0 h1 hw
   obtain ⟨a1, a2, a3⟩ := szr_add (m := x.size) h0 hs
   rw [Nat.add_assoc, ← sum_snoc hx] at a3
   simp only [↓reduceIte, reduceEqDiff, reduceLT, reduceAdd, reduceCtorEq, go_sem, bk_eq hx, hk0, h1]
   refine callK_of (c_laws_szLibrary x _ a1) ?_
   rw [← a3]
   simp only [↓reduceIte, reduceEqDiff, reduceLT, reduceCtorEq, go_sem, hw]
   intro _
   refine ⟨fun hn => ?_, fun hn => hn⟩
   have := sum_take_le (f := GLibrary.size) xs (k + 1)
   exact szr_bad' h0 hn (by omega)
  ·intro _
   simp only [↓reduceIte, reduceEqDiff, reduceLT, reduceCtorEq, go_sem, List.take_length]
def m_laws_toLibraryS : MC :=
(.seq (pr [.nilo 2 0 4] [0])
(.seq (pr [.mv 5 (.s 0), .len 6 false (.s 5), .mk 7 0 4 40 [.sc (.int .i64 0), .sl 1 [], .sc (.bool false), .sc (.bool false)] (.s 6), .mv 3 (.s 7)] [0,3])
(.seq (.seq (pr [.mv 4 (ci 0)] [0,3,4])
(.block 0 (.loop ([0,3,4], [1]) (.seq (.seq (pr [.mv 8 (.s 4), .mv 9 (.s 0), .len 10 false (.s 9), .bin 11 false .lss (.s 8) (.s 10)] [0,3,4,11])
(.cond (.s 11) .skip (.exit 0)))
(.seq (.block 1 (pr [.mv 14 (.s 3), .mv 15 (.s 4), .mv 16 (.s 0), .mv 17 (.s 4), .idx 18 4 (.s 16) (.s 17), .load 19 true 4 (.s 18), .call 20 [1] (.f n_laws_toLibrary) [.s 19], .idx 21 4 (.s 14) (.s 15), .store 4 (.s 21) (.s 20)] [0,3,4]))
(pr [.mv 12 (.s 4), .bin 13 false .add (.s 12) (ci 1), .mv 4 (.s 13)] [0,3,4]))))))
(.seq (pr [.mv 22 (.s 3), .mv 2 (.s 22)] [2])
.ret))))
theorem c_laws_toLibraryS (xs : List GLibrary) (hs : xs.length + (xs.map GLibrary.size).sum ≤ 1073741824) : Ctr Tryz.prog n_laws_toLibraryS [aL 4 (xs.map GLibrary.enc)] [rL 4 (xs.map GLibrary.enc)] := by
 refine cA m_laws_toLibraryS 2 23 [(.tmp 2, [true])] Tryz.func47 rfl rfl ?_; unfold m_laws_toLibraryS
 intro hb
 simp only [↓reduceIte, reduceEqDiff, reduceLT, reduceAdd, reduceCtorEq, go_sem]
 refine ⟨⟨by omega, by simp only [roomB]; omega⟩, ?_⟩
 refine loopK_rng xs (fun k => [(4, vI k)]) (fun k => [(0, ⟨0, .row true 4 (filled GLibrary.enc [tI 0, .sl 1 [], tB false, tB false] xs k)⟩)]) (fun _ => True) (by simp only [roomB]; omega) ?_
 simp only [↓reduceIte, reduceEqDiff, reduceAdd, reduceCtorEq, go_sem]
 refine ⟨?_, trivial, ?_, ?_⟩
 ·simp only [↓reduceIte, reduceEqDiff, reduceLT, reduceCtorEq, go_sem, filled_zero]
  all_goals rfl
 ·intro k x hx _ h0 h1 hw
  have h : k < xs.length := by omega
  simp only [↓reduceIte, reduceEqDiff, reduceLT, reduceAdd, reduceCtorEq, go_sem, bk_eq hx, h0, h1]
  have hx1 := mem_sum (f := GLibrary.size) (at_mem hx)
  refine callK_of (c_laws_toLibrary x (by omega)) ?_
  simp only [↓reduceIte, reduceEqDiff, reduceLT, reduceAdd, reduceCtorEq, go_sem, bk_eq (filled_get h), filled_len (Nat.le_of_lt h), h0, h1, hw]
  intros; exact filled_set hx
 ·intro _
  simp only [↓reduceIte, reduceEqDiff, reduceLT, reduceCtorEq, go_sem, filled_all]
def m_laws_eqLibraryS : MC :=
(.seq (pr [.mv 4 cF] [0,1])
(.seq (.seq (pr [.mv 6 (.s 0), .len 7 false (.s 6), .mv 8 (.s 1), .len 9 false (.s 8), .bin 10 false .neq (.s 7) (.s 9)] [0,1,10])
(.cond (.s 10) (.seq (pr [.mv 4 cF] [4])
.ret) .skip))
(.seq (.seq (pr [.mv 5 (ci 0)] [0,1,5])
(.block 0 (.loop ([0,1,5], []) (.seq (.seq (pr [.mv 11 (.s 5), .mv 12 (.s 0), .len 13 false (.s 12), .bin 14 false .lss (.s 11) (.s 13)] [0,1,5,14])
(.cond (.s 14) .skip (.exit 0)))
(.seq (.block 1 (.seq (.dreg [Zc [18,21,22,23,24] (.mv 17 (.s 0)), Zc [17,21,22,23,24] (.mv 18 (.s 5)), Zd [21,22,23,24] [0,1] (.idx 19 4 (.s 17) (.s 18)), Zd [21,22,23,24] [0,1,2] (.load 20 true 4 (.s 19)), Zc [17,18,19,20,22] (.mv 21 (.s 1)), Zc [17,18,19,20,21] (.mv 22 (.s 5)), Zd [17,18,19,20] [4,5] (.idx 23 4 (.s 21) (.s 22)), Zd [17,18,19,20] [4,5,6] (.load 24 true 4 (.s 23)), Ze (.range 8) (.call 25 [] (.f n_laws_eqLibrary) [.s 20, .s 24]), Ze (.range 9) (.un 26 .not (.s 25))] [0,1,5,26])
(.cond (.s 26) (.seq (pr [.mv 4 cF] [4])
.ret) .skip)))
(pr [.mv 15 (.s 5), .bin 16 false .add (.s 15) (ci 1), .mv 5 (.s 16)] [0,1,5]))))))
(.seq (pr [.mv 4 cT] [4])
.ret))))
theorem c_laws_eqLibraryS (xs ys : List GLibrary) : Ctr Tryz.prog n_laws_eqLibraryS [aL 4 (xs.map GLibrary.enc), aL 4 (ys.map GLibrary.enc)] [rB (decide (xs = ys))] := by
 refine cA m_laws_eqLibraryS 0 27 [(.tmp 4, [false])] Tryz.func51 rfl rfl ?_; unfold m_laws_eqLibraryS
 intro hb
 simp only [bdA, bdL, bdT, bdR_map, roomB, and_true, List.length_map] at hb
 obtain ⟨⟨hl, -⟩, ⟨hl2, -⟩⟩ := hb
 simp only [↓reduceIte, reduceEqDiff, reduceLT, reduceCtorEq, go_sem]
 refine ⟨fun h => ne_len h, fun h => ?_⟩
 have hle : xs.length = ys.length := by omega
 refine loopK_rng xs (fun k => [(5, vI k)]) (fun k => []) (fun k => xs.take k = ys.take k) hl ?_
 simp only [↓reduceIte, reduceEqDiff, reduceCtorEq, go_sem]
 refine ⟨?_, rfl, ?_, ?_⟩
 ·simp only [↓reduceIte, reduceEqDiff, reduceLT, reduceCtorEq, go_sem]
 ·intro k x hx he h0 h1 hw
  obtain ⟨y, hy⟩ := at_some (show k < ys.length by omega)
  have h2 : (k : Int) < ys.length := by omega
  simp only [↓reduceIte, reduceEqDiff, reduceLT, reduceAdd, reduceCtorEq, go_sem, bk_eq hx, bk_eq hy, h0, h1, h2]
  refine callK_of (c_laws_eqLibrary x y) ?_
  simp only [↓reduceIte, reduceEqDiff, reduceLT, reduceCtorEq, go_sem, hw]
  exact ⟨fun hn => ne_at hx hy hn, fun hn => (take_eq_step hx hy he).2 hn⟩
 ·intro he
  simp only [↓reduceIte, reduceEqDiff, reduceLT, reduceCtorEq, go_sem]
  exact eq_all he hle
def m_laws_szContainer : MC :=
(.seq (pr [.box 2 0 (.s 0), .mv 4 (ci 0)] [1,2])
(.seq (pr [.fld 5 (.s 2) 0, .load 6 false 1 (.s 5), .mv 7 (.s 1), .call 8 [] (.f n_laws_szOpS) [.s 6, .s 7], .mv 1 (.s 8)] [1,2])
(.seq (.seq (pr [.mv 9 (.s 1), .bin 10 false .lss (.s 9) (ci 0)] [1,2,10])
(.cond (.s 10) (.seq (pr [.mv 4 (.c (.int .i64 (-1)))] [4])
.ret) .skip))
(.seq (pr [.fld 11 (.s 2) 1, .load 12 false 1 (.s 11), .mv 13 (.s 1), .call 14 [] (.f n_laws_szEntryS) [.s 12, .s 13], .mv 1 (.s 14)] [1,2])
(.seq (.seq (pr [.mv 15 (.s 1), .bin 16 false .lss (.s 15) (ci 0)] [1,2,16])
(.cond (.s 16) (.seq (pr [.mv 4 (.c (.int .i64 (-1)))] [4])
.ret) .skip))
(.seq (pr [.fld 17 (.s 2) 2, .load 18 false 1 (.s 17), .mv 19 (.s 1), .call 20 [] (.f n_laws_szCaptureS) [.s 18, .s 19], .mv 1 (.s 20)] [1])
(.seq (.seq (pr [.mv 21 (.s 1), .bin 22 false .lss (.s 21) (ci 0)] [1,22])
(.cond (.s 22) (.seq (pr [.mv 4 (.c (.int .i64 (-1)))] [4])
.ret) .skip))
(.seq (pr [.mv 23 (.s 1), .mv 4 (.s 23)] [4])
.ret))))))))
theorem c_laws_szContainer (x : GContainer) (left : Int) (h0 : 0 ≤ left) : Ctr Tryz.prog n_laws_szContainer [aS x.enc, aI left] [rI (szr x.size left)] := by
 refine cA m_laws_szContainer 1 24 [(.tmp 4, [false])] Tryz.func196 rfl rfl ?_; unfold m_laws_szContainer
 intro hb
 simp only [↓reduceIte, reduceEqDiff, reduceLT, reduceLeDiff, reduceAdd, reduceCtorEq, go_sem]
 refine callK_of (c_laws_szOpS x.Script left h0) ?_
 simp only [↓reduceIte, reduceEqDiff, reduceLT, reduceLeDiff, reduceAdd, reduceCtorEq, go_sem]
 intro _
 refine ⟨fun h => szr_bad' h0 h (by simp only [GContainer.size]; omega), fun h1 => ?_⟩
 obtain ⟨a1, b1, e1⟩ := szr_add (m := x.Entries.length) h0 h1
 refine callK_of (c_laws_szEntryS x.Entries _ a1) ?_
 rw [← e1]
 simp only [↓reduceIte, reduceEqDiff, reduceLT, reduceLeDiff, reduceAdd, reduceCtorEq, go_sem]
 intro _
 refine ⟨fun h => szr_bad' h0 h (by simp only [GContainer.size]; omega), fun h2 => ?_⟩
 obtain ⟨a2, b2, e2⟩ := szr_add (m := x.Captures.length + (x.Captures.map GCapture.size).sum) h0 h2
 refine callK_of (c_laws_szCaptureS x.Captures _ a2) ?_
 rw [← e2]
 simp only [↓reduceIte, reduceEqDiff, reduceLT, reduceCtorEq, go_sem]
 intro _
 refine ⟨fun h => szr_bad' h0 h (by simp only [GContainer.size]; omega), fun h3 => ?_⟩
 rfl
def m_laws_toContainer : MC :=
(.seq (pr [.box 1 0 (.s 0), .alloc 2 1 [.emp 4, .emp 5, .emp 9, pz]] [1,2])
(.seq (pr [.alloc 3 2 [.emp 4, .emp 5, .emp 9, pz]] [1,2,3])
(.seq (pr [.fld 4 (.s 1) 0, .load 5 false 1 (.s 4), .call 6 [3] (.f n_laws_toOpS) [.s 5], .fld 7 (.s 3) 0, .store 1 (.s 7) (.s 6)] [1,2,3])
(.seq (pr [.fld 8 (.s 1) 1, .load 9 false 1 (.s 8), .call 10 [4] (.f n_laws_toEntryS) [.s 9], .fld 11 (.s 3) 1, .store 1 (.s 11) (.s 10)] [1,2,3])
(.seq (pr [.fld 12 (.s 1) 2, .load 13 false 1 (.s 12), .call 14 [5] (.f n_laws_toCaptureS) [.s 13], .fld 15 (.s 3) 2, .store 1 (.s 15) (.s 14)] [1,2,3])
(.seq (pr [.fld 16 (.s 1) 3, .load 17 false 1 (.s 16), .fld 18 (.s 3) 3, .store 1 (.s 18) (.s 17)] [2,3])
(.seq (pr [.load 19 true 4 (.s 3), .store 4 (.s 2) (.s 19)] [2])
.ret)))))))
theorem c_laws_toContainer (x : GContainer) (hs : x.size ≤ 1073741824) : Ctr Tryz.prog n_laws_toContainer [aS x.enc] [rS x.enc] := by
 refine cA m_laws_toContainer 6 20 [(.cell 2 true 4, [true, true, true, false])] Tryz.func198 rfl rfl ?_; unfold m_laws_toContainer
 intro hb
 simp only [GContainer.size] at hs
 simp only [↓reduceIte, reduceEqDiff, reduceLT, reduceLeDiff, reduceAdd, reduceCtorEq, go_sem]
 refine callK_of (c_laws_toOpS x.Script (by omega)) ?_
 simp only [↓reduceIte, reduceEqDiff, reduceLT, reduceLeDiff, reduceAdd, reduceCtorEq, go_sem]
 try intros
 refine callK_of (c_laws_toEntryS x.Entries (by omega)) ?_
 simp only [↓reduceIte, reduceEqDiff, reduceLT, reduceLeDiff, reduceAdd, reduceCtorEq, go_sem]
 try intros
 refine callK_of (c_laws_toCaptureS x.Captures (by omega)) ?_
 simp only [↓reduceIte, reduceEqDiff, reduceLT, reduceLeDiff, reduceAdd, reduceCtorEq, go_sem]
 try intros
def m_laws_eqContainer : MC :=
(.seq (pr [.box 2 0 (.s 0), .box 3 1 (.s 1), .mv 4 cF] [2,3])
(.seq (.seq (pr [.fld 5 (.s 2) 0, .load 6 false 1 (.s 5), .fld 7 (.s 3) 0, .load 8 false 1 (.s 7), .call 9 [] (.f n_laws_eqOpS) [.s 6, .s 8], .un 10 .not (.s 9)] [2,3,10])
(.cond (.s 10) (.seq (pr [.mv 4 cF] [4])
.ret) .skip))
(.seq (.seq (pr [.fld 11 (.s 2) 1, .load 12 false 1 (.s 11), .fld 13 (.s 3) 1, .load 14 false 1 (.s 13), .call 15 [] (.f n_laws_eqEntryS) [.s 12, .s 14], .un 16 .not (.s 15)] [2,3,16])
(.cond (.s 16) (.seq (pr [.mv 4 cF] [4])
.ret) .skip))
(.seq (.seq (pr [.fld 17 (.s 2) 2, .load 18 false 1 (.s 17), .fld 19 (.s 3) 2, .load 20 false 1 (.s 19), .call 21 [] (.f n_laws_eqCaptureS) [.s 18, .s 20], .un 22 .not (.s 21)] [2,3,22])
(.cond (.s 22) (.seq (pr [.mv 4 cF] [4])
.ret) .skip))
(.seq (.seq (pr [.fld 23 (.s 2) 3, .load 24 false 1 (.s 23), .fld 25 (.s 3) 3, .load 26 false 1 (.s 25), .bin 27 false .neq (.s 24) (.s 26)] [27])
(.cond (.s 27) (.seq (pr [.mv 4 cF] [4])
.ret) .skip))
(.seq (pr [.mv 4 cT] [4])
.ret))))))
theorem c_laws_eqContainer (x y : GContainer) : Ctr Tryz.prog n_laws_eqContainer [aS x.enc, aS y.enc] [rB (decide (x = y))] := by
 refine cA m_laws_eqContainer 2 28 [(.tmp 4, [false])] Tryz.func202 rfl rfl ?_; unfold m_laws_eqContainer
 intro hb
 clear hb
 simp only [↓reduceIte, reduceEqDiff, reduceLT, reduceLeDiff, reduceAdd, reduceCtorEq, go_sem]
 refine callK_of (c_laws_eqOpS x.Script y.Script) ?_
 simp only [↓reduceIte, reduceEqDiff, reduceLT, reduceLeDiff, reduceAdd, reduceCtorEq, go_sem]
 refine ⟨fun h => ?_, fun h_Script => ?_⟩
 ·symm
  rw [decide_eq_false_iff_not]
  rintro rfl
  exact h rfl
 refine callK_of (c_laws_eqEntryS x.Entries y.Entries) ?_
 simp only [↓reduceIte, reduceEqDiff, reduceLT, reduceLeDiff, reduceAdd, reduceCtorEq, go_sem]
 refine ⟨fun h => ?_, fun h_Entries => ?_⟩
 ·symm
  rw [decide_eq_false_iff_not]
  rintro rfl
  exact h rfl
 refine callK_of (c_laws_eqCaptureS x.Captures y.Captures) ?_
 simp only [↓reduceIte, reduceEqDiff, reduceLT, reduceAdd, reduceCtorEq, go_sem]
 refine ⟨fun h => ?_, fun h_Captures => ?_⟩
 ·symm
  rw [decide_eq_false_iff_not]
  rintro rfl
  exact h rfl
 refine ⟨fun h => ?_, fun h_Root => ?_⟩
 ·symm
  rw [decide_eq_false_iff_not]
  rintro rfl
  exact h rfl
 cases x; cases y; simp_all
def m_laws_szContainerS : MC :=
(.seq (pr [.mv 4 (ci 0)] [0,1])
(.seq (pr [.mv 6 (.s 1), .mv 7 (.s 0), .len 8 false (.s 7), .bin 9 false .sub (.s 6) (.s 8), .mv 1 (.s 9)] [0,1])
(.seq (.seq (pr [.mv 10 (.s 1), .bin 11 false .lss (.s 10) (ci 0)] [0,1,11])
(.cond (.s 11) (.seq (pr [.mv 4 (.c (.int .i64 (-1)))] [4])
.ret) .skip))
(.seq (.seq (pr [.mv 5 (ci 0)] [0,1,5])
(.block 0 (.loop ([0,1,5], []) (.seq (.seq (pr [.mv 12 (.s 5), .mv 13 (.s 0), .len 14 false (.s 13), .bin 15 false .lss (.s 12) (.s 14)] [0,1,5,15])
(.cond (.s 15) .skip (.exit 0)))
(.seq (.block 1 (.seq (pr [.mv 18 (.s 0), .mv 19 (.s 5), .idx 20 4 (.s 18) (.s 19), .load 21 true 4 (.s 20), .mv 22 (.s 1), .call 23 [] (.f n_laws_szContainer) [.s 21, .s 22], .mv 1 (.s 23)] [0,1,5])
(.seq (pr [.mv 24 (.s 1), .bin 25 false .lss (.s 24) (ci 0)] [0,1,5,25])
(.cond (.s 25) (.seq (pr [.mv 4 (.c (.int .i64 (-1)))] [4])
.ret) .skip))))
(pr [.mv 16 (.s 5), .bin 17 false .add (.s 16) (ci 1), .mv 5 (.s 17)] [0,1,5]))))))
(.seq (pr [.mv 26 (.s 1), .mv 4 (.s 26)] [4])
.ret)))))
theorem c_laws_szContainerS (xs : List GContainer) (left : Int) (h0 : 0 ≤ left) : Ctr Tryz.prog n_laws_szContainerS [aL 4 (xs.map GContainer.enc), aI left] [rI (szr (xs.length + (xs.map GContainer.size).sum) left)] := by
 refine cA m_laws_szContainerS 0 27 [(.tmp 4, [false])] Tryz.func123 rfl rfl ?_; unfold m_laws_szContainerS
 intro hb
 simp only [bdA, bdL, bdT, bdR_map, wfB_i64, roomB, and_true, List.length_map] at hb
 obtain ⟨⟨hl, -⟩, hn⟩ := hb
 simp only [↓reduceIte, reduceEqDiff, reduceLT, reduceCtorEq, go_sem]
 rw [wI (by omega) (by omega)]
 refine ⟨fun h => ?_, fun h => ?_⟩
 ·exact szr_bad' (n := xs.length) h0 ((szr_neg h0).2 (by omega)) (by omega)
 ·have hz : szr xs.length left = left - xs.length := by unfold szr; rw [if_pos (by omega)]
  rw [← hz] at h ⊢
  refine loopK_rng xs (fun k => [(1, vI (szr (xs.length + ((xs.take k).map GContainer.size).sum) left)), (5, vI k)]) (fun k => []) (fun k => ¬ szr (xs.length + ((xs.take k).map GContainer.size).sum) left < 0) hl ?_
  simp only [↓reduceIte, reduceEqDiff, reduceCtorEq, go_sem]
  refine ⟨?_, by simpa using h, ?_, ?_⟩
  ·simp only [↓reduceIte, reduceEqDiff, reduceLT, reduceCtorEq, go_sem, List.take_zero, List.map_nil, List.sum_nil, Nat.add_zero]
   all_goals rfl
  ·intro k x hx hs hk0 h1 hw
   obtain ⟨a1, a2, a3⟩ := szr_add (m := x.size) h0 hs
   rw [Nat.add_assoc, ← sum_snoc hx] at a3
   simp only [↓reduceIte, reduceEqDiff, reduceLT, reduceAdd, reduceCtorEq, go_sem, bk_eq hx, hk0, h1]
   refine callK_of (c_laws_szContainer x _ a1) ?_
   rw [← a3]
   simp only [↓reduceIte, reduceEqDiff, reduceLT, reduceCtorEq, go_sem, hw]
   intro _
   refine ⟨fun hn => ?_, fun hn => hn⟩
   have := sum_take_le (f := GContainer.size) xs (k + 1)
   exact szr_bad' h0 hn (by omega)
  ·intro _
   simp only [↓reduceIte, reduceEqDiff, reduceLT, reduceCtorEq, go_sem, List.take_length]
def m_laws_toContainerS : MC :=
(.seq (pr [.nilo 2 0 4] [0])
(.seq (pr [.mv 5 (.s 0), .len 6 false (.s 5), .mk 7 0 4 80 [.sl 4 [], .sl 5 [], .sl 9 [], .sc (.int .i64 0)] (.s 6), .mv 3 (.s 7)] [0,3])
(.seq (.seq (pr [.mv 4 (ci 0)] [0,3,4])
(.block 0 (.loop ([0,3,4], [1,2,3]) (.seq (.seq (pr [.mv 8 (.s 4), .mv 9 (.s 0), .len 10 false (.s 9), .bin 11 false .lss (.s 8) (.s 10)] [0,3,4,11])
(.cond (.s 11) .skip (.exit 0)))
(.seq (.block 1 (pr [.mv 14 (.s 3), .mv 15 (.s 4), .mv 16 (.s 0), .mv 17 (.s 4), .idx 18 4 (.s 16) (.s 17), .load 19 true 4 (.s 18), .call 20 [1, 2, 3] (.f n_laws_toContainer) [.s 19], .idx 21 4 (.s 14) (.s 15), .store 4 (.s 21) (.s 20)] [0,3,4]))
(pr [.mv 12 (.s 4), .bin 13 false .add (.s 12) (ci 1), .mv 4 (.s 13)] [0,3,4]))))))
(.seq (pr [.mv 22 (.s 3), .mv 2 (.s 22)] [2])
.ret))))
theorem c_laws_toContainerS (xs : List GContainer) (hs : xs.length + (xs.map GContainer.size).sum ≤ 1073741824) : Ctr Tryz.prog n_laws_toContainerS [aL 4 (xs.map GContainer.enc)] [rL 4 (xs.map GContainer.enc)] := by
 refine cA m_laws_toContainerS 4 23 [(.tmp 2, [true])] Tryz.func130 rfl rfl ?_; unfold m_laws_toContainerS
 intro hb
 simp only [↓reduceIte, reduceEqDiff, reduceLT, reduceAdd, reduceCtorEq, go_sem]
 refine ⟨⟨by omega, by simp only [roomB]; omega⟩, ?_⟩
 refine loopK_rng xs (fun k => [(4, vI k)]) (fun k => [(0, ⟨0, .row true 4 (filled GContainer.enc [.sl 4 [], .sl 5 [], .sl 9 [], tI 0] xs k)⟩)]) (fun _ => True) (by simp only [roomB]; omega) ?_
 simp only [↓reduceIte, reduceEqDiff, reduceAdd, reduceCtorEq, go_sem]
 refine ⟨?_, trivial, ?_, ?_⟩
 ·simp only [↓reduceIte, reduceEqDiff, reduceLT, reduceCtorEq, go_sem, filled_zero]
  all_goals rfl
 ·intro k x hx _ h0 h1 hw
  have h : k < xs.length := by omega
  simp only [↓reduceIte, reduceEqDiff, reduceLT, reduceAdd, reduceCtorEq, go_sem, bk_eq hx, h0, h1]
  have hx1 := mem_sum (f := GContainer.size) (at_mem hx)
  refine callK_of (c_laws_toContainer x (by omega)) ?_
  simp only [↓reduceIte, reduceEqDiff, reduceLT, reduceAdd, reduceCtorEq, go_sem, bk_eq (filled_get h), filled_len (Nat.le_of_lt h), h0, h1, hw]
  intros; exact filled_set hx
 ·intro _
  simp only [↓reduceIte, reduceEqDiff, reduceLT, reduceCtorEq, go_sem, filled_all]
def m_laws_eqContainerS : MC :=
(.seq (pr [.mv 4 cF] [0,1])
(.seq (.seq (pr [.mv 6 (.s 0), .len 7 false (.s 6), .mv 8 (.s 1), .len 9 false (.s 8), .bin 10 false .neq (.s 7) (.s 9)] [0,1,10])
(.cond (.s 10) (.seq (pr [.mv 4 cF] [4])
.ret) .skip))
(.seq (.seq (pr [.mv 5 (ci 0)] [0,1,5])
(.block 0 (.loop ([0,1,5], []) (.seq (.seq (pr [.mv 11 (.s 5), .mv 12 (.s 0), .len 13 false (.s 12), .bin 14 false .lss (.s 11) (.s 13)] [0,1,5,14])
(.cond (.s 14) .skip (.exit 0)))
(.seq (.block 1 (.seq (.dreg [Zc [18,21,22,23,24] (.mv 17 (.s 0)), Zc [17,21,22,23,24] (.mv 18 (.s 5)), Zd [21,22,23,24] [0,1] (.idx 19 4 (.s 17) (.s 18)), Zd [21,22,23,24] [0,1,2] (.load 20 true 4 (.s 19)), Zc [17,18,19,20,22] (.mv 21 (.s 1)), Zc [17,18,19,20,21] (.mv 22 (.s 5)), Zd [17,18,19,20] [4,5] (.idx 23 4 (.s 21) (.s 22)), Zd [17,18,19,20] [4,5,6] (.load 24 true 4 (.s 23)), Ze (.range 8) (.call 25 [] (.f n_laws_eqContainer) [.s 20, .s 24]), Ze (.range 9) (.un 26 .not (.s 25))] [0,1,5,26])
(.cond (.s 26) (.seq (pr [.mv 4 cF] [4])
.ret) .skip)))
(pr [.mv 15 (.s 5), .bin 16 false .add (.s 15) (ci 1), .mv 5 (.s 16)] [0,1,5]))))))
(.seq (pr [.mv 4 cT] [4])
.ret))))
theorem c_laws_eqContainerS (xs ys : List GContainer) : Ctr Tryz.prog n_laws_eqContainerS [aL 4 (xs.map GContainer.enc), aL 4 (ys.map GContainer.enc)] [rB (decide (xs = ys))] := by
 refine cA m_laws_eqContainerS 0 27 [(.tmp 4, [false])] Tryz.func145 rfl rfl ?_; unfold m_laws_eqContainerS
 intro hb
 simp only [bdA, bdL, bdT, bdR_map, roomB, and_true, List.length_map] at hb
 obtain ⟨⟨hl, -⟩, ⟨hl2, -⟩⟩ := hb
 simp only [↓reduceIte, reduceEqDiff, reduceLT, reduceCtorEq, go_sem]
 refine ⟨fun h => ne_len h, fun h => ?_⟩
 have hle : xs.length = ys.length := by omega
 refine loopK_rng xs (fun k => [(5, vI k)]) (fun k => []) (fun k => xs.take k = ys.take k) hl ?_
 simp only [↓reduceIte, reduceEqDiff, reduceCtorEq, go_sem]
 refine ⟨?_, rfl, ?_, ?_⟩
 ·simp only [↓reduceIte, reduceEqDiff, reduceLT, reduceCtorEq, go_sem]
 ·intro k x hx he h0 h1 hw
  obtain ⟨y, hy⟩ := at_some (show k < ys.length by omega)
  have h2 : (k : Int) < ys.length := by omega
  simp only [↓reduceIte, reduceEqDiff, reduceLT, reduceAdd, reduceCtorEq, go_sem, bk_eq hx, bk_eq hy, h0, h1, h2]
  refine callK_of (c_laws_eqContainer x y) ?_
  simp only [↓reduceIte, reduceEqDiff, reduceLT, reduceCtorEq, go_sem, hw]
  exact ⟨fun hn => ne_at hx hy hn, fun hn => (take_eq_step hx hy he).2 hn⟩
 ·intro he
  simp only [↓reduceIte, reduceEqDiff, reduceLT, reduceCtorEq, go_sem]
  exact eq_all he hle
def m_laws_toFound : MC :=
(.seq (pr [.box 1 0 (.s 0), .alloc 2 1 [pz, pz, pz, pz, pz, pz]] [1,2])
(.seq (pr [.alloc 3 2 [pz, pz, pz, pz, pz, pz]] [1,2,3])
(.seq (pr [.fld 4 (.s 1) 0, .load 5 true 3 (.s 4), .call 6 [] (.f n_laws_toAddress) [.s 5], .fld 7 (.s 3) 0, .store 3 (.s 7) (.s 6)] [1,2,3])
(.seq (pr [.fld 8 (.s 1) 3, .load 9 false 1 (.s 8), .fld 10 (.s 3) 3, .store 1 (.s 10) (.s 9)] [1,2,3])
(.seq (pr [.fld 11 (.s 1) 4, .load 12 false 1 (.s 11), .fld 13 (.s 3) 4, .store 1 (.s 13) (.s 12)] [1,2,3])
(.seq (pr [.fld 14 (.s 1) 5, .load 15 false 1 (.s 14), .fld 16 (.s 3) 5, .store 1 (.s 16) (.s 15)] [2,3])
(.seq (pr [.load 17 true 6 (.s 3), .store 6 (.s 2) (.s 17)] [2])
.ret)))))))
theorem c_laws_toFound (x : GFound) : Ctr Tryz.prog n_laws_toFound [aS x.enc] [rS x.enc] := by
 refine cA m_laws_toFound 3 18 [(.cell 2 true 6, [false, false, false, false, false, false])] Tryz.func199 rfl rfl ?_; unfold m_laws_toFound
 intro hb
 simp only [↓reduceIte, reduceEqDiff, reduceLT, reduceLeDiff, reduceAdd, go_sem]
 refine callK_of (c_laws_toAddress x.Address) ?_
 simp only [↓reduceIte, reduceEqDiff, reduceLT, reduceLeDiff, reduceAdd, reduceCtorEq, go_sem]
 try intros
def m_laws_eqFound : MC :=
(.seq (pr [.box 2 0 (.s 0), .box 3 1 (.s 1), .mv 4 cF] [2,3])
(.seq (.seq (pr [.fld 5 (.s 2) 0, .load 6 true 3 (.s 5), .fld 7 (.s 3) 0, .load 8 true 3 (.s 7), .call 9 [] (.f n_laws_eqAddress) [.s 6, .s 8], .un 10 .not (.s 9)] [2,3,10])
(.cond (.s 10) (.seq (pr [.mv 4 cF] [4])
.ret) .skip))
(.seq (.seq (pr [.fld 11 (.s 2) 3, .load 12 false 1 (.s 11), .fld 13 (.s 3) 3, .load 14 false 1 (.s 13), .bin 15 false .neq (.s 12) (.s 14)] [2,3,15])
(.cond (.s 15) (.seq (pr [.mv 4 cF] [4])
.ret) .skip))
(.seq (.seq (pr [.fld 16 (.s 2) 4, .load 17 false 1 (.s 16), .fld 18 (.s 3) 4, .load 19 false 1 (.s 18), .bin 20 false .neq (.s 17) (.s 19)] [2,3,20])
(.cond (.s 20) (.seq (pr [.mv 4 cF] [4])
.ret) .skip))
(.seq (.seq (pr [.fld 21 (.s 2) 5, .load 22 false 1 (.s 21), .fld 23 (.s 3) 5, .load 24 false 1 (.s 23), .bin 25 false .neq (.s 22) (.s 24)] [25])
(.cond (.s 25) (.seq (pr [.mv 4 cF] [4])
.ret) .skip))
(.seq (pr [.mv 4 cT] [4])
.ret))))))
theorem c_laws_eqFound (x y : GFound) : Ctr Tryz.prog n_laws_eqFound [aS x.enc, aS y.enc] [rB (decide (x = y))] := by
 refine cA m_laws_eqFound 2 26 [(.tmp 4, [false])] Tryz.func203 rfl rfl ?_; unfold m_laws_eqFound
 intro hb
 clear hb
 simp only [↓reduceIte, reduceEqDiff, reduceLT, reduceLeDiff, reduceAdd, reduceCtorEq, go_sem]
 refine callK_of (c_laws_eqAddress x.Address y.Address) ?_
 simp only [↓reduceIte, reduceEqDiff, reduceLT, reduceLeDiff, reduceAdd, reduceCtorEq, go_sem]
 refine ⟨fun h => ?_, fun h_Address => ?_⟩
 ·symm
  rw [decide_eq_false_iff_not]
  rintro rfl
  exact h rfl
 refine ⟨fun h => ?_, fun h_Tick => ?_⟩
 ·symm
  rw [decide_eq_false_iff_not]
  rintro rfl
  exact h rfl
 refine ⟨fun h => ?_, fun h_Container => ?_⟩
 ·symm
  rw [decide_eq_false_iff_not]
  rintro rfl
  exact h rfl
 refine ⟨fun h => ?_, fun h_At => ?_⟩
 ·symm
  rw [decide_eq_false_iff_not]
  rintro rfl
  exact h rfl
 cases x; cases y; simp_all
def m_laws_szFoundS : MC :=
(.seq (pr [.mv 4 (ci 0)] [0,1])
(.seq (pr [.mv 5 (.s 1), .mv 6 (.s 0), .len 7 false (.s 6), .bin 8 false .sub (.s 5) (.s 7), .mv 1 (.s 8)] [1])
(.seq (.seq (pr [.mv 9 (.s 1), .bin 10 false .lss (.s 9) (ci 0)] [1,10])
(.cond (.s 10) (.seq (pr [.mv 4 (.c (.int .i64 (-1)))] [4])
.ret) .skip))
(.seq (pr [.mv 11 (.s 1), .mv 4 (.s 11)] [4])
.ret))))
theorem c_laws_szFoundS (xs : List GFound) (left : Int) (h0 : 0 ≤ left) : Ctr Tryz.prog n_laws_szFoundS [aL 6 (xs.map GFound.enc), aI left] [rI (szr xs.length left)] := by
 refine cA m_laws_szFoundS 0 12 [(.tmp 4, [false])] Tryz.func124 rfl rfl ?_; unfold m_laws_szFoundS
 intro hb
 simp only [bdA, bdL, bdT, bdR_map, wfB_i64, roomB, and_true, List.length_map] at hb
 obtain ⟨⟨hl, -⟩, hn⟩ := hb
 simp only [↓reduceIte, reduceEqDiff, reduceLT, reduceCtorEq, go_sem]
 rw [wI (by omega) (by omega)]
 unfold szr
 refine ⟨fun h => ?_, fun h => ?_⟩
 ·rw [if_neg (by omega)]
 ·rw [if_pos (by omega)]
def m_laws_toFoundS : MC :=
(.seq (pr [.nilo 2 0 6] [0])
(.seq (pr [.mv 5 (.s 0), .len 6 false (.s 5), .mk 7 0 6 48 [.sc (.int .i64 0), .sc (.int .i64 0), .sc (.int .i64 0), .sc (.int .i64 0), .sc (.int .i64 0), .sc (.int .i64 0)] (.s 6), .mv 3 (.s 7)] [0,3])
(.seq (.seq (pr [.mv 4 (ci 0)] [0,3,4])
(.block 0 (.loop ([0,3,4], []) (.seq (.seq (pr [.mv 8 (.s 4), .mv 9 (.s 0), .len 10 false (.s 9), .bin 11 false .lss (.s 8) (.s 10)] [0,3,4,11])
(.cond (.s 11) .skip (.exit 0)))
(.seq (.block 1 (pr [.mv 14 (.s 3), .mv 15 (.s 4), .mv 16 (.s 0), .mv 17 (.s 4), .idx 18 6 (.s 16) (.s 17), .load 19 true 6 (.s 18), .call 20 [] (.f n_laws_toFound) [.s 19], .idx 21 6 (.s 14) (.s 15), .store 6 (.s 21) (.s 20)] [0,3,4]))
(pr [.mv 12 (.s 4), .bin 13 false .add (.s 12) (ci 1), .mv 4 (.s 13)] [0,3,4]))))))
(.seq (pr [.mv 22 (.s 3), .mv 2 (.s 22)] [2])
.ret))))
theorem c_laws_toFoundS (xs : List GFound) (hs : xs.length ≤ 1073741824) : Ctr Tryz.prog n_laws_toFoundS [aL 6 (xs.map GFound.enc)] [rL 6 (xs.map GFound.enc)] := by
 refine cA m_laws_toFoundS 1 23 [(.tmp 2, [true])] Tryz.func131 rfl rfl ?_; unfold m_laws_toFoundS
 intro hb
 simp only [↓reduceIte, reduceEqDiff, reduceLT, reduceAdd, reduceCtorEq, go_sem]
 refine ⟨⟨by omega, by simp only [roomB]; omega⟩, ?_⟩
 refine loopK_rng xs (fun k => [(4, vI k)]) (fun k => [(0, ⟨0, .row true 6 (filled GFound.enc [tI 0, tI 0, tI 0, tI 0, tI 0, tI 0] xs k)⟩)]) (fun _ => True) (by simp only [roomB]; omega) ?_
 simp only [↓reduceIte, reduceEqDiff, reduceCtorEq, go_sem]
 refine ⟨?_, trivial, ?_, ?_⟩
 ·simp only [↓reduceIte, reduceEqDiff, reduceLT, reduceCtorEq, go_sem, filled_zero]
  all_goals rfl
 ·intro k x hx _ h0 h1 hw
  have h : k < xs.length := by omega
  simp only [↓reduceIte, reduceEqDiff, reduceLT, reduceAdd, reduceCtorEq, go_sem, bk_eq hx, h0, h1]
  refine callK_of (c_laws_toFound x) ?_
  simp only [↓reduceIte, reduceEqDiff, reduceLT, reduceAdd, reduceCtorEq, go_sem, bk_eq (filled_get h), filled_len (Nat.le_of_lt h), h0, h1, hw]
  intros; exact filled_set hx
 ·intro _
  simp only [↓reduceIte, reduceEqDiff, reduceLT, reduceCtorEq, go_sem, filled_all]
def m_laws_eqFoundS : MC :=
(.seq (pr [.mv 4 cF] [0,1])
(.seq (.seq (pr [.mv 6 (.s 0), .len 7 false (.s 6), .mv 8 (.s 1), .len 9 false (.s 8), .bin 10 false .neq (.s 7) (.s 9)] [0,1,10])
(.cond (.s 10) (.seq (pr [.mv 4 cF] [4])
.ret) .skip))
(.seq (.seq (pr [.mv 5 (ci 0)] [0,1,5])
(.block 0 (.loop ([0,1,5], []) (.seq (.seq (pr [.mv 11 (.s 5), .mv 12 (.s 0), .len 13 false (.s 12), .bin 14 false .lss (.s 11) (.s 13)] [0,1,5,14])
(.cond (.s 14) .skip (.exit 0)))
(.seq (.block 1 (.seq (.dreg [Zc [18,21,22,23,24] (.mv 17 (.s 0)), Zc [17,21,22,23,24] (.mv 18 (.s 5)), Zd [21,22,23,24] [0,1] (.idx 19 6 (.s 17) (.s 18)), Zd [21,22,23,24] [0,1,2] (.load 20 true 6 (.s 19)), Zc [17,18,19,20,22] (.mv 21 (.s 1)), Zc [17,18,19,20,21] (.mv 22 (.s 5)), Zd [17,18,19,20] [4,5] (.idx 23 6 (.s 21) (.s 22)), Zd [17,18,19,20] [4,5,6] (.load 24 true 6 (.s 23)), Ze (.range 8) (.call 25 [] (.f n_laws_eqFound) [.s 20, .s 24]), Ze (.range 9) (.un 26 .not (.s 25))] [0,1,5,26])
(.cond (.s 26) (.seq (pr [.mv 4 cF] [4])
.ret) .skip)))
(pr [.mv 15 (.s 5), .bin 16 false .add (.s 15) (ci 1), .mv 5 (.s 16)] [0,1,5]))))))
(.seq (pr [.mv 4 cT] [4])
.ret))))
theorem c_laws_eqFoundS (xs ys : List GFound) : Ctr Tryz.prog n_laws_eqFoundS [aL 6 (xs.map GFound.enc), aL 6 (ys.map GFound.enc)] [rB (decide (xs = ys))] := by
 refine cA m_laws_eqFoundS 0 27 [(.tmp 4, [false])] Tryz.func146 rfl rfl ?_; unfold m_laws_eqFoundS
 intro hb
 simp only [bdA, bdL, bdT, bdR_map, roomB, and_true, List.length_map] at hb
 obtain ⟨⟨hl, -⟩, ⟨hl2, -⟩⟩ := hb
 simp only [↓reduceIte, reduceEqDiff, reduceLT, reduceCtorEq, go_sem]
 refine ⟨fun h => ne_len h, fun h => ?_⟩
 have hle : xs.length = ys.length := by omega
 refine loopK_rng xs (fun k => [(5, vI k)]) (fun k => []) (fun k => xs.take k = ys.take k) hl ?_
 simp only [↓reduceIte, reduceEqDiff, reduceCtorEq, go_sem]
 refine ⟨?_, rfl, ?_, ?_⟩
 ·simp only [↓reduceIte, reduceEqDiff, reduceLT, reduceCtorEq, go_sem]
 ·intro k x hx he h0 h1 hw
  obtain ⟨y, hy⟩ := at_some (show k < ys.length by omega)
  have h2 : (k : Int) < ys.length := by omega
  simp only [↓reduceIte, reduceEqDiff, reduceLT, reduceAdd, reduceCtorEq, go_sem, bk_eq hx, bk_eq hy, h0, h1, h2]
  refine callK_of (c_laws_eqFound x y) ?_
  simp only [↓reduceIte, reduceEqDiff, reduceLT, reduceCtorEq, go_sem, hw]
  exact ⟨fun hn => ne_at hx hy hn, fun hn => (take_eq_step hx hy he).2 hn⟩
 ·intro he
  simp only [↓reduceIte, reduceEqDiff, reduceLT, reduceCtorEq, go_sem]
  exact eq_all he hle
def m_laws_szDisk : MC :=
(.seq (pr [.box 2 0 (.s 0), .mv 4 (ci 0)] [1,2])
(.seq (pr [.fld 5 (.s 2) 0, .load 6 false 1 (.s 5), .mv 7 (.s 1), .call 8 [] (.f n_laws_szContainerS) [.s 6, .s 7], .mv 1 (.s 8)] [1,2])
(.seq (.seq (pr [.mv 9 (.s 1), .bin 10 false .lss (.s 9) (ci 0)] [1,2,10])
(.cond (.s 10) (.seq (pr [.mv 4 (.c (.int .i64 (-1)))] [4])
.ret) .skip))
(.seq (pr [.fld 11 (.s 2) 1, .load 12 false 1 (.s 11), .mv 13 (.s 1), .call 14 [] (.f n_laws_szFoundS) [.s 12, .s 13], .mv 1 (.s 14)] [1,2])
(.seq (.seq (pr [.mv 15 (.s 1), .bin 16 false .lss (.s 15) (ci 0)] [1,2,16])
(.cond (.s 16) (.seq (pr [.mv 4 (.c (.int .i64 (-1)))] [4])
.ret) .skip))
(.seq (pr [.fld 17 (.s 2) 2, .load 18 false 1 (.s 17), .mv 19 (.s 1), .call 20 [] (.f n_laws_szContainerS) [.s 18, .s 19], .mv 1 (.s 20)] [1])
(.seq (.seq (pr [.mv 21 (.s 1), .bin 22 false .lss (.s 21) (ci 0)] [1,22])
(.cond (.s 22) (.seq (pr [.mv 4 (.c (.int .i64 (-1)))] [4])
.ret) .skip))
(.seq (pr [.mv 23 (.s 1), .mv 4 (.s 23)] [4])
.ret))))))))
theorem c_laws_szDisk (x : GDisk) (left : Int) (h0 : 0 ≤ left) : Ctr Tryz.prog n_laws_szDisk [aS x.enc, aI left] [rI (szr x.size left)] := by
 refine cA m_laws_szDisk 1 24 [(.tmp 4, [false])] Tryz.func55 rfl rfl ?_; unfold m_laws_szDisk
 intro hb
 simp only [↓reduceIte, reduceEqDiff, reduceLT, reduceLeDiff, reduceAdd, reduceCtorEq, go_sem]
 refine callK_of (c_laws_szContainerS x.Containers left h0) ?_
 simp only [↓reduceIte, reduceEqDiff, reduceLT, reduceLeDiff, reduceAdd, reduceCtorEq, go_sem]
 intro _
 refine ⟨fun h => szr_bad' h0 h (by simp only [GDisk.size]; omega), fun h1 => ?_⟩
 obtain ⟨a1, b1, e1⟩ := szr_add (m := x.Index.length) h0 h1
 refine callK_of (c_laws_szFoundS x.Index _ a1) ?_
 rw [← e1]
 simp only [↓reduceIte, reduceEqDiff, reduceLT, reduceAdd, reduceCtorEq, go_sem]
 intro _
 refine ⟨fun h => szr_bad' h0 h (by simp only [GDisk.size]; omega), fun h2 => ?_⟩
 obtain ⟨a2, b2, e2⟩ := szr_add (m := x.Wanted.length + (x.Wanted.map GContainer.size).sum) h0 h2
 refine callK_of (c_laws_szContainerS x.Wanted _ a2) ?_
 rw [← e2]
 simp only [↓reduceIte, reduceEqDiff, reduceLT, reduceCtorEq, go_sem]
 intro _
 refine ⟨fun h => szr_bad' h0 h (by simp only [GDisk.size]; omega), fun h3 => ?_⟩
 rfl
def m_laws_toDisk : MC :=
(.seq (pr [.box 1 0 (.s 0), .alloc 2 1 [.emp 4, .emp 6, .emp 4]] [1,2])
(.seq (pr [.alloc 3 2 [.emp 4, .emp 6, .emp 4]] [1,2,3])
(.seq (pr [.fld 4 (.s 1) 0, .load 5 false 1 (.s 4), .call 6 [3] (.f n_laws_toContainerS) [.s 5], .fld 7 (.s 3) 0, .store 1 (.s 7) (.s 6)] [1,2,3])
(.seq (pr [.fld 8 (.s 1) 1, .load 9 false 1 (.s 8), .call 10 [4] (.f n_laws_toFoundS) [.s 9], .fld 11 (.s 3) 1, .store 1 (.s 11) (.s 10)] [1,2,3])
(.seq (pr [.fld 12 (.s 1) 2, .load 13 false 1 (.s 12), .call 14 [5] (.f n_laws_toContainerS) [.s 13], .fld 15 (.s 3) 2, .store 1 (.s 15) (.s 14)] [2,3])
(.seq (pr [.load 16 true 3 (.s 3), .store 3 (.s 2) (.s 16)] [2])
.ret))))))
theorem c_laws_toDisk (x : GDisk) (hs : x.size ≤ 1073741824) : Ctr Tryz.prog n_laws_toDisk [aS x.enc] [rS x.enc] := by
 refine cA m_laws_toDisk 6 17 [(.cell 2 true 3, [true, true, true])] Tryz.func63 rfl rfl ?_; unfold m_laws_toDisk
 intro hb
 simp only [GDisk.size] at hs
 simp only [↓reduceIte, reduceEqDiff, reduceLT, reduceLeDiff, reduceAdd, reduceCtorEq, go_sem]
 refine callK_of (c_laws_toContainerS x.Containers (by omega)) ?_
 simp only [↓reduceIte, reduceEqDiff, reduceLT, reduceLeDiff, reduceAdd, reduceCtorEq, go_sem]
 try intros
 refine callK_of (c_laws_toFoundS x.Index (by omega)) ?_
 simp only [↓reduceIte, reduceEqDiff, reduceLT, reduceLeDiff, reduceAdd, reduceCtorEq, go_sem]
 try intros
 refine callK_of (c_laws_toContainerS x.Wanted (by omega)) ?_
 simp only [↓reduceIte, reduceEqDiff, reduceLT, reduceAdd, reduceCtorEq, go_sem]
 try intros
def m_laws_eqDisk : MC :=
(.seq (pr [.box 2 0 (.s 0), .box 3 1 (.s 1), .mv 4 cF] [2,3])
(.seq (.seq (pr [.fld 5 (.s 2) 0, .load 6 false 1 (.s 5), .fld 7 (.s 3) 0, .load 8 false 1 (.s 7), .call 9 [] (.f n_laws_eqContainerS) [.s 6, .s 8], .un 10 .not (.s 9)] [2,3,10])
(.cond (.s 10) (.seq (pr [.mv 4 cF] [4])
.ret) .skip))
(.seq (.seq (pr [.fld 11 (.s 2) 1, .load 12 false 1 (.s 11), .fld 13 (.s 3) 1, .load 14 false 1 (.s 13), .call 15 [] (.f n_laws_eqFoundS) [.s 12, .s 14], .un 16 .not (.s 15)] [2,3,16])
(.cond (.s 16) (.seq (pr [.mv 4 cF] [4])
.ret) .skip))
(.seq (.seq (pr [.fld 17 (.s 2) 2, .load 18 false 1 (.s 17), .fld 19 (.s 3) 2, .load 20 false 1 (.s 19), .call 21 [] (.f n_laws_eqContainerS) [.s 18, .s 20], .un 22 .not (.s 21)] [22])
(.cond (.s 22) (.seq (pr [.mv 4 cF] [4])
.ret) .skip))
(.seq (pr [.mv 4 cT] [4])
.ret)))))
theorem c_laws_eqDisk (x y : GDisk) : Ctr Tryz.prog n_laws_eqDisk [aS x.enc, aS y.enc] [rB (decide (x = y))] := by
 refine cA m_laws_eqDisk 2 23 [(.tmp 4, [false])] Tryz.func70 rfl rfl ?_; unfold m_laws_eqDisk
 intro hb
 clear hb
 simp only [↓reduceIte, reduceEqDiff, reduceLT, reduceLeDiff, reduceAdd, reduceCtorEq, go_sem]
 refine callK_of (c_laws_eqContainerS x.Containers y.Containers) ?_
 simp only [↓reduceIte, reduceEqDiff, reduceLT, reduceLeDiff, reduceAdd, reduceCtorEq, go_sem]
 refine ⟨fun h => ?_, fun h_Containers => ?_⟩
 ·symm
  rw [decide_eq_false_iff_not]
  rintro rfl
  exact h rfl
 refine callK_of (c_laws_eqFoundS x.Index y.Index) ?_
 simp only [↓reduceIte, reduceEqDiff, reduceLT, reduceAdd, reduceCtorEq, go_sem]
 refine ⟨fun h => ?_, fun h_Index => ?_⟩
 ·symm
  rw [decide_eq_false_iff_not]
  rintro rfl
  exact h rfl
 refine callK_of (c_laws_eqContainerS x.Wanted y.Wanted) ?_
 simp only [↓reduceIte, reduceEqDiff, reduceLT, go_sem]
 refine ⟨fun h => ?_, fun h_Wanted => ?_⟩
 ·symm
  rw [decide_eq_false_iff_not]
  rintro rfl
  exact h rfl
 cases x; cases y; simp_all
def m_laws_szArchive : MC :=
(.seq (pr [.box 2 0 (.s 0), .mv 4 (ci 0)] [1,2])
(.seq (pr [.fld 5 (.s 2) 0, .load 6 false 1 (.s 5), .mv 7 (.s 1), .call 8 [] (.f n_laws_szVersionS) [.s 6, .s 7], .mv 1 (.s 8)] [1,2])
(.seq (.seq (pr [.mv 9 (.s 1), .bin 10 false .lss (.s 9) (ci 0)] [1,2,10])
(.cond (.s 10) (.seq (pr [.mv 4 (.c (.int .i64 (-1)))] [4])
.ret) .skip))
(.seq (pr [.fld 11 (.s 2) 1, .load 12 false 1 (.s 11), .mv 13 (.s 1), .call 14 [] (.f n_laws_szOpS) [.s 12, .s 13], .mv 1 (.s 14)] [1,2])
(.seq (.seq (pr [.mv 15 (.s 1), .bin 16 false .lss (.s 15) (ci 0)] [1,2,16])
(.cond (.s 16) (.seq (pr [.mv 4 (.c (.int .i64 (-1)))] [4])
.ret) .skip))
(.seq (pr [.fld 17 (.s 2) 2, .load 18 true 3 (.s 17), .mv 19 (.s 1), .call 20 [] (.f n_laws_szDisk) [.s 18, .s 19], .mv 1 (.s 20)] [1,2])
(.seq (.seq (pr [.mv 21 (.s 1), .bin 22 false .lss (.s 21) (ci 0)] [1,2,22])
(.cond (.s 22) (.seq (pr [.mv 4 (.c (.int .i64 (-1)))] [4])
.ret) .skip))
(.seq (pr [.fld 23 (.s 2) 5, .load 24 false 1 (.s 23), .mv 25 (.s 1), .call 26 [] (.f n_laws_szExclusionS) [.s 24, .s 25], .mv 1 (.s 26)] [1,2])
(.seq (.seq (pr [.mv 27 (.s 1), .bin 28 false .lss (.s 27) (ci 0)] [1,2,28])
(.cond (.s 28) (.seq (pr [.mv 4 (.c (.int .i64 (-1)))] [4])
.ret) .skip))
(.seq (pr [.fld 29 (.s 2) 6, .load 30 false 1 (.s 29), .mv 31 (.s 1), .call 32 [] (.f n_laws_szLibraryS) [.s 30, .s 31], .mv 1 (.s 32)] [1,2])
(.seq (.seq (pr [.mv 33 (.s 1), .bin 34 false .lss (.s 33) (ci 0)] [1,2,34])
(.cond (.s 34) (.seq (pr [.mv 4 (.c (.int .i64 (-1)))] [4])
.ret) .skip))
(.seq (pr [.fld 35 (.s 2) 7, .load 36 false 1 (.s 35), .mv 37 (.s 1), .call 38 [] (.f n_laws_szIntS) [.s 36, .s 37], .mv 1 (.s 38)] [1,2])
(.seq (.seq (pr [.mv 39 (.s 1), .bin 40 false .lss (.s 39) (ci 0)] [1,2,40])
(.cond (.s 40) (.seq (pr [.mv 4 (.c (.int .i64 (-1)))] [4])
.ret) .skip))
(.seq (pr [.fld 41 (.s 2) 8, .load 42 false 1 (.s 41), .mv 43 (.s 1), .call 44 [] (.f n_laws_szStatementS) [.s 42, .s 43], .mv 1 (.s 44)] [1])
(.seq (.seq (pr [.mv 45 (.s 1), .bin 46 false .lss (.s 45) (ci 0)] [1,46])
(.cond (.s 46) (.seq (pr [.mv 4 (.c (.int .i64 (-1)))] [4])
.ret) .skip))
(.seq (pr [.mv 47 (.s 1), .mv 4 (.s 47)] [4])
.ret))))))))))))))))
theorem c_laws_szArchive (x : GArchive) (left : Int) (h0 : 0 ≤ left) : Ctr Tryz.prog n_laws_szArchive [aS x.enc, aI left] [rI (szr x.size left)] := by
 refine cA m_laws_szArchive 1 48 [(.tmp 4, [false])] Tryz.func11 rfl rfl ?_; unfold m_laws_szArchive
 intro hb
 simp only [↓reduceIte, reduceEqDiff, reduceLT, reduceLeDiff, reduceAdd, reduceCtorEq, go_sem]
 refine callK_of (c_laws_szVersionS x.Site left h0) ?_
 simp only [↓reduceIte, reduceEqDiff, reduceLT, reduceLeDiff, reduceAdd, reduceCtorEq, go_sem]
 intro _
 refine ⟨fun h => szr_bad' h0 h (by simp only [GArchive.size]; omega), fun h1 => ?_⟩
 obtain ⟨a1, b1, e1⟩ := szr_add (m := x.Script.length) h0 h1
 refine callK_of (c_laws_szOpS x.Script _ a1) ?_
 rw [← e1]
 simp only [↓reduceIte, reduceEqDiff, reduceLT, reduceLeDiff, reduceAdd, reduceCtorEq, go_sem]
 intro _
 refine ⟨fun h => szr_bad' h0 h (by simp only [GArchive.size]; omega), fun h2 => ?_⟩
 obtain ⟨a2, b2, e2⟩ := szr_add (m := x.Disk.size) h0 h2
 refine callK_of (c_laws_szDisk x.Disk _ a2) ?_
 rw [← e2]
 simp only [↓reduceIte, reduceEqDiff, reduceLT, reduceLeDiff, reduceAdd, reduceCtorEq, go_sem]
 intro _
 refine ⟨fun h => szr_bad' h0 h (by simp only [GArchive.size]; omega), fun h3 => ?_⟩
 obtain ⟨a3, b3, e3⟩ := szr_add (m := x.Exclusions.length) h0 h3
 refine callK_of (c_laws_szExclusionS x.Exclusions _ a3) ?_
 rw [← e3]
 simp only [↓reduceIte, reduceEqDiff, reduceLT, reduceLeDiff, reduceAdd, reduceCtorEq, go_sem]
 intro _
 refine ⟨fun h => szr_bad' h0 h (by simp only [GArchive.size]; omega), fun h4 => ?_⟩
 obtain ⟨a4, b4, e4⟩ := szr_add (m := x.Libraries.length + (x.Libraries.map GLibrary.size).sum) h0 h4
 refine callK_of (c_laws_szLibraryS x.Libraries _ a4) ?_
 rw [← e4]
 simp only [↓reduceIte, reduceEqDiff, reduceLT, reduceLeDiff, reduceAdd, reduceCtorEq, go_sem]
 intro _
 refine ⟨fun h => szr_bad' h0 h (by simp only [GArchive.size]; omega), fun h5 => ?_⟩
 obtain ⟨a5, b5, e5⟩ := szr_add (m := x.Keys.length) h0 h5
 refine callK_of (c_laws_szIntS x.Keys _ a5) ?_
 rw [← e5]
 simp only [↓reduceIte, reduceEqDiff, reduceLT, reduceLeDiff, reduceAdd, reduceCtorEq, go_sem]
 intro _
 refine ⟨fun h => szr_bad' h0 h (by simp only [GArchive.size]; omega), fun h6 => ?_⟩
 obtain ⟨a6, b6, e6⟩ := szr_add (m := x.Statements.length) h0 h6
 refine callK_of (c_laws_szStatementS x.Statements _ a6) ?_
 rw [← e6]
 simp only [↓reduceIte, reduceEqDiff, reduceLT, reduceCtorEq, go_sem]
 intro _
 refine ⟨fun h => szr_bad' h0 h (by simp only [GArchive.size]; omega), fun h7 => ?_⟩
 rfl
def m_laws_toArchive : MC :=
(.seq (pr [.box 1 0 (.s 0), .alloc 2 1 [.emp 9, .emp 4, .emp 4, .emp 6, .emp 4, .emp 5, .emp 4, .emp 1, .emp 4, pz]] [1,2])
(.seq (pr [.alloc 3 2 [.emp 9, .emp 4, .emp 4, .emp 6, .emp 4, .emp 5, .emp 4, .emp 1, .emp 4, pz]] [1,2,3])
(.seq (pr [.fld 4 (.s 1) 0, .load 5 false 1 (.s 4), .call 6 [3] (.f n_laws_toVersionS) [.s 5], .fld 7 (.s 3) 0, .store 1 (.s 7) (.s 6)] [1,2,3])
(.seq (pr [.fld 8 (.s 1) 1, .load 9 false 1 (.s 8), .call 10 [4] (.f n_laws_toOpS) [.s 9], .fld 11 (.s 3) 1, .store 1 (.s 11) (.s 10)] [1,2,3])
(.seq (pr [.fld 12 (.s 1) 2, .load 13 true 3 (.s 12), .call 14 [5, 6, 7] (.f n_laws_toDisk) [.s 13], .fld 15 (.s 3) 2, .store 3 (.s 15) (.s 14)] [1,2,3])
(.seq (pr [.fld 16 (.s 1) 5, .load 17 false 1 (.s 16), .call 18 [8] (.f n_laws_toExclusionS) [.s 17], .fld 19 (.s 3) 5, .store 1 (.s 19) (.s 18)] [1,2,3])
(.seq (pr [.fld 20 (.s 1) 6, .load 21 false 1 (.s 20), .call 22 [9] (.f n_laws_toLibraryS) [.s 21], .fld 23 (.s 3) 6, .store 1 (.s 23) (.s 22)] [1,2,3])
(.seq (pr [.fld 24 (.s 1) 7, .load 25 false 1 (.s 24), .call 26 [10] (.f n_laws_toIntS) [.s 25], .fld 27 (.s 3) 7, .store 1 (.s 27) (.s 26)] [1,2,3])
(.seq (pr [.fld 28 (.s 1) 8, .load 29 false 1 (.s 28), .call 30 [11] (.f n_laws_toStatementS) [.s 29], .fld 31 (.s 3) 8, .store 1 (.s 31) (.s 30)] [1,2,3])
(.seq (pr [.fld 32 (.s 1) 9, .load 33 false 1 (.s 32), .fld 34 (.s 3) 9, .store 1 (.s 34) (.s 33)] [2,3])
(.seq (pr [.load 35 true 10 (.s 3), .store 10 (.s 2) (.s 35)] [2])
.ret)))))))))))
theorem c_laws_toArchive (x : GArchive) (hs : x.size ≤ 1073741824) : Ctr Tryz.prog n_laws_toArchive [aS x.enc] [rS x.enc] := by
 refine cA m_laws_toArchive 12 36 [(.cell 2 true 10, [true, true, true, true, true, true, true, true, true, false])] Tryz.func14 rfl rfl ?_; unfold m_laws_toArchive
 intro hb
 simp only [GArchive.size] at hs
 simp only [↓reduceIte, reduceEqDiff, reduceLT, reduceLeDiff, reduceAdd, reduceCtorEq, go_sem]
 refine callK_of (c_laws_toVersionS x.Site (by omega)) ?_
 simp only [↓reduceIte, reduceEqDiff, reduceLT, reduceLeDiff, reduceAdd, reduceCtorEq, go_sem]
 try intros
 refine callK_of (c_laws_toOpS x.Script (by omega)) ?_
 simp only [↓reduceIte, reduceEqDiff, reduceLT, reduceLeDiff, reduceAdd, reduceCtorEq, go_sem]
 try intros
 refine callK_of (c_laws_toDisk x.Disk (by omega)) ?_
 simp only [↓reduceIte, reduceEqDiff, reduceLT, reduceLeDiff, reduceAdd, reduceCtorEq, go_sem]
 try intros
 refine callK_of (c_laws_toExclusionS x.Exclusions (by omega)) ?_
 simp only [↓reduceIte, reduceEqDiff, reduceLT, reduceLeDiff, reduceAdd, reduceCtorEq, go_sem]
 try intros
 refine callK_of (c_laws_toLibraryS x.Libraries (by omega)) ?_
 simp only [↓reduceIte, reduceEqDiff, reduceLT, reduceLeDiff, reduceAdd, reduceCtorEq, go_sem]
 try intros
 refine callK_of (c_laws_toIntS x.Keys (by omega)) ?_
 simp only [↓reduceIte, reduceEqDiff, reduceLT, reduceLeDiff, reduceAdd, reduceCtorEq, go_sem]
 try intros
 refine callK_of (c_laws_toStatementS x.Statements (by omega)) ?_
 simp only [↓reduceIte, reduceEqDiff, reduceLT, reduceLeDiff, reduceAdd, reduceCtorEq, go_sem]
 try intros
def m_laws_eqArchive : MC :=
(.seq (pr [.box 2 0 (.s 0), .box 3 1 (.s 1), .mv 4 cF] [2,3])
(.seq (.seq (pr [.fld 5 (.s 2) 0, .load 6 false 1 (.s 5), .fld 7 (.s 3) 0, .load 8 false 1 (.s 7), .call 9 [] (.f n_laws_eqVersionS) [.s 6, .s 8], .un 10 .not (.s 9)] [2,3,10])
(.cond (.s 10) (.seq (pr [.mv 4 cF] [4])
.ret) .skip))
(.seq (.seq (pr [.fld 11 (.s 2) 1, .load 12 false 1 (.s 11), .fld 13 (.s 3) 1, .load 14 false 1 (.s 13), .call 15 [] (.f n_laws_eqOpS) [.s 12, .s 14], .un 16 .not (.s 15)] [2,3,16])
(.cond (.s 16) (.seq (pr [.mv 4 cF] [4])
.ret) .skip))
(.seq (.seq (pr [.fld 17 (.s 2) 2, .load 18 true 3 (.s 17), .fld 19 (.s 3) 2, .load 20 true 3 (.s 19), .call 21 [] (.f n_laws_eqDisk) [.s 18, .s 20], .un 22 .not (.s 21)] [2,3,22])
(.cond (.s 22) (.seq (pr [.mv 4 cF] [4])
.ret) .skip))
(.seq (.seq (pr [.fld 23 (.s 2) 5, .load 24 false 1 (.s 23), .fld 25 (.s 3) 5, .load 26 false 1 (.s 25), .call 27 [] (.f n_laws_eqExclusionS) [.s 24, .s 26], .un 28 .not (.s 27)] [2,3,28])
(.cond (.s 28) (.seq (pr [.mv 4 cF] [4])
.ret) .skip))
(.seq (.seq (pr [.fld 29 (.s 2) 6, .load 30 false 1 (.s 29), .fld 31 (.s 3) 6, .load 32 false 1 (.s 31), .call 33 [] (.f n_laws_eqLibraryS) [.s 30, .s 32], .un 34 .not (.s 33)] [2,3,34])
(.cond (.s 34) (.seq (pr [.mv 4 cF] [4])
.ret) .skip))
(.seq (.seq (pr [.fld 35 (.s 2) 7, .load 36 false 1 (.s 35), .fld 37 (.s 3) 7, .load 38 false 1 (.s 37), .call 39 [] (.f n_laws_eqIntS) [.s 36, .s 38], .un 40 .not (.s 39)] [2,3,40])
(.cond (.s 40) (.seq (pr [.mv 4 cF] [4])
.ret) .skip))
(.seq (.seq (pr [.fld 41 (.s 2) 8, .load 42 false 1 (.s 41), .fld 43 (.s 3) 8, .load 44 false 1 (.s 43), .call 45 [] (.f n_laws_eqStatementS) [.s 42, .s 44], .un 46 .not (.s 45)] [2,3,46])
(.cond (.s 46) (.seq (pr [.mv 4 cF] [4])
.ret) .skip))
(.seq (.seq (pr [.fld 47 (.s 2) 9, .load 48 false 1 (.s 47), .fld 49 (.s 3) 9, .load 50 false 1 (.s 49), .bin 51 false .neq (.s 48) (.s 50)] [51])
(.cond (.s 51) (.seq (pr [.mv 4 cF] [4])
.ret) .skip))
(.seq (pr [.mv 4 cT] [4])
.ret))))))))))
theorem c_laws_eqArchive (x y : GArchive) : Ctr Tryz.prog n_laws_eqArchive [aS x.enc, aS y.enc] [rB (decide (x = y))] := by
 refine cA m_laws_eqArchive 2 52 [(.tmp 4, [false])] Tryz.func17 rfl rfl ?_; unfold m_laws_eqArchive
 intro hb
 clear hb
 simp only [↓reduceIte, reduceEqDiff, reduceLT, reduceLeDiff, reduceAdd, reduceCtorEq, go_sem]
 refine callK_of (c_laws_eqVersionS x.Site y.Site) ?_
 simp only [↓reduceIte, reduceEqDiff, reduceLT, reduceLeDiff, reduceAdd, reduceCtorEq, go_sem]
 refine ⟨fun h => ?_, fun h_Site => ?_⟩
 ·symm
  rw [decide_eq_false_iff_not]
  rintro rfl
  exact h rfl
 refine callK_of (c_laws_eqOpS x.Script y.Script) ?_
 simp only [↓reduceIte, reduceEqDiff, reduceLT, reduceLeDiff, reduceAdd, go_sem]
 refine ⟨fun h => ?_, fun h_Script => ?_⟩
 ·symm
  rw [decide_eq_false_iff_not]
  rintro rfl
  exact h rfl
 refine callK_of (c_laws_eqDisk x.Disk y.Disk) ?_
 simp only [↓reduceIte, reduceEqDiff, reduceLT, reduceLeDiff, reduceAdd, reduceCtorEq, go_sem]
 refine ⟨fun h => ?_, fun h_Disk => ?_⟩
 ·symm
  rw [decide_eq_false_iff_not]
  rintro rfl
  exact h rfl
 refine callK_of (c_laws_eqExclusionS x.Exclusions y.Exclusions) ?_
 simp only [↓reduceIte, reduceEqDiff, reduceLT, reduceLeDiff, reduceAdd, reduceCtorEq, go_sem]
 refine ⟨fun h => ?_, fun h_Exclusions => ?_⟩
 ·symm
  rw [decide_eq_false_iff_not]
  rintro rfl
  exact h rfl
 refine callK_of (c_laws_eqLibraryS x.Libraries y.Libraries) ?_
 simp only [↓reduceIte, reduceEqDiff, reduceLT, reduceLeDiff, reduceAdd, reduceCtorEq, go_sem]
 refine ⟨fun h => ?_, fun h_Libraries => ?_⟩
 ·symm
  rw [decide_eq_false_iff_not]
  rintro rfl
  exact h rfl
 refine callK_of (c_laws_eqIntS x.Keys y.Keys) ?_
 simp only [↓reduceIte, reduceEqDiff, reduceLT, reduceLeDiff, reduceAdd, reduceCtorEq, go_sem]
 refine ⟨fun h => ?_, fun h_Keys => ?_⟩
 ·symm
  rw [decide_eq_false_iff_not]
  rintro rfl
  exact h rfl
 refine callK_of (c_laws_eqStatementS x.Statements y.Statements) ?_
 simp only [↓reduceIte, reduceEqDiff, reduceLT, reduceAdd, reduceCtorEq, go_sem]
 refine ⟨fun h => ?_, fun h_Statements => ?_⟩
 ·symm
  rw [decide_eq_false_iff_not]
  rintro rfl
  exact h rfl
 refine ⟨fun h => ?_, fun h_Now => ?_⟩
 ·symm
  rw [decide_eq_false_iff_not]
  rintro rfl
  exact h rfl
 cases x; cases y; simp_all
end Go.Proofs.YtpclnmleldeleaaGreatR
namespace Go.Proofs.YtpclnmleldeleaaGreatR
open Go Go.RowKit Go.Proofs
open Nat (reduceEqDiff reduceLT reduceLeDiff reduceAdd reduceMul)
open List (reduceReplicate)
set_option linter.unusedSimpArgs false
set_option linter.unusedVariables false
def mkL {α : Type} (mk : α → Int → α) (c : α → Nat) : List α → Int → List α
 | [], _ => []
 | x :: l, k => mk x k :: mkL mk c l (k + (c x : Nat))
def ctL {α : Type} (c : α → Nat) (l : List α) : Nat := (l.map c).sum
def iMk (_ : Int) (k : Int) : Int := k
def iCt (_ : Int) : Nat := 1
def bMk (_ : Bool) (k : Int) : Bool := k.tmod 3 == 0
section
variable {α : Type} {mk : α → Int → α} {c : α → Nat} {l : List α} {k : Int} {i : Nat} {x : α} {f : α → List T}
theorem mkL_len : ∀ {l : List α} {k : Int}, (mkL mk c l k).length = l.length
 | [], _ => rfl
 | x :: l, k => by simp [mkL, mkL_len (l := l)]
theorem len_of_bd {sz : Nat} {es : List α} {rs : List RV} (h : bdVA (oL sz (es.map f) :: rs)) : es.length ≤ roomB := by
 simp only [bdVA, List.map_cons, bdL, bdT, List.length_map] at h
 exact h.1.1.1
theorem ctL_le {s : α → Nat} (h : ∀ x, c x ≤ 16 * (1 + s x)) : ∀ l : List α, ctL c l ≤ 16 * (l.length + (l.map s).sum)
 | [] => by simp [ctL]
 | x :: l => by
  have h1 := h x
  have h2 := ctL_le h l
  simp only [ctL, List.map_cons, List.sum_cons, List.length_cons] at *
  omega
theorem ctL_le' (h : ∀ x, c x ≤ 16) : ∀ l : List α, ctL c l ≤ 16 * l.length
 | [] => by simp [ctL]
 | x :: l => by
  have h1 := h x
  have h2 := ctL_le' h l
  simp only [ctL, List.map_cons, List.sum_cons, List.length_cons] at *
  omega
end
abbrev oS (ts : List T) : RV := ⟨true, own ts⟩
attribute [go_sem] oS
attribute [go_sem] mkL_len
def GAddress.mkd (x : GAddress) (k : Int) : GAddress := ⟨k, (k + 1), (k + 2)⟩
def GAddress.ct (x : GAddress) : Nat := 3
def GResource.mkd (x : GResource) (k : Int) : GResource := ⟨k, (mkL iMk iCt x.Body (k + 1)), ⟨((k + 1) + (ctL iCt x.Body : Nat)), (((k + 1) + (ctL iCt x.Body : Nat)) + 1), (((k + 1) + (ctL iCt x.Body : Nat)) + 2)⟩⟩
def GResource.ct (x : GResource) : Nat := 4 + ctL iCt x.Body
theorem GResource.ct_le (x : GResource) : x.ct ≤ 16 * (1 + x.size) := by
 simp only [GResource.ct, GResource.size]
 have h0 := ctL_le' (c := iCt) (fun y => by simp only [iCt]; omega) x.Body
 omega
def GResource.mks (x : GResource) (k : Int) : GResource := { x with Body := mkL iMk iCt x.Body (k) }
def GResource.cts (x : GResource) : Nat := ctL iCt x.Body
theorem GResource.cts_le (x : GResource) : x.cts ≤ 16 * x.size := by
 simp only [GResource.cts, GResource.size]
 have hBody := ctL_le' (c := iCt) (fun y => by simp only [iCt]; omega) x.Body
 omega
@[go_sem] theorem GResource.mks_len0 (x : GResource) (k : Int) : ((x.mks k).Body).length = x.Body.length := mkL_len
def GPart.mkd (x : GPart) (k : Int) : GPart := ⟨k, ⟨(k + 1), (mkL iMk iCt x.Resource.Body (k + 2)), ⟨((k + 2) + (ctL iCt x.Resource.Body : Nat)), (((k + 2) + (ctL iCt x.Resource.Body : Nat)) + 1), (((k + 2) + (ctL iCt x.Resource.Body : Nat)) + 2)⟩⟩, (((k + 2) + (ctL iCt x.Resource.Body : Nat)) + 3)⟩
def GPart.ct (x : GPart) : Nat := 6 + ctL iCt x.Resource.Body
theorem GPart.ct_le (x : GPart) : x.ct ≤ 16 * (1 + x.size) := by
 simp only [GPart.ct, GPart.size, GResource.size]
 have h0 := ctL_le' (c := iCt) (fun y => by simp only [iCt]; omega) x.Resource.Body
 omega
def GPart.mks (x : GPart) (k : Int) : GPart := { x with Resource := x.Resource.mks (k) }
def GPart.cts (x : GPart) : Nat := x.Resource.cts
theorem GPart.cts_le (x : GPart) : x.cts ≤ 16 * x.size := by
 simp only [GPart.cts, GPart.size]
 have hResource := GResource.cts_le x.Resource
 omega
@[go_sem] theorem GPart.mks_len0 (x : GPart) (k : Int) : ((x.mks k).Resource.Body).length = x.Resource.Body.length := mkL_len
def GPiece.mkd (x : GPiece) (k : Int) : GPiece := ⟨k, (k + 1), (mkL iMk iCt x.New (k + 2))⟩
def GPiece.ct (x : GPiece) : Nat := 2 + ctL iCt x.New
theorem GPiece.ct_le (x : GPiece) : x.ct ≤ 16 * (1 + x.size) := by
 simp only [GPiece.ct, GPiece.size]
 have h0 := ctL_le' (c := iCt) (fun y => by simp only [iCt]; omega) x.New
 omega
def GPiece.mks (x : GPiece) (k : Int) : GPiece := { x with New := mkL iMk iCt x.New (k) }
def GPiece.cts (x : GPiece) : Nat := ctL iCt x.New
theorem GPiece.cts_le (x : GPiece) : x.cts ≤ 16 * x.size := by
 simp only [GPiece.cts, GPiece.size]
 have hNew := ctL_le' (c := iCt) (fun y => by simp only [iCt]; omega) x.New
 omega
@[go_sem] theorem GPiece.mks_len0 (x : GPiece) (k : Int) : ((x.mks k).New).length = x.New.length := mkL_len
def GVersion.mkd (x : GVersion) (k : Int) : GVersion := ⟨⟨k, (k + 1), (k + 2)⟩, (k + 3), ⟨(k + 4), (mkL iMk iCt x.Resource.Body (k + 5)), ⟨((k + 5) + (ctL iCt x.Resource.Body : Nat)), (((k + 5) + (ctL iCt x.Resource.Body : Nat)) + 1), (((k + 5) + (ctL iCt x.Resource.Body : Nat)) + 2)⟩⟩⟩
def GVersion.ct (x : GVersion) : Nat := 8 + ctL iCt x.Resource.Body
theorem GVersion.ct_le (x : GVersion) : x.ct ≤ 16 * (1 + x.size) := by
 simp only [GVersion.ct, GVersion.size, GResource.size]
 have h0 := ctL_le' (c := iCt) (fun y => by simp only [iCt]; omega) x.Resource.Body
 omega
def GVersion.mks (x : GVersion) (k : Int) : GVersion := { x with Resource := x.Resource.mks (k) }
def GVersion.cts (x : GVersion) : Nat := x.Resource.cts
theorem GVersion.cts_le (x : GVersion) : x.cts ≤ 16 * x.size := by
 simp only [GVersion.cts, GVersion.size]
 have hResource := GResource.cts_le x.Resource
 omega
@[go_sem] theorem GVersion.mks_len0 (x : GVersion) (k : Int) : ((x.mks k).Resource.Body).length = x.Resource.Body.length := mkL_len
def GOp.mkd (x : GOp) (k : Int) : GOp := ⟨k, (k + 1), (k + 2), (k + 3)⟩
def GOp.ct (x : GOp) : Nat := 4
def GState.mkd (x : GState) (k : Int) : GState := ⟨k, (mkL iMk iCt x.Regs (k + 1)), (mkL iMk iCt x.Slots ((k + 1) + (ctL iCt x.Regs : Nat))), (mkL iMk iCt x.Nodes (((k + 1) + (ctL iCt x.Regs : Nat)) + (ctL iCt x.Slots : Nat)))⟩
def GState.ct (x : GState) : Nat := 1 + ctL iCt x.Regs + ctL iCt x.Slots + ctL iCt x.Nodes
theorem GState.ct_le (x : GState) : x.ct ≤ 16 * (1 + x.size) := by
 simp only [GState.ct, GState.size]
 have h0 := ctL_le' (c := iCt) (fun y => by simp only [iCt]; omega) x.Regs
 have h1 := ctL_le' (c := iCt) (fun y => by simp only [iCt]; omega) x.Slots
 have h2 := ctL_le' (c := iCt) (fun y => by simp only [iCt]; omega) x.Nodes
 omega
def GState.mks (x : GState) (k : Int) : GState := { x with Regs := mkL iMk iCt x.Regs (k), Slots := mkL iMk iCt x.Slots (k + (ctL iCt x.Regs : Nat)), Nodes := mkL iMk iCt x.Nodes (k + (ctL iCt x.Regs : Nat) + (ctL iCt x.Slots : Nat)) }
def GState.cts (x : GState) : Nat := ctL iCt x.Regs + ctL iCt x.Slots + ctL iCt x.Nodes
theorem GState.cts_le (x : GState) : x.cts ≤ 16 * x.size := by
 simp only [GState.cts, GState.size]
 have hRegs := ctL_le' (c := iCt) (fun y => by simp only [iCt]; omega) x.Regs
 have hSlots := ctL_le' (c := iCt) (fun y => by simp only [iCt]; omega) x.Slots
 have hNodes := ctL_le' (c := iCt) (fun y => by simp only [iCt]; omega) x.Nodes
 omega
@[go_sem] theorem GState.mks_len0 (x : GState) (k : Int) : ((x.mks k).Regs).length = x.Regs.length := mkL_len
@[go_sem] theorem GState.mks_len1 (x : GState) (k : Int) : ((x.mks k).Slots).length = x.Slots.length := mkL_len
@[go_sem] theorem GState.mks_len2 (x : GState) (k : Int) : ((x.mks k).Nodes).length = x.Nodes.length := mkL_len
def GWant.mkd (x : GWant) (k : Int) : GWant := ⟨k, ⟨(k + 1), (k + 2), (k + 3)⟩⟩
def GWant.ct (x : GWant) : Nat := 4
def GEntry.mkd (x : GEntry) (k : Int) : GEntry := ⟨k, ⟨(k + 1), (k + 2), (k + 3)⟩, (k + 4)⟩
def GEntry.ct (x : GEntry) : Nat := 5
def GCapture.mkd (x : GCapture) (k : Int) : GCapture := ⟨⟨k, (k + 1), (k + 2)⟩, (k + 3), ⟨(k + 4), (mkL iMk iCt x.Resource.Body (k + 5)), ⟨((k + 5) + (ctL iCt x.Resource.Body : Nat)), (((k + 5) + (ctL iCt x.Resource.Body : Nat)) + 1), (((k + 5) + (ctL iCt x.Resource.Body : Nat)) + 2)⟩⟩⟩
def GCapture.ct (x : GCapture) : Nat := 8 + ctL iCt x.Resource.Body
theorem GCapture.ct_le (x : GCapture) : x.ct ≤ 16 * (1 + x.size) := by
 simp only [GCapture.ct, GCapture.size, GResource.size]
 have h0 := ctL_le' (c := iCt) (fun y => by simp only [iCt]; omega) x.Resource.Body
 omega
def GCapture.mks (x : GCapture) (k : Int) : GCapture := { x with Resource := x.Resource.mks (k) }
def GCapture.cts (x : GCapture) : Nat := x.Resource.cts
theorem GCapture.cts_le (x : GCapture) : x.cts ≤ 16 * x.size := by
 simp only [GCapture.cts, GCapture.size]
 have hResource := GResource.cts_le x.Resource
 omega
@[go_sem] theorem GCapture.mks_len0 (x : GCapture) (k : Int) : ((x.mks k).Resource.Body).length = x.Resource.Body.length := mkL_len
def GChoice.mkd (x : GChoice) (k : Int) : GChoice := ⟨k, (k + 1)⟩
def GChoice.ct (x : GChoice) : Nat := 2
def GWander.mks (x : GWander) (k : Int) : GWander := { x with State := x.State.mks (k), Choices := mkL GChoice.mkd GChoice.ct x.Choices (k + (x.State.cts : Nat)), Labels := mkL iMk iCt x.Labels (k + (x.State.cts : Nat) + (ctL GChoice.ct x.Choices : Nat)) }
def GWander.cts (x : GWander) : Nat := x.State.cts + ctL GChoice.ct x.Choices + ctL iCt x.Labels
theorem GWander.cts_le (x : GWander) : x.cts ≤ 16 * x.size := by
 simp only [GWander.cts, GWander.size]
 have hState := GState.cts_le x.State
 have hChoices := ctL_le' (c := GChoice.ct) (fun y => by simp only [GChoice.ct]; omega) x.Choices
 have hLabels := ctL_le' (c := iCt) (fun y => by simp only [iCt]; omega) x.Labels
 omega
@[go_sem] theorem GWander.mks_len0 (x : GWander) (k : Int) : ((x.mks k).State.Regs).length = x.State.Regs.length := mkL_len
@[go_sem] theorem GWander.mks_len1 (x : GWander) (k : Int) : ((x.mks k).State.Slots).length = x.State.Slots.length := mkL_len
@[go_sem] theorem GWander.mks_len2 (x : GWander) (k : Int) : ((x.mks k).State.Nodes).length = x.State.Nodes.length := mkL_len
@[go_sem] theorem GWander.mks_len3 (x : GWander) (k : Int) : ((x.mks k).Choices).length = x.Choices.length := mkL_len
@[go_sem] theorem GWander.mks_len4 (x : GWander) (k : Int) : ((x.mks k).Labels).length = x.Labels.length := mkL_len
def GModel.mkd (x : GModel) (k : Int) : GModel := ⟨k, (k + 1), (k + 2), (bMk x.Fits (k + 3))⟩
def GModel.ct (x : GModel) : Nat := 4
def GShown.mkd (x : GShown) (k : Int) : GShown := ⟨k, ⟨(k + 1), (k + 2), (k + 3)⟩⟩
def GShown.ct (x : GShown) : Nat := 4
def GLeaf.mkd (x : GLeaf) (k : Int) : GLeaf := ⟨k, (k + 1), (bMk x.Hidden (k + 2)), (k + 3)⟩
def GLeaf.ct (x : GLeaf) : Nat := 4
def GEdition.mks (x : GEdition) (k : Int) : GEdition := { x with Captures := mkL GCapture.mkd GCapture.ct x.Captures (k), Hidden := mkL GAddress.mkd GAddress.ct x.Hidden (k + (ctL GCapture.ct x.Captures : Nat)) }
def GEdition.cts (x : GEdition) : Nat := ctL GCapture.ct x.Captures + ctL GAddress.ct x.Hidden
theorem GEdition.cts_le (x : GEdition) : x.cts ≤ 16 * x.size := by
 simp only [GEdition.cts, GEdition.size]
 have hCaptures := ctL_le (c := GCapture.ct) (s := GCapture.size) GCapture.ct_le x.Captures
 have hHidden := ctL_le' (c := GAddress.ct) (fun y => by simp only [GAddress.ct]; omega) x.Hidden
 omega
@[go_sem] theorem GEdition.mks_len0 (x : GEdition) (k : Int) : ((x.mks k).Captures).length = x.Captures.length := mkL_len
@[go_sem] theorem GEdition.mks_len1 (x : GEdition) (k : Int) : ((x.mks k).Hidden).length = x.Hidden.length := mkL_len
def GExclusion.mkd (x : GExclusion) (k : Int) : GExclusion := ⟨k, (k + 1), (k + 2), (k + 3), (k + 4)⟩
def GExclusion.ct (x : GExclusion) : Nat := 5
def GStatement.mkd (x : GStatement) (k : Int) : GStatement := ⟨k, (k + 1), (k + 2), (k + 3)⟩
def GStatement.ct (x : GStatement) : Nat := 4
def GLibrary.mkd (x : GLibrary) (k : Int) : GLibrary := ⟨k, (mkL iMk iCt x.Digests (k + 1)), (bMk x.Up ((k + 1) + (ctL iCt x.Digests : Nat))), (bMk x.Lies (((k + 1) + (ctL iCt x.Digests : Nat)) + 1))⟩
def GLibrary.ct (x : GLibrary) : Nat := 3 + ctL iCt x.Digests
theorem GLibrary.ct_le (x : GLibrary) : x.ct ≤ 16 * (1 + x.size) := by
 simp only [GLibrary.ct, GLibrary.size]
 have h0 := ctL_le' (c := iCt) (fun y => by simp only [iCt]; omega) x.Digests
 omega
def GLibrary.mks (x : GLibrary) (k : Int) : GLibrary := { x with Digests := mkL iMk iCt x.Digests (k) }
def GLibrary.cts (x : GLibrary) : Nat := ctL iCt x.Digests
theorem GLibrary.cts_le (x : GLibrary) : x.cts ≤ 16 * x.size := by
 simp only [GLibrary.cts, GLibrary.size]
 have hDigests := ctL_le' (c := iCt) (fun y => by simp only [iCt]; omega) x.Digests
 omega
@[go_sem] theorem GLibrary.mks_len0 (x : GLibrary) (k : Int) : ((x.mks k).Digests).length = x.Digests.length := mkL_len
def GContainer.mkd (x : GContainer) (k : Int) : GContainer := ⟨(mkL GOp.mkd GOp.ct x.Script k), (mkL GEntry.mkd GEntry.ct x.Entries (k + (ctL GOp.ct x.Script : Nat))), (mkL GCapture.mkd GCapture.ct x.Captures ((k + (ctL GOp.ct x.Script : Nat)) + (ctL GEntry.ct x.Entries : Nat))), (((k + (ctL GOp.ct x.Script : Nat)) + (ctL GEntry.ct x.Entries : Nat)) + (ctL GCapture.ct x.Captures : Nat))⟩
def GContainer.ct (x : GContainer) : Nat := 1 + ctL GOp.ct x.Script + ctL GEntry.ct x.Entries + ctL GCapture.ct x.Captures
theorem GContainer.ct_le (x : GContainer) : x.ct ≤ 16 * (1 + x.size) := by
 simp only [GContainer.ct, GContainer.size]
 have h0 := ctL_le' (c := GOp.ct) (fun y => by simp only [GOp.ct]; omega) x.Script
 have h1 := ctL_le' (c := GEntry.ct) (fun y => by simp only [GEntry.ct]; omega) x.Entries
 have h2 := ctL_le (c := GCapture.ct) (s := GCapture.size) GCapture.ct_le x.Captures
 omega
def GContainer.mks (x : GContainer) (k : Int) : GContainer := { x with Script := mkL GOp.mkd GOp.ct x.Script (k), Entries := mkL GEntry.mkd GEntry.ct x.Entries (k + (ctL GOp.ct x.Script : Nat)), Captures := mkL GCapture.mkd GCapture.ct x.Captures (k + (ctL GOp.ct x.Script : Nat) + (ctL GEntry.ct x.Entries : Nat)) }
def GContainer.cts (x : GContainer) : Nat := ctL GOp.ct x.Script + ctL GEntry.ct x.Entries + ctL GCapture.ct x.Captures
theorem GContainer.cts_le (x : GContainer) : x.cts ≤ 16 * x.size := by
 simp only [GContainer.cts, GContainer.size]
 have hScript := ctL_le' (c := GOp.ct) (fun y => by simp only [GOp.ct]; omega) x.Script
 have hEntries := ctL_le' (c := GEntry.ct) (fun y => by simp only [GEntry.ct]; omega) x.Entries
 have hCaptures := ctL_le (c := GCapture.ct) (s := GCapture.size) GCapture.ct_le x.Captures
 omega
@[go_sem] theorem GContainer.mks_len0 (x : GContainer) (k : Int) : ((x.mks k).Script).length = x.Script.length := mkL_len
@[go_sem] theorem GContainer.mks_len1 (x : GContainer) (k : Int) : ((x.mks k).Entries).length = x.Entries.length := mkL_len
@[go_sem] theorem GContainer.mks_len2 (x : GContainer) (k : Int) : ((x.mks k).Captures).length = x.Captures.length := mkL_len
def GFound.mkd (x : GFound) (k : Int) : GFound := ⟨⟨k, (k + 1), (k + 2)⟩, (k + 3), (k + 4), (k + 5)⟩
def GFound.ct (x : GFound) : Nat := 6
def GDisk.mks (x : GDisk) (k : Int) : GDisk := { x with Containers := mkL GContainer.mkd GContainer.ct x.Containers (k), Index := mkL GFound.mkd GFound.ct x.Index (k + (ctL GContainer.ct x.Containers : Nat)), Wanted := mkL GContainer.mkd GContainer.ct x.Wanted (k + (ctL GContainer.ct x.Containers : Nat) + (ctL GFound.ct x.Index : Nat)) }
def GDisk.cts (x : GDisk) : Nat := ctL GContainer.ct x.Containers + ctL GFound.ct x.Index + ctL GContainer.ct x.Wanted
theorem GDisk.cts_le (x : GDisk) : x.cts ≤ 16 * x.size := by
 simp only [GDisk.cts, GDisk.size]
 have hContainers := ctL_le (c := GContainer.ct) (s := GContainer.size) GContainer.ct_le x.Containers
 have hIndex := ctL_le' (c := GFound.ct) (fun y => by simp only [GFound.ct]; omega) x.Index
 have hWanted := ctL_le (c := GContainer.ct) (s := GContainer.size) GContainer.ct_le x.Wanted
 omega
@[go_sem] theorem GDisk.mks_len0 (x : GDisk) (k : Int) : ((x.mks k).Containers).length = x.Containers.length := mkL_len
@[go_sem] theorem GDisk.mks_len1 (x : GDisk) (k : Int) : ((x.mks k).Index).length = x.Index.length := mkL_len
@[go_sem] theorem GDisk.mks_len2 (x : GDisk) (k : Int) : ((x.mks k).Wanted).length = x.Wanted.length := mkL_len
def GArchive.mks (x : GArchive) (k : Int) : GArchive := { x with Site := mkL GVersion.mkd GVersion.ct x.Site (k), Script := mkL GOp.mkd GOp.ct x.Script (k + (ctL GVersion.ct x.Site : Nat)), Disk := x.Disk.mks (k + (ctL GVersion.ct x.Site : Nat) + (ctL GOp.ct x.Script : Nat)), Exclusions := mkL GExclusion.mkd GExclusion.ct x.Exclusions (k + (ctL GVersion.ct x.Site : Nat) + (ctL GOp.ct x.Script : Nat) + (x.Disk.cts : Nat)), Libraries := mkL GLibrary.mkd GLibrary.ct x.Libraries (k + (ctL GVersion.ct x.Site : Nat) + (ctL GOp.ct x.Script : Nat) + (x.Disk.cts : Nat) + (ctL GExclusion.ct x.Exclusions : Nat)), Keys := mkL iMk iCt x.Keys (k + (ctL GVersion.ct x.Site : Nat) + (ctL GOp.ct x.Script : Nat) + (x.Disk.cts : Nat) + (ctL GExclusion.ct x.Exclusions : Nat) + (ctL GLibrary.ct x.Libraries : Nat)), Statements := mkL GStatement.mkd GStatement.ct x.Statements (k + (ctL GVersion.ct x.Site : Nat) + (ctL GOp.ct x.Script : Nat) + (x.Disk.cts : Nat) + (ctL GExclusion.ct x.Exclusions : Nat) + (ctL GLibrary.ct x.Libraries : Nat) + (ctL iCt x.Keys : Nat)) }
def GArchive.cts (x : GArchive) : Nat := ctL GVersion.ct x.Site + ctL GOp.ct x.Script + x.Disk.cts + ctL GExclusion.ct x.Exclusions + ctL GLibrary.ct x.Libraries + ctL iCt x.Keys + ctL GStatement.ct x.Statements
theorem GArchive.cts_le (x : GArchive) : x.cts ≤ 16 * x.size := by
 simp only [GArchive.cts, GArchive.size]
 have hSite := ctL_le (c := GVersion.ct) (s := GVersion.size) GVersion.ct_le x.Site
 have hScript := ctL_le' (c := GOp.ct) (fun y => by simp only [GOp.ct]; omega) x.Script
 have hDisk := GDisk.cts_le x.Disk
 have hExclusions := ctL_le' (c := GExclusion.ct) (fun y => by simp only [GExclusion.ct]; omega) x.Exclusions
 have hLibraries := ctL_le (c := GLibrary.ct) (s := GLibrary.size) GLibrary.ct_le x.Libraries
 have hKeys := ctL_le' (c := iCt) (fun y => by simp only [iCt]; omega) x.Keys
 have hStatements := ctL_le' (c := GStatement.ct) (fun y => by simp only [GStatement.ct]; omega) x.Statements
 omega
@[go_sem] theorem GArchive.mks_len0 (x : GArchive) (k : Int) : ((x.mks k).Site).length = x.Site.length := mkL_len
@[go_sem] theorem GArchive.mks_len1 (x : GArchive) (k : Int) : ((x.mks k).Script).length = x.Script.length := mkL_len
@[go_sem] theorem GArchive.mks_len2 (x : GArchive) (k : Int) : ((x.mks k).Disk.Containers).length = x.Disk.Containers.length := mkL_len
@[go_sem] theorem GArchive.mks_len3 (x : GArchive) (k : Int) : ((x.mks k).Disk.Index).length = x.Disk.Index.length := mkL_len
@[go_sem] theorem GArchive.mks_len4 (x : GArchive) (k : Int) : ((x.mks k).Disk.Wanted).length = x.Disk.Wanted.length := mkL_len
@[go_sem] theorem GArchive.mks_len5 (x : GArchive) (k : Int) : ((x.mks k).Exclusions).length = x.Exclusions.length := mkL_len
@[go_sem] theorem GArchive.mks_len6 (x : GArchive) (k : Int) : ((x.mks k).Libraries).length = x.Libraries.length := mkL_len
@[go_sem] theorem GArchive.mks_len7 (x : GArchive) (k : Int) : ((x.mks k).Keys).length = x.Keys.length := mkL_len
@[go_sem] theorem GArchive.mks_len8 (x : GArchive) (k : Int) : ((x.mks k).Statements).length = x.Statements.length := mkL_len
def GChange.mkd (x : GChange) (k : Int) : GChange := ⟨k, (k + 1)⟩
def GChange.ct (x : GChange) : Nat := 2
def GPlayed.mks (x : GPlayed) (k : Int) : GPlayed := { x with State := x.State.mks (k) }
def GPlayed.cts (x : GPlayed) : Nat := x.State.cts
theorem GPlayed.cts_le (x : GPlayed) : x.cts ≤ 16 * x.size := by
 simp only [GPlayed.cts, GPlayed.size]
 have hState := GState.cts_le x.State
 omega
@[go_sem] theorem GPlayed.mks_len0 (x : GPlayed) (k : Int) : ((x.mks k).State.Regs).length = x.State.Regs.length := mkL_len
@[go_sem] theorem GPlayed.mks_len1 (x : GPlayed) (k : Int) : ((x.mks k).State.Slots).length = x.State.Slots.length := mkL_len
@[go_sem] theorem GPlayed.mks_len2 (x : GPlayed) (k : Int) : ((x.mks k).State.Nodes).length = x.State.Nodes.length := mkL_len
end Go.Proofs.YtpclnmleldeleaaGreatR
namespace Go.Proofs.YtpclnmleldeleaaGreatR
open Go Go.RowKit Go.Proofs
open Nat (reduceEqDiff reduceLT reduceLeDiff reduceAdd reduceMul)
open List (reduceReplicate)
set_option linter.unusedSimpArgs false
set_option linter.unusedVariables false
def m_slices_Clone_int_int : MC :=
(.seq (pr [.nilo 2 0 1] [0])
(.seq (.condN 3 4 (.s 0) (.seq (pr [.nilo 2 0 1] [2])
.ret) .skip)
(.seq (pr [.lit 5 0 1 8 [], .mv 6 (.s 0), .app 7 0 1 8 (.s 5) (.s 6), .mv 2 (.s 7)] [2])
.ret)))
theorem c_slices_Clone_int (xs : List Int) (hs : xs.length ≤ 1073741824) : Ctr Tryz.prog n_slices_Clone_int_int [aL 1 (xs.map encI)] [rL 1 (xs.map encI)] := by
 refine cA m_slices_Clone_int_int 1 8 [(.tmp 2, [true])] Tryz.func138 rfl rfl ?_; unfold m_slices_Clone_int_int
 intro hb
 clear hb
 simp only [↓reduceIte, reduceEqDiff, reduceLT, reduceAdd, reduceMul, reduceCtorEq, go_sem, ↓flat_of (f := encI) (fun _ => rfl) xs]
 refine ⟨fun h => ?_, ?_⟩
 ·rw [h]
 ·simp only [roomB]
  first | done | omega | (refine ⟨?_, ?_⟩ <;> first | omega | simp)
end Go.Proofs.YtpclnmleldeleaaGreatR
namespace Go.Proofs.YtpclnmleldeleaaGreatR
open Go Go.RowKit Go.Proofs
open Nat (reduceEqDiff reduceLT reduceLeDiff reduceAdd reduceMul)
open List (reduceReplicate)
set_option linter.unusedSimpArgs false
set_option linter.unusedVariables false
theorem anyF_step {α : Type} {p : α → Bool} {l : List α} {k : Nat} {x : α} (hx : l[k]? = some x) (h : (l.take k).any p = false) (hn : p x = false) : (l.take (k + 1)).any p = false := by
 rw [take_snoc hx, List.any_append, h]
 simp [hn]
theorem any_here {α : Type} {p : α → Bool} {l : List α} {k : Nat} {x : α} (hx : l[k]? = some x) (hn : p x = true) : l.any p = true := List.any_eq_true.2 ⟨x, at_mem hx, hn⟩
def idxF {α : Type} (p : α → Bool) (l : List α) : Int := if l.any p then (l.takeWhile fun x => !p x).length else -1
theorem idxF_here {α : Type} {p : α → Bool} {l : List α} {k : Nat} {x : α} (hx : l[k]? = some x) (h : (l.take k).any p = false) (hn : p x = true) : idxF p l = k := by
 unfold idxF
 rw [any_here hx hn, if_pos rfl]
 congr 1
 have e : l = l.take k ++ x :: l.drop (k + 1) := take_drop_at hx
 rw [e, List.takeWhile_append_of_pos]
 ·simp [hn]
  have := len_at hx
  omega
 ·intro a ha
  have := List.any_eq_false.1 h a ha
  simpa using this
theorem idxF_none {α : Type} {p : α → Bool} {l : List α} (h : l.any p = false) : idxF p l = -1 := by
 unfold idxF; rw [h]; rfl
theorem idxF_ge {α : Type} {p : α → Bool} {l : List α} : decide (idxF p l ≥ 0) = l.any p := by
 unfold idxF
 cases l.any p <;> simp
def encS (s : ByteArray) : List T := [tS s]
attribute [go_sem] encS
abbrev aStr (s : ByteArray) : Bool × List T := (false, [tS s])
attribute [go_sem] aStr
def m_slices_IndexFunc_impl_Exclusion_impl_Exclusion : MC :=
(.seq (pr [.mv 4 (ci 0)] [0,1])
(.seq (.seq (pr [.mv 6 (.s 0), .len 7 false (.s 6), .mv 8 (ci 0)] [0,1,7,8])
(.block 0 (.loop ([0,1,7,8], []) (.seq (pr [.bin 9 false .lss (.s 8) (.s 7)] [0,1,7,8,9])
(.seq (.cond (.s 9) .skip (.exit 0))
(.seq (.block 1 (.seq (pr [.mv 10 (.s 8), .mv 5 (.s 10)] [0,1,5,7,8])
(.seq (pr [.mv 11 (.s 1), .mv 12 (.s 0), .mv 13 (.s 5), .idx 14 5 (.s 12) (.s 13), .load 15 true 5 (.s 14), .call 16 [] (.s 11) [.s 15]] [0,1,5,7,8,16])
(.cond (.s 16) (.seq (pr [.mv 17 (.s 5), .mv 4 (.s 17)] [4])
.ret) .skip))))
(pr [.bin 18 false .add (.s 8) (ci 1), .mv 8 (.s 18)] [0,1,7,8])))))))
(.seq (pr [.mv 4 (.c (.int .i64 (-1)))] [4])
.ret)))
theorem c_slices_IndexFunc_Exclusion (xs : List GExclusion) (f : FuncId) (cs : List T) (p : GExclusion → Bool) (hp : ∀ x, x ∈ xs → Ctr Tryz.prog f (aS (GExclusion.enc x) :: cs.map (fun t => (false, [t]))) [rB (p x)]) : Ctr Tryz.prog n_slices_IndexFunc_impl_Exclusion_impl_Exclusion [aL 5 (xs.map GExclusion.enc), (false, [.fn f cs])] [rI (idxF p xs)] := by
 refine cA m_slices_IndexFunc_impl_Exclusion_impl_Exclusion 0 19 [(.tmp 4, [false])] Tryz.func190 rfl rfl ?_; unfold m_slices_IndexFunc_impl_Exclusion_impl_Exclusion
 intro hb
 simp only [bdA, bdL, bdT, bdR_map, roomB, and_true, List.length_map] at hb
 obtain ⟨⟨hl, -⟩, -⟩ := hb
 simp only [↓reduceIte, reduceEqDiff, reduceLT, reduceCtorEq, go_sem]
 refine loopK_rng xs (fun k => [(8, vI k)]) (fun k => []) (fun k => (xs.take k).any p = false) hl ?_
 simp only [↓reduceIte, reduceEqDiff, reduceCtorEq, go_sem]
 refine ⟨?_, by simp, ?_, ?_⟩
 ·simp only [↓reduceIte, reduceEqDiff, reduceLT, reduceCtorEq, go_sem]
 ·intro k x hx h h0 h1 hw
  simp only [↓reduceIte, reduceEqDiff, reduceLT, reduceAdd, reduceCtorEq, go_sem, bk_eq hx, h0, h1]
  refine callK_of (hp x (at_mem hx)) ?_
  simp only [↓reduceIte, reduceEqDiff, reduceLT, reduceCtorEq, go_sem, hw]
  exact ⟨fun hn => (idxF_here hx h hn).symm, fun hn => anyF_step hx h hn⟩
 ·intro h
  simp only [↓reduceIte, reduceEqDiff, reduceLT, reduceCtorEq, go_sem]
  rw [List.take_length] at h
  rw [idxF_none h]
def m_slices_ContainsFunc_impl_Exclusion_impl_Exclusion : MC :=
(.seq (pr [.mv 4 cF] [0,1])
(.seq (pr [.mv 5 (.s 0), .mv 6 (.s 1), .call 7 [] (.f n_slices_IndexFunc_impl_Exclusion_impl_Exclusion) [.s 5, .s 6], .bin 8 false .geq (.s 7) (ci 0), .mv 4 (.s 8)] [4])
.ret))
theorem c_slices_ContainsFunc_Exclusion (xs : List GExclusion) (f : FuncId) (cs : List T) (p : GExclusion → Bool) (hp : ∀ x, x ∈ xs → Ctr Tryz.prog f (aS (GExclusion.enc x) :: cs.map (fun t => (false, [t]))) [rB (p x)]) : Ctr Tryz.prog n_slices_ContainsFunc_impl_Exclusion_impl_Exclusion [aL 5 (xs.map GExclusion.enc), (false, [.fn f cs])] [rB (xs.any p)] := by
 refine cA m_slices_ContainsFunc_impl_Exclusion_impl_Exclusion 0 9 [(.tmp 4, [false])] Tryz.func108 rfl rfl ?_; unfold m_slices_ContainsFunc_impl_Exclusion_impl_Exclusion
 intro hb
 clear hb
 simp only [↓reduceIte, reduceEqDiff, reduceLT, reduceCtorEq, go_sem]
 refine callK_of (c_slices_IndexFunc_Exclusion xs f cs p hp) ?_
 simp only [↓reduceIte, reduceEqDiff, reduceLT, reduceCtorEq, go_sem]
 intros
 exact idxF_ge
def m_slices_Equal_impl_Found_impl_Found : MC :=
(.seq (pr [.mv 4 cF] [0,1])
(.seq (.seq (pr [.mv 6 (.s 0), .len 7 false (.s 6), .mv 8 (.s 1), .len 9 false (.s 8), .bin 10 false .neq (.s 7) (.s 9)] [0,1,10])
(.cond (.s 10) (.seq (pr [.mv 4 cF] [4])
.ret) .skip))
(.seq (.seq (pr [.mv 11 (.s 0), .len 12 false (.s 11), .mv 13 (ci 0)] [0,1,12,13])
(.block 0 (.loop ([0,1,12,13], []) (.seq (pr [.bin 14 false .lss (.s 13) (.s 12)] [0,1,12,13,14])
(.seq (.cond (.s 14) .skip (.exit 0))
(.seq (.block 1 (.seq (pr [.mv 15 (.s 13), .mv 5 (.s 15)] [0,1,5,12,13])
(.seq (.dreg [Zc [17,20,21,22,23] (.mv 16 (.s 0)), Zc [16,20,21,22,23] (.mv 17 (.s 5)), Zd [20,21,22,23] [0,1] (.idx 18 6 (.s 16) (.s 17)), Zd [20,21,22,23] [0,1,2] (.load 19 true 6 (.s 18)), Zc [16,17,18,19,21] (.mv 20 (.s 1)), Zc [16,17,18,19,20] (.mv 21 (.s 5)), Zd [16,17,18,19] [4,5] (.idx 22 6 (.s 20) (.s 21)), Zd [16,17,18,19] [4,5,6] (.load 23 true 6 (.s 22)), Ze (.range 8) (.eqA 24 true [.i .i64, .i .i64, .i .i64, .i .i64, .i .i64, .i .i64] (.s 19) (.s 23))] [0,1,12,13,24])
(.cond (.s 24) (.seq (pr [.mv 4 cF] [4])
.ret) .skip))))
(pr [.bin 25 false .add (.s 13) (ci 1), .mv 13 (.s 25)] [0,1,12,13])))))))
(.seq (pr [.mv 4 cT] [4])
.ret))))
theorem c_slices_Equal_Found (xs ys : List GFound) : Ctr Tryz.prog n_slices_Equal_impl_Found_impl_Found [aL 6 (xs.map GFound.enc), aL 6 (ys.map GFound.enc)] [rB (decide (xs = ys))] := by
 refine cA m_slices_Equal_impl_Found_impl_Found 0 26 [(.tmp 4, [false])] Tryz.func188 rfl rfl ?_; unfold m_slices_Equal_impl_Found_impl_Found
 intro hb
 simp only [bdA, bdL, bdT, bdR_map, roomB, and_true, List.length_map] at hb
 obtain ⟨⟨hl, -⟩, ⟨hl2, -⟩⟩ := hb
 simp only [↓reduceIte, reduceEqDiff, reduceLT, reduceCtorEq, go_sem]
 refine ⟨fun h => ne_len h, fun h => ?_⟩
 have hle : xs.length = ys.length := by omega
 refine loopK_rng xs (fun k => [(13, vI k)]) (fun k => []) (fun k => xs.take k = ys.take k) hl ?_
 simp only [↓reduceIte, reduceEqDiff, reduceCtorEq, go_sem]
 refine ⟨?_, rfl, ?_, ?_⟩
 ·simp only [↓reduceIte, reduceEqDiff, reduceLT, reduceCtorEq, go_sem]
 ·intro k x hx he h0 h1 hw
  obtain ⟨y, hy⟩ := at_some (show k < ys.length by omega)
  have h2 : (k : Int) < ys.length := by omega
  simp only [↓reduceIte, reduceEqDiff, reduceLT, reduceAdd, reduceCtorEq, go_sem, bk_eq hx, bk_eq hy, h0, h1, h2, hw, eqB]
  exact ⟨fun hn => ne_at hx hy (by rintro rfl; simp at hn), fun hn => (take_eq_step hx hy he).2 (by exact GFound.eqv.2 (by simpa using hn))⟩
 ·intro he
  simp only [↓reduceIte, reduceEqDiff, reduceLT, reduceCtorEq, go_sem]
  exact eq_all he hle
end Go.Proofs.YtpclnmleldeleaaGreatR
namespace Go.Proofs.YtpclnmleldeleaaGreatR
open Go Go.RowKit Go.Proofs
open Nat (reduceEqDiff reduceLT reduceLeDiff reduceAdd reduceMul)
open List (reduceReplicate)
set_option linter.unusedSimpArgs false
set_option linter.unusedVariables false
attribute [go_sem] eqB
def m_spec_l1In : MC :=
(.seq (pr [.mv 6 cF] [0,1,2])
(.seq (.reg [Za (.mv 7 (.s 0)), Za (.mv 8 (.s 1)), Za (.bin 9 false .geq (.s 7) (.s 8)), Za (.mv 10 (.s 9)), Zb 10 true (.mv 11 (.s 0)), Zb 10 true (.mv 12 (.s 2)), Zb 10 true (.bin 13 false .leq (.s 11) (.s 12)), Za (.pick 14 (.s 10) (.s 13) cF), Za (.mv 6 (.s 14))] [6])
.ret))
theorem c_spec_l1In (x a b : Int) : Ctr Tryz.prog n_spec_l1In [aI x, aI a, aI b] [rB (decide (a ≤ x ∧ x ≤ b))] := by
 refine cA m_spec_l1In 0 15 [(.tmp 6, [false])] Tryz.func104 rfl rfl ?_; unfold m_spec_l1In
 intro hb
 clear hb
 simp only [↓reduceIte, reduceEqDiff, reduceLT, reduceAdd, reduceCtorEq, go_sem]
 exact ⟨fun h => by simp [h], fun h => by simp; omega⟩
def m_impl_InRange : MC :=
(.seq (pr [.mv 6 cF] [0,1,2])
(.seq (.reg [Za (.mv 7 (.s 1)), Za (.mv 8 (.s 0)), Za (.bin 9 false .leq (.s 7) (.s 8)), Za (.mv 10 (.s 9)), Zb 10 true (.mv 11 (.s 0)), Zb 10 true (.mv 12 (.s 2)), Zb 10 true (.bin 13 false .leq (.s 11) (.s 12)), Za (.pick 14 (.s 10) (.s 13) cF), Za (.mv 6 (.s 14))] [6])
.ret))
theorem c_impl_InRange (x a b : Int) : Ctr Tryz.prog n_impl_InRange [aI x, aI a, aI b] [rB (decide (a ≤ x ∧ x ≤ b))] := by
 refine cA m_impl_InRange 0 15 [(.tmp 6, [false])] Tryz.func112 rfl rfl ?_; unfold m_impl_InRange
 intro hb
 clear hb
 simp only [↓reduceIte, reduceEqDiff, reduceLT, reduceAdd, reduceCtorEq, go_sem]
 exact ⟨fun h => by simp [h], fun h => by simp; omega⟩
end Go.Proofs.YtpclnmleldeleaaGreatR
namespace Go.Proofs.YtpclnmleldeleaaGreatR
open Go Go.RowKit Go.Proofs
open Nat (reduceEqDiff reduceLT reduceLeDiff reduceAdd reduceMul)
open List (reduceReplicate)
set_option linter.unusedSimpArgs false
set_option linter.unusedVariables false
def m_impl_copyResource : MC :=
(.seq (pr [.box 1 0 (.s 0), .alloc 2 1 [pz, .emp 1, pz, pz, pz]] [1,2])
(.seq (pr [.fld 3 (.s 1) 1, .load 4 false 1 (.s 3), .call 5 [2] (.f n_slices_Clone_int_int) [.s 4], .fld 6 (.s 1) 1, .store 1 (.s 6) (.s 5)] [1,2])
(.seq (pr [.load 7 true 5 (.s 1), .store 5 (.s 2) (.s 7)] [2])
.ret)))
theorem c_impl_copyResource (r : GResource) (hs : r.Body.length ≤ 1073741824) : Ctr Tryz.prog n_impl_copyResource [aS r.enc] [rS r.enc] := by
 refine cA m_impl_copyResource 3 8 [(.cell 2 true 5, [false, true, false, false, false])] Tryz.func140 rfl rfl ?_; unfold m_impl_copyResource
 intro hb
 clear hb
 simp only [↓reduceIte, reduceEqDiff, reduceLT, reduceLeDiff, reduceAdd, reduceCtorEq, go_sem]
 refine callK_of (c_slices_Clone_int r.Body hs) ?_
 simp only [↓reduceIte, reduceEqDiff, reduceLT, reduceLeDiff, reduceAdd, reduceCtorEq, go_sem]
 try intros
 try trivial
def m_spec_l5Copy : MC :=
(.seq (pr [.box 1 0 (.s 0), .alloc 2 1 [pz, .emp 1, pz, pz, pz]] [1,2])
(.seq (.dreg [Zf [5,6,7,8,9,10] [2] (.fld 3 (.s 1) 0), Zg [5,6,7,8,9,10] [2] [0] (.load 4 false 1 (.s 3)), { o := .lit 5 2 1 8 [], hs := [3,4,6,7,9,10], ws := [2] }, Zf [3,4,5,9,10] [2] (.fld 6 (.s 1) 1), Zg [3,4,5,9,10] [2] [3] (.load 7 false 1 (.s 6)), { o := .app 8 2 1 8 (.s 5) (.s 7), hs := [3,4,9,10], ws := [2], bf := [2,3,4] }, Zf [3,4,5,6,7,8] [2] (.fld 9 (.s 1) 2), Zg [3,4,5,6,7,8] [2] [6] (.load 10 true 3 (.s 9)), Ze (.range 8) (.build 11 [pz, .emp 1, pz, pz, pz] [(0, 1, .s 4), (1, 1, .s 8), (2, 3, .s 10)]), { o := .store 5 (.s 2) (.s 11), ws := [1,2], bf := (.range 9) }] [2])
.ret))
theorem c_spec_l5Copy (r : GResource) (hs : r.Body.length ≤ 1073741824) : Ctr Tryz.prog n_spec_l5Copy [aS r.enc] [rS r.enc] := by
 refine cA m_spec_l5Copy 3 12 [(.cell 2 true 5, [false, true, false, false, false])] Tryz.func127 rfl rfl ?_; unfold m_spec_l5Copy
 intro hb
 clear hb
 simp only [↓reduceIte, reduceEqDiff, reduceLT, reduceLeDiff, reduceAdd, reduceMul, reduceCtorEq, go_sem, ↓flat_of (f := encI) (fun _ => rfl) r.Body]
 simp only [roomB]
 omega
def m_impl_copyCaptures : MC :=
(.seq (pr [.nilo 2 0 9] [0])
(.seq (pr [.nilo 3 0 9] [0,3])
(.seq (.seq (pr [.mv 6 (.s 0), .len 7 false (.s 6), .mv 8 (ci 0)] [3,6,7,8])
(.block 0 (.loop ([3,6,7,8], [1,2,3]) (.seq (pr [.bin 9 false .lss (.s 8) (.s 7)] [3,6,7,8,9])
(.seq (.cond (.s 9) .skip (.exit 0))
(.seq (.block 1 (.seq (pr [.idx 10 9 (.s 6) (.s 8), .load 11 true 9 (.s 10), .alloc 5 1 [pz, pz, pz, pz, pz, .emp 1, pz, pz, pz], .store 9 (.s 5) (.s 11)] [3,5,6,7,8])
(.dreg [Zf [13,14,15,16,17,18,19,20,21] [2,3] (.mv 12 (.s 3)), Zf [12,15,16,17,18,19] [2] (.fld 13 (.s 5) 0), Zg [12,15,16,17,18,19] [2] [1] (.load 14 true 3 (.s 13)), Zf [12,13,14,17,18,19] [2] (.fld 15 (.s 5) 3), Zg [12,13,14,17,18,19] [2] [3] (.load 16 false 1 (.s 15)), Zc [12,13,14,15,16] (.fld 17 (.s 5) 4), Zd [12,13,14,15,16] [5] (.load 18 true 5 (.s 17)), { o := .call 19 [2] (.f n_impl_copyResource) [.s 18], hs := [12,13,14,15,16], ws := [2], bf := [5,6] }, Zd [12] [1,2,3,4,5,6,7] (.build 20 [pz, pz, pz, pz, pz, .emp 1, pz, pz, pz] [(0, 3, .s 14), (3, 1, .s 16), (4, 5, .s 19)]), { o := .lit 21 3 9 88 [.s 20], hs := [12], ws := [2,3], bf := [1,2,3,4,5,6,7,8] }, { o := .app 22 0 9 88 (.s 12) (.s 21), ws := [0,3], bf := (.range 10) }, Ze (.range 11) (.mv 3 (.s 22))] [3,6,7,8])))
(pr [.bin 23 false .add (.s 8) (ci 1), .mv 8 (.s 23)] [3,6,7,8])))))))
(.seq (pr [.mv 24 (.s 3), .mv 2 (.s 24)] [2])
.ret))))
theorem c_impl_copyCaptures (xs : List GCapture) (hs : xs.length + (xs.map GCapture.size).sum ≤ 1073741824) : Ctr Tryz.prog n_impl_copyCaptures [aL 9 (xs.map GCapture.enc)] [rL 9 (xs.map GCapture.enc)] := by
 refine cA m_impl_copyCaptures 4 25 [(.tmp 2, [true])] Tryz.func227 rfl rfl ?_; unfold m_impl_copyCaptures
 intro hb
 clear hb
 simp only [↓reduceIte, reduceEqDiff, reduceLT, reduceAdd, reduceCtorEq, go_sem]
 refine loopK_rng xs (fun k => [(3, .val false [.ref 0 0 9 0 (xs.take k).length]), (8, vI k)]) (fun k => [(0, ⟨0, .row true 9 ((xs.take k).map GCapture.enc)⟩)]) (fun _ => True) (by simp only [roomB]; omega) ?_
 simp only [↓reduceIte, reduceEqDiff, reduceAdd, reduceCtorEq, go_sem]
 refine ⟨?_, trivial, ?_, ?_⟩
 ·simp only [↓reduceIte, reduceEqDiff, reduceLT, go_sem, List.take_zero]
 ·intro k x hx _ h0 h1 hw
  have hk : k < xs.length := by omega
  have hlt := List.length_take_le k xs
  have hx1 := mem_sum (f := GCapture.size) (at_mem hx)
  simp only [↓reduceIte, reduceEqDiff, reduceLT, reduceLeDiff, reduceAdd, reduceCtorEq, go_sem, bk_eq hx, h0, h1]
  refine callK_of (c_impl_copyResource x.Resource (by simp only [GCapture.size, GResource.size] at hx1; omega)) ?_
  simp only [↓reduceIte, reduceEqDiff, reduceLT, reduceLeDiff, reduceAdd, reduceMul, reduceCtorEq, go_sem, hw]
  simp only [roomB]
  exact ⟨by omega, by omega, fun _ => ⟨snoc_len hx, snoc_map hx⟩⟩
 ·intro _
  simp only [↓reduceIte, reduceEqDiff, reduceLT, reduceCtorEq, go_sem, List.take_length]
def m_spec_l15Copy : MC :=
(.seq (pr [.nilo 2 0 9] [0])
(.seq (pr [.lit 5 0 9 88 [], .mv 3 (.s 5)] [0,3])
(.seq (.seq (pr [.mv 4 (ci 0)] [0,3,4])
(.block 0 (.loop ([0,3,4], [1,2]) (.seq (.seq (pr [.mv 6 (.s 4), .mv 7 (.s 0), .len 8 false (.s 7), .bin 9 false .lss (.s 6) (.s 8)] [0,3,4,9])
(.cond (.s 9) .skip (.exit 0)))
(.seq (.block 1 (.dreg [Zf [13,14,15,16,17,18,19,20,21,22,23,24,25,26,27,28,29,30] [1,2] (.mv 12 (.s 3)), Zf [12,14,18,19,20,21,22,23,24,25,26,27,28] [1] (.mv 13 (.s 0)), Zf [12,13,18,19,20,21,22,23,24,25,26,27,28] [1] (.mv 14 (.s 4)), Zg [12,18,19,20,21,22,23,24,25,26,27,28] [1] [1,2] (.idx 15 9 (.s 13) (.s 14)), Zg [12,18,19,20,21,22,23,24,25,26,27,28] [1] [1,2,3] (.fld 16 (.s 15) 0), Zg [12,18,19,20,21,22,23,24,25,26,27,28] [1] [1,2,3,4] (.load 17 true 3 (.s 16)), Zf [12,13,14,15,16,17,19,23,24,25,26,27,28] [1] (.mv 18 (.s 0)), Zf [12,13,14,15,16,17,18,23,24,25,26,27,28] [1] (.mv 19 (.s 4)), Zg [12,13,14,15,16,17,23,24,25,26,27,28] [1] [6,7] (.idx 20 9 (.s 18) (.s 19)), Zg [12,13,14,15,16,17,23,24,25,26,27,28] [1] [6,7,8] (.fld 21 (.s 20) 3), Zg [12,13,14,15,16,17,23,24,25,26,27,28] [1] [6,7,8,9] (.load 22 false 1 (.s 21)), Zc [12,13,14,15,16,17,18,19,20,21,22,24] (.mv 23 (.s 0)), Zc [12,13,14,15,16,17,18,19,20,21,22,23] (.mv 24 (.s 4)), Zd [12,13,14,15,16,17,18,19,20,21,22] [11,12] (.idx 25 9 (.s 23) (.s 24)), Zd [12,13,14,15,16,17,18,19,20,21,22] [11,12,13] (.fld 26 (.s 25) 4), Zd [12,13,14,15,16,17,18,19,20,21,22] [11,12,13,14] (.load 27 true 5 (.s 26)), { o := .call 28 [1] (.f n_spec_l5Copy) [.s 27], hs := [12,13,14,15,16,17,18,19,20,21,22], ws := [1], bf := [11,12,13,14,15] }, Zd [12] [1,2,3,4,5,6,7,8,9,10,11,12,13,14,15,16] (.build 29 [pz, pz, pz, pz, pz, .emp 1, pz, pz, pz] [(0, 3, .s 17), (3, 1, .s 22), (4, 5, .s 28)]), { o := .lit 30 2 9 88 [.s 29], hs := [12], ws := [1,2], bf := [1,2,3,4,5,6,7,8,9,10,11,12,13,14,15,16,17] }, { o := .app 31 0 9 88 (.s 12) (.s 30), ws := [0,2], bf := (.range 19) }, Ze (.range 20) (.mv 3 (.s 31))] [0,3,4]))
(pr [.mv 10 (.s 4), .bin 11 false .add (.s 10) (ci 1), .mv 4 (.s 11)] [0,3,4]))))))
(.seq (pr [.mv 32 (.s 3), .mv 2 (.s 32)] [2])
.ret))))
theorem c_spec_l15Copy (xs : List GCapture) (hs : xs.length + (xs.map GCapture.size).sum ≤ 1073741824) : Ctr Tryz.prog n_spec_l15Copy [aL 9 (xs.map GCapture.enc)] [rL 9 (xs.map GCapture.enc)] := by
 refine cA m_spec_l15Copy 3 33 [(.tmp 2, [true])] Tryz.func176 rfl rfl ?_; unfold m_spec_l15Copy
 intro hb
 clear hb
 simp only [↓reduceIte, reduceEqDiff, reduceLT, reduceAdd, reduceMul, reduceCtorEq, go_sem]
 refine loopK_rng xs (fun k => [(3, .val false [.ref 0 0 9 0 (xs.take k).length]), (4, vI k)]) (fun k => [(0, ⟨0, .row true 9 ((xs.take k).map GCapture.enc)⟩)]) (fun _ => True) (by simp only [roomB]; omega) ?_
 simp only [↓reduceIte, reduceEqDiff, reduceAdd, reduceCtorEq, go_sem]
 refine ⟨?_, trivial, ?_, ?_⟩
 ·simp only [↓reduceIte, reduceEqDiff, reduceLT, reduceCtorEq, go_sem, List.take_zero]
 ·intro k x hx _ h0 h1 hw
  have hk : k < xs.length := by omega
  have hlt := List.length_take_le k xs
  have hx1 := mem_sum (f := GCapture.size) (at_mem hx)
  simp only [↓reduceIte, reduceEqDiff, reduceLT, reduceLeDiff, reduceAdd, reduceCtorEq, go_sem, bk_eq hx, h0, h1]
  refine callK_of (c_spec_l5Copy x.Resource (by simp only [GCapture.size, GResource.size] at hx1; omega)) ?_
  simp only [↓reduceIte, reduceEqDiff, reduceLT, reduceLeDiff, reduceAdd, reduceMul, reduceCtorEq, go_sem, hw]
  simp only [roomB]
  exact ⟨by omega, by omega, fun _ => ⟨snoc_len hx, snoc_map hx⟩⟩
 ·intro _
  simp only [↓reduceIte, reduceEqDiff, reduceLT, reduceCtorEq, go_sem, List.take_length]
end Go.Proofs.YtpclnmleldeleaaGreatR
namespace Go.Proofs.YtpclnmleldeleaaGreatR
open Go Go.RowKit Go.Proofs
open Nat (reduceEqDiff reduceLT reduceLeDiff reduceAdd reduceMul)
open List (reduceReplicate)
set_option linter.unusedSimpArgs false
set_option linter.unusedVariables false
def isExcl (x : GExclusion) : Bool := decide ((1 ≤ x.Host ∧ x.Host ≤ 9) ∧ (-1 ≤ x.Path ∧ x.Path ≤ 99) ∧ (0 ≤ x.From ∧ x.From ≤ x.Until) ∧ x.Until ≤ 2000 ∧ (0 ≤ x.Asked ∧ x.Asked ≤ 2000))
def m_impl_IsExclusion : MC :=
(.seq (pr [.box 1 0 (.s 0), .mv 2 cF] [1])
(.seq (.reg [Za (.fld 3 (.s 1) 0), Za (.load 4 false 1 (.s 3)), Za (.call 5 [] (.f n_impl_InRange) [.s 4, .c (.int .i64 1), .c (.int .i64 9)]), Za (.mv 6 (.s 5)), Zb 6 true (.fld 7 (.s 1) 1), Zb 6 true (.load 8 false 1 (.s 7)), Zb 6 true (.call 9 [] (.f n_impl_InRange) [.s 8, .c (.int .i64 (-1)), .c (.int .i64 99)]), Za (.pick 10 (.s 6) (.s 9) cF), Za (.mv 11 (.s 10)), Zb 11 true (.fld 12 (.s 1) 2), Zb 11 true (.load 13 false 1 (.s 12)), Zb 11 true (.fld 14 (.s 1) 3), Zb 11 true (.load 15 false 1 (.s 14)), Zb 11 true (.call 16 [] (.f n_impl_InRange) [.s 13, .c (.int .i64 0), .s 15]), Za (.pick 17 (.s 11) (.s 16) cF), Za (.mv 18 (.s 17)), Zb 18 true (.fld 19 (.s 1) 3), Zb 18 true (.load 20 false 1 (.s 19)), Zb 18 true (.bin 21 false .leq (.s 20) (ci 2000)), Za (.pick 22 (.s 18) (.s 21) cF), Za (.mv 23 (.s 22)), Zb 23 true (.fld 24 (.s 1) 4), Zb 23 true (.load 25 false 1 (.s 24)), Zb 23 true (.call 26 [] (.f n_impl_InRange) [.s 25, .c (.int .i64 0), .c (.int .i64 2000)]), Za (.pick 27 (.s 23) (.s 26) cF), Za (.mv 2 (.s 27))] [2])
.ret))
theorem c_impl_IsExclusion (x : GExclusion) : Ctr Tryz.prog n_impl_IsExclusion [aS x.enc] [rB (isExcl x)] := by
 refine cA m_impl_IsExclusion 1 28 [(.tmp 2, [false])] Tryz.func110 rfl rfl ?_; unfold m_impl_IsExclusion
 intro hb
 clear hb
 simp only [↓reduceIte, reduceEqDiff, reduceLT, reduceLeDiff, reduceAdd, reduceCtorEq, go_sem]
 repeat' first
  | (refine And.intro ?_ ?_ <;> intro h)
  | (apply callK_of (c_impl_InRange _ _ _); simp only [↓reduceIte, reduceEqDiff, reduceLT, reduceLeDiff, reduceAdd, reduceCtorEq, go_sem])
 all_goals (unfold isExcl; first | (symm; rw [decide_eq_false_iff_not]; omega) | (rw [Bool.eq_iff_iff]; simp only [decide_eq_true_eq]; omega))
def m_spec_IsExclusion : MC :=
(.seq (pr [.box 1 0 (.s 0), .mv 2 cF] [1])
(.seq (.reg [Za (.fld 3 (.s 1) 0), Za (.load 4 false 1 (.s 3)), Za (.call 5 [] (.f n_spec_l1In) [.s 4, .c (.int .i64 1), .c (.int .i64 9)]), Za (.mv 6 (.s 5)), Zb 6 true (.fld 7 (.s 1) 1), Zb 6 true (.load 8 false 1 (.s 7)), Zb 6 true (.call 9 [] (.f n_spec_l1In) [.s 8, .c (.int .i64 (-1)), .c (.int .i64 99)]), Za (.pick 10 (.s 6) (.s 9) cF), Za (.mv 11 (.s 10)), Zb 11 true (.fld 12 (.s 1) 2), Zb 11 true (.load 13 false 1 (.s 12)), Zb 11 true (.call 14 [] (.f n_spec_l1In) [.s 13, .c (.int .i64 0), .c (.int .i64 2000)]), Za (.pick 15 (.s 11) (.s 14) cF), Za (.mv 16 (.s 15)), Zb 16 true (.fld 17 (.s 1) 3), Zb 16 true (.load 18 false 1 (.s 17)), Zb 16 true (.fld 19 (.s 1) 2), Zb 16 true (.load 20 false 1 (.s 19)), Zb 16 true (.call 21 [] (.f n_spec_l1In) [.s 18, .s 20, .c (.int .i64 2000)]), Za (.pick 22 (.s 16) (.s 21) cF), Za (.mv 23 (.s 22)), Zb 23 true (.fld 24 (.s 1) 4), Zb 23 true (.load 25 false 1 (.s 24)), Zb 23 true (.call 26 [] (.f n_spec_l1In) [.s 25, .c (.int .i64 0), .c (.int .i64 2000)]), Za (.pick 27 (.s 23) (.s 26) cF), Za (.mv 2 (.s 27))] [2])
.ret))
theorem c_spec_IsExclusion (x : GExclusion) : Ctr Tryz.prog n_spec_IsExclusion [aS x.enc] [rB (isExcl x)] := by
 refine cA m_spec_IsExclusion 1 28 [(.tmp 2, [false])] Tryz.func99 rfl rfl ?_; unfold m_spec_IsExclusion
 intro hb
 clear hb
 simp only [↓reduceIte, reduceEqDiff, reduceLT, reduceLeDiff, reduceAdd, reduceCtorEq, go_sem]
 repeat' first
  | (refine And.intro ?_ ?_ <;> intro h)
  | (apply callK_of (c_spec_l1In _ _ _); simp only [↓reduceIte, reduceEqDiff, reduceLT, reduceLeDiff, reduceAdd, reduceCtorEq, go_sem])
 all_goals (unfold isExcl; first | (symm; rw [decide_eq_false_iff_not]; omega) | (rw [Bool.eq_iff_iff]; simp only [decide_eq_true_eq]; omega))
def hidesB (x : GExclusion) (c : GCapture) : Bool := isExcl x && decide (c.Address.Host = x.Host ∧ (x.Path = -1 ∨ c.Address.Path = x.Path) ∧ x.From ≤ c.Tick ∧ c.Tick ≤ x.Until)
def hiddenBy (x : GExclusion) (c : GCapture) (now : Int) : Bool := decide (x.Asked ≤ now) && hidesB x c
def m_impl_Exclusion_hides : MC :=
(.seq (pr [.box 2 0 (.s 0), .box 3 1 (.s 1), .mv 4 cF] [2,3])
(.seq (.reg [Za (.load 5 true 5 (.s 2)), Za (.call 6 [] (.f n_impl_IsExclusion) [.s 5]), Za (.mv 7 (.s 6)), Zb 7 true (.fld 8 (.s 3) 0), Zb 7 true (.fld 9 (.s 8) 0), Zb 7 true (.load 10 false 1 (.s 9)), Zb 7 true (.fld 11 (.s 2) 0), Zb 7 true (.load 12 false 1 (.s 11)), Zb 7 true (.bin 13 false .eql (.s 10) (.s 12)), Za (.pick 14 (.s 7) (.s 13) cF), Za (.mv 15 (.s 14)), Zb 15 true (.fld 16 (.s 2) 1), Zb 15 true (.load 17 false 1 (.s 16)), Zb 15 true (.bin 18 false .eql (.s 17) (.c (.int .i64 (-1)))), Zb 15 true (.mv 19 (.s 18)), Zb 19 false (.fld 20 (.s 3) 0), Zb 19 false (.fld 21 (.s 20) 1), Zb 19 false (.load 22 false 1 (.s 21)), Zb 19 false (.fld 23 (.s 2) 1), Zb 19 false (.load 24 false 1 (.s 23)), Zb 19 false (.bin 25 false .eql (.s 22) (.s 24)), Zb 15 true (.pick 26 (.s 19) cT (.s 25)), Za (.pick 27 (.s 15) (.s 26) cF), Za (.mv 28 (.s 27)), Zb 28 true (.fld 29 (.s 3) 3), Zb 28 true (.load 30 false 1 (.s 29)), Zb 28 true (.fld 31 (.s 2) 2), Zb 28 true (.load 32 false 1 (.s 31)), Zb 28 true (.fld 33 (.s 2) 3), Zb 28 true (.load 34 false 1 (.s 33)), Zb 28 true (.call 35 [] (.f n_impl_InRange) [.s 30, .s 32, .s 34]), Za (.pick 36 (.s 28) (.s 35) cF), Za (.mv 4 (.s 36))] [4])
.ret))
theorem c_impl_hides (x : GExclusion) (c : GCapture) : Ctr Tryz.prog n_impl_Exclusion_hides [aS x.enc, aS c.enc] [rB (hidesB x c)] := by
 refine cA m_impl_Exclusion_hides 2 37 [(.tmp 4, [false])] Tryz.func278 rfl rfl ?_; unfold m_impl_Exclusion_hides
 intro hb
 clear hb
 simp only [↓reduceIte, reduceEqDiff, reduceLT, reduceAdd, reduceCtorEq, go_sem]
 repeat' first
  | (refine And.intro ?_ ?_ <;> intro h)
  | (apply callK_of (c_impl_IsExclusion _); simp only [↓reduceIte, reduceEqDiff, reduceLT, reduceLeDiff, reduceAdd, reduceCtorEq, go_sem])
  | (apply callK_of (c_impl_InRange _ _ _); simp only [↓reduceIte, reduceEqDiff, reduceLT, go_sem])
 all_goals (unfold hidesB; first | (rw [‹isExcl x = false›]; rfl) | (rw [‹isExcl x = true›, Bool.true_and]; first | (symm; rw [decide_eq_false_iff_not]; omega) | (rw [Bool.eq_iff_iff]; simp only [decide_eq_true_eq]; omega)))
def m_spec_l25Meets : MC :=
(.seq (pr [.box 2 0 (.s 0), .box 3 1 (.s 1), .mv 4 cF] [2,3])
(.seq (.reg [Za (.load 5 true 5 (.s 2)), Za (.call 6 [] (.f n_spec_IsExclusion) [.s 5]), Za (.mv 7 (.s 6)), Zb 7 true (.fld 8 (.s 2) 0), Zb 7 true (.load 9 false 1 (.s 8)), Zb 7 true (.fld 10 (.s 3) 0), Zb 7 true (.fld 11 (.s 10) 0), Zb 7 true (.load 12 false 1 (.s 11)), Zb 7 true (.bin 13 false .eql (.s 9) (.s 12)), Za (.pick 14 (.s 7) (.s 13) cF), Za (.mv 15 (.s 14)), Zb 15 true (.fld 16 (.s 2) 1), Zb 15 true (.load 17 false 1 (.s 16)), Zb 15 true (.bin 18 false .eql (.s 17) (.c (.int .i64 (-1)))), Zb 15 true (.mv 19 (.s 18)), Zb 19 false (.fld 20 (.s 2) 1), Zb 19 false (.load 21 false 1 (.s 20)), Zb 19 false (.fld 22 (.s 3) 0), Zb 19 false (.fld 23 (.s 22) 1), Zb 19 false (.load 24 false 1 (.s 23)), Zb 19 false (.bin 25 false .eql (.s 21) (.s 24)), Zb 15 true (.pick 26 (.s 19) cT (.s 25)), Za (.pick 27 (.s 15) (.s 26) cF), Za (.mv 28 (.s 27)), Zb 28 true (.fld 29 (.s 3) 3), Zb 28 true (.load 30 false 1 (.s 29)), Zb 28 true (.fld 31 (.s 2) 2), Zb 28 true (.load 32 false 1 (.s 31)), Zb 28 true (.fld 33 (.s 2) 3), Zb 28 true (.load 34 false 1 (.s 33)), Zb 28 true (.call 35 [] (.f n_spec_l1In) [.s 30, .s 32, .s 34]), Za (.pick 36 (.s 28) (.s 35) cF), Za (.mv 4 (.s 36))] [4])
.ret))
theorem c_spec_l25Meets (x : GExclusion) (c : GCapture) : Ctr Tryz.prog n_spec_l25Meets [aS x.enc, aS c.enc] [rB (hidesB x c)] := by
 refine cA m_spec_l25Meets 2 37 [(.tmp 4, [false])] Tryz.func294 rfl rfl ?_; unfold m_spec_l25Meets
 intro hb
 clear hb
 simp only [↓reduceIte, reduceEqDiff, reduceLT, reduceAdd, reduceCtorEq, go_sem]
 repeat' first
  | (refine And.intro ?_ ?_ <;> intro h)
  | (apply callK_of (c_spec_IsExclusion _); simp only [↓reduceIte, reduceEqDiff, reduceLT, reduceLeDiff, reduceAdd, reduceCtorEq, go_sem])
  | (apply callK_of (c_spec_l1In _ _ _); simp only [↓reduceIte, reduceEqDiff, reduceLT, go_sem])
 all_goals (unfold hidesB; first | (rw [‹isExcl x = false›]; rfl) | (rw [‹isExcl x = true›, Bool.true_and]; first | (symm; rw [decide_eq_false_iff_not]; omega) | (rw [Bool.eq_iff_iff]; simp only [decide_eq_true_eq]; omega)))
def m_impl_IsHiddenBy : MC :=
(.seq (pr [.box 3 0 (.s 0), .box 4 1 (.s 1), .mv 6 cF] [2,3,4])
(.seq (.reg [Za (.mv 7 (.s 2)), Za (.fld 8 (.s 3) 4), Za (.load 9 false 1 (.s 8)), Za (.bin 10 false .geq (.s 7) (.s 9)), Za (.mv 11 (.s 10)), Zb 11 true (.load 12 true 5 (.s 3)), Zb 11 true (.load 13 true 9 (.s 4)), Zb 11 true (.call 14 [] (.f n_impl_Exclusion_hides) [.s 12, .s 13]), Za (.pick 15 (.s 11) (.s 14) cF), Za (.mv 6 (.s 15))] [6])
.ret))
theorem c_impl_IsHiddenBy (x : GExclusion) (c : GCapture) (now : Int) : Ctr Tryz.prog n_impl_IsHiddenBy [aS x.enc, aS c.enc, aI now] [rB (hiddenBy x c now)] := by
 refine cA m_impl_IsHiddenBy 2 16 [(.tmp 6, [false])] Tryz.func237 rfl rfl ?_; unfold m_impl_IsHiddenBy
 intro hb
 clear hb
 simp only [↓reduceIte, reduceEqDiff, reduceLT, reduceAdd, reduceCtorEq, go_sem]
 repeat' first
  | (refine And.intro ?_ ?_ <;> intro h)
  | (apply callK_of (c_impl_hides _ _); simp only [↓reduceIte, reduceEqDiff, reduceLT, go_sem])
 all_goals (unfold hiddenBy; first | (rw [‹hidesB x c = false›]; simp) | (simp; done) | (simp_all; done) | (intros; omega) | (simp_all; intros; omega))
def m_spec_IsHiddenBy : MC :=
(.seq (pr [.box 3 0 (.s 0), .box 4 1 (.s 1), .mv 6 cF] [2,3,4])
(.seq (.reg [Za (.load 7 true 5 (.s 3)), Za (.load 8 true 9 (.s 4)), Za (.call 9 [] (.f n_spec_l25Meets) [.s 7, .s 8]), Za (.mv 10 (.s 9)), Zb 10 true (.mv 11 (.s 2)), Zb 10 true (.fld 12 (.s 3) 4), Zb 10 true (.load 13 false 1 (.s 12)), Zb 10 true (.bin 14 false .geq (.s 11) (.s 13)), Za (.pick 15 (.s 10) (.s 14) cF), Za (.mv 6 (.s 15))] [6])
.ret))
theorem c_spec_IsHiddenBy (x : GExclusion) (c : GCapture) (now : Int) : Ctr Tryz.prog n_spec_IsHiddenBy [aS x.enc, aS c.enc, aI now] [rB (hiddenBy x c now)] := by
 refine cA m_spec_IsHiddenBy 2 16 [(.tmp 6, [false])] Tryz.func275 rfl rfl ?_; unfold m_spec_IsHiddenBy
 intro hb
 clear hb
 simp only [↓reduceIte, reduceEqDiff, reduceLT, reduceAdd, reduceCtorEq, go_sem]
 repeat' first
  | (refine And.intro ?_ ?_ <;> intro h)
  | (apply callK_of (c_spec_l25Meets _ _); simp only [↓reduceIte, reduceEqDiff, reduceLT, reduceAdd, reduceCtorEq, go_sem])
 all_goals (unfold hiddenBy; first | (rw [‹hidesB x c = false›]; simp) | (simp; done) | (simp_all; done) | (intros; omega) | (simp_all; intros; omega))
theorem cut_one {α : Type} {f : α → List T} {xs : List α} {k : Nat} {x : α} (hx : xs[k]? = some x) : (if k = 0 ∧ (((k + 1 : Nat) : Int) - (k : Int)).toNat = xs.length then xs.map f else List.take (((k + 1 : Nat) : Int) - (k : Int)).toNat (List.drop k (xs.map f))) = [x].map f := by
 have e : (((k + 1 : Nat) : Int) - (k : Int)).toNat = 1 := by omega
 have hk := len_at hx
 rw [e]
 have hd : List.take 1 (List.drop k (xs.map f)) = [x].map f := by
  rw [← List.map_drop, drop_cons hx]; rfl
 split
 ·rename_i h
  rw [h.1] at hd
  rw [← hd, List.drop_zero, List.take_of_length_le (by rw [List.length_map, ← h.2]; exact Nat.le_refl _)]
 ·exact hd
def hiddenIn (c : GCapture) (l : List GExclusion) (now : Int) : Bool := l.any fun x => hiddenBy x c now
def visible (cs : List GCapture) (l : List GExclusion) (now : Int) : List GCapture := cs.filter fun c => !hiddenIn c l now
theorem visible_snoc {cs : List GCapture} {l : List GExclusion} {now : Int} {k : Nat} {c : GCapture} (h : cs[k]? = some c) : visible (cs.take (k + 1)) l now = if hiddenIn c l now then visible (cs.take k) l now else visible (cs.take k) l now ++ [c] := by
 unfold visible
 rw [take_snoc h, List.filter_append]
 cases hh : hiddenIn c l now <;> simp [hh]
theorem visible_len (cs : List GCapture) (l : List GExclusion) (now : Int) : (visible cs l now).length ≤ cs.length := List.length_filter_le _ _
theorem sum_filter_le {α : Type} {p : α → Bool} {f : α → Nat} : ∀ l : List α, ((l.filter p).map f).sum ≤ (l.map f).sum
 | [] => by simp
 | x :: l => by
  have := sum_filter_le (p := p) (f := f) l
  rw [List.filter_cons]
  split <;> simp <;> omega
def m_impl_VisibleAt_1 : MC :=
(.seq (pr [.box 3 0 (.s 0), .mv 4 cF] [1,2,3])
(.seq (pr [.load 5 true 5 (.s 3), .load 6 true 9 (.s 1), .load 7 false 1 (.s 2), .call 8 [] (.f n_impl_IsHiddenBy) [.s 5, .s 6, .s 7], .mv 4 (.s 8)] [4])
.ret))
theorem c_impl_VisibleAt_1 (x : GExclusion) (c : GCapture) (now : Int) : Ctr Tryz.prog n_impl_VisibleAt_1 [aS x.enc, (false, [.pb c.enc]), (false, [.pb [tI now]])] [rB (hiddenBy x c now)] := by
 refine cA m_impl_VisibleAt_1 1 9 [(.tmp 4, [false])] Tryz.func236 rfl rfl ?_; unfold m_impl_VisibleAt_1
 intro hb
 clear hb
 simp only [↓reduceIte, reduceEqDiff, reduceLT, reduceAdd, reduceCtorEq, go_sem]
 refine callK_of (c_impl_IsHiddenBy _ _ _) ?_
 simp only [↓reduceIte, reduceEqDiff, reduceLT, go_sem]
def m_impl_VisibleAt : MC :=
(.seq (pr [.box 5 0 (.s 2), .nilo 6 1 9] [0,1,5])
(.seq (pr [.nilo 7 2 9] [0,1,5,7])
(.seq (.seq (pr [.mv 10 (.s 0), .len 11 false (.s 10), .mv 12 (ci 0)] [1,5,7,10,11,12])
(.block 0 (.loop ([1,5,7,10,11,12], [1,3,4]) (.seq (pr [.bin 13 false .lss (.s 12) (.s 11)] [1,5,7,10,11,12,13])
(.seq (.cond (.s 13) .skip (.exit 0))
(.seq (.block 1 (.seq (pr [.idx 14 9 (.s 10) (.s 12), .load 15 true 9 (.s 14), .alloc 9 3 [pz, pz, pz, pz, pz, .emp 1, pz, pz, pz], .store 9 (.s 9) (.s 15)] [1,5,7,9,10,11,12])
(.seq (pr [.mv 16 (.s 1), .clos 17 n_impl_VisibleAt_1 [9, 5], .call 18 [] (.f n_slices_ContainsFunc_impl_Exclusion_impl_Exclusion) [.s 16, .s 17], .un 19 .not (.s 18)] [1,5,7,9,10,11,12,19])
(.cond (.s 19) (pr [.mv 20 (.s 7), .load 21 true 9 (.s 9), .lit 22 4 9 88 [.s 21], .app 23 2 9 88 (.s 20) (.s 22), .mv 7 (.s 23)] [1,5,7,10,11,12]) .skip))))
(pr [.bin 24 false .add (.s 12) (ci 1), .mv 12 (.s 24)] [1,5,7,10,11,12])))))))
(.seq (pr [.mv 25 (.s 7), .call 26 [1] (.f n_impl_copyCaptures) [.s 25], .mv 6 (.s 26)] [6])
.ret))))
theorem c_impl_VisibleAt (cs : List GCapture) (l : List GExclusion) (now : Int) (hs : cs.length + (cs.map GCapture.size).sum ≤ 1073741824) : Ctr Tryz.prog n_impl_VisibleAt [aL 9 (cs.map GCapture.enc), aL 5 (l.map GExclusion.enc), aI now] [rL 9 ((visible cs l now).map GCapture.enc)] := by
 refine cA m_impl_VisibleAt 5 27 [(.tmp 6, [true])] Tryz.func179 rfl rfl ?_; unfold m_impl_VisibleAt
 intro hb
 clear hb
 simp only [↓reduceIte, reduceEqDiff, reduceLT, reduceAdd, reduceCtorEq, go_sem]
 refine loopK_rng cs (fun k => [(7, .val false [.ref 2 0 9 0 (visible (cs.take k) l now).length]), (12, vI k)]) (fun k => [(2, ⟨0, .row (visible (cs.take k) l now).isEmpty 9 ((visible (cs.take k) l now).map GCapture.enc)⟩)]) (fun _ => True) (by simp only [roomB]; omega) ?_
 simp only [↓reduceIte, reduceEqDiff, reduceAdd, reduceCtorEq, go_sem]
 refine ⟨?_, trivial, ?_, ?_⟩
 ·simp only [↓reduceIte, reduceEqDiff, reduceLT, go_sem, List.take_zero]
  exact ⟨rfl, rfl, rfl⟩
 ·intro k x hx _ h0 h1 hw
  have hk : k < cs.length := by omega
  have hlt := List.length_take_le k cs
  have hv := visible_len (cs.take k) l now
  simp only [↓reduceIte, reduceEqDiff, reduceLT, reduceAdd, reduceCtorEq, go_sem, bk_eq hx, h0, h1]
  refine callK_of (c_slices_ContainsFunc_Exclusion l _ [.pb x.enc, .pb [tI now]] (fun y => hiddenBy y x now) fun y _ => c_impl_VisibleAt_1 y x now) ?_
  simp only [↓reduceIte, reduceEqDiff, reduceLT, reduceAdd, reduceMul, reduceCtorEq, go_sem, hw]
  refine ⟨fun h => ?_, fun h => ?_⟩
  ·have hx2 : hiddenIn x l now = false := h
   simp only [roomB, visible_snoc hx, hx2, Bool.false_eq_true, if_false]
   refine ⟨by omega, by omega, ?_, by simp, by simp, by simp [GCapture.enc]⟩
   cases visible (cs.take k) l now <;> simp
  ·have hx2 : hiddenIn x l now = true := h
   simp only [visible_snoc hx, hx2, if_true]
   first | trivial | exact ⟨rfl, rfl, rfl⟩ | (refine ⟨?_, ?_⟩ <;> rfl)
 ·intro _
  simp only [↓reduceIte, reduceEqDiff, reduceLT, reduceCtorEq, go_sem, List.take_length]
  refine callK_of (c_impl_copyCaptures _ ?_) ?_
  ·have := visible_len cs l now
   have := sum_filter_le (p := fun c => !hiddenIn c l now) (f := GCapture.size) cs
   unfold visible at *
   omega
  simp only [↓reduceIte, reduceEqDiff, reduceLT, reduceAdd, reduceCtorEq, go_sem]
def m_spec_l25Hidden : MC :=
(.seq (pr [.box 3 0 (.s 0), .mv 6 cF] [1,2,3])
(.seq (.seq (pr [.mv 7 (ci 0)] [1,2,3,7])
(.block 0 (.loop ([1,2,3,7], []) (.seq (.seq (pr [.mv 8 (.s 7), .mv 9 (.s 1), .len 10 false (.s 9), .bin 11 false .lss (.s 8) (.s 10)] [1,2,3,7,11])
(.cond (.s 11) .skip (.exit 0)))
(.seq (.block 1 (.seq (.dreg [Zc [15,18,19] (.mv 14 (.s 1)), Zc [14,18,19] (.mv 15 (.s 7)), Zd [18,19] [0,1] (.idx 16 5 (.s 14) (.s 15)), Zd [18,19] [0,1,2] (.load 17 true 5 (.s 16)), Zc [14,15,16,17,19] (.load 18 true 9 (.s 3)), Zc [14,15,16,17,18] (.mv 19 (.s 2)), Ze (.range 6) (.call 20 [] (.f n_spec_IsHiddenBy) [.s 17, .s 18, .s 19])] [1,2,3,7,20])
(.cond (.s 20) (.seq (pr [.mv 6 cT] [6])
.ret) .skip)))
(pr [.mv 12 (.s 7), .bin 13 false .add (.s 12) (ci 1), .mv 7 (.s 13)] [1,2,3,7]))))))
(.seq (pr [.mv 6 cF] [6])
.ret)))
theorem c_spec_l25Hidden (c : GCapture) (l : List GExclusion) (now : Int) : Ctr Tryz.prog n_spec_l25Hidden [aS c.enc, aL 5 (l.map GExclusion.enc), aI now] [rB (hiddenIn c l now)] := by
 refine cA m_spec_l25Hidden 1 21 [(.tmp 6, [false])] Tryz.func233 rfl rfl ?_; unfold m_spec_l25Hidden
 intro hb
 simp only [bdA, bdL, bdT, bdR_map, wfB_i64, roomB, and_true, List.length_map] at hb
 have hl := hb.2.1.1
 clear hb
 simp only [↓reduceIte, reduceEqDiff, reduceLT, reduceAdd, reduceCtorEq, go_sem]
 refine loopK_rng l (fun k => [(7, vI k)]) (fun k => []) (fun k => ((l.take k).any fun x => hiddenBy x c now) = false) hl ?_
 simp only [↓reduceIte, reduceEqDiff, reduceCtorEq, go_sem]
 refine ⟨?_, by simp, ?_, ?_⟩
 ·simp only [↓reduceIte, reduceEqDiff, reduceLT, go_sem]
 ·intro k x hx h h0 h1 hw
  simp only [↓reduceIte, reduceEqDiff, reduceLT, reduceAdd, reduceCtorEq, go_sem, bk_eq hx, h0, h1]
  refine callK_of (c_spec_IsHiddenBy _ _ _) ?_
  simp only [↓reduceIte, reduceEqDiff, reduceLT, reduceCtorEq, go_sem, hw]
  exact ⟨fun hn => (any_here hx hn).symm, fun hn => anyF_step hx h hn⟩
 ·intro h
  simp only [↓reduceIte, reduceEqDiff, reduceLT, reduceCtorEq, go_sem]
  rw [List.take_length] at h
  exact h.symm
def m_spec_VisibleAt : MC :=
(.seq (pr [.nilo 6 0 9] [0,1,2])
(.seq (pr [.lit 9 0 9 88 [], .mv 7 (.s 9)] [0,1,2,7])
(.seq (.seq (pr [.mv 8 (ci 0)] [0,1,2,7,8])
(.block 0 (.loop ([0,1,2,7,8], [1]) (.seq (.seq (pr [.mv 10 (.s 8), .mv 11 (.s 0), .len 12 false (.s 11), .bin 13 false .lss (.s 10) (.s 12)] [0,1,2,7,8,13])
(.cond (.s 13) .skip (.exit 0)))
(.seq (.block 1 (.seq (pr [.mv 16 (.s 0), .mv 17 (.s 8), .idx 18 9 (.s 16) (.s 17), .load 19 true 9 (.s 18), .mv 20 (.s 1), .mv 21 (.s 2), .call 22 [] (.f n_spec_l25Hidden) [.s 19, .s 20, .s 21], .un 23 .not (.s 22)] [0,1,2,7,8,23])
(.cond (.s 23) (pr [.mv 24 (.s 7), .mv 25 (.s 0), .mv 26 (.s 8), .mv 27 (.s 8), .bin 28 false .add (.s 27) (ci 1), .slc 29 9 (.s 25) (some (.s 26)) (some (.s 28)) none, .call 30 [1] (.f n_spec_l15Copy) [.s 29], .app 31 0 9 88 (.s 24) (.s 30), .mv 7 (.s 31)] [0,1,2,7,8]) .skip)))
(pr [.mv 14 (.s 8), .bin 15 false .add (.s 14) (ci 1), .mv 8 (.s 15)] [0,1,2,7,8]))))))
(.seq (pr [.mv 32 (.s 7), .mv 6 (.s 32)] [6])
.ret))))
theorem c_spec_VisibleAt (cs : List GCapture) (l : List GExclusion) (now : Int) (hs : cs.length + (cs.map GCapture.size).sum ≤ 1073741824) : Ctr Tryz.prog n_spec_VisibleAt [aL 9 (cs.map GCapture.enc), aL 5 (l.map GExclusion.enc), aI now] [rL 9 ((visible cs l now).map GCapture.enc)] := by
 refine cA m_spec_VisibleAt 2 33 [(.tmp 6, [true])] Tryz.func174 rfl rfl ?_; unfold m_spec_VisibleAt
 intro hb
 clear hb
 simp only [↓reduceIte, reduceEqDiff, reduceLT, reduceAdd, reduceMul, reduceCtorEq, go_sem]
 refine loopK_rng cs (fun k => [(7, .val false [.ref 0 0 9 0 (visible (cs.take k) l now).length]), (8, vI k)]) (fun k => [(0, ⟨0, .row true 9 ((visible (cs.take k) l now).map GCapture.enc)⟩)]) (fun _ => True) (by simp only [roomB]; omega) ?_
 simp only [↓reduceIte, reduceEqDiff, reduceAdd, reduceCtorEq, go_sem]
 refine ⟨?_, trivial, ?_, ?_⟩
 ·simp only [↓reduceIte, reduceEqDiff, reduceLT, reduceCtorEq, go_sem, List.take_zero]
  exact ⟨rfl, rfl⟩
 ·intro k x hx _ h0 h1 hw
  have hk : k < cs.length := by omega
  have hlt := List.length_take_le k cs
  have hv := visible_len (cs.take k) l now
  simp only [↓reduceIte, reduceEqDiff, reduceLT, reduceAdd, reduceCtorEq, go_sem, bk_eq hx, h0, h1]
  refine callK_of (c_spec_l25Hidden _ _ _) ?_
  simp only [↓reduceIte, reduceEqDiff, reduceLT, reduceAdd, reduceCtorEq, go_sem, hw]
  refine ⟨fun h => ?_, fun h => ?_⟩
  ·rw [cut_one hx]
   refine ⟨by omega, ?_⟩
   refine callK_of (c_spec_l15Copy [x] ?_) ?_
   ·have hx1 := mem_sum (f := GCapture.size) (at_mem hx)
    simp only [List.length_cons, List.length_nil, List.map_cons, List.map_nil, List.sum_cons, List.sum_nil]
    omega
   simp only [↓reduceIte, reduceEqDiff, reduceLT, reduceAdd, reduceCtorEq, go_sem, hw]
   simp only [roomB, visible_snoc hx, h, Bool.false_eq_true, if_false]
   exact ⟨by omega, fun _ => ⟨by simp, by simp [GCapture.enc]⟩⟩
  ·simp only [visible_snoc hx, h, if_true]
   first | trivial | exact ⟨rfl, rfl⟩
 ·intro _
  simp only [↓reduceIte, reduceEqDiff, reduceLT, reduceCtorEq, go_sem, List.take_length]
end Go.Proofs.YtpclnmleldeleaaGreatR
namespace Go.Proofs.YtpclnmleldeleaaGreatR
open Go Go.RowKit Go.Proofs
open Nat (reduceEqDiff reduceLT reduceLeDiff reduceAdd reduceMul)
open List (reduceReplicate)
set_option linter.unusedSimpArgs false
set_option linter.unusedVariables false
end Go.Proofs.YtpclnmleldeleaaGreatR
namespace Go.Proofs.YtpclnmleldeleaaGreatR
open Go Go.RowKit Go.Proofs
open Nat (reduceEqDiff reduceLT reduceLeDiff reduceAdd reduceMul)
open List (reduceReplicate)
set_option linter.unusedSimpArgs false
set_option linter.unusedVariables false
end Go.Proofs.YtpclnmleldeleaaGreatR
namespace Go.Proofs.YtpclnmleldeleaaGreatR
open Go Go.RowKit Go.Proofs
open Nat (reduceEqDiff reduceLT reduceLeDiff reduceAdd reduceMul)
open List (reduceReplicate)
set_option linter.unusedSimpArgs false
set_option linter.unusedVariables false
end Go.Proofs.YtpclnmleldeleaaGreatR
namespace Go.Proofs.YtpclnmleldeleaaGreatR
open Go Go.RowKit Go.Proofs
open Nat (reduceEqDiff reduceLT reduceLeDiff reduceAdd reduceMul)
open List (reduceReplicate)
set_option linter.unusedSimpArgs false
set_option linter.unusedVariables false
end Go.Proofs.YtpclnmleldeleaaGreatR
namespace Go.Proofs.YtpclnmleldeleaaGreatR
open Go Go.RowKit Go.Proofs
open Nat (reduceEqDiff reduceLT reduceLeDiff reduceAdd reduceMul)
open List (reduceReplicate)
set_option linter.unusedSimpArgs false
set_option linter.unusedVariables false
attribute [go_sem] eqB
def m_spec_l31Same : MC :=
(.seq (pr [.mv 4 cF] [0,1])
(.seq (.seq (pr [.mv 6 (.s 0), .len 7 false (.s 6), .mv 8 (.s 1), .len 9 false (.s 8), .bin 10 false .neq (.s 7) (.s 9)] [0,1,10])
(.cond (.s 10) (.seq (pr [.mv 4 cF] [4])
.ret) .skip))
(.seq (.seq (pr [.mv 5 (ci 0)] [0,1,5])
(.block 0 (.loop ([0,1,5], []) (.seq (.seq (pr [.mv 11 (.s 5), .mv 12 (.s 0), .len 13 false (.s 12), .bin 14 false .lss (.s 11) (.s 13)] [0,1,5,14])
(.cond (.s 14) .skip (.exit 0)))
(.seq (.block 1 (.seq (.dreg [Zc [18,21,22,23,24] (.mv 17 (.s 0)), Zc [17,21,22,23,24] (.mv 18 (.s 5)), Zd [21,22,23,24] [0,1] (.idx 19 6 (.s 17) (.s 18)), Zd [21,22,23,24] [0,1,2] (.load 20 true 6 (.s 19)), Zc [17,18,19,20,22] (.mv 21 (.s 1)), Zc [17,18,19,20,21] (.mv 22 (.s 5)), Zd [17,18,19,20] [4,5] (.idx 23 6 (.s 21) (.s 22)), Zd [17,18,19,20] [4,5,6] (.load 24 true 6 (.s 23)), Ze (.range 8) (.eqA 25 true [.i .i64, .i .i64, .i .i64, .i .i64, .i .i64, .i .i64] (.s 20) (.s 24))] [0,1,5,25])
(.cond (.s 25) (.seq (pr [.mv 4 cF] [4])
.ret) .skip)))
(pr [.mv 15 (.s 5), .bin 16 false .add (.s 15) (ci 1), .mv 5 (.s 16)] [0,1,5]))))))
(.seq (pr [.mv 4 cT] [4])
.ret))))
theorem c_spec_l31Same (xs ys : List GFound) : Ctr Tryz.prog n_spec_l31Same [aL 6 (xs.map GFound.enc), aL 6 (ys.map GFound.enc)] [rB (decide (xs = ys))] := by
 refine cA m_spec_l31Same 0 26 [(.tmp 4, [false])] Tryz.func182 rfl rfl ?_; unfold m_spec_l31Same
 intro hb
 simp only [bdA, bdL, bdT, bdR_map, roomB, and_true, List.length_map] at hb
 obtain ⟨⟨hl, -⟩, ⟨hl2, -⟩⟩ := hb
 simp only [↓reduceIte, reduceEqDiff, reduceLT, reduceCtorEq, go_sem]
 refine ⟨fun h => ne_len h, fun h => ?_⟩
 have hle : xs.length = ys.length := by omega
 refine loopK_rng xs (fun k => [(5, vI k)]) (fun k => []) (fun k => xs.take k = ys.take k) hl ?_
 simp only [↓reduceIte, reduceEqDiff, reduceCtorEq, go_sem]
 refine ⟨?_, rfl, ?_, ?_⟩
 ·simp only [↓reduceIte, reduceEqDiff, reduceLT, reduceCtorEq, go_sem]
 ·intro k x hx he h0 h1 hw
  obtain ⟨y, hy⟩ := at_some (show k < ys.length by omega)
  have h2 : (k : Int) < ys.length := by omega
  simp only [↓reduceIte, reduceEqDiff, reduceLT, reduceAdd, reduceCtorEq, go_sem, bk_eq hx, bk_eq hy, h0, h1, h2, hw]
  exact ⟨fun hn => ne_at hx hy (by rintro rfl; simp at hn), fun hn => (take_eq_step hx hy he).2 (by exact GFound.eqv.2 (by simpa using hn))⟩
 ·intro he
  simp only [↓reduceIte, reduceEqDiff, reduceLT, reduceCtorEq, go_sem]
  exact eq_all he hle
end Go.Proofs.YtpclnmleldeleaaGreatR
namespace Go.Proofs.YtpclnmleldeleaaGreatR
open Go Go.RowKit Go.Proofs
open Nat (reduceEqDiff reduceLT reduceLeDiff reduceAdd reduceMul)
open List (reduceReplicate)
set_option linter.unusedSimpArgs false
set_option linter.unusedVariables false
theorem cut_lo {α : Type} {f : α → List T} {l : List α} {m : Nat} (h : m ≤ l.length) : (if ((m : Int) - 0).toNat = l.length then l.map f else List.take ((m : Int) - 0).toNat (l.map f)) = (l.take m).map f := by
 rw [show ((m : Int) - 0).toNat = m by omega]
 split
 ·rename_i e; rw [List.take_of_length_le (by omega)]
 ·rw [List.map_take]
theorem cut_hi {α : Type} {f : α → List T} {l : List α} {m : Nat} (h : m ≤ l.length) : (if m = 0 ∧ ((l.length : Int) - (m : Int)).toNat = l.length then l.map f else List.take ((l.length : Int) - (m : Int)).toNat (List.drop m (l.map f))) = (l.drop m).map f := by
 rw [show ((l.length : Int) - (m : Int)).toNat = l.length - m by omega]
 split
 ·rename_i e; rw [e.1]; rfl
 ·rw [List.take_of_length_le (by simp), List.map_drop]
end Go.Proofs.YtpclnmleldeleaaGreatR
namespace Go.Proofs.YtpclnmleldeleaaGreatR
open Go Go.RowKit Go.Proofs
open Nat (reduceEqDiff reduceLT reduceLeDiff reduceAdd reduceMul)
open List (reduceReplicate)
set_option linter.unusedSimpArgs false
set_option linter.unusedVariables false
end Go.Proofs.YtpclnmleldeleaaGreatR
namespace Go.Proofs.YtpclnmleldeleaaGreatR
open Go Go.RowKit Go.Proofs
open Nat (reduceEqDiff reduceLT reduceLeDiff reduceAdd reduceMul)
open List (reduceReplicate)
set_option linter.unusedSimpArgs false
set_option linter.unusedVariables false
end Go.Proofs.YtpclnmleldeleaaGreatR
namespace Go.Proofs.YtpclnmleldeleaaGreatR
set_option linter.unusedSimpArgs false
set_option linter.unusedVariables false
namespace Srt
structure Swo {α : Type} (lt : α → α → Bool) : Prop where
 asy : ∀ x y, lt x y = true → lt y x = false
 neg : ∀ x y z, lt x z = true → lt x y = true ∨ lt y z = true
variable {α : Type} {lt : α → α → Bool}
theorem Swo.tr (h : Swo lt) {x y z : α} (h1 : lt x y = true) (h2 : lt y z = true) : lt x z = true := by
 rcases h.neg x z y h1 with k | k
 ·exact k
 ·rw [h.asy y z h2] at k; cases k
theorem Swo.ntr (h : Swo lt) {x y z : α} (h1 : lt x y = false) (h2 : lt y z = false) : lt x z = false := by
 cases k : lt x z
 ·rfl
 ·rcases h.neg x y z k with k | k <;> simp_all
theorem Swo.irr (h : Swo lt) (x : α) : lt x x = false := by
 cases k : lt x x
 ·rfl
 ·have := h.asy x x k; simp_all
theorem Swo.lf (h : Swo lt) {x y z : α} (h1 : lt x y = true) (h2 : lt z y = false) : lt x z = true := by
 rcases h.neg x z y h1 with k | k <;> simp_all
theorem Swo.fl (h : Swo lt) {x y z : α} (h1 : lt y x = false) (h2 : lt y z = true) : lt x z = true := by
 rcases h.neg y x z h2 with k | k <;> simp_all
variable (lt)
def ins (x : α) : List α → List α
 | [] => [x]
 | z :: zs => if lt x z then x :: z :: zs else z :: ins x zs
def mrg (A B : List α) : List α := B.foldl (fun acc x => ins lt x acc) A
def isort (l : List α) : List α := mrg lt [] l
def srt (l : List α) : Prop := l.Pairwise fun x y => lt y x = false
variable {lt}
theorem mem_ins {x y : α} : ∀ {l : List α}, y ∈ ins lt x l ↔ y = x ∨ y ∈ l
 | [] => by simp [ins]
 | z :: zs => by
  simp only [ins]
  split
  ·simp
  ·rw [List.mem_cons, mem_ins, List.mem_cons]
   constructor <;> rintro (h | h | h) <;> simp [h]
theorem len_ins {x : α} : ∀ {l : List α}, (ins lt x l).length = l.length + 1
 | [] => rfl
 | z :: zs => by
  simp only [ins]
  split
  ·rfl
  ·simp [len_ins]
theorem mrg_nil {A : List α} : mrg lt A [] = A := rfl
theorem mrg_cons {A B : List α} {x : α} : mrg lt A (x :: B) = mrg lt (ins lt x A) B := rfl
theorem mrg_append {A B C : List α} : mrg lt A (B ++ C) = mrg lt (mrg lt A B) C := List.foldl_append
theorem mem_mrg {y : α} : ∀ {B A : List α}, y ∈ mrg lt A B ↔ y ∈ A ∨ y ∈ B
 | [], A => by simp [mrg_nil]
 | x :: B, A => by
  rw [mrg_cons, mem_mrg, mem_ins, List.mem_cons]
  exact ⟨fun h => h.elim (fun h => h.elim (fun h => .inr (.inl h)) .inl) (fun h => .inr (.inr h)), fun h => h.elim (fun h => .inl (.inr h)) (fun h => h.elim (fun h => .inl (.inl h)) .inr)⟩
theorem len_mrg : ∀ {B A : List α}, (mrg lt A B).length = A.length + B.length
 | [], A => rfl
 | x :: B, A => by
  rw [mrg_cons, len_mrg, len_ins, List.length_cons]; omega
theorem len_isort {l : List α} : (isort lt l).length = l.length := by
 unfold isort; rw [len_mrg]; simp
theorem ins_comm (h : Swo lt) {x y : α} (hxy : lt x y = true) : ∀ (A : List α), ins lt y (ins lt x A) = ins lt x (ins lt y A)
 | [] => by simp [ins, hxy, h.asy x y hxy]
 | z :: zs => by
  cases k1 : lt x z <;> cases k2 : lt y z
  ·simp [ins, k1, k2, ins_comm h hxy zs]
  ·rw [h.tr hxy k2] at k1; cases k1
  ·simp [ins, k1, k2, h.asy x y hxy]
  ·simp [ins, k1, k2, hxy, h.asy x y hxy]
theorem mrg_past (h : Swo lt) {x : α} : ∀ {s A : List α}, (∀ y ∈ s, lt x y = true) → mrg lt (ins lt x A) s = ins lt x (mrg lt A s)
 | [], A, _ => rfl
 | y :: s, A, hs => by
  rw [mrg_cons, ins_comm h (hs y (by simp)), mrg_past h (fun z hz => hs z (by simp [hz])), mrg_cons]
theorem srt_cons {x : α} {l : List α} : srt lt (x :: l) ↔ (∀ y ∈ l, lt y x = false) ∧ srt lt l := List.pairwise_cons
theorem srt_append {A B : List α} : srt lt (A ++ B) ↔ srt lt A ∧ srt lt B ∧ ∀ a ∈ A, ∀ b ∈ B, lt b a = false := List.pairwise_append
theorem srt_ins (h : Swo lt) {x : α} : ∀ {l : List α}, srt lt l → srt lt (ins lt x l)
 | [], _ => by simp [ins, srt]
 | z :: zs, hs => by
  obtain ⟨h1, h2⟩ := srt_cons.1 hs
  simp only [ins]
  split
  ·rename_i k
   refine srt_cons.2 ⟨fun y hy => ?_, hs⟩
   rcases List.mem_cons.1 hy with rfl | hy
   ·exact h.asy _ _ k
   ·exact h.ntr (h1 y hy) (h.asy _ _ k)
  ·rename_i k
   refine srt_cons.2 ⟨fun y hy => ?_, srt_ins h h2⟩
   rcases mem_ins.1 hy with rfl | hy
   ·simpa using k
   ·exact h1 y hy
theorem srt_mrg (h : Swo lt) : ∀ {B A : List α}, srt lt A → srt lt (mrg lt A B)
 | [], A, hA => hA
 | x :: B, A, hA => srt_mrg h (B := B) (srt_ins h hA)
theorem srt_isort (h : Swo lt) (l : List α) : srt lt (isort lt l) := srt_mrg h List.Pairwise.nil
theorem ins_split (h : Swo lt) {x : α} : ∀ {l : List α}, srt lt l → ∃ s t, l = s ++ t ∧ ins lt x l = s ++ x :: t ∧ ∀ y ∈ t, lt x y = true
 | [], _ => ⟨[], [], rfl, rfl, by simp⟩
 | z :: zs, hs => by
  obtain ⟨h1, h2⟩ := srt_cons.1 hs
  cases k : lt x z
  ·obtain ⟨s, t, e, e2, h3⟩ := ins_split h (x := x) h2
   exact ⟨z :: s, t, by simp [e], by simp [ins, k, e2], h3⟩
  ·refine ⟨[], z :: zs, rfl, by simp [ins, k], fun y hy => ?_⟩
   rcases List.mem_cons.1 hy with rfl | hy
   ·exact k
   ·exact h.lf k (h1 y hy)
theorem mrg_ins (h : Swo lt) {x : α} {A s : List α} (hs : srt lt s) : mrg lt A (ins lt x s) = ins lt x (mrg lt A s) := by
 obtain ⟨s1, s2, rfl, e, h2⟩ := ins_split h (x := x) hs
 rw [e, mrg_append, mrg_cons, mrg_past h h2, mrg_append]
theorem isort_snoc {l : List α} {x : α} : isort lt (l ++ [x]) = ins lt x (isort lt l) := by
 unfold isort; rw [mrg_append]; rfl
theorem mrg_isort (h : Swo lt) {A : List α} (r : List α) : mrg lt A (isort lt r) = mrg lt A r := by
 suffices H : ∀ (n : Nat) (r : List α), r.length = n → mrg lt A (isort lt r) = mrg lt A r from H _ r rfl
 intro n
 induction n with
 | zero => intro r hr; obtain rfl := List.length_eq_zero_iff.1 hr; rfl
 | succ n ih =>
  intro r hr
  rcases List.eq_nil_or_concat r with rfl | ⟨s, x, rfl⟩
  ·rfl
  ·rw [List.concat_eq_append] at *
   rw [isort_snoc, mrg_ins h (srt_isort h s), ih s (by simpa using hr), mrg_append]; rfl
theorem isort_append (h : Swo lt) (l r : List α) : isort lt (l ++ r) = mrg lt (isort lt l) (isort lt r) := by
 rw [mrg_isort h]; unfold isort; rw [mrg_append]
theorem ins_left {b : α} {A2 : List α} (h : ∀ a ∈ A2.head?, lt b a = true) : ∀ (A1 : List α), ins lt b (A1 ++ A2) = ins lt b A1 ++ A2
 | [] => by
  cases A2 with
  | nil => rfl
  | cons z zs => simp [ins, h z (by simp)]
 | z :: zs => by
  simp only [List.cons_append, ins]
  split
  ·rfl
  ·rw [ins_left h zs, List.cons_append]
theorem ins_right {b : α} {A2 : List α} : ∀ {A1 : List α}, (∀ a ∈ A1, lt b a = false) → ins lt b (A1 ++ A2) = A1 ++ ins lt b A2
 | [], _ => rfl
 | z :: zs, h => by
  simp only [List.cons_append, ins, h z (by simp), ins_right (A1 := zs) (fun a ha => h a (by simp [ha]))]
  rfl
theorem ins_mid {x : α} {s t : List α} (h1 : ∀ a ∈ s, lt x a = false) (h2 : ∀ a ∈ t.head?, lt x a = true) : ins lt x (s ++ t) = s ++ x :: t := by
 rw [ins_right h1]
 cases t with
 | nil => rfl
 | cons z zs => simp [ins, h2 z (by simp)]
theorem mrg_left {A2 : List α} : ∀ {B A1 : List α}, (∀ b ∈ B, ∀ a ∈ A2.head?, lt b a = true) → mrg lt (A1 ++ A2) B = mrg lt A1 B ++ A2
 | [], _, _ => rfl
 | b :: B, A1, h => by
  rw [mrg_cons, ins_left (h b (by simp)), mrg_left (fun b hb => h b (by simp [hb])), mrg_cons]
theorem mrg_right {A1 : List α} : ∀ {B A2 : List α}, (∀ b ∈ B, ∀ a ∈ A1, lt b a = false) → mrg lt (A1 ++ A2) B = A1 ++ mrg lt A2 B
 | [], _, _ => rfl
 | b :: B, A2, h => by
  rw [mrg_cons, ins_right (h b (by simp)), mrg_right (fun b hb => h b (by simp [hb])), mrg_cons]
theorem mrg_nil_srt (h : Swo lt) {l : List α} (hs : srt lt l) : mrg lt [] l = l := by
 suffices H : ∀ (l A : List α), srt lt (A ++ l) → mrg lt A l = A ++ l from H l [] (by simpa using hs)
 intro l
 induction l with
 | nil => intro A _; simp [mrg_nil]
 | cons x l ih =>
  intro A hA
  have := srt_append.1 hA
  rw [mrg_cons, show ins lt x A = A ++ [x] from by
   have := ins_mid (lt := lt) (x := x) (s := A) (t := []) (fun a ha => (srt_append.1 hA).2.2 a ha x (by simp)) (by simp)
   simpa using this, ih (A ++ [x]) (by simpa using hA)]
  simp
theorem mrg_split {A1 A2 B1 B2 : List α} (h1 : ∀ b ∈ B1, ∀ a ∈ A2.head?, lt b a = true) (h2 : ∀ b ∈ B2, ∀ a ∈ A1, lt b a = false) (h3 : ∀ b ∈ B2, ∀ a ∈ B1, lt b a = false) : mrg lt (A1 ++ A2) (B1 ++ B2) = mrg lt A1 B1 ++ mrg lt A2 B2 := by
 rw [mrg_append, mrg_left h1, mrg_right]
 intro b hb a ha
 rcases mem_mrg.1 ha with k | k
 ·exact h2 b hb a k
 ·exact h3 b hb a k
def blk (lt : α → α → Bool) (s : Nat) (l : List α) : List α :=
 if h : s = 0 ∨ l.length ≤ s then isort lt l else isort lt (l.take s) ++ blk lt s (l.drop s)
termination_by l.length
decreasing_by
 simp only [List.length_drop]
 omega
end Srt
end Go.Proofs.YtpclnmleldeleaaGreatR
namespace Go.Proofs.YtpclnmleldeleaaGreatR
open Go Go.RowKit Go.Proofs
open Nat (reduceEqDiff reduceLT reduceLeDiff reduceAdd reduceMul)
open List (reduceReplicate)
set_option linter.unusedSimpArgs false
set_option linter.unusedVariables false
abbrev fI (f : FuncId) : RV := ⟨false, [(false, .fn f [])]⟩
attribute [go_sem] fI
def two (A : List (List T)) (e : List T) (B : List (List T)) (e' : List T) (C : List (List T)) : List (List T) := A ++ e :: (B ++ e' :: C)
theorem two_at {A B C : List (List T)} {p q : Nat} (hp : A.length = p) (hq : p + 1 + B.length = q) :
  (∀ e e', (two A e B e' C)[p]? = some e) ∧ (∀ e e', (two A e B e' C)[q]? = some e') ∧
  (∀ e e' u, (two A e B e' C).set p u = two A u B e' C) ∧ (∀ e e' u, (two A e B e' C).set q u = two A e B u C) ∧
  (∀ e e', (two A e B e' C).length = A.length + B.length + C.length + 2) ∧
  (∀ e e', (two A e B e' C).getD p [] = e) ∧ (∀ e e', (two A e B e' C).getD q [] = e') := by
 subst hp hq
 have h1 : ∀ e e', (two A e B e' C)[A.length]? = some e := fun e e' => by simp [two]
 have h2 : ∀ e e', (two A e B e' C)[A.length + 1 + B.length]? = some e' := fun e e' => by
  unfold two
  rw [List.getElem?_append_right (by omega), show A.length + 1 + B.length - A.length = B.length + 1 by omega, List.getElem?_cons_succ, List.getElem?_append_right (by omega), Nat.sub_self]
  rfl
 refine ⟨h1, h2, fun e e' u => by simp [two], fun e e' u => ?_, fun e e' => by simp [two]; omega, fun e e' => by rw [List.getD_eq_getElem?_getD, h1]; rfl, fun e e' => by rw [List.getD_eq_getElem?_getD, h2]; rfl⟩
 unfold two
 rw [List.set_append_right _ _ (by omega), show A.length + 1 + B.length - A.length = B.length + 1 by omega, List.set_cons_succ, List.set_append_right _ _ (by omega), Nat.sub_self]
 rfl
def swp {α : Type} (P X M Y Q : List α) (i : Nat) : List α := (P ++ Y.take i) ++ (X.drop i ++ M ++ X.take i) ++ (Y.drop i ++ Q)
theorem swp_len {α : Type} {P X M Y Q : List α} {i : Nat} (h : X.length = Y.length) : (swp P X M Y Q i).length = (P ++ X ++ M ++ Y ++ Q).length := by
 simp [swp, List.length_take, List.length_drop]; omega
theorem swp_two {α : Type} {P X M Y Q : List α} {i : Nat} {x y : α} {f : α → List T} (hx : X[i]? = some x) (hy : Y[i]? = some y) :
  (swp P X M Y Q i).map f = two ((P ++ Y.take i).map f) (f x) ((X.drop (i + 1) ++ M ++ X.take i).map f) (f y) ((Y.drop (i + 1) ++ Q).map f) ∧
  (swp P X M Y Q (i + 1)).map f = two ((P ++ Y.take i).map f) (f y) ((X.drop (i + 1) ++ M ++ X.take i).map f) (f x) ((Y.drop (i + 1) ++ Q).map f) := by
 constructor
 ·simp [swp, two, drop_cons hx, drop_cons hy]
 ·simp [swp, two, take_snoc hx, take_snoc hy]
theorem wN {a b : Nat} (h : a + b ≤ 9223372036854775807) : IntKind.i64.wrap ((a : Int) + (b : Int)) = ((a + b : Nat) : Int) := by
 rw [wI (by omega) (by omega)]; omega
theorem wN1 {a : Nat} (h : a + 1 ≤ 9223372036854775807) : IntKind.i64.wrap ((a : Int) + 1) = ((a + 1 : Nat) : Int) := by
 rw [wI (by omega) (by omega)]; omega
theorem wS {a b : Nat} (h : b ≤ a) (h2 : a ≤ 9223372036854775807) : IntKind.i64.wrap ((a : Int) - (b : Int)) = ((a - b : Nat) : Int) := by
 rw [wI (by omega) (by omega)]; omega
theorem wS1 {a : Nat} (h : 1 ≤ a) (h2 : a ≤ 9223372036854775807) : IntKind.i64.wrap ((a : Int) - 1) = ((a - 1 : Nat) : Int) := by
 rw [wI (by omega) (by omega)]; omega
def m_slices_swapRangeCmpFunc_impl_Found : MC :=
(.seq (pr [.mv 10 (ci 0)] [0,1,2,3,10])
(.block 0 (.loop ([0,1,2,3,10], []) (.seq (.seq (pr [.mv 11 (.s 10), .mv 12 (.s 3), .bin 13 false .lss (.s 11) (.s 12)] [0,1,2,3,10,13])
(.cond (.s 13) .skip (.exit 0)))
(.seq (.block 1 (.dreg [Zc [17,18,19,20,21,22,23,24,25,26,27,28,29,30,31,32,33,34,35] (.mv 16 (.s 0)), Zc [16,18,20,21,22,23,24,25,26,27,28,29,30,31,32,33,34,35] (.mv 17 (.s 1)), Zc [16,17,20,21,22,23,24,25,26,27,28,29,30,31,32,33,34,35] (.mv 18 (.s 10)), Zd [16,20,21,22,23,24,25,26,27,28,29,30,31,32,33,34,35] [1,2] (.bin 19 false .add (.s 17) (.s 18)), Zf [16,17,18,19,21,22,23,24,25,26,27,28,29,30,31,32,33,34,35,36] [0] (.mv 20 (.s 0)), Zf [16,17,18,19,20,22,24,25,26,27,28,29,30,31,32,33,34,35,36] [0] (.mv 21 (.s 2)), Zf [16,17,18,19,20,21,24,25,26,27,28,29,30,31,32,33,34,35,36] [0] (.mv 22 (.s 10)), Zg [16,17,18,19,20,24,25,26,27,28,29,30,31,32,33,34,35,36] [0] [5,6] (.bin 23 false .add (.s 21) (.s 22)), Zc [16,17,18,19,20,21,22,23,25,26,27,30,31,32,33,34,35] (.mv 24 (.s 0)), Zc [16,17,18,19,20,21,22,23,24,26,30,31,32,33,34,35] (.mv 25 (.s 2)), Zc [16,17,18,19,20,21,22,23,24,25,30,31,32,33,34,35] (.mv 26 (.s 10)), Zd [16,17,18,19,20,21,22,23,24,30,31,32,33,34,35] [9,10] (.bin 27 false .add (.s 25) (.s 26)), Zd [16,17,18,19,20,21,22,23,30,31,32,33,34,35] [8,9,10,11] (.idx 28 6 (.s 24) (.s 27)), Zd [16,17,18,19,20,21,22,23,30,31,32,33,34,35] [8,9,10,11,12] (.load 29 true 6 (.s 28)), Zc [16,17,18,19,20,21,22,23,24,25,26,27,28,29,31,32,33] (.mv 30 (.s 0)), Zc [16,17,18,19,20,21,22,23,24,25,26,27,28,29,30,32] (.mv 31 (.s 1)), Zc [16,17,18,19,20,21,22,23,24,25,26,27,28,29,30,31] (.mv 32 (.s 10)), Zd [16,17,18,19,20,21,22,23,24,25,26,27,28,29,30] [15,16] (.bin 33 false .add (.s 31) (.s 32)), Zd [16,17,18,19,20,21,22,23,24,25,26,27,28,29] [14,15,16,17] (.idx 34 6 (.s 30) (.s 33)), Zd [16,17,18,19,20,21,22,23,24,25,26,27,28,29] [14,15,16,17,18] (.load 35 true 6 (.s 34)), Zd [20,21,22,23] [0,1,2,3,8,9,10,11,12,13,14,15,16,17,18,19] (.idx 36 6 (.s 16) (.s 19)), { o := .store 6 (.s 36) (.s 29), hs := [20,21,22,23], ws := [0], bf := [0,1,2,3,8,9,10,11,12,13,14,15,16,17,18,19,20] }, Ze (.range 22) (.idx 37 6 (.s 20) (.s 23)), { o := .store 6 (.s 37) (.s 35), ws := [0], bf := (.range 23) }] [0,1,2,3,10]))
(pr [.mv 14 (.s 10), .bin 15 false .add (.s 14) (ci 1), .mv 10 (.s 15)] [0,1,2,3,10]))))))
theorem c_slices_swapRangeCmpFunc (P X M Y Q : List GFound) (f : FuncId) {a b n : Nat} (ha : P.length = a) (hb : (P ++ X ++ M).length = b) (hX : X.length = n) (hY : Y.length = n) : CtrI Tryz.prog n_slices_swapRangeCmpFunc_impl_Found [oL 6 ((P ++ X ++ M ++ Y ++ Q).map GFound.enc), iI a, iI b, iI n, fI f] [some (6, (P ++ Y ++ M ++ X ++ Q).map GFound.enc)] [] := by
 have hL0 : (P ++ X ++ M ++ Y ++ Q).length = b + n + Q.length := by rw [List.length_append, List.length_append, hb, hY]
 have hL1 : (P ++ Y ++ M ++ X ++ Q).length = (P ++ X ++ M ++ Y ++ Q).length := by simp; omega
 have hb' : b = a + n + M.length := by rw [← hb]; simp; omega
 have hsw0 : swp P X M Y Q 0 = P ++ X ++ M ++ Y ++ Q := by simp [swp]
 have hswn : swp P X M Y Q n = P ++ Y ++ M ++ X ++ Q := by simp [swp, ← hX, List.take_of_length_le (show Y.length ≤ X.length by omega), List.drop_of_length_le (show Y.length ≤ X.length by omega)]
 refine ctrI_at (M := m_slices_swapRangeCmpFunc_impl_Found) (m := 0) (n := 38) (res := []) hmix Tryz.func315 rfl (by kernel_rfl) rfl (by kernel_rfl) (by kernel_rfl) (Nat.le_of_ble_eq_true rfl) rfl rfl ?_; unfold m_slices_swapRangeCmpFunc_impl_Found
 intro hbd
 have hl := len_of_bd hbd
 clear hbd
 simp only [roomB] at hl
 rw [← hsw0, ← hswn]
 rw [← hsw0, ← hswn] at hL1
 rw [← hsw0] at hl hL0
 subst hX
 generalize hN : (swp P X M Y Q 0).length = N at *
 simp only [↓reduceIte, reduceEqDiff, reduceLT, reduceAdd, reduceCtorEq, go_sem, hN]
 refine loopK_rng X (fun i => [(10, vI i)]) (fun i => [(0, ⟨1, .row true 6 ((swp P X M Y Q i).map GFound.enc)⟩)]) (fun _ => True) (by simp only [roomB]; omega) ?_
 simp only [↓reduceIte, reduceEqDiff, reduceCtorEq, go_sem]
 refine ⟨?_, trivial, ?_, ?_⟩
 ·simp only [↓reduceIte, reduceEqDiff, reduceLT, reduceCtorEq, go_sem]
 ·intro i x hx _ h0 h1 hw
  have hi := len_at hx
  obtain ⟨y, hy⟩ := at_some (show i < Y.length by omega)
  obtain ⟨e1, e2⟩ := swp_two (P := P) (M := M) (Q := Q) (f := GFound.enc) hx hy
  have hlen := swp_len (P := P) (X := X) (M := M) (Y := Y) (Q := Q) (i := i) hY.symm
  rw [e1, e2]
  generalize hAe : (P ++ Y.take i).map GFound.enc = A at e1 e2
  generalize hBe : (X.drop (i + 1) ++ M ++ X.take i).map GFound.enc = B at e1 e2
  generalize hCe : (Y.drop (i + 1) ++ Q).map GFound.enc = C at e1 e2
  have hA : A.length = a + i := by subst hAe; simp; omega
  have hB : (a + i) + 1 + B.length = b + i := by subst hBe; simp; omega
  have hC : C.length = Y.length - (i + 1) + Q.length := by subst hCe; simp
  obtain ⟨g1, g2, s1, s2, hL, d1, d2⟩ := two_at (C := C) hA hB
  have hL' : ∀ e e', (two A e B e' C).length = N := fun e e' => by rw [hL]; omega
  have k1 : (0 : Int) ≤ ((a + i : Nat) : Int) := by omega
  have k2 : ((a + i : Nat) : Int) < (N : Int) := by omega
  have k3 : (0 : Int) ≤ ((b + i : Nat) : Int) := by omega
  have k4 : ((b + i : Nat) : Int) < (N : Int) := by omega
  have k5 : ¬ b + i = a + i := by omega
  simp only [↓reduceIte, reduceEqDiff, reduceLT, reduceAdd, reduceCtorEq, go_sem, g1, g2, s1, s2, hL', hw, h1, wN (a := a) (b := i) (by omega), wN (a := b) (b := i) (by omega), k1, k2, k3, k4]
 ·intro _
  simp only [↓reduceIte, reduceEqDiff, reduceLT, reduceCtorEq, go_sem]
def RotI (P X Y Q : List GFound) (m : Nat) (d : List GFound) (i j : Nat) : Prop :=
 ∃ C X' Y' D, d = P ++ C ++ X' ++ Y' ++ D ++ Q ∧ X'.length = i ∧ Y'.length = j ∧ P.length + C.length + i = m ∧ C ++ Y' ++ X' ++ D = Y ++ X ∧ 0 < i ∧ 0 < j
theorem RotI.gt {P X Y Q : List GFound} {m : Nat} {d : List GFound} {i j : Nat} (h : RotI P X Y Q m d i j) (hij : j < i) :
  ∃ P' X1 M Y' Q', d = P' ++ X1 ++ M ++ Y' ++ Q' ∧ P'.length = m - i ∧ (P' ++ X1 ++ M).length = m ∧ X1.length = j ∧ Y'.length = j ∧ RotI P X Y Q m (P' ++ Y' ++ M ++ X1 ++ Q') (i - j) j := by
 obtain ⟨C, X', Y', D, rfl, rfl, rfl, h3, h4, h5, h6⟩ := h
 obtain ⟨X1, X2, rfl, hX1⟩ : ∃ X1 X2, X' = X1 ++ X2 ∧ X1.length = Y'.length := ⟨X'.take Y'.length, X'.drop Y'.length, (List.take_append_drop _ _).symm, by simp; omega⟩
 simp only [List.length_append] at *
 exact ⟨P ++ C, X1, X2, Y', D ++ Q, by simp, by simp; omega, by simp; omega, hX1, rfl, C ++ Y', X2, X1, D, by simp, by omega, by omega, by simp; omega, by rw [← h4]; simp, by omega, by omega⟩
theorem RotI.le {P X Y Q : List GFound} {m : Nat} {d : List GFound} {i j : Nat} (h : RotI P X Y Q m d i j) (hij : i < j) :
  ∃ P' X' M Y2 Q', d = P' ++ X' ++ M ++ Y2 ++ Q' ∧ P'.length = m - i ∧ (P' ++ X' ++ M).length = m + j - i ∧ X'.length = i ∧ Y2.length = i ∧ RotI P X Y Q m (P' ++ Y2 ++ M ++ X' ++ Q') i (j - i) := by
 obtain ⟨C, X', Y', D, rfl, rfl, rfl, h3, h4, h5, h6⟩ := h
 obtain ⟨Y1, Y2, rfl, hY2⟩ : ∃ Y1 Y2, Y' = Y1 ++ Y2 ∧ Y2.length = X'.length := ⟨Y'.take (Y'.length - X'.length), Y'.drop (Y'.length - X'.length), (List.take_append_drop _ _).symm, by simp; omega⟩
 simp only [List.length_append] at *
 exact ⟨P ++ C, X', Y1, Y2, D ++ Q, by simp, by simp; omega, by simp; omega, rfl, hY2, C, Y2, Y1, X' ++ D, by simp, by omega, by omega, by omega, by rw [← h4]; simp, by omega, by omega⟩
theorem RotI.eq {P X Y Q : List GFound} {m : Nat} {d : List GFound} {i : Nat} (h : RotI P X Y Q m d i i) :
  ∃ P' X' Y' Q', d = P' ++ X' ++ [] ++ Y' ++ Q' ∧ P'.length = m - i ∧ (P' ++ X' ++ []).length = m ∧ X'.length = i ∧ Y'.length = i ∧ P' ++ Y' ++ [] ++ X' ++ Q' = P ++ Y ++ X ++ Q := by
 obtain ⟨C, X', Y', D, rfl, rfl, h2, h3, h4, h5, h6⟩ := h
 refine ⟨P ++ C, X', Y', D ++ Q, by simp, by simp; omega, by simp; omega, rfl, h2, ?_⟩
 have := congrArg (fun l => P ++ (l ++ Q)) h4
 simpa using this
theorem RotI.len {P X Y Q : List GFound} {m : Nat} {d : List GFound} {i j : Nat} (h : RotI P X Y Q m d i j) : d.length = (P ++ X ++ Y ++ Q).length ∧ i ≤ m ∧ m + j ≤ d.length ∧ 0 < i ∧ 0 < j := by
 obtain ⟨C, X', Y', D, rfl, rfl, rfl, h3, h4, h5, h6⟩ := h
 have := congrArg List.length h4
 simp at this ⊢
 omega
theorem RotI.start {P X Y Q : List GFound} {m i j : Nat} (hm : P.length + X.length = m) (hi : X.length = i) (hj : Y.length = j) (hX : 0 < X.length) (hY : 0 < Y.length) : RotI P X Y Q m (P ++ X ++ Y ++ Q) i j :=
 ⟨[], X, Y, [], by simp, hi, hj, by simp; omega, by simp, by omega, by omega⟩
def m_slices_rotateCmpFunc_impl_Found : MC :=
(.seq (pr [.mv 12 (.s 2), .mv 13 (.s 1), .bin 14 false .sub (.s 12) (.s 13), .mv 10 (.s 14)] [0,2,3,4,10])
(.seq (pr [.mv 15 (.s 3), .mv 16 (.s 2), .bin 17 false .sub (.s 15) (.s 16), .mv 11 (.s 17)] [0,2,4,10,11])
(.seq (.block 0 (.loop ([0,2,4,10,11], []) (.seq (.seq (pr [.mv 18 (.s 10), .mv 19 (.s 11), .bin 20 false .neq (.s 18) (.s 19)] [0,2,4,10,11,20])
(.cond (.s 20) .skip (.exit 0)))
(.block 1 (.seq (pr [.mv 21 (.s 10), .mv 22 (.s 11), .bin 23 false .gtr (.s 21) (.s 22)] [0,2,4,10,11,23])
(.cond (.s 23) (.seq (pr [.mv 24 (.s 0), .mv 25 (.s 2), .mv 26 (.s 10), .bin 27 false .sub (.s 25) (.s 26), .mv 28 (.s 2), .mv 29 (.s 11), .mv 30 (.s 4), .callI 31 [] (.f n_slices_swapRangeCmpFunc_impl_Found) [.s 24, .s 27, .s 28, .s 29, .s 30] [0] []] [0,2,4,10,11])
(pr [.mv 32 (.s 10), .mv 33 (.s 11), .bin 34 false .sub (.s 32) (.s 33), .mv 10 (.s 34)] [0,2,4,10,11])) (.seq (pr [.mv 35 (.s 0), .mv 36 (.s 2), .mv 37 (.s 10), .bin 38 false .sub (.s 36) (.s 37), .mv 39 (.s 2), .mv 40 (.s 11), .bin 41 false .add (.s 39) (.s 40), .mv 42 (.s 10), .bin 43 false .sub (.s 41) (.s 42), .mv 44 (.s 10), .mv 45 (.s 4), .callI 46 [] (.f n_slices_swapRangeCmpFunc_impl_Found) [.s 35, .s 38, .s 43, .s 44, .s 45] [0] []] [0,2,4,10,11])
(pr [.mv 47 (.s 11), .mv 48 (.s 10), .bin 49 false .sub (.s 47) (.s 48), .mv 11 (.s 49)] [0,2,4,10,11]))))))))
(pr [.mv 50 (.s 0), .mv 51 (.s 2), .mv 52 (.s 10), .bin 53 false .sub (.s 51) (.s 52), .mv 54 (.s 2), .mv 55 (.s 10), .mv 56 (.s 4), .callI 57 [] (.f n_slices_swapRangeCmpFunc_impl_Found) [.s 50, .s 53, .s 54, .s 55, .s 56] [0] []] []))))
theorem c_slices_rotateCmpFunc (P X Y Q : List GFound) (f : FuncId) {a m b : Nat} (ha : P.length = a) (hm : (P ++ X).length = m) (hb : (P ++ X ++ Y).length = b) (hX : 0 < X.length) (hY : 0 < Y.length) : CtrI Tryz.prog n_slices_rotateCmpFunc_impl_Found [oL 6 ((P ++ X ++ Y ++ Q).map GFound.enc), iI a, iI m, iI b, fI f] [some (6, (P ++ Y ++ X ++ Q).map GFound.enc)] [] := by
 refine ctrI_at (M := m_slices_rotateCmpFunc_impl_Found) (m := 0) (n := 58) (res := []) hmix Tryz.func306 rfl (by kernel_rfl) rfl (by kernel_rfl) (by kernel_rfl) (Nat.le_of_ble_eq_true rfl) rfl rfl ?_; unfold m_slices_rotateCmpFunc_impl_Found
 intro hbd
 have hl := len_of_bd hbd
 clear hbd
 have hN2 : (P ++ Y ++ X ++ Q).length = (P ++ X ++ Y ++ Q).length := by simp; omega
 have hm' : m = a + X.length := by rw [← hm, ← ha]; simp
 have hb' : b = m + Y.length := by rw [← hb, ← hm]; simp; omega
 have hbN : b ≤ (P ++ X ++ Y ++ Q).length := by rw [List.length_append, hb]; omega
 generalize hN : (P ++ X ++ Y ++ Q).length = N at *
 simp only [roomB] at hl
 simp only [↓reduceIte, reduceEqDiff, reduceLT, reduceAdd, reduceCtorEq, go_sem, hN, wS (a := m) (b := a) (by omega) (by omega), wS (a := b) (b := m) (by omega) (by omega)]
 refine loopK_up (ι := List GFound × Nat × Nat) (fun s => [(10, vI s.2.1), (11, vI s.2.2)]) (fun s => [(0, ⟨1, .row true 6 (s.1.map GFound.enc)⟩)]) (fun s => RotI P X Y Q m s.1 s.2.1 s.2.2) (fun s => s.2.1 + s.2.2) (P ++ X ++ Y ++ Q, m - a, b - m) ?_
 simp only [↓reduceIte, reduceEqDiff, reduceCtorEq, go_sem]
 refine ⟨?_, RotI.start (by omega) (show X.length = m - a by omega) (show Y.length = b - m by omega) hX hY, ?_⟩
 ·simp only [↓reduceIte, reduceEqDiff, reduceLT, reduceCtorEq, go_sem]
 ·rintro ⟨d, i, j⟩ hI
  simp only at hI
  obtain ⟨hd, h1, h2, h3, h4⟩ := hI.len
  rw [hN] at hd
  simp only [↓reduceIte, reduceEqDiff, reduceLT, reduceCtorEq, go_sem, hd]
  refine ⟨fun hne => ⟨fun hgt => ?_, fun hle => ?_⟩, fun heq => ?_⟩
  ·obtain ⟨P', X1, M, Y', Q', rfl, k1, k2, k3, k4, hR⟩ := hI.gt (by omega)
   have hd2 := hR.len.1
   rw [hN] at hd2
   rw [wS h1 (by omega)]
   apply callIK_of (c_slices_swapRangeCmpFunc P' X1 M Y' Q' f k1 k2 k3 k4)
   simp only [↓reduceIte, reduceEqDiff, reduceLT, reduceCtorEq, go_sem, wS (a := i) (b := j) (by omega) (by omega)]
   exact ⟨(_, i - j, j), ⟨⟨rfl, rfl⟩, rfl⟩, hR, by show i - j + j < i + j; omega⟩
  ·obtain ⟨P', X1, M, Y', Q', rfl, k1, k2, k3, k4, hR⟩ := hI.le (by omega)
   have hd2 := hR.len.1
   rw [hN] at hd2
   rw [wS h1 (by omega), wN (by omega), wS (a := m + j) (b := i) (by omega) (by omega)]
   apply callIK_of (c_slices_swapRangeCmpFunc P' X1 M Y' Q' f k1 k2 k3 k4)
   simp only [↓reduceIte, reduceEqDiff, reduceLT, reduceCtorEq, go_sem, wS (a := j) (b := i) (by omega) (by omega)]
   exact ⟨(_, i, j - i), ⟨⟨rfl, rfl⟩, rfl⟩, hR, by show i + (j - i) < i + j; omega⟩
  ·obtain rfl : i = j := by omega
   obtain ⟨P', X1, Y', Q', rfl, k1, k2, k3, k4, hR⟩ := hI.eq
   rw [wS h1 (by omega)]
   apply callIK_of (c_slices_swapRangeCmpFunc P' X1 [] Y' Q' f k1 k2 k3 k4)
   rw [hR]
   simp only [↓reduceIte, reduceCtorEq, go_sem]
def ltc (c : GFound → GFound → Int) (x y : GFound) : Bool := decide (c x y < 0)
def InsI (lt : GFound → GFound → Bool) (P S R : List GFound) (x : GFound) (d : List GFound) (j : Nat) : Prop :=
 ∃ s1 s2, d = P ++ s1 ++ x :: s2 ++ R ∧ P.length + s1.length = j ∧ s1 ++ s2 = S ∧ ∀ y ∈ s2, lt x y = true
theorem InsI.len {lt : GFound → GFound → Bool} {P S R : List GFound} {x : GFound} {d : List GFound} {j : Nat} (h : InsI lt P S R x d j) : d.length = P.length + S.length + 1 + R.length ∧ P.length ≤ j ∧ j ≤ P.length + S.length := by
 obtain ⟨s1, s2, rfl, rfl, rfl, h⟩ := h
 simp; omega
theorem InsI.done {lt : GFound → GFound → Bool} (hw : Srt.Swo lt) {P S R : List GFound} {x : GFound} {d : List GFound} {j : Nat} (h : InsI lt P S R x d j) (hs : Srt.srt lt S) (hj : j = P.length ∨ ∀ z ∈ d[j - 1]?, lt x z = false) : d = P ++ Srt.ins lt x S ++ R := by
 obtain ⟨s1, s2, rfl, rfl, rfl, h⟩ := h
 rw [Srt.ins_mid]
 ·simp
 ·intro y hy
  rcases List.eq_nil_or_concat s1 with rfl | ⟨s, z, rfl⟩
  ·simp at hy
  ·rcases hj with hj | hj
   ·simp at hj
   ·rw [List.concat_eq_append] at *
    have hz : lt x z = false := hj z (by simp [])
    rcases List.mem_append.1 hy with k | k
    ·have := (Srt.srt_append.1 (Srt.srt_append.1 hs).1).2.2 y k z (by simp)
     exact hw.ntr hz this
    ·obtain rfl := List.mem_singleton.1 k
     exact hz
 ·intro y hy
  exact h y (List.mem_of_mem_head? hy)
theorem InsI.step {lt : GFound → GFound → Bool} {P S R : List GFound} {x : GFound} {d : List GFound} {j : Nat} (h : InsI lt P S R x d j) (hj : P.length < j) :
  ∃ A z C, d = A ++ z :: ([] ++ x :: C) ∧ A.length = j - 1 ∧ d[j - 1]? = some z ∧ (lt x z = true → InsI lt P S R x (A ++ x :: ([] ++ z :: C)) (j - 1)) := by
 obtain ⟨s1, s2, rfl, rfl, rfl, h⟩ := h
 rcases List.eq_nil_or_concat s1 with rfl | ⟨s, z, rfl⟩
 ·simp at hj
 ·rw [List.concat_eq_append] at *
  refine ⟨P ++ s, z, s2 ++ R, by simp, by simp, by simp [], fun hl => ⟨s, z :: s2, by simp, by simp, by simp, ?_⟩⟩
  intro y hy
  rcases List.mem_cons.1 hy with rfl | k
  ·exact hl
  ·exact h y k
def m_slices_insertionSortCmpFunc_impl_Found : MC :=
(.seq (pr [.mv 10 (.s 1), .bin 11 false .add (.s 10) (ci 1), .mv 8 (.s 11)] [0,1,2,3,8])
(.block 0 (.loop ([0,1,2,3,8], []) (.seq (.seq (pr [.mv 12 (.s 8), .mv 13 (.s 2), .bin 14 false .lss (.s 12) (.s 13)] [0,1,2,3,8,14])
(.cond (.s 14) .skip (.exit 0)))
(.seq (.block 1 (.seq (pr [.mv 17 (.s 8), .mv 9 (.s 17)] [0,1,2,3,8,9])
(.block 2 (.loop ([0,1,2,3,8,9], []) (.seq (.seq (.dreg [Zc [19] (.mv 18 (.s 9)), Zc [18] (.mv 19 (.s 1)), Ze [0,1] (.bin 20 false .gtr (.s 18) (.s 19)), Ze [0,1,2] (.mv 21 (.s 20)), { o := .mv 22 (.s 3), g := some (21, true), hs := [23,24,25,26,27,28,29,30,31], bf := (.range 4) }, { o := .mv 23 (.s 0), g := some (21, true), hs := [22,24,27,28,29,30,31], bf := (.range 4) }, { o := .mv 24 (.s 9), g := some (21, true), hs := [22,23,27,28,29,30,31], bf := (.range 4) }, { o := .idx 25 6 (.s 23) (.s 24), g := some (21, true), hs := [22,27,28,29,30,31], bf := [0,1,2,3,5,6] }, { o := .load 26 true 6 (.s 25), g := some (21, true), hs := [22,27,28,29,30,31], bf := [0,1,2,3,5,6,7] }, { o := .mv 27 (.s 0), g := some (21, true), hs := [22,23,24,25,26,28,29], bf := (.range 4) }, { o := .mv 28 (.s 9), g := some (21, true), hs := [22,23,24,25,26,27], bf := (.range 4) }, { o := .bin 29 false .sub (.s 28) (ci 1), g := some (21, true), hs := [22,23,24,25,26,27], bf := [0,1,2,3,10] }, { o := .idx 30 6 (.s 27) (.s 29), g := some (21, true), hs := [22,23,24,25,26], bf := [0,1,2,3,9,10,11] }, { o := .load 31 true 6 (.s 30), g := some (21, true), hs := [22,23,24,25,26], bf := [0,1,2,3,9,10,11,12] }, { o := .call 32 [] (.s 22) [.s 26, .s 31], g := some (21, true), bf := (.range 14) }, { o := .bin 33 false .lss (.s 32) (ci 0), g := some (21, true), bf := (.range 15) }, Ze (.range 16) (.pick 34 (.s 21) (.s 33) cF)] [0,1,2,3,8,9,34])
(.cond (.s 34) .skip (.exit 2)))
(.seq (.block 3 (.dreg [Zc [38,39,40,41,42,43,44,45,46,47,48,49,50] (.mv 37 (.s 0)), Zc [37,39,40,41,42,43,44,45,46,47,48,49,50] (.mv 38 (.s 9)), Zf [37,38,40,41,42,43,44,45,46,47,48,49,50,51] [0] (.mv 39 (.s 0)), Zf [37,38,39,42,43,44,45,46,47,48,49,50,51] [0] (.mv 40 (.s 9)), Zg [37,38,39,42,43,44,45,46,47,48,49,50,51] [0] [3] (.bin 41 false .sub (.s 40) (ci 1)), Zc [37,38,39,40,41,43,44,47,48,49,50] (.mv 42 (.s 0)), Zc [37,38,39,40,41,42,47,48,49,50] (.mv 43 (.s 9)), Zd [37,38,39,40,41,42,47,48,49,50] [6] (.bin 44 false .sub (.s 43) (ci 1)), Zd [37,38,39,40,41,47,48,49,50] [5,6,7] (.idx 45 6 (.s 42) (.s 44)), Zd [37,38,39,40,41,47,48,49,50] [5,6,7,8] (.load 46 true 6 (.s 45)), Zc [37,38,39,40,41,42,43,44,45,46,48] (.mv 47 (.s 0)), Zc [37,38,39,40,41,42,43,44,45,46,47] (.mv 48 (.s 9)), Zd [37,38,39,40,41,42,43,44,45,46] [10,11] (.idx 49 6 (.s 47) (.s 48)), Zd [37,38,39,40,41,42,43,44,45,46] [10,11,12] (.load 50 true 6 (.s 49)), Zd [39,40,41] [0,1,5,6,7,8,9,10,11,12,13] (.idx 51 6 (.s 37) (.s 38)), { o := .store 6 (.s 51) (.s 46), hs := [39,40,41], ws := [0], bf := [0,1,5,6,7,8,9,10,11,12,13,14] }, Ze (.range 16) (.idx 52 6 (.s 39) (.s 41)), { o := .store 6 (.s 52) (.s 50), ws := [0], bf := (.range 17) }] [0,1,2,3,8,9]))
(pr [.mv 35 (.s 9), .bin 36 false .sub (.s 35) (ci 1), .mv 9 (.s 36)] [0,1,2,3,8,9])))))))
(pr [.mv 15 (.s 8), .bin 16 false .add (.s 15) (ci 1), .mv 8 (.s 16)] [0,1,2,3,8]))))))
theorem c_slices_insertionSortCmpFunc (P X Q : List GFound) (f : FuncId) (c : GFound → GFound → Int) (hc : ∀ x y, Ctr Tryz.prog f [aS x.enc, aS y.enc] [rI (c x y)]) (hw : Srt.Swo (ltc c)) {a b : Nat} (ha : P.length = a) (hb : (P ++ X).length = b) : CtrI Tryz.prog n_slices_insertionSortCmpFunc_impl_Found [oL 6 ((P ++ X ++ Q).map GFound.enc), iI a, iI b, fI f] [some (6, (P ++ Srt.isort (ltc c) X ++ Q).map GFound.enc)] [] := by
 have hlk : ∀ k, (P ++ Srt.isort (ltc c) (X.take k) ++ (X.drop k ++ Q)).length = (P ++ X ++ Q).length := fun k => by simp [Srt.len_isort]; omega
 refine ctrI_at (M := m_slices_insertionSortCmpFunc_impl_Found) (m := 0) (n := 53) (res := []) hmix Tryz.func284 rfl (by kernel_rfl) rfl (by kernel_rfl) (by kernel_rfl) (Nat.le_of_ble_eq_true rfl) rfl rfl ?_; unfold m_slices_insertionSortCmpFunc_impl_Found
 intro hbd
 have hl := len_of_bd hbd
 clear hbd
 have hb' : b = a + X.length := by rw [← hb, ← ha]; simp
 have hbN : b ≤ (P ++ X ++ Q).length := by rw [List.length_append, hb]; omega
 generalize hN : (P ++ X ++ Q).length = N at *
 simp only [roomB] at hl
 simp only [↓reduceIte, reduceEqDiff, reduceLT, reduceAdd, reduceCtorEq, go_sem, hN, wN1 (a := a) (by omega)]
 refine loopK_up (fun k : Nat => [(8, vI ((a + k : Nat) : Int))]) (fun k => [(0, ⟨1, .row true 6 ((P ++ Srt.isort (ltc c) (X.take k) ++ (X.drop k ++ Q)).map GFound.enc)⟩)]) (fun k => 1 ≤ k ∧ (k ≤ X.length ∨ k = 1)) (fun k => X.length - k) 1 ?_
 simp only [↓reduceIte, reduceEqDiff, reduceCtorEq, go_sem]
 refine ⟨?_, ⟨by omega, by omega⟩, ?_⟩
 ·simp only [↓reduceIte, reduceEqDiff, reduceLT, reduceCtorEq, go_sem]
  cases X with
  | nil => simp [Srt.isort, Srt.mrg]
  | cons x X => simp [Srt.isort, Srt.mrg, Srt.ins]
 ·rintro k ⟨h1, h2⟩
  simp only [↓reduceIte, reduceEqDiff, reduceLT, reduceCtorEq, go_sem]
  refine ⟨fun hlt => ?_, fun hge => ?_⟩
  ·obtain ⟨x, hx⟩ := at_some (show k < X.length by omega)
   refine loopK_up (ι := List GFound × Nat) (fun s => [(9, vI s.2)]) (fun s => [(0, ⟨1, .row true 6 (s.1.map GFound.enc)⟩)]) (fun s => InsI (ltc c) P (Srt.isort (ltc c) (X.take k)) (X.drop (k + 1) ++ Q) x s.1 s.2) (fun s => s.2) (P ++ Srt.isort (ltc c) (X.take k) ++ (X.drop k ++ Q), a + k) ?_
   simp only [↓reduceIte, reduceEqDiff, reduceCtorEq, go_sem]
   refine ⟨?_, ⟨Srt.isort (ltc c) (X.take k), [], by simp [drop_cons hx], by simp [Srt.len_isort]; omega, by simp, by simp⟩, ?_⟩
   ·simp only [↓reduceIte, reduceEqDiff, reduceLT, reduceCtorEq, go_sem]
   ·rintro ⟨d, j⟩ hI
    simp only at hI
    obtain ⟨hd, h3, h4⟩ := hI.len
    have hdN : d.length = N := by
     have := hlk k
     simp [drop_cons hx] at this hd
     omega
    have hdone : (j = P.length ∨ ∀ z ∈ d[j - 1]?, ltc c x z = false) → d.map GFound.enc = (P ++ Srt.isort (ltc c) (X.take (k + 1)) ++ (X.drop (k + 1) ++ Q)).map GFound.enc := fun h => by
     rw [hI.done hw (Srt.srt_isort hw _) h, take_snoc hx, Srt.isort_snoc]
    by_cases hj : P.length < j
    ·obtain ⟨A, z, C, e, k1, k2, k3⟩ := hI.step hj
     have e' : d.map GFound.enc = two (A.map GFound.enc) z.enc [] x.enc (C.map GFound.enc) := by subst e; simp [two]
     have e2 : (A ++ x :: ([] ++ z :: C)).map GFound.enc = two (A.map GFound.enc) x.enc [] z.enc (C.map GFound.enc) := by simp [two]
     obtain ⟨g1, g2, s1, s2, hL, d1, d2⟩ := two_at (A := A.map GFound.enc) (B := []) (C := C.map GFound.enc) (p := j - 1) (q := j) (by simpa using k1) (by simp; omega)
     have hL' : ∀ u v, (two (A.map GFound.enc) u [] v (C.map GFound.enc)).length = N := fun u v => by
      rw [← hdN, hL, e]; simp; omega
     rw [e']
     have j0 : (j : Int) > (a : Int) := by omega
     have j1 : (0 : Int) ≤ (j : Int) := by omega
     have j2 : (j : Int) < (N : Int) := by omega
     have j3 : (0 : Int) ≤ ((j - 1 : Nat) : Int) := by omega
     have j4 : ((j - 1 : Nat) : Int) < (N : Int) := by omega
     simp only [↓reduceIte, reduceEqDiff, reduceLT, reduceAdd, reduceCtorEq, go_sem, hL', g1, g2, j0, j1, j2, j3, j4, wS1 (a := j) (by omega) (by omega)]
     apply callK_of (hc x z)
     simp only [↓reduceIte, reduceEqDiff, reduceLT, reduceAdd, reduceCtorEq, go_sem, hL', g1, g2, s1, s2, j1, j2, j3, j4, wS1 (a := j) (by omega) (by omega), wN1 (a := a + k) (by omega)]
     intro _
     refine ⟨fun hn => ⟨(A ++ x :: ([] ++ z :: C), j - 1), ⟨rfl, e2.symm⟩, k3 (by simpa [ltc] using hn), by show j - 1 < j; omega⟩, fun hn => ?_⟩
     have hz : ltc c x z = false := by simpa [ltc] using hn
     have := hdone (.inr (by rw [k2]; intro y hy; obtain rfl := Option.some.inj hy; exact hz))
     rw [e'] at this
     exact ⟨k + 1, ⟨rfl, this⟩, ⟨by omega, by omega⟩, by omega⟩
    ·have j0 : ¬ (j : Int) > (a : Int) := by omega
     simp only [↓reduceIte, reduceEqDiff, reduceLT, reduceCtorEq, go_sem, j0, wN1 (a := a + k) (by omega)]
     have := hdone (.inl (by omega))
     exact ⟨k + 1, ⟨rfl, this⟩, ⟨by omega, by omega⟩, by omega⟩
  ·have hk : X.length ≤ k := by omega
   rw [List.take_of_length_le hk, List.drop_of_length_le hk, List.nil_append]
end Go.Proofs.YtpclnmleldeleaaGreatR
