/- What the functions compute that the laws of StepWrite reach: contracts. Conditions stand in each theorem. -/
import Derived.Test.YtgkeplbnnjogiaaGreatProg
import Derived.KernelRfl
import Derived.Test.YtgkeplbnnjogiaaGreatRac
set_option linter.unusedVariables false
set_option linter.unusedSimpArgs false
namespace Go.Proofs.YtgkeplbnnjogiaaGreatR
open Go Go.RowKit
attribute [go_sem ↓] bk_bind bk_map bk_ite bk_some
def Za (o : MO) : MOp := { o := o }
def Zb (k : Nat) (b : Bool) (o : MO) : MOp := { o := o, g := some (k, b) }
def Zc (h : List Nat) (o : MO) : MOp := { o := o, hs := h }
def Zd (h b : List Nat) (o : MO) : MOp := { o := o, hs := h, bf := b }
def Ze (b : List Nat) (o : MO) : MOp := { o := o, bf := b }
def Zf (h g : List Nat) (o : MO) : MOp := { o := o, hs := h, ho := g }
def Zg (h g b : List Nat) (o : MO) : MOp := { o := o, hs := h, ho := g, bf := b }
def pz : SC := .pl (.sc (.int .i64 0))
def ci (n : Int) : Od := .c (.int .i64 n)
def cT : Od := .c (.bool true)
def cF : Od := .c (.bool false)
attribute [go_sem_proc] Nat.reduceEqDiff Nat.reduceLT Nat.reduceLeDiff Nat.reduceAdd Nat.reduceMul reduceCtorEq List.reduceReplicate
attribute [go_sem_proc ↓] reduceIte
attribute [go_sem] Za Zb Zc Zd Ze Zf Zg pz ci cT cF
open Nat (reduceEqDiff reduceLT reduceLeDiff reduceAdd reduceMul)
open List (reduceReplicate)
def encI (n : Int) : List T := [tI n]
def encB (b : Bool) : List T := [tB b]
theorem int_of {ts : List T} (h : IsT .int ts) : ∃ n, ts = encI n := h
theorem list_of {α : Type} {enc : α → List T} {ty : DT} (h : ∀ {ts}, IsT ty ts → ∃ x, ts = enc x) : ∀ {es : List (List T)}, (∀ x ∈ es, IsT ty x) → ∃ xs : List α, es = xs.map enc
 | [], _ => ⟨[], rfl⟩
 | e :: es, k => by
  obtain ⟨x, rfl⟩ := h (k e (by simp))
  obtain ⟨xs, hx⟩ := list_of h (es := es) fun y hy => k y (by simp [hy])
  subst hx
  exact ⟨x :: xs, rfl⟩
structure GAddress where
 Host : Int
 Path : Int
 Query : Int
 deriving DecidableEq
def GAddress.enc (x : GAddress) : List T := [tI x.Host, tI x.Path, tI x.Query]
def GAddress.dt : DT := .st (.fc .int (.fc .int (.fc .int .fn)))
theorem GAddress.of {ts : List T} (h : IsT GAddress.dt ts) : ∃ x : GAddress, ts = x.enc := by
 simp only [GAddress.dt, IsT] at h
 obtain ⟨_, _, rfl, ⟨v0, rfl⟩, _, _, rfl, ⟨v1, rfl⟩, _, _, rfl, ⟨v2, rfl⟩, rfl⟩ := h
 exact ⟨⟨v0, v1, v2⟩, rfl⟩
theorem GAddress.eqv {x y : GAddress} : x = y ↔ x.Host = y.Host ∧ x.Path = y.Path ∧ x.Query = y.Query := by
 constructor
 ·rintro rfl; simp
 ·intro h
  rcases x with ⟨aHost, aPath, aQuery⟩
  rcases y with ⟨bHost, bPath, bQuery⟩
  simp only at h
  obtain ⟨rfl, rfl, rfl⟩ := h
  rfl
structure GResource where
 Kind : Int
 Body : List Int
 To : GAddress
 deriving DecidableEq
def GResource.enc (x : GResource) : List T := [tI x.Kind, .sl 1 (x.Body.map encI), tI x.To.Host, tI x.To.Path, tI x.To.Query]
def GResource.dt : DT := .st (.fc .int (.fc (.sl .int) (.fc GAddress.dt .fn)))
theorem GResource.of {ts : List T} (h : IsT GResource.dt ts) : ∃ x : GResource, ts = x.enc := by
 simp only [GResource.dt, IsT] at h
 obtain ⟨_, _, rfl, ⟨v0, rfl⟩, _, _, rfl, ⟨l1, rfl, k1⟩, _, _, rfl, k2, rfl⟩ := h
 obtain ⟨v1, rfl⟩ := list_of int_of k1
 obtain ⟨v2, rfl⟩ := GAddress.of k2
 exact ⟨⟨v0, v1, v2⟩, rfl⟩
theorem GResource.eqv {x y : GResource} : x = y ↔ x.Kind = y.Kind ∧ x.Body = y.Body ∧ x.To.Host = y.To.Host ∧ x.To.Path = y.To.Path ∧ x.To.Query = y.To.Query := by
 constructor
 ·rintro rfl; simp
 ·intro h
  rcases x with ⟨aKind, aBody, ⟨aToHost, aToPath, aToQuery⟩⟩
  rcases y with ⟨bKind, bBody, ⟨bToHost, bToPath, bToQuery⟩⟩
  simp only at h
  obtain ⟨rfl, rfl, rfl, rfl, rfl⟩ := h
  rfl
def GResource.size (x : GResource) : Nat := (x.Body.length)
structure GPart where
 Digest : Int
 Resource : GResource
 Uses : Int
 deriving DecidableEq
def GPart.enc (x : GPart) : List T := [tI x.Digest, tI x.Resource.Kind, .sl 1 (x.Resource.Body.map encI), tI x.Resource.To.Host, tI x.Resource.To.Path, tI x.Resource.To.Query, tI x.Uses]
def GPart.dt : DT := .st (.fc .int (.fc GResource.dt (.fc .int .fn)))
theorem GPart.of {ts : List T} (h : IsT GPart.dt ts) : ∃ x : GPart, ts = x.enc := by
 simp only [GPart.dt, IsT] at h
 obtain ⟨_, _, rfl, ⟨v0, rfl⟩, _, _, rfl, k1, _, _, rfl, ⟨v2, rfl⟩, rfl⟩ := h
 obtain ⟨v1, rfl⟩ := GResource.of k1
 exact ⟨⟨v0, v1, v2⟩, rfl⟩
theorem GPart.eqv {x y : GPart} : x = y ↔ x.Digest = y.Digest ∧ x.Resource.Kind = y.Resource.Kind ∧ x.Resource.Body = y.Resource.Body ∧ x.Resource.To.Host = y.Resource.To.Host ∧ x.Resource.To.Path = y.Resource.To.Path ∧ x.Resource.To.Query = y.Resource.To.Query ∧ x.Uses = y.Uses := by
 constructor
 ·rintro rfl; simp
 ·intro h
  rcases x with ⟨aDigest, ⟨aResourceKind, aResourceBody, ⟨aResourceToHost, aResourceToPath, aResourceToQuery⟩⟩, aUses⟩
  rcases y with ⟨bDigest, ⟨bResourceKind, bResourceBody, ⟨bResourceToHost, bResourceToPath, bResourceToQuery⟩⟩, bUses⟩
  simp only at h
  obtain ⟨rfl, rfl, rfl, rfl, rfl, rfl, rfl⟩ := h
  rfl
def GPart.size (x : GPart) : Nat := (x.Resource.size)
structure GPiece where
 From : Int
 Count : Int
 New : List Int
 deriving DecidableEq
def GPiece.enc (x : GPiece) : List T := [tI x.From, tI x.Count, .sl 1 (x.New.map encI)]
def GPiece.dt : DT := .st (.fc .int (.fc .int (.fc (.sl .int) .fn)))
theorem GPiece.of {ts : List T} (h : IsT GPiece.dt ts) : ∃ x : GPiece, ts = x.enc := by
 simp only [GPiece.dt, IsT] at h
 obtain ⟨_, _, rfl, ⟨v0, rfl⟩, _, _, rfl, ⟨v1, rfl⟩, _, _, rfl, ⟨l2, rfl, k2⟩, rfl⟩ := h
 obtain ⟨v2, rfl⟩ := list_of int_of k2
 exact ⟨⟨v0, v1, v2⟩, rfl⟩
theorem GPiece.eqv {x y : GPiece} : x = y ↔ x.From = y.From ∧ x.Count = y.Count ∧ x.New = y.New := by
 constructor
 ·rintro rfl; simp
 ·intro h
  rcases x with ⟨aFrom, aCount, aNew⟩
  rcases y with ⟨bFrom, bCount, bNew⟩
  simp only at h
  obtain ⟨rfl, rfl, rfl⟩ := h
  rfl
def GPiece.size (x : GPiece) : Nat := (x.New.length)
structure GVersion where
 Address : GAddress
 From : Int
 Resource : GResource
 deriving DecidableEq
def GVersion.enc (x : GVersion) : List T := [tI x.Address.Host, tI x.Address.Path, tI x.Address.Query, tI x.From, tI x.Resource.Kind, .sl 1 (x.Resource.Body.map encI), tI x.Resource.To.Host, tI x.Resource.To.Path, tI x.Resource.To.Query]
def GVersion.dt : DT := .st (.fc GAddress.dt (.fc .int (.fc GResource.dt .fn)))
theorem GVersion.of {ts : List T} (h : IsT GVersion.dt ts) : ∃ x : GVersion, ts = x.enc := by
 simp only [GVersion.dt, IsT] at h
 obtain ⟨_, _, rfl, k0, _, _, rfl, ⟨v1, rfl⟩, _, _, rfl, k2, rfl⟩ := h
 obtain ⟨v0, rfl⟩ := GAddress.of k0
 obtain ⟨v2, rfl⟩ := GResource.of k2
 exact ⟨⟨v0, v1, v2⟩, rfl⟩
theorem GVersion.eqv {x y : GVersion} : x = y ↔ x.Address.Host = y.Address.Host ∧ x.Address.Path = y.Address.Path ∧ x.Address.Query = y.Address.Query ∧ x.From = y.From ∧ x.Resource.Kind = y.Resource.Kind ∧ x.Resource.Body = y.Resource.Body ∧ x.Resource.To.Host = y.Resource.To.Host ∧ x.Resource.To.Path = y.Resource.To.Path ∧ x.Resource.To.Query = y.Resource.To.Query := by
 constructor
 ·rintro rfl; simp
 ·intro h
  rcases x with ⟨⟨aAddressHost, aAddressPath, aAddressQuery⟩, aFrom, ⟨aResourceKind, aResourceBody, ⟨aResourceToHost, aResourceToPath, aResourceToQuery⟩⟩⟩
  rcases y with ⟨⟨bAddressHost, bAddressPath, bAddressQuery⟩, bFrom, ⟨bResourceKind, bResourceBody, ⟨bResourceToHost, bResourceToPath, bResourceToQuery⟩⟩⟩
  simp only at h
  obtain ⟨rfl, rfl, rfl, rfl, rfl, rfl, rfl, rfl, rfl⟩ := h
  rfl
def GVersion.size (x : GVersion) : Nat := (x.Resource.size)
structure GOp where
 Kind : Int
 A : Int
 B : Int
 C : Int
 deriving DecidableEq
def GOp.enc (x : GOp) : List T := [tI x.Kind, tI x.A, tI x.B, tI x.C]
def GOp.dt : DT := .st (.fc .int (.fc .int (.fc .int (.fc .int .fn))))
theorem GOp.of {ts : List T} (h : IsT GOp.dt ts) : ∃ x : GOp, ts = x.enc := by
 simp only [GOp.dt, IsT] at h
 obtain ⟨_, _, rfl, ⟨v0, rfl⟩, _, _, rfl, ⟨v1, rfl⟩, _, _, rfl, ⟨v2, rfl⟩, _, _, rfl, ⟨v3, rfl⟩, rfl⟩ := h
 exact ⟨⟨v0, v1, v2, v3⟩, rfl⟩
theorem GOp.eqv {x y : GOp} : x = y ↔ x.Kind = y.Kind ∧ x.A = y.A ∧ x.B = y.B ∧ x.C = y.C := by
 constructor
 ·rintro rfl; simp
 ·intro h
  rcases x with ⟨aKind, aA, aB, aC⟩
  rcases y with ⟨bKind, bA, bB, bC⟩
  simp only at h
  obtain ⟨rfl, rfl, rfl, rfl⟩ := h
  rfl
structure GState where
 Pc : Int
 Regs : List Int
 Slots : List Int
 Nodes : List Int
 deriving DecidableEq
def GState.enc (x : GState) : List T := [tI x.Pc, .sl 1 (x.Regs.map encI), .sl 1 (x.Slots.map encI), .sl 1 (x.Nodes.map encI)]
def GState.dt : DT := .st (.fc .int (.fc (.sl .int) (.fc (.sl .int) (.fc (.sl .int) .fn))))
theorem GState.of {ts : List T} (h : IsT GState.dt ts) : ∃ x : GState, ts = x.enc := by
 simp only [GState.dt, IsT] at h
 obtain ⟨_, _, rfl, ⟨v0, rfl⟩, _, _, rfl, ⟨l1, rfl, k1⟩, _, _, rfl, ⟨l2, rfl, k2⟩, _, _, rfl, ⟨l3, rfl, k3⟩, rfl⟩ := h
 obtain ⟨v1, rfl⟩ := list_of int_of k1
 obtain ⟨v2, rfl⟩ := list_of int_of k2
 obtain ⟨v3, rfl⟩ := list_of int_of k3
 exact ⟨⟨v0, v1, v2, v3⟩, rfl⟩
theorem GState.eqv {x y : GState} : x = y ↔ x.Pc = y.Pc ∧ x.Regs = y.Regs ∧ x.Slots = y.Slots ∧ x.Nodes = y.Nodes := by
 constructor
 ·rintro rfl; simp
 ·intro h
  rcases x with ⟨aPc, aRegs, aSlots, aNodes⟩
  rcases y with ⟨bPc, bRegs, bSlots, bNodes⟩
  simp only at h
  obtain ⟨rfl, rfl, rfl, rfl⟩ := h
  rfl
def GState.size (x : GState) : Nat := (x.Regs.length) + (x.Slots.length) + (x.Nodes.length)
structure GVisit where
 Site : List GVersion
 Tick : Int
 Seed : Int
 Inputs : List Int
 deriving DecidableEq
def GVisit.enc (x : GVisit) : List T := [.sl 9 (x.Site.map GVersion.enc), tI x.Tick, tI x.Seed, .sl 1 (x.Inputs.map encI)]
def GVisit.dt : DT := .st (.fc (.sl GVersion.dt) (.fc .int (.fc .int (.fc (.sl .int) .fn))))
theorem GVisit.of {ts : List T} (h : IsT GVisit.dt ts) : ∃ x : GVisit, ts = x.enc := by
 simp only [GVisit.dt, IsT] at h
 obtain ⟨_, _, rfl, ⟨l0, rfl, k0⟩, _, _, rfl, ⟨v1, rfl⟩, _, _, rfl, ⟨v2, rfl⟩, _, _, rfl, ⟨l3, rfl, k3⟩, rfl⟩ := h
 obtain ⟨v0, rfl⟩ := list_of GVersion.of k0
 obtain ⟨v3, rfl⟩ := list_of int_of k3
 exact ⟨⟨v0, v1, v2, v3⟩, rfl⟩
theorem GVisit.eqv {x y : GVisit} : x = y ↔ x.Site = y.Site ∧ x.Tick = y.Tick ∧ x.Seed = y.Seed ∧ x.Inputs = y.Inputs := by
 constructor
 ·rintro rfl; simp
 ·intro h
  rcases x with ⟨aSite, aTick, aSeed, aInputs⟩
  rcases y with ⟨bSite, bTick, bSeed, bInputs⟩
  simp only at h
  obtain ⟨rfl, rfl, rfl, rfl⟩ := h
  rfl
def GVisit.size (x : GVisit) : Nat := (x.Site.length + (x.Site.map GVersion.size).sum) + (x.Inputs.length)
structure GWant where
 Kind : Int
 Address : GAddress
 deriving DecidableEq
def GWant.enc (x : GWant) : List T := [tI x.Kind, tI x.Address.Host, tI x.Address.Path, tI x.Address.Query]
def GWant.dt : DT := .st (.fc .int (.fc GAddress.dt .fn))
theorem GWant.of {ts : List T} (h : IsT GWant.dt ts) : ∃ x : GWant, ts = x.enc := by
 simp only [GWant.dt, IsT] at h
 obtain ⟨_, _, rfl, ⟨v0, rfl⟩, _, _, rfl, k1, rfl⟩ := h
 obtain ⟨v1, rfl⟩ := GAddress.of k1
 exact ⟨⟨v0, v1⟩, rfl⟩
theorem GWant.eqv {x y : GWant} : x = y ↔ x.Kind = y.Kind ∧ x.Address.Host = y.Address.Host ∧ x.Address.Path = y.Address.Path ∧ x.Address.Query = y.Address.Query := by
 constructor
 ·rintro rfl; simp
 ·intro h
  rcases x with ⟨aKind, ⟨aAddressHost, aAddressPath, aAddressQuery⟩⟩
  rcases y with ⟨bKind, ⟨bAddressHost, bAddressPath, bAddressQuery⟩⟩
  simp only at h
  obtain ⟨rfl, rfl, rfl, rfl⟩ := h
  rfl
structure GEntry where
 Kind : Int
 Address : GAddress
 Value : Int
 deriving DecidableEq
def GEntry.enc (x : GEntry) : List T := [tI x.Kind, tI x.Address.Host, tI x.Address.Path, tI x.Address.Query, tI x.Value]
def GEntry.dt : DT := .st (.fc .int (.fc GAddress.dt (.fc .int .fn)))
theorem GEntry.of {ts : List T} (h : IsT GEntry.dt ts) : ∃ x : GEntry, ts = x.enc := by
 simp only [GEntry.dt, IsT] at h
 obtain ⟨_, _, rfl, ⟨v0, rfl⟩, _, _, rfl, k1, _, _, rfl, ⟨v2, rfl⟩, rfl⟩ := h
 obtain ⟨v1, rfl⟩ := GAddress.of k1
 exact ⟨⟨v0, v1, v2⟩, rfl⟩
theorem GEntry.eqv {x y : GEntry} : x = y ↔ x.Kind = y.Kind ∧ x.Address.Host = y.Address.Host ∧ x.Address.Path = y.Address.Path ∧ x.Address.Query = y.Address.Query ∧ x.Value = y.Value := by
 constructor
 ·rintro rfl; simp
 ·intro h
  rcases x with ⟨aKind, ⟨aAddressHost, aAddressPath, aAddressQuery⟩, aValue⟩
  rcases y with ⟨bKind, ⟨bAddressHost, bAddressPath, bAddressQuery⟩, bValue⟩
  simp only at h
  obtain ⟨rfl, rfl, rfl, rfl, rfl⟩ := h
  rfl
structure GCapture where
 Address : GAddress
 Tick : Int
 Resource : GResource
 deriving DecidableEq
def GCapture.enc (x : GCapture) : List T := [tI x.Address.Host, tI x.Address.Path, tI x.Address.Query, tI x.Tick, tI x.Resource.Kind, .sl 1 (x.Resource.Body.map encI), tI x.Resource.To.Host, tI x.Resource.To.Path, tI x.Resource.To.Query]
def GCapture.dt : DT := .st (.fc GAddress.dt (.fc .int (.fc GResource.dt .fn)))
theorem GCapture.of {ts : List T} (h : IsT GCapture.dt ts) : ∃ x : GCapture, ts = x.enc := by
 simp only [GCapture.dt, IsT] at h
 obtain ⟨_, _, rfl, k0, _, _, rfl, ⟨v1, rfl⟩, _, _, rfl, k2, rfl⟩ := h
 obtain ⟨v0, rfl⟩ := GAddress.of k0
 obtain ⟨v2, rfl⟩ := GResource.of k2
 exact ⟨⟨v0, v1, v2⟩, rfl⟩
theorem GCapture.eqv {x y : GCapture} : x = y ↔ x.Address.Host = y.Address.Host ∧ x.Address.Path = y.Address.Path ∧ x.Address.Query = y.Address.Query ∧ x.Tick = y.Tick ∧ x.Resource.Kind = y.Resource.Kind ∧ x.Resource.Body = y.Resource.Body ∧ x.Resource.To.Host = y.Resource.To.Host ∧ x.Resource.To.Path = y.Resource.To.Path ∧ x.Resource.To.Query = y.Resource.To.Query := by
 constructor
 ·rintro rfl; simp
 ·intro h
  rcases x with ⟨⟨aAddressHost, aAddressPath, aAddressQuery⟩, aTick, ⟨aResourceKind, aResourceBody, ⟨aResourceToHost, aResourceToPath, aResourceToQuery⟩⟩⟩
  rcases y with ⟨⟨bAddressHost, bAddressPath, bAddressQuery⟩, bTick, ⟨bResourceKind, bResourceBody, ⟨bResourceToHost, bResourceToPath, bResourceToQuery⟩⟩⟩
  simp only at h
  obtain ⟨rfl, rfl, rfl, rfl, rfl, rfl, rfl, rfl, rfl⟩ := h
  rfl
def GCapture.size (x : GCapture) : Nat := (x.Resource.size)
structure GChoice where
 Rule : Int
 At : Int
 deriving DecidableEq
def GChoice.enc (x : GChoice) : List T := [tI x.Rule, tI x.At]
def GChoice.dt : DT := .st (.fc .int (.fc .int .fn))
theorem GChoice.of {ts : List T} (h : IsT GChoice.dt ts) : ∃ x : GChoice, ts = x.enc := by
 simp only [GChoice.dt, IsT] at h
 obtain ⟨_, _, rfl, ⟨v0, rfl⟩, _, _, rfl, ⟨v1, rfl⟩, rfl⟩ := h
 exact ⟨⟨v0, v1⟩, rfl⟩
theorem GChoice.eqv {x y : GChoice} : x = y ↔ x.Rule = y.Rule ∧ x.At = y.At := by
 constructor
 ·rintro rfl; simp
 ·intro h
  rcases x with ⟨aRule, aAt⟩
  rcases y with ⟨bRule, bAt⟩
  simp only at h
  obtain ⟨rfl, rfl⟩ := h
  rfl
structure GWander where
 State : GState
 Choices : List GChoice
 Labels : List Int
 Missing : Int
 deriving DecidableEq
def GWander.enc (x : GWander) : List T := [tI x.State.Pc, .sl 1 (x.State.Regs.map encI), .sl 1 (x.State.Slots.map encI), .sl 1 (x.State.Nodes.map encI), .sl 2 (x.Choices.map GChoice.enc), .sl 1 (x.Labels.map encI), tI x.Missing]
def GWander.dt : DT := .st (.fc GState.dt (.fc (.sl GChoice.dt) (.fc (.sl .int) (.fc .int .fn))))
theorem GWander.of {ts : List T} (h : IsT GWander.dt ts) : ∃ x : GWander, ts = x.enc := by
 simp only [GWander.dt, IsT] at h
 obtain ⟨_, _, rfl, k0, _, _, rfl, ⟨l1, rfl, k1⟩, _, _, rfl, ⟨l2, rfl, k2⟩, _, _, rfl, ⟨v3, rfl⟩, rfl⟩ := h
 obtain ⟨v0, rfl⟩ := GState.of k0
 obtain ⟨v1, rfl⟩ := list_of GChoice.of k1
 obtain ⟨v2, rfl⟩ := list_of int_of k2
 exact ⟨⟨v0, v1, v2, v3⟩, rfl⟩
theorem GWander.eqv {x y : GWander} : x = y ↔ x.State.Pc = y.State.Pc ∧ x.State.Regs = y.State.Regs ∧ x.State.Slots = y.State.Slots ∧ x.State.Nodes = y.State.Nodes ∧ x.Choices = y.Choices ∧ x.Labels = y.Labels ∧ x.Missing = y.Missing := by
 constructor
 ·rintro rfl; simp
 ·intro h
  rcases x with ⟨⟨aStatePc, aStateRegs, aStateSlots, aStateNodes⟩, aChoices, aLabels, aMissing⟩
  rcases y with ⟨⟨bStatePc, bStateRegs, bStateSlots, bStateNodes⟩, bChoices, bLabels, bMissing⟩
  simp only at h
  obtain ⟨rfl, rfl, rfl, rfl, rfl, rfl, rfl⟩ := h
  rfl
def GWander.size (x : GWander) : Nat := (x.State.size) + (x.Choices.length) + (x.Labels.length)
structure GModel where
 Base : Int
 Step : Int
 Seen : Int
 Fits : Bool
 deriving DecidableEq
def GModel.enc (x : GModel) : List T := [tI x.Base, tI x.Step, tI x.Seen, tB x.Fits]
def GModel.dt : DT := .st (.fc .int (.fc .int (.fc .int (.fc .bool .fn))))
theorem GModel.of {ts : List T} (h : IsT GModel.dt ts) : ∃ x : GModel, ts = x.enc := by
 simp only [GModel.dt, IsT] at h
 obtain ⟨_, _, rfl, ⟨v0, rfl⟩, _, _, rfl, ⟨v1, rfl⟩, _, _, rfl, ⟨v2, rfl⟩, _, _, rfl, ⟨v3, rfl⟩, rfl⟩ := h
 exact ⟨⟨v0, v1, v2, v3⟩, rfl⟩
theorem GModel.eqv {x y : GModel} : x = y ↔ x.Base = y.Base ∧ x.Step = y.Step ∧ x.Seen = y.Seen ∧ x.Fits = y.Fits := by
 constructor
 ·rintro rfl; simp
 ·intro h
  rcases x with ⟨aBase, aStep, aSeen, aFits⟩
  rcases y with ⟨bBase, bStep, bSeen, bFits⟩
  simp only at h
  obtain ⟨rfl, rfl, rfl, rfl⟩ := h
  rfl
structure GShown where
 Tick : Int
 Address : GAddress
 deriving DecidableEq
def GShown.enc (x : GShown) : List T := [tI x.Tick, tI x.Address.Host, tI x.Address.Path, tI x.Address.Query]
def GShown.dt : DT := .st (.fc .int (.fc GAddress.dt .fn))
theorem GShown.of {ts : List T} (h : IsT GShown.dt ts) : ∃ x : GShown, ts = x.enc := by
 simp only [GShown.dt, IsT] at h
 obtain ⟨_, _, rfl, ⟨v0, rfl⟩, _, _, rfl, k1, rfl⟩ := h
 obtain ⟨v1, rfl⟩ := GAddress.of k1
 exact ⟨⟨v0, v1⟩, rfl⟩
theorem GShown.eqv {x y : GShown} : x = y ↔ x.Tick = y.Tick ∧ x.Address.Host = y.Address.Host ∧ x.Address.Path = y.Address.Path ∧ x.Address.Query = y.Address.Query := by
 constructor
 ·rintro rfl; simp
 ·intro h
  rcases x with ⟨aTick, ⟨aAddressHost, aAddressPath, aAddressQuery⟩⟩
  rcases y with ⟨bTick, ⟨bAddressHost, bAddressPath, bAddressQuery⟩⟩
  simp only at h
  obtain ⟨rfl, rfl, rfl, rfl⟩ := h
  rfl
structure GLeaf where
 Value : Int
 Salt : Int
 Hidden : Bool
 Seal : Int
 deriving DecidableEq
def GLeaf.enc (x : GLeaf) : List T := [tI x.Value, tI x.Salt, tB x.Hidden, tI x.Seal]
def GLeaf.dt : DT := .st (.fc .int (.fc .int (.fc .bool (.fc .int .fn))))
theorem GLeaf.of {ts : List T} (h : IsT GLeaf.dt ts) : ∃ x : GLeaf, ts = x.enc := by
 simp only [GLeaf.dt, IsT] at h
 obtain ⟨_, _, rfl, ⟨v0, rfl⟩, _, _, rfl, ⟨v1, rfl⟩, _, _, rfl, ⟨v2, rfl⟩, _, _, rfl, ⟨v3, rfl⟩, rfl⟩ := h
 exact ⟨⟨v0, v1, v2, v3⟩, rfl⟩
theorem GLeaf.eqv {x y : GLeaf} : x = y ↔ x.Value = y.Value ∧ x.Salt = y.Salt ∧ x.Hidden = y.Hidden ∧ x.Seal = y.Seal := by
 constructor
 ·rintro rfl; simp
 ·intro h
  rcases x with ⟨aValue, aSalt, aHidden, aSeal⟩
  rcases y with ⟨bValue, bSalt, bHidden, bSeal⟩
  simp only at h
  obtain ⟨rfl, rfl, rfl, rfl⟩ := h
  rfl
structure GEdition where
 Captures : List GCapture
 From : Int
 Until : Int
 Hidden : List GAddress
 deriving DecidableEq
def GEdition.enc (x : GEdition) : List T := [.sl 9 (x.Captures.map GCapture.enc), tI x.From, tI x.Until, .sl 3 (x.Hidden.map GAddress.enc)]
def GEdition.dt : DT := .st (.fc (.sl GCapture.dt) (.fc .int (.fc .int (.fc (.sl GAddress.dt) .fn))))
theorem GEdition.of {ts : List T} (h : IsT GEdition.dt ts) : ∃ x : GEdition, ts = x.enc := by
 simp only [GEdition.dt, IsT] at h
 obtain ⟨_, _, rfl, ⟨l0, rfl, k0⟩, _, _, rfl, ⟨v1, rfl⟩, _, _, rfl, ⟨v2, rfl⟩, _, _, rfl, ⟨l3, rfl, k3⟩, rfl⟩ := h
 obtain ⟨v0, rfl⟩ := list_of GCapture.of k0
 obtain ⟨v3, rfl⟩ := list_of GAddress.of k3
 exact ⟨⟨v0, v1, v2, v3⟩, rfl⟩
theorem GEdition.eqv {x y : GEdition} : x = y ↔ x.Captures = y.Captures ∧ x.From = y.From ∧ x.Until = y.Until ∧ x.Hidden = y.Hidden := by
 constructor
 ·rintro rfl; simp
 ·intro h
  rcases x with ⟨aCaptures, aFrom, aUntil, aHidden⟩
  rcases y with ⟨bCaptures, bFrom, bUntil, bHidden⟩
  simp only at h
  obtain ⟨rfl, rfl, rfl, rfl⟩ := h
  rfl
def GEdition.size (x : GEdition) : Nat := (x.Captures.length + (x.Captures.map GCapture.size).sum) + (x.Hidden.length)
structure GExclusion where
 Host : Int
 Path : Int
 From : Int
 Until : Int
 Asked : Int
 deriving DecidableEq
def GExclusion.enc (x : GExclusion) : List T := [tI x.Host, tI x.Path, tI x.From, tI x.Until, tI x.Asked]
def GExclusion.dt : DT := .st (.fc .int (.fc .int (.fc .int (.fc .int (.fc .int .fn)))))
theorem GExclusion.of {ts : List T} (h : IsT GExclusion.dt ts) : ∃ x : GExclusion, ts = x.enc := by
 simp only [GExclusion.dt, IsT] at h
 obtain ⟨_, _, rfl, ⟨v0, rfl⟩, _, _, rfl, ⟨v1, rfl⟩, _, _, rfl, ⟨v2, rfl⟩, _, _, rfl, ⟨v3, rfl⟩, _, _, rfl, ⟨v4, rfl⟩, rfl⟩ := h
 exact ⟨⟨v0, v1, v2, v3, v4⟩, rfl⟩
theorem GExclusion.eqv {x y : GExclusion} : x = y ↔ x.Host = y.Host ∧ x.Path = y.Path ∧ x.From = y.From ∧ x.Until = y.Until ∧ x.Asked = y.Asked := by
 constructor
 ·rintro rfl; simp
 ·intro h
  rcases x with ⟨aHost, aPath, aFrom, aUntil, aAsked⟩
  rcases y with ⟨bHost, bPath, bFrom, bUntil, bAsked⟩
  simp only at h
  obtain ⟨rfl, rfl, rfl, rfl, rfl⟩ := h
  rfl
structure GStatement where
 Witness : Int
 Digest : Int
 Tick : Int
 Seal : Int
 deriving DecidableEq
def GStatement.enc (x : GStatement) : List T := [tI x.Witness, tI x.Digest, tI x.Tick, tI x.Seal]
def GStatement.dt : DT := .st (.fc .int (.fc .int (.fc .int (.fc .int .fn))))
theorem GStatement.of {ts : List T} (h : IsT GStatement.dt ts) : ∃ x : GStatement, ts = x.enc := by
 simp only [GStatement.dt, IsT] at h
 obtain ⟨_, _, rfl, ⟨v0, rfl⟩, _, _, rfl, ⟨v1, rfl⟩, _, _, rfl, ⟨v2, rfl⟩, _, _, rfl, ⟨v3, rfl⟩, rfl⟩ := h
 exact ⟨⟨v0, v1, v2, v3⟩, rfl⟩
theorem GStatement.eqv {x y : GStatement} : x = y ↔ x.Witness = y.Witness ∧ x.Digest = y.Digest ∧ x.Tick = y.Tick ∧ x.Seal = y.Seal := by
 constructor
 ·rintro rfl; simp
 ·intro h
  rcases x with ⟨aWitness, aDigest, aTick, aSeal⟩
  rcases y with ⟨bWitness, bDigest, bTick, bSeal⟩
  simp only at h
  obtain ⟨rfl, rfl, rfl, rfl⟩ := h
  rfl
structure GLibrary where
 Id : Int
 Digests : List Int
 Up : Bool
 Lies : Bool
 deriving DecidableEq
def GLibrary.enc (x : GLibrary) : List T := [tI x.Id, .sl 1 (x.Digests.map encI), tB x.Up, tB x.Lies]
def GLibrary.dt : DT := .st (.fc .int (.fc (.sl .int) (.fc .bool (.fc .bool .fn))))
theorem GLibrary.of {ts : List T} (h : IsT GLibrary.dt ts) : ∃ x : GLibrary, ts = x.enc := by
 simp only [GLibrary.dt, IsT] at h
 obtain ⟨_, _, rfl, ⟨v0, rfl⟩, _, _, rfl, ⟨l1, rfl, k1⟩, _, _, rfl, ⟨v2, rfl⟩, _, _, rfl, ⟨v3, rfl⟩, rfl⟩ := h
 obtain ⟨v1, rfl⟩ := list_of int_of k1
 exact ⟨⟨v0, v1, v2, v3⟩, rfl⟩
theorem GLibrary.eqv {x y : GLibrary} : x = y ↔ x.Id = y.Id ∧ x.Digests = y.Digests ∧ x.Up = y.Up ∧ x.Lies = y.Lies := by
 constructor
 ·rintro rfl; simp
 ·intro h
  rcases x with ⟨aId, aDigests, aUp, aLies⟩
  rcases y with ⟨bId, bDigests, bUp, bLies⟩
  simp only at h
  obtain ⟨rfl, rfl, rfl, rfl⟩ := h
  rfl
def GLibrary.size (x : GLibrary) : Nat := (x.Digests.length)
structure GContainer where
 Script : List GOp
 Entries : List GEntry
 Captures : List GCapture
 Root : Int
 deriving DecidableEq
def GContainer.enc (x : GContainer) : List T := [.sl 4 (x.Script.map GOp.enc), .sl 5 (x.Entries.map GEntry.enc), .sl 9 (x.Captures.map GCapture.enc), tI x.Root]
def GContainer.dt : DT := .st (.fc (.sl GOp.dt) (.fc (.sl GEntry.dt) (.fc (.sl GCapture.dt) (.fc .int .fn))))
theorem GContainer.of {ts : List T} (h : IsT GContainer.dt ts) : ∃ x : GContainer, ts = x.enc := by
 simp only [GContainer.dt, IsT] at h
 obtain ⟨_, _, rfl, ⟨l0, rfl, k0⟩, _, _, rfl, ⟨l1, rfl, k1⟩, _, _, rfl, ⟨l2, rfl, k2⟩, _, _, rfl, ⟨v3, rfl⟩, rfl⟩ := h
 obtain ⟨v0, rfl⟩ := list_of GOp.of k0
 obtain ⟨v1, rfl⟩ := list_of GEntry.of k1
 obtain ⟨v2, rfl⟩ := list_of GCapture.of k2
 exact ⟨⟨v0, v1, v2, v3⟩, rfl⟩
theorem GContainer.eqv {x y : GContainer} : x = y ↔ x.Script = y.Script ∧ x.Entries = y.Entries ∧ x.Captures = y.Captures ∧ x.Root = y.Root := by
 constructor
 ·rintro rfl; simp
 ·intro h
  rcases x with ⟨aScript, aEntries, aCaptures, aRoot⟩
  rcases y with ⟨bScript, bEntries, bCaptures, bRoot⟩
  simp only at h
  obtain ⟨rfl, rfl, rfl, rfl⟩ := h
  rfl
def GContainer.size (x : GContainer) : Nat := (x.Script.length) + (x.Entries.length) + (x.Captures.length + (x.Captures.map GCapture.size).sum)
structure GFound where
 Address : GAddress
 Tick : Int
 Container : Int
 At : Int
 deriving DecidableEq
def GFound.enc (x : GFound) : List T := [tI x.Address.Host, tI x.Address.Path, tI x.Address.Query, tI x.Tick, tI x.Container, tI x.At]
def GFound.dt : DT := .st (.fc GAddress.dt (.fc .int (.fc .int (.fc .int .fn))))
theorem GFound.of {ts : List T} (h : IsT GFound.dt ts) : ∃ x : GFound, ts = x.enc := by
 simp only [GFound.dt, IsT] at h
 obtain ⟨_, _, rfl, k0, _, _, rfl, ⟨v1, rfl⟩, _, _, rfl, ⟨v2, rfl⟩, _, _, rfl, ⟨v3, rfl⟩, rfl⟩ := h
 obtain ⟨v0, rfl⟩ := GAddress.of k0
 exact ⟨⟨v0, v1, v2, v3⟩, rfl⟩
theorem GFound.eqv {x y : GFound} : x = y ↔ x.Address.Host = y.Address.Host ∧ x.Address.Path = y.Address.Path ∧ x.Address.Query = y.Address.Query ∧ x.Tick = y.Tick ∧ x.Container = y.Container ∧ x.At = y.At := by
 constructor
 ·rintro rfl; simp
 ·intro h
  rcases x with ⟨⟨aAddressHost, aAddressPath, aAddressQuery⟩, aTick, aContainer, aAt⟩
  rcases y with ⟨⟨bAddressHost, bAddressPath, bAddressQuery⟩, bTick, bContainer, bAt⟩
  simp only at h
  obtain ⟨rfl, rfl, rfl, rfl, rfl, rfl⟩ := h
  rfl
structure GDisk where
 Containers : List GContainer
 Index : List GFound
 Wanted : List GContainer
 deriving DecidableEq
def GDisk.enc (x : GDisk) : List T := [.sl 4 (x.Containers.map GContainer.enc), .sl 6 (x.Index.map GFound.enc), .sl 4 (x.Wanted.map GContainer.enc)]
def GDisk.dt : DT := .st (.fc (.sl GContainer.dt) (.fc (.sl GFound.dt) (.fc (.sl GContainer.dt) .fn)))
theorem GDisk.of {ts : List T} (h : IsT GDisk.dt ts) : ∃ x : GDisk, ts = x.enc := by
 simp only [GDisk.dt, IsT] at h
 obtain ⟨_, _, rfl, ⟨l0, rfl, k0⟩, _, _, rfl, ⟨l1, rfl, k1⟩, _, _, rfl, ⟨l2, rfl, k2⟩, rfl⟩ := h
 obtain ⟨v0, rfl⟩ := list_of GContainer.of k0
 obtain ⟨v1, rfl⟩ := list_of GFound.of k1
 obtain ⟨v2, rfl⟩ := list_of GContainer.of k2
 exact ⟨⟨v0, v1, v2⟩, rfl⟩
theorem GDisk.eqv {x y : GDisk} : x = y ↔ x.Containers = y.Containers ∧ x.Index = y.Index ∧ x.Wanted = y.Wanted := by
 constructor
 ·rintro rfl; simp
 ·intro h
  rcases x with ⟨aContainers, aIndex, aWanted⟩
  rcases y with ⟨bContainers, bIndex, bWanted⟩
  simp only at h
  obtain ⟨rfl, rfl, rfl⟩ := h
  rfl
def GDisk.size (x : GDisk) : Nat := (x.Containers.length + (x.Containers.map GContainer.size).sum) + (x.Index.length) + (x.Wanted.length + (x.Wanted.map GContainer.size).sum)
structure GArchive where
 Site : List GVersion
 Script : List GOp
 Disk : GDisk
 Exclusions : List GExclusion
 Libraries : List GLibrary
 Keys : List Int
 Statements : List GStatement
 Now : Int
 deriving DecidableEq
def GArchive.enc (x : GArchive) : List T := [.sl 9 (x.Site.map GVersion.enc), .sl 4 (x.Script.map GOp.enc), .sl 4 (x.Disk.Containers.map GContainer.enc), .sl 6 (x.Disk.Index.map GFound.enc), .sl 4 (x.Disk.Wanted.map GContainer.enc), .sl 5 (x.Exclusions.map GExclusion.enc), .sl 4 (x.Libraries.map GLibrary.enc), .sl 1 (x.Keys.map encI), .sl 4 (x.Statements.map GStatement.enc), tI x.Now]
def GArchive.dt : DT := .st (.fc (.sl GVersion.dt) (.fc (.sl GOp.dt) (.fc GDisk.dt (.fc (.sl GExclusion.dt) (.fc (.sl GLibrary.dt) (.fc (.sl .int) (.fc (.sl GStatement.dt) (.fc .int .fn))))))))
theorem GArchive.of {ts : List T} (h : IsT GArchive.dt ts) : ∃ x : GArchive, ts = x.enc := by
 simp only [GArchive.dt, IsT] at h
 obtain ⟨_, _, rfl, ⟨l0, rfl, k0⟩, _, _, rfl, ⟨l1, rfl, k1⟩, _, _, rfl, k2, _, _, rfl, ⟨l3, rfl, k3⟩, _, _, rfl, ⟨l4, rfl, k4⟩, _, _, rfl, ⟨l5, rfl, k5⟩, _, _, rfl, ⟨l6, rfl, k6⟩, _, _, rfl, ⟨v7, rfl⟩, rfl⟩ := h
 obtain ⟨v0, rfl⟩ := list_of GVersion.of k0
 obtain ⟨v1, rfl⟩ := list_of GOp.of k1
 obtain ⟨v2, rfl⟩ := GDisk.of k2
 obtain ⟨v3, rfl⟩ := list_of GExclusion.of k3
 obtain ⟨v4, rfl⟩ := list_of GLibrary.of k4
 obtain ⟨v5, rfl⟩ := list_of int_of k5
 obtain ⟨v6, rfl⟩ := list_of GStatement.of k6
 exact ⟨⟨v0, v1, v2, v3, v4, v5, v6, v7⟩, rfl⟩
theorem GArchive.eqv {x y : GArchive} : x = y ↔ x.Site = y.Site ∧ x.Script = y.Script ∧ x.Disk.Containers = y.Disk.Containers ∧ x.Disk.Index = y.Disk.Index ∧ x.Disk.Wanted = y.Disk.Wanted ∧ x.Exclusions = y.Exclusions ∧ x.Libraries = y.Libraries ∧ x.Keys = y.Keys ∧ x.Statements = y.Statements ∧ x.Now = y.Now := by
 constructor
 ·rintro rfl; simp
 ·intro h
  rcases x with ⟨aSite, aScript, ⟨aDiskContainers, aDiskIndex, aDiskWanted⟩, aExclusions, aLibraries, aKeys, aStatements, aNow⟩
  rcases y with ⟨bSite, bScript, ⟨bDiskContainers, bDiskIndex, bDiskWanted⟩, bExclusions, bLibraries, bKeys, bStatements, bNow⟩
  simp only at h
  obtain ⟨rfl, rfl, rfl, rfl, rfl, rfl, rfl, rfl, rfl, rfl⟩ := h
  rfl
def GArchive.size (x : GArchive) : Nat := (x.Site.length + (x.Site.map GVersion.size).sum) + (x.Script.length) + (x.Disk.size) + (x.Exclusions.length) + (x.Libraries.length + (x.Libraries.map GLibrary.size).sum) + (x.Keys.length) + (x.Statements.length)
structure GEvent where
 Kind : Int
 N : Int
 Inputs : List Int
 Version : GVersion
 Exclusion : GExclusion
 deriving DecidableEq
def GEvent.enc (x : GEvent) : List T := [tI x.Kind, tI x.N, .sl 1 (x.Inputs.map encI), tI x.Version.Address.Host, tI x.Version.Address.Path, tI x.Version.Address.Query, tI x.Version.From, tI x.Version.Resource.Kind, .sl 1 (x.Version.Resource.Body.map encI), tI x.Version.Resource.To.Host, tI x.Version.Resource.To.Path, tI x.Version.Resource.To.Query, tI x.Exclusion.Host, tI x.Exclusion.Path, tI x.Exclusion.From, tI x.Exclusion.Until, tI x.Exclusion.Asked]
def GEvent.dt : DT := .st (.fc .int (.fc .int (.fc (.sl .int) (.fc GVersion.dt (.fc GExclusion.dt .fn)))))
theorem GEvent.of {ts : List T} (h : IsT GEvent.dt ts) : ∃ x : GEvent, ts = x.enc := by
 simp only [GEvent.dt, IsT] at h
 obtain ⟨_, _, rfl, ⟨v0, rfl⟩, _, _, rfl, ⟨v1, rfl⟩, _, _, rfl, ⟨l2, rfl, k2⟩, _, _, rfl, k3, _, _, rfl, k4, rfl⟩ := h
 obtain ⟨v2, rfl⟩ := list_of int_of k2
 obtain ⟨v3, rfl⟩ := GVersion.of k3
 obtain ⟨v4, rfl⟩ := GExclusion.of k4
 exact ⟨⟨v0, v1, v2, v3, v4⟩, rfl⟩
theorem GEvent.eqv {x y : GEvent} : x = y ↔ x.Kind = y.Kind ∧ x.N = y.N ∧ x.Inputs = y.Inputs ∧ x.Version.Address.Host = y.Version.Address.Host ∧ x.Version.Address.Path = y.Version.Address.Path ∧ x.Version.Address.Query = y.Version.Address.Query ∧ x.Version.From = y.Version.From ∧ x.Version.Resource.Kind = y.Version.Resource.Kind ∧ x.Version.Resource.Body = y.Version.Resource.Body ∧ x.Version.Resource.To.Host = y.Version.Resource.To.Host ∧ x.Version.Resource.To.Path = y.Version.Resource.To.Path ∧ x.Version.Resource.To.Query = y.Version.Resource.To.Query ∧ x.Exclusion.Host = y.Exclusion.Host ∧ x.Exclusion.Path = y.Exclusion.Path ∧ x.Exclusion.From = y.Exclusion.From ∧ x.Exclusion.Until = y.Exclusion.Until ∧ x.Exclusion.Asked = y.Exclusion.Asked := by
 constructor
 ·rintro rfl; simp
 ·intro h
  rcases x with ⟨aKind, aN, aInputs, ⟨⟨aVersionAddressHost, aVersionAddressPath, aVersionAddressQuery⟩, aVersionFrom, ⟨aVersionResourceKind, aVersionResourceBody, ⟨aVersionResourceToHost, aVersionResourceToPath, aVersionResourceToQuery⟩⟩⟩, ⟨aExclusionHost, aExclusionPath, aExclusionFrom, aExclusionUntil, aExclusionAsked⟩⟩
  rcases y with ⟨bKind, bN, bInputs, ⟨⟨bVersionAddressHost, bVersionAddressPath, bVersionAddressQuery⟩, bVersionFrom, ⟨bVersionResourceKind, bVersionResourceBody, ⟨bVersionResourceToHost, bVersionResourceToPath, bVersionResourceToQuery⟩⟩⟩, ⟨bExclusionHost, bExclusionPath, bExclusionFrom, bExclusionUntil, bExclusionAsked⟩⟩
  simp only at h
  obtain ⟨rfl, rfl, rfl, rfl, rfl, rfl, rfl, rfl, rfl, rfl, rfl, rfl, rfl, rfl, rfl, rfl, rfl⟩ := h
  rfl
def GEvent.size (x : GEvent) : Nat := (x.Inputs.length) + (x.Version.size)
structure GChange where
 Tick : Int
 Digest : Int
 deriving DecidableEq
def GChange.enc (x : GChange) : List T := [tI x.Tick, tI x.Digest]
def GChange.dt : DT := .st (.fc .int (.fc .int .fn))
theorem GChange.of {ts : List T} (h : IsT GChange.dt ts) : ∃ x : GChange, ts = x.enc := by
 simp only [GChange.dt, IsT] at h
 obtain ⟨_, _, rfl, ⟨v0, rfl⟩, _, _, rfl, ⟨v1, rfl⟩, rfl⟩ := h
 exact ⟨⟨v0, v1⟩, rfl⟩
theorem GChange.eqv {x y : GChange} : x = y ↔ x.Tick = y.Tick ∧ x.Digest = y.Digest := by
 constructor
 ·rintro rfl; simp
 ·intro h
  rcases x with ⟨aTick, aDigest⟩
  rcases y with ⟨bTick, bDigest⟩
  simp only at h
  obtain ⟨rfl, rfl⟩ := h
  rfl
structure GPlayed where
 Code : Int
 At : Int
 State : GState
 deriving DecidableEq
def GPlayed.enc (x : GPlayed) : List T := [tI x.Code, tI x.At, tI x.State.Pc, .sl 1 (x.State.Regs.map encI), .sl 1 (x.State.Slots.map encI), .sl 1 (x.State.Nodes.map encI)]
def GPlayed.dt : DT := .st (.fc .int (.fc .int (.fc GState.dt .fn)))
theorem GPlayed.of {ts : List T} (h : IsT GPlayed.dt ts) : ∃ x : GPlayed, ts = x.enc := by
 simp only [GPlayed.dt, IsT] at h
 obtain ⟨_, _, rfl, ⟨v0, rfl⟩, _, _, rfl, ⟨v1, rfl⟩, _, _, rfl, k2, rfl⟩ := h
 obtain ⟨v2, rfl⟩ := GState.of k2
 exact ⟨⟨v0, v1, v2⟩, rfl⟩
theorem GPlayed.eqv {x y : GPlayed} : x = y ↔ x.Code = y.Code ∧ x.At = y.At ∧ x.State.Pc = y.State.Pc ∧ x.State.Regs = y.State.Regs ∧ x.State.Slots = y.State.Slots ∧ x.State.Nodes = y.State.Nodes := by
 constructor
 ·rintro rfl; simp
 ·intro h
  rcases x with ⟨aCode, aAt, ⟨aStatePc, aStateRegs, aStateSlots, aStateNodes⟩⟩
  rcases y with ⟨bCode, bAt, ⟨bStatePc, bStateRegs, bStateSlots, bStateNodes⟩⟩
  simp only at h
  obtain ⟨rfl, rfl, rfl, rfl, rfl, rfl⟩ := h
  rfl
def GPlayed.size (x : GPlayed) : Nat := (x.State.size)
attribute [go_sem] encI encB GAddress.enc GResource.enc GPart.enc GPiece.enc GVersion.enc GOp.enc GState.enc GVisit.enc GWant.enc GEntry.enc GCapture.enc GChoice.enc GWander.enc GModel.enc GShown.enc GLeaf.enc GEdition.enc GExclusion.enc GStatement.enc GLibrary.enc GContainer.enc GFound.enc GDisk.enc GArchive.enc GEvent.enc GChange.enc GPlayed.enc
end Go.Proofs.YtgkeplbnnjogiaaGreatR
namespace Go.Proofs.YtgkeplbnnjogiaaGreatR
open Go Go.RowKit
open Nat (reduceEqDiff reduceLT reduceLeDiff reduceAdd reduceMul)
open List (reduceReplicate)
def szr (n : Nat) (left : Int) : Int := if (n : Int) ≤ left then left - n else -1
theorem szr_neg {n : Nat} {left : Int} (_ : 0 ≤ left) : szr n left < 0 ↔ left < n := by unfold szr; split <;> omega
theorem szr_add {n m : Nat} {left : Int} (_ : 0 ≤ left) (h1 : ¬ szr n left < 0) : 0 ≤ szr n left ∧ szr n left ≤ left ∧ szr (n + m) left = szr m (szr n left) := by
 unfold szr at *
 split at h1
 ·rename_i h2
  simp only [h2, if_true]
  refine ⟨by omega, by omega, ?_⟩
  split <;> split <;> omega
 ·omega
def own : List T → List (Bool × T)
 | [] => []
 | .sl k es :: l => (true, .sl k es) :: own l
 | t :: l => (false, t) :: own l
@[go_sem] theorem own_nil : own [] = [] := rfl
@[go_sem] theorem own_sl {k es l} : own (.sl k es :: l) = (true, .sl k es) :: own l := rfl
@[go_sem] theorem own_sc {v l} : own (.sc v :: l) = (false, .sc v) :: own l := rfl
abbrev rS (ts : List T) : RV := ⟨true, own ts⟩
abbrev rL (k : Nat) (es : List (List T)) : RV := ⟨false, [(true, .sl k es)]⟩
abbrev aS (ts : List T) : Bool × List T := (true, ts)
attribute [go_sem] rS rL aS
def filled {α : Type} (f : α → List T) (z : List T) (xs : List α) (k : Nat) : List (List T) := (xs.take k).map f ++ List.replicate (xs.length - k) z
section
variable {α : Type} {f : α → List T} {z : List T} {xs : List α} {k : Nat}
@[go_sem] theorem filled_len (h : k ≤ xs.length) : (filled f z xs k).length = xs.length := by simp [filled]; omega
theorem filled_zero : filled f z xs 0 = List.replicate xs.length z := by simp [filled]
theorem filled_all : filled f z xs xs.length = xs.map f := by simp [filled]
theorem filled_get (h : k < xs.length) : (filled f z xs k)[k]? = some z := by
 unfold filled
 rw [List.getElem?_append_right (by simp; omega), List.getElem?_replicate, if_pos (by simp; omega)]
theorem filled_set {x : α} (h : xs[k]? = some x) : (filled f z xs k).set k (f x) = filled f z xs (k + 1) := by
 have hk := len_at h
 unfold filled
 rw [List.set_append_right _ _ (by simp; omega), take_snoc h]
 have e : xs.length - k = (xs.length - (k + 1)) + 1 := by omega
 rw [e, List.replicate_succ]
 have e2 : k - (List.map f (List.take k xs)).length = 0 := by simp; omega
 rw [e2]
 simp
end
theorem replicate_toNat {n : Nat} {z : List T} : List.replicate (n : Int).toNat z = List.replicate n z := by simp
theorem take_eq_step {α : Type} {xs ys : List α} {k : Nat} {x y : α} (hx : xs[k]? = some x) (hy : ys[k]? = some y) (h : xs.take k = ys.take k) : xs.take (k + 1) = ys.take (k + 1) ↔ x = y := by
 rw [take_snoc hx, take_snoc hy, h]
 simp
theorem ne_at {α : Type} [DecidableEq α] {xs ys : List α} {k : Nat} {x y : α} (hx : xs[k]? = some x) (hy : ys[k]? = some y) (h : ¬ x = y) : false = decide (xs = ys) := by
 symm
 rw [decide_eq_false_iff_not]
 rintro rfl
 rw [hx] at hy
 exact h (Option.some.inj hy)
theorem ne_len {α : Type} [DecidableEq α] {xs ys : List α} (h : ¬ (xs.length : Int) = ys.length) : false = decide (xs = ys) := by
 symm
 rw [decide_eq_false_iff_not]
 rintro rfl
 exact h rfl
theorem eq_all {α : Type} [DecidableEq α] {xs ys : List α} (he : xs.take xs.length = ys.take xs.length) (hl : xs.length = ys.length) : true = decide (xs = ys) := by
 symm
 rw [decide_eq_true_iff]
 rw [List.take_length] at he
 rw [he, hl, List.take_length]
theorem szr_bad' {n N : Nat} {left : Int} (h0 : 0 ≤ left) (h : szr n left < 0) (hn : n ≤ N) : -1 = szr N left := by
 rw [szr_neg h0] at h
 unfold szr
 rw [if_neg (by omega)]
theorem szr_ok {n : Nat} {left : Int} (h : ¬ szr n left < 0) : (n : Int) ≤ left := by
 unfold szr at h
 split at h <;> omega
theorem sum_snoc {α : Type} {f : α → Nat} {l : List α} {k : Nat} {x : α} (h : l[k]? = some x) : ((l.take (k + 1)).map f).sum = ((l.take k).map f).sum + f x := by
 rw [take_snoc h]; simp
theorem sum_take_le {α : Type} {f : α → Nat} (l : List α) (k : Nat) : ((l.take k).map f).sum ≤ (l.map f).sum := by
 have h : (l.map f).sum = ((l.take k).map f).sum + ((l.drop k).map f).sum := by
  rw [← List.sum_append, ← List.map_append, List.take_append_drop]
 omega
theorem mem_sum {α : Type} {f : α → Nat} {l : List α} {x : α} (h : x ∈ l) : f x ≤ (l.map f).sum := by
 induction l with
 | nil => simp at h
 | cons y l ih =>
  rcases List.mem_cons.1 h with rfl | h
  ·simp
  ·have := ih h; simp; omega
theorem snoc_len {α : Type} {l : List α} {k : Nat} {x : α} (h : l[k]? = some x) : (l.take k).length + 1 = (l.take (k + 1)).length := by
 rw [take_snoc h]; simp
theorem snoc_map {α : Type} {f : α → List T} {l : List α} {k : Nat} {x : α} (h : l[k]? = some x) : (l.take k).map f ++ [f x] = (l.take (k + 1)).map f := by
 rw [take_snoc h]; simp
end Go.Proofs.YtgkeplbnnjogiaaGreatR
namespace Go.Proofs.YtgkeplbnnjogiaaGreatR
open Go Go.RowKit Go.Proofs
open Nat (reduceEqDiff reduceLT reduceLeDiff reduceAdd reduceMul)
open List (reduceReplicate)
theorem hmix : Tryz.prog.follows .mixedOrders = true := by kernel_rfl
theorem cA {f : FuncId} {fn : Func} {c : Code} {args : List (Bool × List T)} {rs : List RV} (M : MC) (m n : Nat) (res : List (MR × List Bool)) (hf : Tryz.prog.funcs[f]? = some fn) (hb : fn.body = some c) (hnt : fn.ntmps = n)
    (h : bdA args → wpC Tryz.prog M (kF res rs) (startS args n m)) (hname : (fn.name == "runtime.NumGoroutine") = false := by kernel_rfl) (hc : chkC Tryz.prog c M = true := by kernel_rfl) (hres : chkRes Tryz.prog fn.results.toList (res.map (·.1)) = true := by kernel_rfl) (hn : args.length ≤ n := by exact Nat.le_of_ble_eq_true rfl) : Ctr Tryz.prog f args rs :=
  ctr_at hmix hf hb hname hnt hc hres hn h
abbrev n_laws_FnExactStepWrite : Nat := 6
abbrev n_laws_szArchive : Nat := 13
abbrev n_laws_toArchive : Nat := 15
abbrev n_laws_eqArchive : Nat := 17
abbrev n_laws_markArchive : Nat := 23
abbrev n_spec_StepWrite : Nat := 26
abbrev n_impl_StepWrite : Nat := 27
abbrev n_laws_heldArchive : Nat := 28
abbrev n_laws_toIntS : Nat := 37
abbrev n_laws_eqIntS : Nat := 39
abbrev n_laws_markIntS : Nat := 43
abbrev n_laws_szVersionS : Nat := 50
abbrev n_laws_szOpS : Nat := 51
abbrev n_laws_szDisk : Nat := 52
abbrev n_laws_szExclusionS : Nat := 53
abbrev n_laws_szLibraryS : Nat := 54
abbrev n_laws_szIntS : Nat := 55
abbrev n_laws_szStatementS : Nat := 56
abbrev n_spec_l1In : Nat := 57
abbrev n_laws_toVersionS : Nat := 59
abbrev n_laws_toOpS : Nat := 60
abbrev n_laws_toDisk : Nat := 61
abbrev n_laws_toExclusionS : Nat := 62
abbrev n_laws_toLibraryS : Nat := 63
abbrev n_laws_toStatementS : Nat := 64
abbrev n_slices_ContainsFunc_impl_Container_impl_Container : Nat := 65
abbrev n_impl_InRange : Nat := 67
abbrev n_laws_eqVersionS : Nat := 69
abbrev n_laws_eqOpS : Nat := 70
abbrev n_laws_eqDisk : Nat := 71
abbrev n_laws_eqExclusionS : Nat := 72
abbrev n_laws_eqLibraryS : Nat := 73
abbrev n_laws_eqStatementS : Nat := 74
abbrev n_spec_BeforeAddress : Nat := 79
abbrev n_impl_BeforeAddress : Nat := 84
abbrev n_laws_eqAddress : Nat := 85
abbrev n_laws_markVersionS : Nat := 86
abbrev n_laws_markOpS : Nat := 87
abbrev n_laws_markDisk : Nat := 88
abbrev n_laws_markExclusionS : Nat := 89
abbrev n_laws_markLibraryS : Nat := 90
abbrev n_laws_markStatementS : Nat := 91
abbrev n_spec_l32Copy : Nat := 92
abbrev n_spec_WriteNext : Nat := 93
abbrev n_spec_PlaceCopies : Nat := 94
abbrev n_spec_l34Up : Nat := 95
abbrev n_spec_l28Has : Nat := 96
abbrev n_spec_l9Put : Nat := 97
abbrev n_impl_copyArchive : Nat := 98
abbrev n_impl_WriteNext : Nat := 99
abbrev n_impl_PlaceCopies : Nat := 100
abbrev n_slices_Contains_int_int : Nat := 101
abbrev n_impl_withDigest : Nat := 102
abbrev n_laws_heldVersionS : Nat := 103
abbrev n_laws_heldOpS : Nat := 104
abbrev n_laws_heldDisk : Nat := 105
abbrev n_laws_heldExclusionS : Nat := 106
abbrev n_laws_heldLibraryS : Nat := 107
abbrev n_laws_heldIntS : Nat := 108
abbrev n_laws_heldStatementS : Nat := 109
abbrev n_laws_szVersion : Nat := 136
abbrev n_laws_szContainerS : Nat := 137
abbrev n_laws_szFoundS : Nat := 138
abbrev n_laws_szLibrary : Nat := 139
abbrev n_laws_toVersion : Nat := 141
abbrev n_laws_toOp : Nat := 142
abbrev n_laws_toContainerS : Nat := 143
abbrev n_laws_toFoundS : Nat := 144
abbrev n_laws_toExclusion : Nat := 145
abbrev n_laws_toLibrary : Nat := 146
abbrev n_laws_toStatement : Nat := 147
abbrev n_slices_IndexFunc_impl_Container_impl_Container : Nat := 148
abbrev n_slices_Sort_int_int : Nat := 152
abbrev n_impl_at : Nat := 153
abbrev n_laws_eqVersion : Nat := 154
abbrev n_laws_eqOp : Nat := 155
abbrev n_laws_eqContainerS : Nat := 156
abbrev n_laws_eqFoundS : Nat := 157
abbrev n_laws_eqExclusion : Nat := 158
abbrev n_laws_eqLibrary : Nat := 159
abbrev n_laws_eqStatement : Nat := 160
abbrev n_spec_Max : Nat := 162
abbrev n_spec_Min : Nat := 163
abbrev n_spec_l15Copy : Nat := 166
abbrev n_laws_markContainerS : Nat := 171
abbrev n_laws_markFoundS : Nat := 172
abbrev n_spec_l32Site : Nat := 173
abbrev n_spec_l31Copy : Nat := 174
abbrev n_spec_l29Copy : Nat := 175
abbrev n_spec_IsDisk : Nat := 176
abbrev n_spec_l31Whole : Nat := 177
abbrev n_spec_BuildIndex : Nat := 178
abbrev n_spec_OrderFor : Nat := 179
abbrev n_impl_copySite : Nat := 180
abbrev n_slices_Clone_impl_Op_impl_Op : Nat := 181
abbrev n_impl_copyDisk : Nat := 182
abbrev n_slices_Clone_impl_Exclusion_impl_Exclusion : Nat := 183
abbrev n_impl_copyLibraries : Nat := 184
abbrev n_slices_Clone_int_int : Nat := 185
abbrev n_slices_Clone_impl_Statement_impl_Statement : Nat := 186
abbrev n_impl_IsDisk : Nat := 187
abbrev n_impl_Disk_follows : Nat := 188
abbrev n_impl_BuildIndex : Nat := 189
abbrev n_impl_OrderFor : Nat := 190
abbrev n_slices_Index_int_int : Nat := 191
abbrev n_slices_Insert_int_int : Nat := 192
abbrev n_laws_heldContainerS : Nat := 193
abbrev n_laws_heldFoundS : Nat := 194
abbrev n_spec_l5Copy : Nat := 211
abbrev n_impl_copyCaptures : Nat := 212
abbrev n_impl_copyResource : Nat := 218
abbrev n_laws_eqResource : Nat := 219
abbrev n_spec_IsScript : Nat := 223
abbrev n_spec_AreCaptures : Nat := 224
abbrev n_impl_IsScript : Nat := 236
abbrev n_impl_AreCaptures : Nat := 237
abbrev n_spec_SealContainer : Nat := 248
abbrev n_spec_IsContainer : Nat := 250
abbrev n_spec_l30Copy : Nat := 251
abbrev n_impl_allIn : Nat := 255
abbrev n_impl_SealContainer : Nat := 257
abbrev n_impl_IsContainer : Nat := 259
abbrev n_impl_copyContainers : Nat := 260
abbrev n_laws_szResource : Nat := 263
abbrev n_laws_szContainer : Nat := 264
abbrev n_laws_toAddress : Nat := 266
abbrev n_laws_toResource : Nat := 267
abbrev n_laws_toContainer : Nat := 268
abbrev n_laws_toFound : Nat := 269
abbrev n_laws_eqContainer : Nat := 274
abbrev n_laws_eqFound : Nat := 275
abbrev n_laws_markEntryS : Nat := 290
abbrev n_laws_markCaptureS : Nat := 291
abbrev n_spec_l31Same : Nat := 292
abbrev n_spec_l31Before : Nat := 293
abbrev n_spec_l28Before : Nat := 294
abbrev n_slices_Clone_impl_Found_impl_Found : Nat := 295
abbrev n_impl_badContainer : Nat := 296
abbrev n_slices_Equal_impl_Found_impl_Found : Nat := 297
abbrev n_slices_SortStableFunc_impl_Found_impl_Found : Nat := 298
abbrev n_impl_BuildIndex_1 : Nat := 299
abbrev n_cmp_Compare_int : Nat := 300
abbrev n_impl_sorted : Nat := 301
abbrev n_slices_SortStableFunc_int_int : Nat := 302
abbrev n_impl_OrderFor_1 : Nat := 303
abbrev n_impl_RankOf : Nat := 304
abbrev n_laws_heldEntryS : Nat := 307
abbrev n_laws_heldCaptureS : Nat := 308
abbrev n_spec_IsResource : Nat := 310
abbrev n_spec_Hash : Nat := 311
abbrev n_spec_ResourceInts : Nat := 312
abbrev n_impl_IsResource : Nat := 313
abbrev n_impl_Hash : Nat := 314
abbrev n_impl_ResourceInts : Nat := 315
abbrev n_spec_l10Ok : Nat := 320
abbrev n_spec_IsAddress : Nat := 321
abbrev n_spec_Asks : Nat := 323
abbrev n_slices_ContainsFunc_impl_Op_impl_Op : Nat := 327
abbrev n_impl_IsScript_1 : Nat := 328
abbrev n_impl_isOp : Nat := 329
abbrev n_slices_ContainsFunc_impl_Capture_impl_Capture : Nat := 330
abbrev n_impl_AreCaptures_1 : Nat := 331
abbrev n_impl_IsAddress : Nat := 332
abbrev n_impl_Asks : Nat := 334
abbrev n_spec_RootOf : Nat := 342
abbrev n_spec_ScriptInts : Nat := 343
abbrev n_spec_l30Entries : Nat := 344
abbrev n_spec_l30Captures : Nat := 345
abbrev n_spec_AreEntries : Nat := 347
abbrev n_impl_CaptureInts : Nat := 352
abbrev n_slices_Clone_impl_Entry_impl_Entry : Nat := 353
abbrev n_impl_RootOf : Nat := 354
abbrev n_impl_ScriptInts : Nat := 355
abbrev n_impl_AreEntries : Nat := 357
abbrev n_laws_szEntryS : Nat := 358
abbrev n_laws_szCaptureS : Nat := 359
abbrev n_laws_toEntryS : Nat := 360
abbrev n_laws_toCaptureS : Nat := 361
abbrev n_laws_eqEntryS : Nat := 372
abbrev n_laws_eqCaptureS : Nat := 373
abbrev n_spec_RankOf : Nat := 382
abbrev n_slices_stableCmpFunc_impl_Found : Nat := 383
abbrev n_cmp_isNaN_int : Nat := 384
abbrev n_slices_Compact_int_int : Nat := 385
abbrev n_slices_stableCmpFunc_int : Nat := 386
abbrev n_impl_Mod : Nat := 387
abbrev n_spec_l5Bytes : Nat := 389
abbrev n_spec_Mod : Nat := 390
abbrev n_slices_IndexFunc_impl_Op_impl_Op : Nat := 396
abbrev n_slices_IndexFunc_impl_Capture_impl_Capture : Nat := 397
abbrev n_spec_CaptureInts : Nat := 402
abbrev n_slices_ContainsFunc_impl_Entry_impl_Entry : Nat := 407
abbrev n_impl_AreEntries_1 : Nat := 408
abbrev n_laws_szCapture : Nat := 409
abbrev n_laws_toEntry : Nat := 410
abbrev n_laws_toCapture : Nat := 411
abbrev n_laws_eqEntry : Nat := 417
abbrev n_laws_eqCapture : Nat := 418
abbrev n_slices_insertionSortCmpFunc_impl_Found : Nat := 422
abbrev n_slices_symMergeCmpFunc_impl_Found : Nat := 423
abbrev n_slices_insertionSortCmpFunc_int : Nat := 424
abbrev n_slices_symMergeCmpFunc_int : Nat := 425
abbrev n_slices_IndexFunc_impl_Entry_impl_Entry : Nat := 429
abbrev n_slices_rotateCmpFunc_impl_Found : Nat := 432
abbrev n_slices_rotateCmpFunc_int : Nat := 433
abbrev n_slices_swapRangeCmpFunc_impl_Found : Nat := 434
abbrev n_slices_swapRangeCmpFunc_int : Nat := 435
def m_laws_szIntS : MC :=
(.seq (pr [.mv 4 (ci 0)] [0,1])
(.seq (pr [.mv 5 (.s 1), .mv 6 (.s 0), .len 7 false (.s 6), .bin 8 false .sub (.s 5) (.s 7), .mv 1 (.s 8)] [1])
(.seq (.seq (pr [.mv 9 (.s 1), .bin 10 false .lss (.s 9) (ci 0)] [1,10])
(.cond (.s 10) (.seq (pr [.mv 4 (.c (.int .i64 (-1)))] [4])
.ret) .skip))
(.seq (pr [.mv 11 (.s 1), .mv 4 (.s 11)] [4])
.ret))))
theorem c_laws_szIntS (xs : List Int) (left : Int) (h0 : 0 ≤ left) : Ctr Tryz.prog n_laws_szIntS [aL 1 (xs.map encI), aI left] [rI (szr xs.length left)] := by
 refine cA m_laws_szIntS 0 12 [(.tmp 4, [false])] Tryz.func55 rfl rfl ?_; unfold m_laws_szIntS
 intro hb
 simp only [bdA, bdL, bdT, bdR, bdR_map, wfB_i64, wfB_bool, wfB_str, roomB, and_true, true_and, List.length_map] at hb
 obtain ⟨⟨hl, -⟩, hn⟩ := hb
 simp only [↓reduceIte, go_sem]
 rw [wI (by omega) (by omega)]
 unfold szr
 refine ⟨fun h => ?_, fun h => ?_⟩
 ·rw [if_neg (by omega)]
 ·rw [if_pos (by omega)]
def m_laws_toIntS : MC :=
(.seq (pr [.nilo 2 0 1] [0])
(.seq (pr [.mv 5 (.s 0), .len 6 false (.s 5), .mk 7 0 1 8 [.sc (.int .i64 0)] (.s 6), .mv 3 (.s 7)] [0,3])
(.seq (.seq (pr [.mv 4 (ci 0)] [0,3,4])
(.block 0 (.loop ([0,3,4], []) (.seq (.seq (pr [.mv 8 (.s 4), .mv 9 (.s 0), .len 10 false (.s 9), .bin 11 false .lss (.s 8) (.s 10)] [0,3,4,11])
(.cond (.s 11) .skip (.exit 0)))
(.seq (.block 1 (pr [.mv 14 (.s 3), .mv 15 (.s 4), .mv 16 (.s 0), .mv 17 (.s 4), .idx 18 1 (.s 16) (.s 17), .load 19 false 1 (.s 18), .idx 20 1 (.s 14) (.s 15), .store 1 (.s 20) (.s 19)] [0,3,4]))
(pr [.mv 12 (.s 4), .bin 13 false .add (.s 12) (ci 1), .mv 4 (.s 13)] [0,3,4]))))))
(.seq (pr [.mv 21 (.s 3), .mv 2 (.s 21)] [2])
.ret))))
theorem c_laws_toIntS (xs : List Int) (hs : xs.length ≤ 1073741824) : Ctr Tryz.prog n_laws_toIntS [aL 1 (xs.map encI)] [rL 1 (xs.map encI)] := by
 refine cA m_laws_toIntS 1 22 [(.tmp 2, [true])] Tryz.func37 rfl rfl ?_; unfold m_laws_toIntS
 intro hb
 simp only [↓reduceIte, go_sem, replicate_toNat]
 refine ⟨⟨by omega, by simp only [roomB]; omega⟩, ?_⟩
 refine loopK_rng xs (fun k => [(4, vI k)]) (fun k => [(0, ⟨0, .row true 1 (filled encI [tI 0] xs k)⟩)]) (fun _ => True) (by simp only [roomB]; omega) ?_
 simp only [↓reduceIte, go_sem]
 refine ⟨?_, trivial, ?_, ?_⟩
 ·simp only [↓reduceIte, go_sem, filled_zero]
  all_goals rfl
 ·intro k x hx _ h0 h1 hw
  have h : k < xs.length := by omega
  simp only [↓reduceIte, go_sem, bk_eq hx, bk_eq (filled_get h), filled_len (Nat.le_of_lt h), h0, h1, hw]
  exact filled_set hx
 ·intro _
  simp only [↓reduceIte, go_sem, filled_all]
def m_laws_eqIntS : MC :=
(.seq (pr [.mv 4 cF] [0,1])
(.seq (.seq (pr [.mv 6 (.s 0), .len 7 false (.s 6), .mv 8 (.s 1), .len 9 false (.s 8), .bin 10 false .neq (.s 7) (.s 9)] [0,1,10])
(.cond (.s 10) (.seq (pr [.mv 4 cF] [4])
.ret) .skip))
(.seq (.seq (pr [.mv 5 (ci 0)] [0,1,5])
(.block 0 (.loop ([0,1,5], []) (.seq (.seq (pr [.mv 11 (.s 5), .mv 12 (.s 0), .len 13 false (.s 12), .bin 14 false .lss (.s 11) (.s 13)] [0,1,5,14])
(.cond (.s 14) .skip (.exit 0)))
(.seq (.block 1 (.seq (.dreg [Zc [18,21,22,23,24] (.mv 17 (.s 0)), Zc [17,21,22,23,24] (.mv 18 (.s 5)), Zd [21,22,23,24] [0,1] (.idx 19 1 (.s 17) (.s 18)), Zd [21,22,23,24] [0,1,2] (.load 20 false 1 (.s 19)), Zc [17,18,19,20,22] (.mv 21 (.s 1)), Zc [17,18,19,20,21] (.mv 22 (.s 5)), Zd [17,18,19,20] [4,5] (.idx 23 1 (.s 21) (.s 22)), Zd [17,18,19,20] [4,5,6] (.load 24 false 1 (.s 23)), Ze (.range 8) (.bin 25 false .neq (.s 20) (.s 24))] [0,1,5,25])
(.cond (.s 25) (.seq (pr [.mv 4 cF] [4])
.ret) .skip)))
(pr [.mv 15 (.s 5), .bin 16 false .add (.s 15) (ci 1), .mv 5 (.s 16)] [0,1,5]))))))
(.seq (pr [.mv 4 cT] [4])
.ret))))
theorem c_laws_eqIntS (xs ys : List Int) : Ctr Tryz.prog n_laws_eqIntS [aL 1 (xs.map encI), aL 1 (ys.map encI)] [rB (decide (xs = ys))] := by
 refine cA m_laws_eqIntS 0 26 [(.tmp 4, [false])] Tryz.func39 rfl rfl ?_; unfold m_laws_eqIntS
 intro hb
 simp only [bdA, bdL, bdT, bdR, bdR_map, wfB_i64, wfB_bool, wfB_str, roomB, and_true, true_and, List.length_map] at hb
 obtain ⟨⟨hl, -⟩, ⟨hl2, -⟩⟩ := hb
 simp only [↓reduceIte, go_sem]
 refine ⟨fun h => ne_len h, fun h => ?_⟩
 have hle : xs.length = ys.length := by omega
 refine loopK_rng xs (fun k => [(5, vI k)]) (fun k => []) (fun k => xs.take k = ys.take k) hl ?_
 simp only [↓reduceIte, go_sem]
 refine ⟨?_, rfl, ?_, ?_⟩
 ·simp only [↓reduceIte, go_sem]
 ·intro k x hx he h0 h1 hw
  obtain ⟨y, hy⟩ := at_some (show k < ys.length by omega)
  have h2 : (k : Int) < ys.length := by omega
  simp only [↓reduceIte, go_sem, bk_eq hx, bk_eq hy, h0, h1, h2, hw]
  exact ⟨fun hn => ne_at hx hy hn, fun hn => (take_eq_step hx hy he).2 hn⟩
 ·intro he
  simp only [↓reduceIte, go_sem]
  exact eq_all he hle
def m_laws_toAddress : MC :=
(.seq (pr [.box 1 0 (.s 0), .alloc 2 1 [pz, pz, pz]] [1,2])
(.seq (pr [.alloc 3 2 [pz, pz, pz]] [1,2,3])
(.seq (pr [.fld 4 (.s 1) 0, .load 5 false 1 (.s 4), .fld 6 (.s 3) 0, .store 1 (.s 6) (.s 5)] [1,2,3])
(.seq (pr [.fld 7 (.s 1) 1, .load 8 false 1 (.s 7), .fld 9 (.s 3) 1, .store 1 (.s 9) (.s 8)] [1,2,3])
(.seq (pr [.fld 10 (.s 1) 2, .load 11 false 1 (.s 10), .fld 12 (.s 3) 2, .store 1 (.s 12) (.s 11)] [2,3])
(.seq (pr [.load 13 true 3 (.s 3), .store 3 (.s 2) (.s 13)] [2])
.ret))))))
theorem c_laws_toAddress (x : GAddress) : Ctr Tryz.prog n_laws_toAddress [aS x.enc] [rS x.enc] := by
 refine cA m_laws_toAddress 3 14 [(.cell 2 true 3, [false, false, false])] Tryz.func266 rfl rfl ?_; unfold m_laws_toAddress
 intro hb
 simp only [↓reduceIte, go_sem]
def m_laws_eqAddress : MC :=
(.seq (pr [.box 2 0 (.s 0), .box 3 1 (.s 1), .mv 4 cF] [2,3])
(.seq (.seq (pr [.fld 5 (.s 2) 0, .load 6 false 1 (.s 5), .fld 7 (.s 3) 0, .load 8 false 1 (.s 7), .bin 9 false .neq (.s 6) (.s 8)] [2,3,9])
(.cond (.s 9) (.seq (pr [.mv 4 cF] [4])
.ret) .skip))
(.seq (.seq (pr [.fld 10 (.s 2) 1, .load 11 false 1 (.s 10), .fld 12 (.s 3) 1, .load 13 false 1 (.s 12), .bin 14 false .neq (.s 11) (.s 13)] [2,3,14])
(.cond (.s 14) (.seq (pr [.mv 4 cF] [4])
.ret) .skip))
(.seq (.seq (pr [.fld 15 (.s 2) 2, .load 16 false 1 (.s 15), .fld 17 (.s 3) 2, .load 18 false 1 (.s 17), .bin 19 false .neq (.s 16) (.s 18)] [19])
(.cond (.s 19) (.seq (pr [.mv 4 cF] [4])
.ret) .skip))
(.seq (pr [.mv 4 cT] [4])
.ret)))))
theorem c_laws_eqAddress (x y : GAddress) : Ctr Tryz.prog n_laws_eqAddress [aS x.enc, aS y.enc] [rB (decide (x = y))] := by
 refine cA m_laws_eqAddress 2 20 [(.tmp 4, [false])] Tryz.func85 rfl rfl ?_; unfold m_laws_eqAddress
 intro hb
 clear hb
 simp only [↓reduceIte, go_sem]
 refine ⟨fun h => ?_, fun h_Host => ?_⟩
 ·symm
  rw [decide_eq_false_iff_not]
  rintro rfl
  exact h rfl
 refine ⟨fun h => ?_, fun h_Path => ?_⟩
 ·symm
  rw [decide_eq_false_iff_not]
  rintro rfl
  exact h rfl
 refine ⟨fun h => ?_, fun h_Query => ?_⟩
 ·symm
  rw [decide_eq_false_iff_not]
  rintro rfl
  exact h rfl
 cases x; cases y; simp_all
def m_laws_szResource : MC :=
(.seq (pr [.box 2 0 (.s 0), .mv 4 (ci 0)] [1,2])
(.seq (pr [.fld 5 (.s 2) 1, .load 6 false 1 (.s 5), .mv 7 (.s 1), .call 8 [] (.f n_laws_szIntS) [.s 6, .s 7], .mv 1 (.s 8)] [1])
(.seq (.seq (pr [.mv 9 (.s 1), .bin 10 false .lss (.s 9) (ci 0)] [1,10])
(.cond (.s 10) (.seq (pr [.mv 4 (.c (.int .i64 (-1)))] [4])
.ret) .skip))
(.seq (pr [.mv 11 (.s 1), .mv 4 (.s 11)] [4])
.ret))))
theorem c_laws_szResource (x : GResource) (left : Int) (h0 : 0 ≤ left) : Ctr Tryz.prog n_laws_szResource [aS x.enc, aI left] [rI (szr x.size left)] := by
 refine cA m_laws_szResource 1 12 [(.tmp 4, [false])] Tryz.func263 rfl rfl ?_; unfold m_laws_szResource
 intro hb
 simp only [↓reduceIte, go_sem]
 refine callK_of (c_laws_szIntS x.Body left h0) ?_
 simp only [↓reduceIte, go_sem]
 intro _
 refine ⟨fun h => szr_bad' h0 h (by simp only [GResource.size]; omega), fun h1 => ?_⟩
 rfl
def m_laws_toResource : MC :=
(.seq (pr [.box 1 0 (.s 0), .alloc 2 1 [pz, .emp 1, pz, pz, pz]] [1,2])
(.seq (pr [.alloc 3 2 [pz, .emp 1, pz, pz, pz]] [1,2,3])
(.seq (pr [.fld 4 (.s 1) 0, .load 5 false 1 (.s 4), .fld 6 (.s 3) 0, .store 1 (.s 6) (.s 5)] [1,2,3])
(.seq (pr [.fld 7 (.s 1) 1, .load 8 false 1 (.s 7), .call 9 [3] (.f n_laws_toIntS) [.s 8], .fld 10 (.s 3) 1, .store 1 (.s 10) (.s 9)] [1,2,3])
(.seq (pr [.fld 11 (.s 1) 2, .load 12 true 3 (.s 11), .call 13 [] (.f n_laws_toAddress) [.s 12], .fld 14 (.s 3) 2, .store 3 (.s 14) (.s 13)] [2,3])
(.seq (pr [.load 15 true 5 (.s 3), .store 5 (.s 2) (.s 15)] [2])
.ret))))))
theorem c_laws_toResource (x : GResource) (hs : x.size ≤ 1073741824) : Ctr Tryz.prog n_laws_toResource [aS x.enc] [rS x.enc] := by
 refine cA m_laws_toResource 4 16 [(.cell 2 true 5, [false, true, false, false, false])] Tryz.func267 rfl rfl ?_; unfold m_laws_toResource
 intro hb
 simp only [GResource.size] at hs
 simp only [↓reduceIte, go_sem]
 refine callK_of (c_laws_toIntS x.Body (by omega)) ?_
 simp only [↓reduceIte, go_sem]
 try intros
 refine callK_of (c_laws_toAddress x.To) ?_
 simp only [↓reduceIte, go_sem]
 try intros
def m_laws_eqResource : MC :=
(.seq (pr [.box 2 0 (.s 0), .box 3 1 (.s 1), .mv 4 cF] [2,3])
(.seq (.seq (pr [.fld 5 (.s 2) 0, .load 6 false 1 (.s 5), .fld 7 (.s 3) 0, .load 8 false 1 (.s 7), .bin 9 false .neq (.s 6) (.s 8)] [2,3,9])
(.cond (.s 9) (.seq (pr [.mv 4 cF] [4])
.ret) .skip))
(.seq (.seq (pr [.fld 10 (.s 2) 1, .load 11 false 1 (.s 10), .fld 12 (.s 3) 1, .load 13 false 1 (.s 12), .call 14 [] (.f n_laws_eqIntS) [.s 11, .s 13], .un 15 .not (.s 14)] [2,3,15])
(.cond (.s 15) (.seq (pr [.mv 4 cF] [4])
.ret) .skip))
(.seq (.seq (pr [.fld 16 (.s 2) 2, .load 17 true 3 (.s 16), .fld 18 (.s 3) 2, .load 19 true 3 (.s 18), .call 20 [] (.f n_laws_eqAddress) [.s 17, .s 19], .un 21 .not (.s 20)] [21])
(.cond (.s 21) (.seq (pr [.mv 4 cF] [4])
.ret) .skip))
(.seq (pr [.mv 4 cT] [4])
.ret)))))
theorem c_laws_eqResource (x y : GResource) : Ctr Tryz.prog n_laws_eqResource [aS x.enc, aS y.enc] [rB (decide (x = y))] := by
 refine cA m_laws_eqResource 2 22 [(.tmp 4, [false])] Tryz.func219 rfl rfl ?_; unfold m_laws_eqResource
 intro hb
 clear hb
 simp only [↓reduceIte, go_sem]
 refine ⟨fun h => ?_, fun h_Kind => ?_⟩
 ·symm
  rw [decide_eq_false_iff_not]
  rintro rfl
  exact h rfl
 refine callK_of (c_laws_eqIntS x.Body y.Body) ?_
 simp only [↓reduceIte, go_sem]
 refine ⟨fun h => ?_, fun h_Body => ?_⟩
 ·symm
  rw [decide_eq_false_iff_not]
  rintro rfl
  exact h rfl
 refine callK_of (c_laws_eqAddress x.To y.To) ?_
 simp only [↓reduceIte, go_sem]
 refine ⟨fun h => ?_, fun h_To => ?_⟩
 ·symm
  rw [decide_eq_false_iff_not]
  rintro rfl
  exact h rfl
 cases x; cases y; simp_all
def m_laws_szVersion : MC :=
(.seq (pr [.box 2 0 (.s 0), .mv 4 (ci 0)] [1,2])
(.seq (pr [.fld 5 (.s 2) 4, .load 6 true 5 (.s 5), .mv 7 (.s 1), .call 8 [] (.f n_laws_szResource) [.s 6, .s 7], .mv 1 (.s 8)] [1])
(.seq (.seq (pr [.mv 9 (.s 1), .bin 10 false .lss (.s 9) (ci 0)] [1,10])
(.cond (.s 10) (.seq (pr [.mv 4 (.c (.int .i64 (-1)))] [4])
.ret) .skip))
(.seq (pr [.mv 11 (.s 1), .mv 4 (.s 11)] [4])
.ret))))
theorem c_laws_szVersion (x : GVersion) (left : Int) (h0 : 0 ≤ left) : Ctr Tryz.prog n_laws_szVersion [aS x.enc, aI left] [rI (szr x.size left)] := by
 refine cA m_laws_szVersion 1 12 [(.tmp 4, [false])] Tryz.func136 rfl rfl ?_; unfold m_laws_szVersion
 intro hb
 simp only [↓reduceIte, go_sem]
 refine callK_of (c_laws_szResource x.Resource left h0) ?_
 simp only [↓reduceIte, go_sem]
 intro _
 refine ⟨fun h => szr_bad' h0 h (by simp only [GVersion.size]; omega), fun h1 => ?_⟩
 rfl
def m_laws_toVersion : MC :=
(.seq (pr [.box 1 0 (.s 0), .alloc 2 1 [pz, pz, pz, pz, pz, .emp 1, pz, pz, pz]] [1,2])
(.seq (pr [.alloc 3 2 [pz, pz, pz, pz, pz, .emp 1, pz, pz, pz]] [1,2,3])
(.seq (pr [.fld 4 (.s 1) 0, .load 5 true 3 (.s 4), .call 6 [] (.f n_laws_toAddress) [.s 5], .fld 7 (.s 3) 0, .store 3 (.s 7) (.s 6)] [1,2,3])
(.seq (pr [.fld 8 (.s 1) 3, .load 9 false 1 (.s 8), .fld 10 (.s 3) 3, .store 1 (.s 10) (.s 9)] [1,2,3])
(.seq (pr [.fld 11 (.s 1) 4, .load 12 true 5 (.s 11), .call 13 [3] (.f n_laws_toResource) [.s 12], .fld 14 (.s 3) 4, .store 5 (.s 14) (.s 13)] [2,3])
(.seq (pr [.load 15 true 9 (.s 3), .store 9 (.s 2) (.s 15)] [2])
.ret))))))
theorem c_laws_toVersion (x : GVersion) (hs : x.size ≤ 1073741824) : Ctr Tryz.prog n_laws_toVersion [aS x.enc] [rS x.enc] := by
 refine cA m_laws_toVersion 4 16 [(.cell 2 true 9, [false, false, false, false, false, true, false, false, false])] Tryz.func141 rfl rfl ?_; unfold m_laws_toVersion
 intro hb
 simp only [GVersion.size] at hs
 simp only [↓reduceIte, go_sem]
 refine callK_of (c_laws_toAddress x.Address) ?_
 simp only [↓reduceIte, go_sem]
 try intros
 refine callK_of (c_laws_toResource x.Resource (by omega)) ?_
 simp only [↓reduceIte, go_sem]
 try intros
def m_laws_eqVersion : MC :=
(.seq (pr [.box 2 0 (.s 0), .box 3 1 (.s 1), .mv 4 cF] [2,3])
(.seq (.seq (pr [.fld 5 (.s 2) 0, .load 6 true 3 (.s 5), .fld 7 (.s 3) 0, .load 8 true 3 (.s 7), .call 9 [] (.f n_laws_eqAddress) [.s 6, .s 8], .un 10 .not (.s 9)] [2,3,10])
(.cond (.s 10) (.seq (pr [.mv 4 cF] [4])
.ret) .skip))
(.seq (.seq (pr [.fld 11 (.s 2) 3, .load 12 false 1 (.s 11), .fld 13 (.s 3) 3, .load 14 false 1 (.s 13), .bin 15 false .neq (.s 12) (.s 14)] [2,3,15])
(.cond (.s 15) (.seq (pr [.mv 4 cF] [4])
.ret) .skip))
(.seq (.seq (pr [.fld 16 (.s 2) 4, .load 17 true 5 (.s 16), .fld 18 (.s 3) 4, .load 19 true 5 (.s 18), .call 20 [] (.f n_laws_eqResource) [.s 17, .s 19], .un 21 .not (.s 20)] [21])
(.cond (.s 21) (.seq (pr [.mv 4 cF] [4])
.ret) .skip))
(.seq (pr [.mv 4 cT] [4])
.ret)))))
theorem c_laws_eqVersion (x y : GVersion) : Ctr Tryz.prog n_laws_eqVersion [aS x.enc, aS y.enc] [rB (decide (x = y))] := by
 refine cA m_laws_eqVersion 2 22 [(.tmp 4, [false])] Tryz.func154 rfl rfl ?_; unfold m_laws_eqVersion
 intro hb
 clear hb
 simp only [↓reduceIte, go_sem]
 refine callK_of (c_laws_eqAddress x.Address y.Address) ?_
 simp only [↓reduceIte, go_sem]
 refine ⟨fun h => ?_, fun h_Address => ?_⟩
 ·symm
  rw [decide_eq_false_iff_not]
  rintro rfl
  exact h rfl
 refine ⟨fun h => ?_, fun h_From => ?_⟩
 ·symm
  rw [decide_eq_false_iff_not]
  rintro rfl
  exact h rfl
 refine callK_of (c_laws_eqResource x.Resource y.Resource) ?_
 simp only [↓reduceIte, go_sem]
 refine ⟨fun h => ?_, fun h_Resource => ?_⟩
 ·symm
  rw [decide_eq_false_iff_not]
  rintro rfl
  exact h rfl
 cases x; cases y; simp_all
def m_laws_szVersionS : MC :=
(.seq (pr [.mv 4 (ci 0)] [0,1])
(.seq (pr [.mv 6 (.s 1), .mv 7 (.s 0), .len 8 false (.s 7), .bin 9 false .sub (.s 6) (.s 8), .mv 1 (.s 9)] [0,1])
(.seq (.seq (pr [.mv 10 (.s 1), .bin 11 false .lss (.s 10) (ci 0)] [0,1,11])
(.cond (.s 11) (.seq (pr [.mv 4 (.c (.int .i64 (-1)))] [4])
.ret) .skip))
(.seq (.seq (pr [.mv 5 (ci 0)] [0,1,5])
(.block 0 (.loop ([0,1,5], []) (.seq (.seq (pr [.mv 12 (.s 5), .mv 13 (.s 0), .len 14 false (.s 13), .bin 15 false .lss (.s 12) (.s 14)] [0,1,5,15])
(.cond (.s 15) .skip (.exit 0)))
(.seq (.block 1 (.seq (pr [.mv 18 (.s 0), .mv 19 (.s 5), .idx 20 9 (.s 18) (.s 19), .load 21 true 9 (.s 20), .mv 22 (.s 1), .call 23 [] (.f n_laws_szVersion) [.s 21, .s 22], .mv 1 (.s 23)] [0,1,5])
(.seq (pr [.mv 24 (.s 1), .bin 25 false .lss (.s 24) (ci 0)] [0,1,5,25])
(.cond (.s 25) (.seq (pr [.mv 4 (.c (.int .i64 (-1)))] [4])
.ret) .skip))))
(pr [.mv 16 (.s 5), .bin 17 false .add (.s 16) (ci 1), .mv 5 (.s 17)] [0,1,5]))))))
(.seq (pr [.mv 26 (.s 1), .mv 4 (.s 26)] [4])
.ret)))))
theorem c_laws_szVersionS (xs : List GVersion) (left : Int) (h0 : 0 ≤ left) : Ctr Tryz.prog n_laws_szVersionS [aL 9 (xs.map GVersion.enc), aI left] [rI (szr (xs.length + (xs.map GVersion.size).sum) left)] := by
 refine cA m_laws_szVersionS 0 27 [(.tmp 4, [false])] Tryz.func50 rfl rfl ?_; unfold m_laws_szVersionS
 intro hb
 simp only [bdA, bdL, bdT, bdR, bdR_map, wfB_i64, wfB_bool, wfB_str, roomB, and_true, true_and, List.length_map] at hb
 obtain ⟨⟨hl, -⟩, hn⟩ := hb
 simp only [↓reduceIte, go_sem]
 rw [wI (by omega) (by omega)]
 refine ⟨fun h => ?_, fun h => ?_⟩
 ·exact szr_bad' (n := xs.length) h0 ((szr_neg h0).2 (by omega)) (by omega)
 ·have hz : szr xs.length left = left - xs.length := by unfold szr; rw [if_pos (by omega)]
  rw [← hz] at h ⊢
  refine loopK_rng xs (fun k => [(1, vI (szr (xs.length + ((xs.take k).map GVersion.size).sum) left)), (5, vI k)]) (fun k => []) (fun k => ¬ szr (xs.length + ((xs.take k).map GVersion.size).sum) left < 0) hl ?_
  simp only [↓reduceIte, go_sem]
  refine ⟨?_, by simpa using h, ?_, ?_⟩
  ·simp only [↓reduceIte, go_sem, List.take_zero, List.map_nil, List.sum_nil, Nat.add_zero]
   all_goals rfl
  ·intro k x hx hs hk0 h1 hw
   obtain ⟨a1, a2, a3⟩ := szr_add (m := x.size) h0 hs
   rw [Nat.add_assoc, ← sum_snoc hx] at a3
   simp only [↓reduceIte, go_sem, bk_eq hx, hk0, h1, hw]
   refine callK_of (c_laws_szVersion x _ a1) ?_
   rw [← a3]
   simp only [↓reduceIte, go_sem, hw]
   intro _
   refine ⟨fun hn => ?_, fun hn => hn⟩
   have := sum_take_le (f := GVersion.size) xs (k + 1)
   exact szr_bad' h0 hn (by omega)
  ·intro _
   simp only [↓reduceIte, go_sem, List.take_length]
def m_laws_toVersionS : MC :=
(.seq (pr [.nilo 2 0 9] [0])
(.seq (pr [.mv 5 (.s 0), .len 6 false (.s 5), .mk 7 0 9 88 [.sc (.int .i64 0), .sc (.int .i64 0), .sc (.int .i64 0), .sc (.int .i64 0), .sc (.int .i64 0), .sl 1 [], .sc (.int .i64 0), .sc (.int .i64 0), .sc (.int .i64 0)] (.s 6), .mv 3 (.s 7)] [0,3])
(.seq (.seq (pr [.mv 4 (ci 0)] [0,3,4])
(.block 0 (.loop ([0,3,4], [1]) (.seq (.seq (pr [.mv 8 (.s 4), .mv 9 (.s 0), .len 10 false (.s 9), .bin 11 false .lss (.s 8) (.s 10)] [0,3,4,11])
(.cond (.s 11) .skip (.exit 0)))
(.seq (.block 1 (pr [.mv 14 (.s 3), .mv 15 (.s 4), .mv 16 (.s 0), .mv 17 (.s 4), .idx 18 9 (.s 16) (.s 17), .load 19 true 9 (.s 18), .call 20 [1] (.f n_laws_toVersion) [.s 19], .idx 21 9 (.s 14) (.s 15), .store 9 (.s 21) (.s 20)] [0,3,4]))
(pr [.mv 12 (.s 4), .bin 13 false .add (.s 12) (ci 1), .mv 4 (.s 13)] [0,3,4]))))))
(.seq (pr [.mv 22 (.s 3), .mv 2 (.s 22)] [2])
.ret))))
theorem c_laws_toVersionS (xs : List GVersion) (hs : xs.length + (xs.map GVersion.size).sum ≤ 1073741824) : Ctr Tryz.prog n_laws_toVersionS [aL 9 (xs.map GVersion.enc)] [rL 9 (xs.map GVersion.enc)] := by
 refine cA m_laws_toVersionS 2 23 [(.tmp 2, [true])] Tryz.func59 rfl rfl ?_; unfold m_laws_toVersionS
 intro hb
 simp only [↓reduceIte, go_sem, replicate_toNat]
 refine ⟨⟨by omega, by simp only [roomB]; omega⟩, ?_⟩
 refine loopK_rng xs (fun k => [(4, vI k)]) (fun k => [(0, ⟨0, .row true 9 (filled GVersion.enc [tI 0, tI 0, tI 0, tI 0, tI 0, .sl 1 [], tI 0, tI 0, tI 0] xs k)⟩)]) (fun _ => True) (by simp only [roomB]; omega) ?_
 simp only [↓reduceIte, go_sem]
 refine ⟨?_, trivial, ?_, ?_⟩
 ·simp only [↓reduceIte, go_sem, filled_zero]
  all_goals rfl
 ·intro k x hx _ h0 h1 hw
  have h : k < xs.length := by omega
  simp only [↓reduceIte, go_sem, bk_eq hx, bk_eq (filled_get h), filled_len (Nat.le_of_lt h), h0, h1, hw]
  have hx1 := mem_sum (f := GVersion.size) (at_mem hx)
  refine callK_of (c_laws_toVersion x (by omega)) ?_
  simp only [↓reduceIte, go_sem, bk_eq hx, bk_eq (filled_get h), filled_len (Nat.le_of_lt h), h0, h1, hw]
  intros; exact filled_set hx
 ·intro _
  simp only [↓reduceIte, go_sem, filled_all]
def m_laws_eqVersionS : MC :=
(.seq (pr [.mv 4 cF] [0,1])
(.seq (.seq (pr [.mv 6 (.s 0), .len 7 false (.s 6), .mv 8 (.s 1), .len 9 false (.s 8), .bin 10 false .neq (.s 7) (.s 9)] [0,1,10])
(.cond (.s 10) (.seq (pr [.mv 4 cF] [4])
.ret) .skip))
(.seq (.seq (pr [.mv 5 (ci 0)] [0,1,5])
(.block 0 (.loop ([0,1,5], []) (.seq (.seq (pr [.mv 11 (.s 5), .mv 12 (.s 0), .len 13 false (.s 12), .bin 14 false .lss (.s 11) (.s 13)] [0,1,5,14])
(.cond (.s 14) .skip (.exit 0)))
(.seq (.block 1 (.seq (.dreg [Zc [18,21,22,23,24] (.mv 17 (.s 0)), Zc [17,21,22,23,24] (.mv 18 (.s 5)), Zd [21,22,23,24] [0,1] (.idx 19 9 (.s 17) (.s 18)), Zd [21,22,23,24] [0,1,2] (.load 20 true 9 (.s 19)), Zc [17,18,19,20,22] (.mv 21 (.s 1)), Zc [17,18,19,20,21] (.mv 22 (.s 5)), Zd [17,18,19,20] [4,5] (.idx 23 9 (.s 21) (.s 22)), Zd [17,18,19,20] [4,5,6] (.load 24 true 9 (.s 23)), Ze (.range 8) (.call 25 [] (.f n_laws_eqVersion) [.s 20, .s 24]), Ze (.range 9) (.un 26 .not (.s 25))] [0,1,5,26])
(.cond (.s 26) (.seq (pr [.mv 4 cF] [4])
.ret) .skip)))
(pr [.mv 15 (.s 5), .bin 16 false .add (.s 15) (ci 1), .mv 5 (.s 16)] [0,1,5]))))))
(.seq (pr [.mv 4 cT] [4])
.ret))))
theorem c_laws_eqVersionS (xs ys : List GVersion) : Ctr Tryz.prog n_laws_eqVersionS [aL 9 (xs.map GVersion.enc), aL 9 (ys.map GVersion.enc)] [rB (decide (xs = ys))] := by
 refine cA m_laws_eqVersionS 0 27 [(.tmp 4, [false])] Tryz.func69 rfl rfl ?_; unfold m_laws_eqVersionS
 intro hb
 simp only [bdA, bdL, bdT, bdR, bdR_map, wfB_i64, wfB_bool, wfB_str, roomB, and_true, true_and, List.length_map] at hb
 obtain ⟨⟨hl, -⟩, ⟨hl2, -⟩⟩ := hb
 simp only [↓reduceIte, go_sem]
 refine ⟨fun h => ne_len h, fun h => ?_⟩
 have hle : xs.length = ys.length := by omega
 refine loopK_rng xs (fun k => [(5, vI k)]) (fun k => []) (fun k => xs.take k = ys.take k) hl ?_
 simp only [↓reduceIte, go_sem]
 refine ⟨?_, rfl, ?_, ?_⟩
 ·simp only [↓reduceIte, go_sem]
 ·intro k x hx he h0 h1 hw
  obtain ⟨y, hy⟩ := at_some (show k < ys.length by omega)
  have h2 : (k : Int) < ys.length := by omega
  simp only [↓reduceIte, go_sem, bk_eq hx, bk_eq hy, h0, h1, h2, hw]
  refine callK_of (c_laws_eqVersion x y) ?_
  simp only [↓reduceIte, go_sem, hw]
  exact ⟨fun hn => ne_at hx hy hn, fun hn => (take_eq_step hx hy he).2 hn⟩
 ·intro he
  simp only [↓reduceIte, go_sem]
  exact eq_all he hle
def m_laws_toOp : MC :=
(.seq (pr [.box 1 0 (.s 0), .alloc 2 1 [pz, pz, pz, pz]] [1,2])
(.seq (pr [.alloc 3 2 [pz, pz, pz, pz]] [1,2,3])
(.seq (pr [.fld 4 (.s 1) 0, .load 5 false 1 (.s 4), .fld 6 (.s 3) 0, .store 1 (.s 6) (.s 5)] [1,2,3])
(.seq (pr [.fld 7 (.s 1) 1, .load 8 false 1 (.s 7), .fld 9 (.s 3) 1, .store 1 (.s 9) (.s 8)] [1,2,3])
(.seq (pr [.fld 10 (.s 1) 2, .load 11 false 1 (.s 10), .fld 12 (.s 3) 2, .store 1 (.s 12) (.s 11)] [1,2,3])
(.seq (pr [.fld 13 (.s 1) 3, .load 14 false 1 (.s 13), .fld 15 (.s 3) 3, .store 1 (.s 15) (.s 14)] [2,3])
(.seq (pr [.load 16 true 4 (.s 3), .store 4 (.s 2) (.s 16)] [2])
.ret)))))))
theorem c_laws_toOp (x : GOp) : Ctr Tryz.prog n_laws_toOp [aS x.enc] [rS x.enc] := by
 refine cA m_laws_toOp 3 17 [(.cell 2 true 4, [false, false, false, false])] Tryz.func142 rfl rfl ?_; unfold m_laws_toOp
 intro hb
 simp only [↓reduceIte, go_sem]
def m_laws_eqOp : MC :=
(.seq (pr [.box 2 0 (.s 0), .box 3 1 (.s 1), .mv 4 cF] [2,3])
(.seq (.seq (pr [.fld 5 (.s 2) 0, .load 6 false 1 (.s 5), .fld 7 (.s 3) 0, .load 8 false 1 (.s 7), .bin 9 false .neq (.s 6) (.s 8)] [2,3,9])
(.cond (.s 9) (.seq (pr [.mv 4 cF] [4])
.ret) .skip))
(.seq (.seq (pr [.fld 10 (.s 2) 1, .load 11 false 1 (.s 10), .fld 12 (.s 3) 1, .load 13 false 1 (.s 12), .bin 14 false .neq (.s 11) (.s 13)] [2,3,14])
(.cond (.s 14) (.seq (pr [.mv 4 cF] [4])
.ret) .skip))
(.seq (.seq (pr [.fld 15 (.s 2) 2, .load 16 false 1 (.s 15), .fld 17 (.s 3) 2, .load 18 false 1 (.s 17), .bin 19 false .neq (.s 16) (.s 18)] [2,3,19])
(.cond (.s 19) (.seq (pr [.mv 4 cF] [4])
.ret) .skip))
(.seq (.seq (pr [.fld 20 (.s 2) 3, .load 21 false 1 (.s 20), .fld 22 (.s 3) 3, .load 23 false 1 (.s 22), .bin 24 false .neq (.s 21) (.s 23)] [24])
(.cond (.s 24) (.seq (pr [.mv 4 cF] [4])
.ret) .skip))
(.seq (pr [.mv 4 cT] [4])
.ret))))))
theorem c_laws_eqOp (x y : GOp) : Ctr Tryz.prog n_laws_eqOp [aS x.enc, aS y.enc] [rB (decide (x = y))] := by
 refine cA m_laws_eqOp 2 25 [(.tmp 4, [false])] Tryz.func155 rfl rfl ?_; unfold m_laws_eqOp
 intro hb
 clear hb
 simp only [↓reduceIte, go_sem]
 refine ⟨fun h => ?_, fun h_Kind => ?_⟩
 ·symm
  rw [decide_eq_false_iff_not]
  rintro rfl
  exact h rfl
 refine ⟨fun h => ?_, fun h_A => ?_⟩
 ·symm
  rw [decide_eq_false_iff_not]
  rintro rfl
  exact h rfl
 refine ⟨fun h => ?_, fun h_B => ?_⟩
 ·symm
  rw [decide_eq_false_iff_not]
  rintro rfl
  exact h rfl
 refine ⟨fun h => ?_, fun h_C => ?_⟩
 ·symm
  rw [decide_eq_false_iff_not]
  rintro rfl
  exact h rfl
 cases x; cases y; simp_all
def m_laws_szOpS : MC :=
(.seq (pr [.mv 4 (ci 0)] [0,1])
(.seq (pr [.mv 5 (.s 1), .mv 6 (.s 0), .len 7 false (.s 6), .bin 8 false .sub (.s 5) (.s 7), .mv 1 (.s 8)] [1])
(.seq (.seq (pr [.mv 9 (.s 1), .bin 10 false .lss (.s 9) (ci 0)] [1,10])
(.cond (.s 10) (.seq (pr [.mv 4 (.c (.int .i64 (-1)))] [4])
.ret) .skip))
(.seq (pr [.mv 11 (.s 1), .mv 4 (.s 11)] [4])
.ret))))
theorem c_laws_szOpS (xs : List GOp) (left : Int) (h0 : 0 ≤ left) : Ctr Tryz.prog n_laws_szOpS [aL 4 (xs.map GOp.enc), aI left] [rI (szr xs.length left)] := by
 refine cA m_laws_szOpS 0 12 [(.tmp 4, [false])] Tryz.func51 rfl rfl ?_; unfold m_laws_szOpS
 intro hb
 simp only [bdA, bdL, bdT, bdR, bdR_map, wfB_i64, wfB_bool, wfB_str, roomB, and_true, true_and, List.length_map] at hb
 obtain ⟨⟨hl, -⟩, hn⟩ := hb
 simp only [↓reduceIte, go_sem]
 rw [wI (by omega) (by omega)]
 unfold szr
 refine ⟨fun h => ?_, fun h => ?_⟩
 ·rw [if_neg (by omega)]
 ·rw [if_pos (by omega)]
def m_laws_toOpS : MC :=
(.seq (pr [.nilo 2 0 4] [0])
(.seq (pr [.mv 5 (.s 0), .len 6 false (.s 5), .mk 7 0 4 32 [.sc (.int .i64 0), .sc (.int .i64 0), .sc (.int .i64 0), .sc (.int .i64 0)] (.s 6), .mv 3 (.s 7)] [0,3])
(.seq (.seq (pr [.mv 4 (ci 0)] [0,3,4])
(.block 0 (.loop ([0,3,4], []) (.seq (.seq (pr [.mv 8 (.s 4), .mv 9 (.s 0), .len 10 false (.s 9), .bin 11 false .lss (.s 8) (.s 10)] [0,3,4,11])
(.cond (.s 11) .skip (.exit 0)))
(.seq (.block 1 (pr [.mv 14 (.s 3), .mv 15 (.s 4), .mv 16 (.s 0), .mv 17 (.s 4), .idx 18 4 (.s 16) (.s 17), .load 19 true 4 (.s 18), .call 20 [] (.f n_laws_toOp) [.s 19], .idx 21 4 (.s 14) (.s 15), .store 4 (.s 21) (.s 20)] [0,3,4]))
(pr [.mv 12 (.s 4), .bin 13 false .add (.s 12) (ci 1), .mv 4 (.s 13)] [0,3,4]))))))
(.seq (pr [.mv 22 (.s 3), .mv 2 (.s 22)] [2])
.ret))))
theorem c_laws_toOpS (xs : List GOp) (hs : xs.length ≤ 1073741824) : Ctr Tryz.prog n_laws_toOpS [aL 4 (xs.map GOp.enc)] [rL 4 (xs.map GOp.enc)] := by
 refine cA m_laws_toOpS 1 23 [(.tmp 2, [true])] Tryz.func60 rfl rfl ?_; unfold m_laws_toOpS
 intro hb
 simp only [↓reduceIte, go_sem, replicate_toNat]
 refine ⟨⟨by omega, by simp only [roomB]; omega⟩, ?_⟩
 refine loopK_rng xs (fun k => [(4, vI k)]) (fun k => [(0, ⟨0, .row true 4 (filled GOp.enc [tI 0, tI 0, tI 0, tI 0] xs k)⟩)]) (fun _ => True) (by simp only [roomB]; omega) ?_
 simp only [↓reduceIte, go_sem]
 refine ⟨?_, trivial, ?_, ?_⟩
 ·simp only [↓reduceIte, go_sem, filled_zero]
  all_goals rfl
 ·intro k x hx _ h0 h1 hw
  have h : k < xs.length := by omega
  simp only [↓reduceIte, go_sem, bk_eq hx, bk_eq (filled_get h), filled_len (Nat.le_of_lt h), h0, h1, hw]
  refine callK_of (c_laws_toOp x) ?_
  simp only [↓reduceIte, go_sem, bk_eq hx, bk_eq (filled_get h), filled_len (Nat.le_of_lt h), h0, h1, hw]
  intros; exact filled_set hx
 ·intro _
  simp only [↓reduceIte, go_sem, filled_all]
def m_laws_eqOpS : MC :=
(.seq (pr [.mv 4 cF] [0,1])
(.seq (.seq (pr [.mv 6 (.s 0), .len 7 false (.s 6), .mv 8 (.s 1), .len 9 false (.s 8), .bin 10 false .neq (.s 7) (.s 9)] [0,1,10])
(.cond (.s 10) (.seq (pr [.mv 4 cF] [4])
.ret) .skip))
(.seq (.seq (pr [.mv 5 (ci 0)] [0,1,5])
(.block 0 (.loop ([0,1,5], []) (.seq (.seq (pr [.mv 11 (.s 5), .mv 12 (.s 0), .len 13 false (.s 12), .bin 14 false .lss (.s 11) (.s 13)] [0,1,5,14])
(.cond (.s 14) .skip (.exit 0)))
(.seq (.block 1 (.seq (.dreg [Zc [18,21,22,23,24] (.mv 17 (.s 0)), Zc [17,21,22,23,24] (.mv 18 (.s 5)), Zd [21,22,23,24] [0,1] (.idx 19 4 (.s 17) (.s 18)), Zd [21,22,23,24] [0,1,2] (.load 20 true 4 (.s 19)), Zc [17,18,19,20,22] (.mv 21 (.s 1)), Zc [17,18,19,20,21] (.mv 22 (.s 5)), Zd [17,18,19,20] [4,5] (.idx 23 4 (.s 21) (.s 22)), Zd [17,18,19,20] [4,5,6] (.load 24 true 4 (.s 23)), Ze (.range 8) (.call 25 [] (.f n_laws_eqOp) [.s 20, .s 24]), Ze (.range 9) (.un 26 .not (.s 25))] [0,1,5,26])
(.cond (.s 26) (.seq (pr [.mv 4 cF] [4])
.ret) .skip)))
(pr [.mv 15 (.s 5), .bin 16 false .add (.s 15) (ci 1), .mv 5 (.s 16)] [0,1,5]))))))
(.seq (pr [.mv 4 cT] [4])
.ret))))
theorem c_laws_eqOpS (xs ys : List GOp) : Ctr Tryz.prog n_laws_eqOpS [aL 4 (xs.map GOp.enc), aL 4 (ys.map GOp.enc)] [rB (decide (xs = ys))] := by
 refine cA m_laws_eqOpS 0 27 [(.tmp 4, [false])] Tryz.func70 rfl rfl ?_; unfold m_laws_eqOpS
 intro hb
 simp only [bdA, bdL, bdT, bdR, bdR_map, wfB_i64, wfB_bool, wfB_str, roomB, and_true, true_and, List.length_map] at hb
 obtain ⟨⟨hl, -⟩, ⟨hl2, -⟩⟩ := hb
 simp only [↓reduceIte, go_sem]
 refine ⟨fun h => ne_len h, fun h => ?_⟩
 have hle : xs.length = ys.length := by omega
 refine loopK_rng xs (fun k => [(5, vI k)]) (fun k => []) (fun k => xs.take k = ys.take k) hl ?_
 simp only [↓reduceIte, go_sem]
 refine ⟨?_, rfl, ?_, ?_⟩
 ·simp only [↓reduceIte, go_sem]
 ·intro k x hx he h0 h1 hw
  obtain ⟨y, hy⟩ := at_some (show k < ys.length by omega)
  have h2 : (k : Int) < ys.length := by omega
  simp only [↓reduceIte, go_sem, bk_eq hx, bk_eq hy, h0, h1, h2, hw]
  refine callK_of (c_laws_eqOp x y) ?_
  simp only [↓reduceIte, go_sem, hw]
  exact ⟨fun hn => ne_at hx hy hn, fun hn => (take_eq_step hx hy he).2 hn⟩
 ·intro he
  simp only [↓reduceIte, go_sem]
  exact eq_all he hle
def m_laws_toEntry : MC :=
(.seq (pr [.box 1 0 (.s 0), .alloc 2 1 [pz, pz, pz, pz, pz]] [1,2])
(.seq (pr [.alloc 3 2 [pz, pz, pz, pz, pz]] [1,2,3])
(.seq (pr [.fld 4 (.s 1) 0, .load 5 false 1 (.s 4), .fld 6 (.s 3) 0, .store 1 (.s 6) (.s 5)] [1,2,3])
(.seq (pr [.fld 7 (.s 1) 1, .load 8 true 3 (.s 7), .call 9 [] (.f n_laws_toAddress) [.s 8], .fld 10 (.s 3) 1, .store 3 (.s 10) (.s 9)] [1,2,3])
(.seq (pr [.fld 11 (.s 1) 4, .load 12 false 1 (.s 11), .fld 13 (.s 3) 4, .store 1 (.s 13) (.s 12)] [2,3])
(.seq (pr [.load 14 true 5 (.s 3), .store 5 (.s 2) (.s 14)] [2])
.ret))))))
theorem c_laws_toEntry (x : GEntry) : Ctr Tryz.prog n_laws_toEntry [aS x.enc] [rS x.enc] := by
 refine cA m_laws_toEntry 3 15 [(.cell 2 true 5, [false, false, false, false, false])] Tryz.func410 rfl rfl ?_; unfold m_laws_toEntry
 intro hb
 simp only [↓reduceIte, go_sem]
 refine callK_of (c_laws_toAddress x.Address) ?_
 simp only [↓reduceIte, go_sem]
 try intros
def m_laws_eqEntry : MC :=
(.seq (pr [.box 2 0 (.s 0), .box 3 1 (.s 1), .mv 4 cF] [2,3])
(.seq (.seq (pr [.fld 5 (.s 2) 0, .load 6 false 1 (.s 5), .fld 7 (.s 3) 0, .load 8 false 1 (.s 7), .bin 9 false .neq (.s 6) (.s 8)] [2,3,9])
(.cond (.s 9) (.seq (pr [.mv 4 cF] [4])
.ret) .skip))
(.seq (.seq (pr [.fld 10 (.s 2) 1, .load 11 true 3 (.s 10), .fld 12 (.s 3) 1, .load 13 true 3 (.s 12), .call 14 [] (.f n_laws_eqAddress) [.s 11, .s 13], .un 15 .not (.s 14)] [2,3,15])
(.cond (.s 15) (.seq (pr [.mv 4 cF] [4])
.ret) .skip))
(.seq (.seq (pr [.fld 16 (.s 2) 4, .load 17 false 1 (.s 16), .fld 18 (.s 3) 4, .load 19 false 1 (.s 18), .bin 20 false .neq (.s 17) (.s 19)] [20])
(.cond (.s 20) (.seq (pr [.mv 4 cF] [4])
.ret) .skip))
(.seq (pr [.mv 4 cT] [4])
.ret)))))
theorem c_laws_eqEntry (x y : GEntry) : Ctr Tryz.prog n_laws_eqEntry [aS x.enc, aS y.enc] [rB (decide (x = y))] := by
 refine cA m_laws_eqEntry 2 21 [(.tmp 4, [false])] Tryz.func417 rfl rfl ?_; unfold m_laws_eqEntry
 intro hb
 clear hb
 simp only [↓reduceIte, go_sem]
 refine ⟨fun h => ?_, fun h_Kind => ?_⟩
 ·symm
  rw [decide_eq_false_iff_not]
  rintro rfl
  exact h rfl
 refine callK_of (c_laws_eqAddress x.Address y.Address) ?_
 simp only [↓reduceIte, go_sem]
 refine ⟨fun h => ?_, fun h_Address => ?_⟩
 ·symm
  rw [decide_eq_false_iff_not]
  rintro rfl
  exact h rfl
 refine ⟨fun h => ?_, fun h_Value => ?_⟩
 ·symm
  rw [decide_eq_false_iff_not]
  rintro rfl
  exact h rfl
 cases x; cases y; simp_all
def m_laws_szEntryS : MC :=
(.seq (pr [.mv 4 (ci 0)] [0,1])
(.seq (pr [.mv 5 (.s 1), .mv 6 (.s 0), .len 7 false (.s 6), .bin 8 false .sub (.s 5) (.s 7), .mv 1 (.s 8)] [1])
(.seq (.seq (pr [.mv 9 (.s 1), .bin 10 false .lss (.s 9) (ci 0)] [1,10])
(.cond (.s 10) (.seq (pr [.mv 4 (.c (.int .i64 (-1)))] [4])
.ret) .skip))
(.seq (pr [.mv 11 (.s 1), .mv 4 (.s 11)] [4])
.ret))))
theorem c_laws_szEntryS (xs : List GEntry) (left : Int) (h0 : 0 ≤ left) : Ctr Tryz.prog n_laws_szEntryS [aL 5 (xs.map GEntry.enc), aI left] [rI (szr xs.length left)] := by
 refine cA m_laws_szEntryS 0 12 [(.tmp 4, [false])] Tryz.func358 rfl rfl ?_; unfold m_laws_szEntryS
 intro hb
 simp only [bdA, bdL, bdT, bdR, bdR_map, wfB_i64, wfB_bool, wfB_str, roomB, and_true, true_and, List.length_map] at hb
 obtain ⟨⟨hl, -⟩, hn⟩ := hb
 simp only [↓reduceIte, go_sem]
 rw [wI (by omega) (by omega)]
 unfold szr
 refine ⟨fun h => ?_, fun h => ?_⟩
 ·rw [if_neg (by omega)]
 ·rw [if_pos (by omega)]
def m_laws_toEntryS : MC :=
(.seq (pr [.nilo 2 0 5] [0])
(.seq (pr [.mv 5 (.s 0), .len 6 false (.s 5), .mk 7 0 5 40 [.sc (.int .i64 0), .sc (.int .i64 0), .sc (.int .i64 0), .sc (.int .i64 0), .sc (.int .i64 0)] (.s 6), .mv 3 (.s 7)] [0,3])
(.seq (.seq (pr [.mv 4 (ci 0)] [0,3,4])
(.block 0 (.loop ([0,3,4], []) (.seq (.seq (pr [.mv 8 (.s 4), .mv 9 (.s 0), .len 10 false (.s 9), .bin 11 false .lss (.s 8) (.s 10)] [0,3,4,11])
(.cond (.s 11) .skip (.exit 0)))
(.seq (.block 1 (pr [.mv 14 (.s 3), .mv 15 (.s 4), .mv 16 (.s 0), .mv 17 (.s 4), .idx 18 5 (.s 16) (.s 17), .load 19 true 5 (.s 18), .call 20 [] (.f n_laws_toEntry) [.s 19], .idx 21 5 (.s 14) (.s 15), .store 5 (.s 21) (.s 20)] [0,3,4]))
(pr [.mv 12 (.s 4), .bin 13 false .add (.s 12) (ci 1), .mv 4 (.s 13)] [0,3,4]))))))
(.seq (pr [.mv 22 (.s 3), .mv 2 (.s 22)] [2])
.ret))))
theorem c_laws_toEntryS (xs : List GEntry) (hs : xs.length ≤ 1073741824) : Ctr Tryz.prog n_laws_toEntryS [aL 5 (xs.map GEntry.enc)] [rL 5 (xs.map GEntry.enc)] := by
 refine cA m_laws_toEntryS 1 23 [(.tmp 2, [true])] Tryz.func360 rfl rfl ?_; unfold m_laws_toEntryS
 intro hb
 simp only [↓reduceIte, go_sem, replicate_toNat]
 refine ⟨⟨by omega, by simp only [roomB]; omega⟩, ?_⟩
 refine loopK_rng xs (fun k => [(4, vI k)]) (fun k => [(0, ⟨0, .row true 5 (filled GEntry.enc [tI 0, tI 0, tI 0, tI 0, tI 0] xs k)⟩)]) (fun _ => True) (by simp only [roomB]; omega) ?_
 simp only [↓reduceIte, go_sem]
 refine ⟨?_, trivial, ?_, ?_⟩
 ·simp only [↓reduceIte, go_sem, filled_zero]
  all_goals rfl
 ·intro k x hx _ h0 h1 hw
  have h : k < xs.length := by omega
  simp only [↓reduceIte, go_sem, bk_eq hx, bk_eq (filled_get h), filled_len (Nat.le_of_lt h), h0, h1, hw]
  refine callK_of (c_laws_toEntry x) ?_
  simp only [↓reduceIte, go_sem, bk_eq hx, bk_eq (filled_get h), filled_len (Nat.le_of_lt h), h0, h1, hw]
  intros; exact filled_set hx
 ·intro _
  simp only [↓reduceIte, go_sem, filled_all]
def m_laws_eqEntryS : MC :=
(.seq (pr [.mv 4 cF] [0,1])
(.seq (.seq (pr [.mv 6 (.s 0), .len 7 false (.s 6), .mv 8 (.s 1), .len 9 false (.s 8), .bin 10 false .neq (.s 7) (.s 9)] [0,1,10])
(.cond (.s 10) (.seq (pr [.mv 4 cF] [4])
.ret) .skip))
(.seq (.seq (pr [.mv 5 (ci 0)] [0,1,5])
(.block 0 (.loop ([0,1,5], []) (.seq (.seq (pr [.mv 11 (.s 5), .mv 12 (.s 0), .len 13 false (.s 12), .bin 14 false .lss (.s 11) (.s 13)] [0,1,5,14])
(.cond (.s 14) .skip (.exit 0)))
(.seq (.block 1 (.seq (.dreg [Zc [18,21,22,23,24] (.mv 17 (.s 0)), Zc [17,21,22,23,24] (.mv 18 (.s 5)), Zd [21,22,23,24] [0,1] (.idx 19 5 (.s 17) (.s 18)), Zd [21,22,23,24] [0,1,2] (.load 20 true 5 (.s 19)), Zc [17,18,19,20,22] (.mv 21 (.s 1)), Zc [17,18,19,20,21] (.mv 22 (.s 5)), Zd [17,18,19,20] [4,5] (.idx 23 5 (.s 21) (.s 22)), Zd [17,18,19,20] [4,5,6] (.load 24 true 5 (.s 23)), Ze (.range 8) (.call 25 [] (.f n_laws_eqEntry) [.s 20, .s 24]), Ze (.range 9) (.un 26 .not (.s 25))] [0,1,5,26])
(.cond (.s 26) (.seq (pr [.mv 4 cF] [4])
.ret) .skip)))
(pr [.mv 15 (.s 5), .bin 16 false .add (.s 15) (ci 1), .mv 5 (.s 16)] [0,1,5]))))))
(.seq (pr [.mv 4 cT] [4])
.ret))))
theorem c_laws_eqEntryS (xs ys : List GEntry) : Ctr Tryz.prog n_laws_eqEntryS [aL 5 (xs.map GEntry.enc), aL 5 (ys.map GEntry.enc)] [rB (decide (xs = ys))] := by
 refine cA m_laws_eqEntryS 0 27 [(.tmp 4, [false])] Tryz.func372 rfl rfl ?_; unfold m_laws_eqEntryS
 intro hb
 simp only [bdA, bdL, bdT, bdR, bdR_map, wfB_i64, wfB_bool, wfB_str, roomB, and_true, true_and, List.length_map] at hb
 obtain ⟨⟨hl, -⟩, ⟨hl2, -⟩⟩ := hb
 simp only [↓reduceIte, go_sem]
 refine ⟨fun h => ne_len h, fun h => ?_⟩
 have hle : xs.length = ys.length := by omega
 refine loopK_rng xs (fun k => [(5, vI k)]) (fun k => []) (fun k => xs.take k = ys.take k) hl ?_
 simp only [↓reduceIte, go_sem]
 refine ⟨?_, rfl, ?_, ?_⟩
 ·simp only [↓reduceIte, go_sem]
 ·intro k x hx he h0 h1 hw
  obtain ⟨y, hy⟩ := at_some (show k < ys.length by omega)
  have h2 : (k : Int) < ys.length := by omega
  simp only [↓reduceIte, go_sem, bk_eq hx, bk_eq hy, h0, h1, h2, hw]
  refine callK_of (c_laws_eqEntry x y) ?_
  simp only [↓reduceIte, go_sem, hw]
  exact ⟨fun hn => ne_at hx hy hn, fun hn => (take_eq_step hx hy he).2 hn⟩
 ·intro he
  simp only [↓reduceIte, go_sem]
  exact eq_all he hle
def m_laws_szCapture : MC :=
(.seq (pr [.box 2 0 (.s 0), .mv 4 (ci 0)] [1,2])
(.seq (pr [.fld 5 (.s 2) 4, .load 6 true 5 (.s 5), .mv 7 (.s 1), .call 8 [] (.f n_laws_szResource) [.s 6, .s 7], .mv 1 (.s 8)] [1])
(.seq (.seq (pr [.mv 9 (.s 1), .bin 10 false .lss (.s 9) (ci 0)] [1,10])
(.cond (.s 10) (.seq (pr [.mv 4 (.c (.int .i64 (-1)))] [4])
.ret) .skip))
(.seq (pr [.mv 11 (.s 1), .mv 4 (.s 11)] [4])
.ret))))
theorem c_laws_szCapture (x : GCapture) (left : Int) (h0 : 0 ≤ left) : Ctr Tryz.prog n_laws_szCapture [aS x.enc, aI left] [rI (szr x.size left)] := by
 refine cA m_laws_szCapture 1 12 [(.tmp 4, [false])] Tryz.func409 rfl rfl ?_; unfold m_laws_szCapture
 intro hb
 simp only [↓reduceIte, go_sem]
 refine callK_of (c_laws_szResource x.Resource left h0) ?_
 simp only [↓reduceIte, go_sem]
 intro _
 refine ⟨fun h => szr_bad' h0 h (by simp only [GCapture.size]; omega), fun h1 => ?_⟩
 rfl
def m_laws_toCapture : MC :=
(.seq (pr [.box 1 0 (.s 0), .alloc 2 1 [pz, pz, pz, pz, pz, .emp 1, pz, pz, pz]] [1,2])
(.seq (pr [.alloc 3 2 [pz, pz, pz, pz, pz, .emp 1, pz, pz, pz]] [1,2,3])
(.seq (pr [.fld 4 (.s 1) 0, .load 5 true 3 (.s 4), .call 6 [] (.f n_laws_toAddress) [.s 5], .fld 7 (.s 3) 0, .store 3 (.s 7) (.s 6)] [1,2,3])
(.seq (pr [.fld 8 (.s 1) 3, .load 9 false 1 (.s 8), .fld 10 (.s 3) 3, .store 1 (.s 10) (.s 9)] [1,2,3])
(.seq (pr [.fld 11 (.s 1) 4, .load 12 true 5 (.s 11), .call 13 [3] (.f n_laws_toResource) [.s 12], .fld 14 (.s 3) 4, .store 5 (.s 14) (.s 13)] [2,3])
(.seq (pr [.load 15 true 9 (.s 3), .store 9 (.s 2) (.s 15)] [2])
.ret))))))
theorem c_laws_toCapture (x : GCapture) (hs : x.size ≤ 1073741824) : Ctr Tryz.prog n_laws_toCapture [aS x.enc] [rS x.enc] := by
 refine cA m_laws_toCapture 4 16 [(.cell 2 true 9, [false, false, false, false, false, true, false, false, false])] Tryz.func411 rfl rfl ?_; unfold m_laws_toCapture
 intro hb
 simp only [GCapture.size] at hs
 simp only [↓reduceIte, go_sem]
 refine callK_of (c_laws_toAddress x.Address) ?_
 simp only [↓reduceIte, go_sem]
 try intros
 refine callK_of (c_laws_toResource x.Resource (by omega)) ?_
 simp only [↓reduceIte, go_sem]
 try intros
def m_laws_eqCapture : MC :=
(.seq (pr [.box 2 0 (.s 0), .box 3 1 (.s 1), .mv 4 cF] [2,3])
(.seq (.seq (pr [.fld 5 (.s 2) 0, .load 6 true 3 (.s 5), .fld 7 (.s 3) 0, .load 8 true 3 (.s 7), .call 9 [] (.f n_laws_eqAddress) [.s 6, .s 8], .un 10 .not (.s 9)] [2,3,10])
(.cond (.s 10) (.seq (pr [.mv 4 cF] [4])
.ret) .skip))
(.seq (.seq (pr [.fld 11 (.s 2) 3, .load 12 false 1 (.s 11), .fld 13 (.s 3) 3, .load 14 false 1 (.s 13), .bin 15 false .neq (.s 12) (.s 14)] [2,3,15])
(.cond (.s 15) (.seq (pr [.mv 4 cF] [4])
.ret) .skip))
(.seq (.seq (pr [.fld 16 (.s 2) 4, .load 17 true 5 (.s 16), .fld 18 (.s 3) 4, .load 19 true 5 (.s 18), .call 20 [] (.f n_laws_eqResource) [.s 17, .s 19], .un 21 .not (.s 20)] [21])
(.cond (.s 21) (.seq (pr [.mv 4 cF] [4])
.ret) .skip))
(.seq (pr [.mv 4 cT] [4])
.ret)))))
theorem c_laws_eqCapture (x y : GCapture) : Ctr Tryz.prog n_laws_eqCapture [aS x.enc, aS y.enc] [rB (decide (x = y))] := by
 refine cA m_laws_eqCapture 2 22 [(.tmp 4, [false])] Tryz.func418 rfl rfl ?_; unfold m_laws_eqCapture
 intro hb
 clear hb
 simp only [↓reduceIte, go_sem]
 refine callK_of (c_laws_eqAddress x.Address y.Address) ?_
 simp only [↓reduceIte, go_sem]
 refine ⟨fun h => ?_, fun h_Address => ?_⟩
 ·symm
  rw [decide_eq_false_iff_not]
  rintro rfl
  exact h rfl
 refine ⟨fun h => ?_, fun h_Tick => ?_⟩
 ·symm
  rw [decide_eq_false_iff_not]
  rintro rfl
  exact h rfl
 refine callK_of (c_laws_eqResource x.Resource y.Resource) ?_
 simp only [↓reduceIte, go_sem]
 refine ⟨fun h => ?_, fun h_Resource => ?_⟩
 ·symm
  rw [decide_eq_false_iff_not]
  rintro rfl
  exact h rfl
 cases x; cases y; simp_all
def m_laws_szCaptureS : MC :=
(.seq (pr [.mv 4 (ci 0)] [0,1])
(.seq (pr [.mv 6 (.s 1), .mv 7 (.s 0), .len 8 false (.s 7), .bin 9 false .sub (.s 6) (.s 8), .mv 1 (.s 9)] [0,1])
(.seq (.seq (pr [.mv 10 (.s 1), .bin 11 false .lss (.s 10) (ci 0)] [0,1,11])
(.cond (.s 11) (.seq (pr [.mv 4 (.c (.int .i64 (-1)))] [4])
.ret) .skip))
(.seq (.seq (pr [.mv 5 (ci 0)] [0,1,5])
(.block 0 (.loop ([0,1,5], []) (.seq (.seq (pr [.mv 12 (.s 5), .mv 13 (.s 0), .len 14 false (.s 13), .bin 15 false .lss (.s 12) (.s 14)] [0,1,5,15])
(.cond (.s 15) .skip (.exit 0)))
(.seq (.block 1 (.seq (pr [.mv 18 (.s 0), .mv 19 (.s 5), .idx 20 9 (.s 18) (.s 19), .load 21 true 9 (.s 20), .mv 22 (.s 1), .call 23 [] (.f n_laws_szCapture) [.s 21, .s 22], .mv 1 (.s 23)] [0,1,5])
(.seq (pr [.mv 24 (.s 1), .bin 25 false .lss (.s 24) (ci 0)] [0,1,5,25])
(.cond (.s 25) (.seq (pr [.mv 4 (.c (.int .i64 (-1)))] [4])
.ret) .skip))))
(pr [.mv 16 (.s 5), .bin 17 false .add (.s 16) (ci 1), .mv 5 (.s 17)] [0,1,5]))))))
(.seq (pr [.mv 26 (.s 1), .mv 4 (.s 26)] [4])
.ret)))))
theorem c_laws_szCaptureS (xs : List GCapture) (left : Int) (h0 : 0 ≤ left) : Ctr Tryz.prog n_laws_szCaptureS [aL 9 (xs.map GCapture.enc), aI left] [rI (szr (xs.length + (xs.map GCapture.size).sum) left)] := by
 refine cA m_laws_szCaptureS 0 27 [(.tmp 4, [false])] Tryz.func359 rfl rfl ?_; unfold m_laws_szCaptureS
 intro hb
 simp only [bdA, bdL, bdT, bdR, bdR_map, wfB_i64, wfB_bool, wfB_str, roomB, and_true, true_and, List.length_map] at hb
 obtain ⟨⟨hl, -⟩, hn⟩ := hb
 simp only [↓reduceIte, go_sem]
 rw [wI (by omega) (by omega)]
 refine ⟨fun h => ?_, fun h => ?_⟩
 ·exact szr_bad' (n := xs.length) h0 ((szr_neg h0).2 (by omega)) (by omega)
 ·have hz : szr xs.length left = left - xs.length := by unfold szr; rw [if_pos (by omega)]
  rw [← hz] at h ⊢
  refine loopK_rng xs (fun k => [(1, vI (szr (xs.length + ((xs.take k).map GCapture.size).sum) left)), (5, vI k)]) (fun k => []) (fun k => ¬ szr (xs.length + ((xs.take k).map GCapture.size).sum) left < 0) hl ?_
  simp only [↓reduceIte, go_sem]
  refine ⟨?_, by simpa using h, ?_, ?_⟩
  ·simp only [↓reduceIte, go_sem, List.take_zero, List.map_nil, List.sum_nil, Nat.add_zero]
   all_goals rfl
  ·intro k x hx hs hk0 h1 hw
   obtain ⟨a1, a2, a3⟩ := szr_add (m := x.size) h0 hs
   rw [Nat.add_assoc, ← sum_snoc hx] at a3
   simp only [↓reduceIte, go_sem, bk_eq hx, hk0, h1, hw]
   refine callK_of (c_laws_szCapture x _ a1) ?_
   rw [← a3]
   simp only [↓reduceIte, go_sem, hw]
   intro _
   refine ⟨fun hn => ?_, fun hn => hn⟩
   have := sum_take_le (f := GCapture.size) xs (k + 1)
   exact szr_bad' h0 hn (by omega)
  ·intro _
   simp only [↓reduceIte, go_sem, List.take_length]
def m_laws_toCaptureS : MC :=
(.seq (pr [.nilo 2 0 9] [0])
(.seq (pr [.mv 5 (.s 0), .len 6 false (.s 5), .mk 7 0 9 88 [.sc (.int .i64 0), .sc (.int .i64 0), .sc (.int .i64 0), .sc (.int .i64 0), .sc (.int .i64 0), .sl 1 [], .sc (.int .i64 0), .sc (.int .i64 0), .sc (.int .i64 0)] (.s 6), .mv 3 (.s 7)] [0,3])
(.seq (.seq (pr [.mv 4 (ci 0)] [0,3,4])
(.block 0 (.loop ([0,3,4], [1]) (.seq (.seq (pr [.mv 8 (.s 4), .mv 9 (.s 0), .len 10 false (.s 9), .bin 11 false .lss (.s 8) (.s 10)] [0,3,4,11])
(.cond (.s 11) .skip (.exit 0)))
(.seq (.block 1 (pr [.mv 14 (.s 3), .mv 15 (.s 4), .mv 16 (.s 0), .mv 17 (.s 4), .idx 18 9 (.s 16) (.s 17), .load 19 true 9 (.s 18), .call 20 [1] (.f n_laws_toCapture) [.s 19], .idx 21 9 (.s 14) (.s 15), .store 9 (.s 21) (.s 20)] [0,3,4]))
(pr [.mv 12 (.s 4), .bin 13 false .add (.s 12) (ci 1), .mv 4 (.s 13)] [0,3,4]))))))
(.seq (pr [.mv 22 (.s 3), .mv 2 (.s 22)] [2])
.ret))))
theorem c_laws_toCaptureS (xs : List GCapture) (hs : xs.length + (xs.map GCapture.size).sum ≤ 1073741824) : Ctr Tryz.prog n_laws_toCaptureS [aL 9 (xs.map GCapture.enc)] [rL 9 (xs.map GCapture.enc)] := by
 refine cA m_laws_toCaptureS 2 23 [(.tmp 2, [true])] Tryz.func361 rfl rfl ?_; unfold m_laws_toCaptureS
 intro hb
 simp only [↓reduceIte, go_sem, replicate_toNat]
 refine ⟨⟨by omega, by simp only [roomB]; omega⟩, ?_⟩
 refine loopK_rng xs (fun k => [(4, vI k)]) (fun k => [(0, ⟨0, .row true 9 (filled GCapture.enc [tI 0, tI 0, tI 0, tI 0, tI 0, .sl 1 [], tI 0, tI 0, tI 0] xs k)⟩)]) (fun _ => True) (by simp only [roomB]; omega) ?_
 simp only [↓reduceIte, go_sem]
 refine ⟨?_, trivial, ?_, ?_⟩
 ·simp only [↓reduceIte, go_sem, filled_zero]
  all_goals rfl
 ·intro k x hx _ h0 h1 hw
  have h : k < xs.length := by omega
  simp only [↓reduceIte, go_sem, bk_eq hx, bk_eq (filled_get h), filled_len (Nat.le_of_lt h), h0, h1, hw]
  have hx1 := mem_sum (f := GCapture.size) (at_mem hx)
  refine callK_of (c_laws_toCapture x (by omega)) ?_
  simp only [↓reduceIte, go_sem, bk_eq hx, bk_eq (filled_get h), filled_len (Nat.le_of_lt h), h0, h1, hw]
  intros; exact filled_set hx
 ·intro _
  simp only [↓reduceIte, go_sem, filled_all]
def m_laws_eqCaptureS : MC :=
(.seq (pr [.mv 4 cF] [0,1])
(.seq (.seq (pr [.mv 6 (.s 0), .len 7 false (.s 6), .mv 8 (.s 1), .len 9 false (.s 8), .bin 10 false .neq (.s 7) (.s 9)] [0,1,10])
(.cond (.s 10) (.seq (pr [.mv 4 cF] [4])
.ret) .skip))
(.seq (.seq (pr [.mv 5 (ci 0)] [0,1,5])
(.block 0 (.loop ([0,1,5], []) (.seq (.seq (pr [.mv 11 (.s 5), .mv 12 (.s 0), .len 13 false (.s 12), .bin 14 false .lss (.s 11) (.s 13)] [0,1,5,14])
(.cond (.s 14) .skip (.exit 0)))
(.seq (.block 1 (.seq (.dreg [Zc [18,21,22,23,24] (.mv 17 (.s 0)), Zc [17,21,22,23,24] (.mv 18 (.s 5)), Zd [21,22,23,24] [0,1] (.idx 19 9 (.s 17) (.s 18)), Zd [21,22,23,24] [0,1,2] (.load 20 true 9 (.s 19)), Zc [17,18,19,20,22] (.mv 21 (.s 1)), Zc [17,18,19,20,21] (.mv 22 (.s 5)), Zd [17,18,19,20] [4,5] (.idx 23 9 (.s 21) (.s 22)), Zd [17,18,19,20] [4,5,6] (.load 24 true 9 (.s 23)), Ze (.range 8) (.call 25 [] (.f n_laws_eqCapture) [.s 20, .s 24]), Ze (.range 9) (.un 26 .not (.s 25))] [0,1,5,26])
(.cond (.s 26) (.seq (pr [.mv 4 cF] [4])
.ret) .skip)))
(pr [.mv 15 (.s 5), .bin 16 false .add (.s 15) (ci 1), .mv 5 (.s 16)] [0,1,5]))))))
(.seq (pr [.mv 4 cT] [4])
.ret))))
theorem c_laws_eqCaptureS (xs ys : List GCapture) : Ctr Tryz.prog n_laws_eqCaptureS [aL 9 (xs.map GCapture.enc), aL 9 (ys.map GCapture.enc)] [rB (decide (xs = ys))] := by
 refine cA m_laws_eqCaptureS 0 27 [(.tmp 4, [false])] Tryz.func373 rfl rfl ?_; unfold m_laws_eqCaptureS
 intro hb
 simp only [bdA, bdL, bdT, bdR, bdR_map, wfB_i64, wfB_bool, wfB_str, roomB, and_true, true_and, List.length_map] at hb
 obtain ⟨⟨hl, -⟩, ⟨hl2, -⟩⟩ := hb
 simp only [↓reduceIte, go_sem]
 refine ⟨fun h => ne_len h, fun h => ?_⟩
 have hle : xs.length = ys.length := by omega
 refine loopK_rng xs (fun k => [(5, vI k)]) (fun k => []) (fun k => xs.take k = ys.take k) hl ?_
 simp only [↓reduceIte, go_sem]
 refine ⟨?_, rfl, ?_, ?_⟩
 ·simp only [↓reduceIte, go_sem]
 ·intro k x hx he h0 h1 hw
  obtain ⟨y, hy⟩ := at_some (show k < ys.length by omega)
  have h2 : (k : Int) < ys.length := by omega
  simp only [↓reduceIte, go_sem, bk_eq hx, bk_eq hy, h0, h1, h2, hw]
  refine callK_of (c_laws_eqCapture x y) ?_
  simp only [↓reduceIte, go_sem, hw]
  exact ⟨fun hn => ne_at hx hy hn, fun hn => (take_eq_step hx hy he).2 hn⟩
 ·intro he
  simp only [↓reduceIte, go_sem]
  exact eq_all he hle
def m_laws_toExclusion : MC :=
(.seq (pr [.box 1 0 (.s 0), .alloc 2 1 [pz, pz, pz, pz, pz]] [1,2])
(.seq (pr [.alloc 3 2 [pz, pz, pz, pz, pz]] [1,2,3])
(.seq (pr [.fld 4 (.s 1) 0, .load 5 false 1 (.s 4), .fld 6 (.s 3) 0, .store 1 (.s 6) (.s 5)] [1,2,3])
(.seq (pr [.fld 7 (.s 1) 1, .load 8 false 1 (.s 7), .fld 9 (.s 3) 1, .store 1 (.s 9) (.s 8)] [1,2,3])
(.seq (pr [.fld 10 (.s 1) 2, .load 11 false 1 (.s 10), .fld 12 (.s 3) 2, .store 1 (.s 12) (.s 11)] [1,2,3])
(.seq (pr [.fld 13 (.s 1) 3, .load 14 false 1 (.s 13), .fld 15 (.s 3) 3, .store 1 (.s 15) (.s 14)] [1,2,3])
(.seq (pr [.fld 16 (.s 1) 4, .load 17 false 1 (.s 16), .fld 18 (.s 3) 4, .store 1 (.s 18) (.s 17)] [2,3])
(.seq (pr [.load 19 true 5 (.s 3), .store 5 (.s 2) (.s 19)] [2])
.ret))))))))
theorem c_laws_toExclusion (x : GExclusion) : Ctr Tryz.prog n_laws_toExclusion [aS x.enc] [rS x.enc] := by
 refine cA m_laws_toExclusion 3 20 [(.cell 2 true 5, [false, false, false, false, false])] Tryz.func145 rfl rfl ?_; unfold m_laws_toExclusion
 intro hb
 simp only [↓reduceIte, go_sem]
def m_laws_eqExclusion : MC :=
(.seq (pr [.box 2 0 (.s 0), .box 3 1 (.s 1), .mv 4 cF] [2,3])
(.seq (.seq (pr [.fld 5 (.s 2) 0, .load 6 false 1 (.s 5), .fld 7 (.s 3) 0, .load 8 false 1 (.s 7), .bin 9 false .neq (.s 6) (.s 8)] [2,3,9])
(.cond (.s 9) (.seq (pr [.mv 4 cF] [4])
.ret) .skip))
(.seq (.seq (pr [.fld 10 (.s 2) 1, .load 11 false 1 (.s 10), .fld 12 (.s 3) 1, .load 13 false 1 (.s 12), .bin 14 false .neq (.s 11) (.s 13)] [2,3,14])
(.cond (.s 14) (.seq (pr [.mv 4 cF] [4])
.ret) .skip))
(.seq (.seq (pr [.fld 15 (.s 2) 2, .load 16 false 1 (.s 15), .fld 17 (.s 3) 2, .load 18 false 1 (.s 17), .bin 19 false .neq (.s 16) (.s 18)] [2,3,19])
(.cond (.s 19) (.seq (pr [.mv 4 cF] [4])
.ret) .skip))
(.seq (.seq (pr [.fld 20 (.s 2) 3, .load 21 false 1 (.s 20), .fld 22 (.s 3) 3, .load 23 false 1 (.s 22), .bin 24 false .neq (.s 21) (.s 23)] [2,3,24])
(.cond (.s 24) (.seq (pr [.mv 4 cF] [4])
.ret) .skip))
(.seq (.seq (pr [.fld 25 (.s 2) 4, .load 26 false 1 (.s 25), .fld 27 (.s 3) 4, .load 28 false 1 (.s 27), .bin 29 false .neq (.s 26) (.s 28)] [29])
(.cond (.s 29) (.seq (pr [.mv 4 cF] [4])
.ret) .skip))
(.seq (pr [.mv 4 cT] [4])
.ret)))))))
theorem c_laws_eqExclusion (x y : GExclusion) : Ctr Tryz.prog n_laws_eqExclusion [aS x.enc, aS y.enc] [rB (decide (x = y))] := by
 refine cA m_laws_eqExclusion 2 30 [(.tmp 4, [false])] Tryz.func158 rfl rfl ?_; unfold m_laws_eqExclusion
 intro hb
 clear hb
 simp only [↓reduceIte, go_sem]
 refine ⟨fun h => ?_, fun h_Host => ?_⟩
 ·symm
  rw [decide_eq_false_iff_not]
  rintro rfl
  exact h rfl
 refine ⟨fun h => ?_, fun h_Path => ?_⟩
 ·symm
  rw [decide_eq_false_iff_not]
  rintro rfl
  exact h rfl
 refine ⟨fun h => ?_, fun h_From => ?_⟩
 ·symm
  rw [decide_eq_false_iff_not]
  rintro rfl
  exact h rfl
 refine ⟨fun h => ?_, fun h_Until => ?_⟩
 ·symm
  rw [decide_eq_false_iff_not]
  rintro rfl
  exact h rfl
 refine ⟨fun h => ?_, fun h_Asked => ?_⟩
 ·symm
  rw [decide_eq_false_iff_not]
  rintro rfl
  exact h rfl
 cases x; cases y; simp_all
def m_laws_szExclusionS : MC :=
(.seq (pr [.mv 4 (ci 0)] [0,1])
(.seq (pr [.mv 5 (.s 1), .mv 6 (.s 0), .len 7 false (.s 6), .bin 8 false .sub (.s 5) (.s 7), .mv 1 (.s 8)] [1])
(.seq (.seq (pr [.mv 9 (.s 1), .bin 10 false .lss (.s 9) (ci 0)] [1,10])
(.cond (.s 10) (.seq (pr [.mv 4 (.c (.int .i64 (-1)))] [4])
.ret) .skip))
(.seq (pr [.mv 11 (.s 1), .mv 4 (.s 11)] [4])
.ret))))
theorem c_laws_szExclusionS (xs : List GExclusion) (left : Int) (h0 : 0 ≤ left) : Ctr Tryz.prog n_laws_szExclusionS [aL 5 (xs.map GExclusion.enc), aI left] [rI (szr xs.length left)] := by
 refine cA m_laws_szExclusionS 0 12 [(.tmp 4, [false])] Tryz.func53 rfl rfl ?_; unfold m_laws_szExclusionS
 intro hb
 simp only [bdA, bdL, bdT, bdR, bdR_map, wfB_i64, wfB_bool, wfB_str, roomB, and_true, true_and, List.length_map] at hb
 obtain ⟨⟨hl, -⟩, hn⟩ := hb
 simp only [↓reduceIte, go_sem]
 rw [wI (by omega) (by omega)]
 unfold szr
 refine ⟨fun h => ?_, fun h => ?_⟩
 ·rw [if_neg (by omega)]
 ·rw [if_pos (by omega)]
def m_laws_toExclusionS : MC :=
(.seq (pr [.nilo 2 0 5] [0])
(.seq (pr [.mv 5 (.s 0), .len 6 false (.s 5), .mk 7 0 5 40 [.sc (.int .i64 0), .sc (.int .i64 0), .sc (.int .i64 0), .sc (.int .i64 0), .sc (.int .i64 0)] (.s 6), .mv 3 (.s 7)] [0,3])
(.seq (.seq (pr [.mv 4 (ci 0)] [0,3,4])
(.block 0 (.loop ([0,3,4], []) (.seq (.seq (pr [.mv 8 (.s 4), .mv 9 (.s 0), .len 10 false (.s 9), .bin 11 false .lss (.s 8) (.s 10)] [0,3,4,11])
(.cond (.s 11) .skip (.exit 0)))
(.seq (.block 1 (pr [.mv 14 (.s 3), .mv 15 (.s 4), .mv 16 (.s 0), .mv 17 (.s 4), .idx 18 5 (.s 16) (.s 17), .load 19 true 5 (.s 18), .call 20 [] (.f n_laws_toExclusion) [.s 19], .idx 21 5 (.s 14) (.s 15), .store 5 (.s 21) (.s 20)] [0,3,4]))
(pr [.mv 12 (.s 4), .bin 13 false .add (.s 12) (ci 1), .mv 4 (.s 13)] [0,3,4]))))))
(.seq (pr [.mv 22 (.s 3), .mv 2 (.s 22)] [2])
.ret))))
theorem c_laws_toExclusionS (xs : List GExclusion) (hs : xs.length ≤ 1073741824) : Ctr Tryz.prog n_laws_toExclusionS [aL 5 (xs.map GExclusion.enc)] [rL 5 (xs.map GExclusion.enc)] := by
 refine cA m_laws_toExclusionS 1 23 [(.tmp 2, [true])] Tryz.func62 rfl rfl ?_; unfold m_laws_toExclusionS
 intro hb
 simp only [↓reduceIte, go_sem, replicate_toNat]
 refine ⟨⟨by omega, by simp only [roomB]; omega⟩, ?_⟩
 refine loopK_rng xs (fun k => [(4, vI k)]) (fun k => [(0, ⟨0, .row true 5 (filled GExclusion.enc [tI 0, tI 0, tI 0, tI 0, tI 0] xs k)⟩)]) (fun _ => True) (by simp only [roomB]; omega) ?_
 simp only [↓reduceIte, go_sem]
 refine ⟨?_, trivial, ?_, ?_⟩
 ·simp only [↓reduceIte, go_sem, filled_zero]
  all_goals rfl
 ·intro k x hx _ h0 h1 hw
  have h : k < xs.length := by omega
  simp only [↓reduceIte, go_sem, bk_eq hx, bk_eq (filled_get h), filled_len (Nat.le_of_lt h), h0, h1, hw]
  refine callK_of (c_laws_toExclusion x) ?_
  simp only [↓reduceIte, go_sem, bk_eq hx, bk_eq (filled_get h), filled_len (Nat.le_of_lt h), h0, h1, hw]
  intros; exact filled_set hx
 ·intro _
  simp only [↓reduceIte, go_sem, filled_all]
def m_laws_eqExclusionS : MC :=
(.seq (pr [.mv 4 cF] [0,1])
(.seq (.seq (pr [.mv 6 (.s 0), .len 7 false (.s 6), .mv 8 (.s 1), .len 9 false (.s 8), .bin 10 false .neq (.s 7) (.s 9)] [0,1,10])
(.cond (.s 10) (.seq (pr [.mv 4 cF] [4])
.ret) .skip))
(.seq (.seq (pr [.mv 5 (ci 0)] [0,1,5])
(.block 0 (.loop ([0,1,5], []) (.seq (.seq (pr [.mv 11 (.s 5), .mv 12 (.s 0), .len 13 false (.s 12), .bin 14 false .lss (.s 11) (.s 13)] [0,1,5,14])
(.cond (.s 14) .skip (.exit 0)))
(.seq (.block 1 (.seq (.dreg [Zc [18,21,22,23,24] (.mv 17 (.s 0)), Zc [17,21,22,23,24] (.mv 18 (.s 5)), Zd [21,22,23,24] [0,1] (.idx 19 5 (.s 17) (.s 18)), Zd [21,22,23,24] [0,1,2] (.load 20 true 5 (.s 19)), Zc [17,18,19,20,22] (.mv 21 (.s 1)), Zc [17,18,19,20,21] (.mv 22 (.s 5)), Zd [17,18,19,20] [4,5] (.idx 23 5 (.s 21) (.s 22)), Zd [17,18,19,20] [4,5,6] (.load 24 true 5 (.s 23)), Ze (.range 8) (.call 25 [] (.f n_laws_eqExclusion) [.s 20, .s 24]), Ze (.range 9) (.un 26 .not (.s 25))] [0,1,5,26])
(.cond (.s 26) (.seq (pr [.mv 4 cF] [4])
.ret) .skip)))
(pr [.mv 15 (.s 5), .bin 16 false .add (.s 15) (ci 1), .mv 5 (.s 16)] [0,1,5]))))))
(.seq (pr [.mv 4 cT] [4])
.ret))))
theorem c_laws_eqExclusionS (xs ys : List GExclusion) : Ctr Tryz.prog n_laws_eqExclusionS [aL 5 (xs.map GExclusion.enc), aL 5 (ys.map GExclusion.enc)] [rB (decide (xs = ys))] := by
 refine cA m_laws_eqExclusionS 0 27 [(.tmp 4, [false])] Tryz.func72 rfl rfl ?_; unfold m_laws_eqExclusionS
 intro hb
 simp only [bdA, bdL, bdT, bdR, bdR_map, wfB_i64, wfB_bool, wfB_str, roomB, and_true, true_and, List.length_map] at hb
 obtain ⟨⟨hl, -⟩, ⟨hl2, -⟩⟩ := hb
 simp only [↓reduceIte, go_sem]
 refine ⟨fun h => ne_len h, fun h => ?_⟩
 have hle : xs.length = ys.length := by omega
 refine loopK_rng xs (fun k => [(5, vI k)]) (fun k => []) (fun k => xs.take k = ys.take k) hl ?_
 simp only [↓reduceIte, go_sem]
 refine ⟨?_, rfl, ?_, ?_⟩
 ·simp only [↓reduceIte, go_sem]
 ·intro k x hx he h0 h1 hw
  obtain ⟨y, hy⟩ := at_some (show k < ys.length by omega)
  have h2 : (k : Int) < ys.length := by omega
  simp only [↓reduceIte, go_sem, bk_eq hx, bk_eq hy, h0, h1, h2, hw]
  refine callK_of (c_laws_eqExclusion x y) ?_
  simp only [↓reduceIte, go_sem, hw]
  exact ⟨fun hn => ne_at hx hy hn, fun hn => (take_eq_step hx hy he).2 hn⟩
 ·intro he
  simp only [↓reduceIte, go_sem]
  exact eq_all he hle
def m_laws_toStatement : MC :=
(.seq (pr [.box 1 0 (.s 0), .alloc 2 1 [pz, pz, pz, pz]] [1,2])
(.seq (pr [.alloc 3 2 [pz, pz, pz, pz]] [1,2,3])
(.seq (pr [.fld 4 (.s 1) 0, .load 5 false 1 (.s 4), .fld 6 (.s 3) 0, .store 1 (.s 6) (.s 5)] [1,2,3])
(.seq (pr [.fld 7 (.s 1) 1, .load 8 false 1 (.s 7), .fld 9 (.s 3) 1, .store 1 (.s 9) (.s 8)] [1,2,3])
(.seq (pr [.fld 10 (.s 1) 2, .load 11 false 1 (.s 10), .fld 12 (.s 3) 2, .store 1 (.s 12) (.s 11)] [1,2,3])
(.seq (pr [.fld 13 (.s 1) 3, .load 14 false 1 (.s 13), .fld 15 (.s 3) 3, .store 1 (.s 15) (.s 14)] [2,3])
(.seq (pr [.load 16 true 4 (.s 3), .store 4 (.s 2) (.s 16)] [2])
.ret)))))))
theorem c_laws_toStatement (x : GStatement) : Ctr Tryz.prog n_laws_toStatement [aS x.enc] [rS x.enc] := by
 refine cA m_laws_toStatement 3 17 [(.cell 2 true 4, [false, false, false, false])] Tryz.func147 rfl rfl ?_; unfold m_laws_toStatement
 intro hb
 simp only [↓reduceIte, go_sem]
def m_laws_eqStatement : MC :=
(.seq (pr [.box 2 0 (.s 0), .box 3 1 (.s 1), .mv 4 cF] [2,3])
(.seq (.seq (pr [.fld 5 (.s 2) 0, .load 6 false 1 (.s 5), .fld 7 (.s 3) 0, .load 8 false 1 (.s 7), .bin 9 false .neq (.s 6) (.s 8)] [2,3,9])
(.cond (.s 9) (.seq (pr [.mv 4 cF] [4])
.ret) .skip))
(.seq (.seq (pr [.fld 10 (.s 2) 1, .load 11 false 1 (.s 10), .fld 12 (.s 3) 1, .load 13 false 1 (.s 12), .bin 14 false .neq (.s 11) (.s 13)] [2,3,14])
(.cond (.s 14) (.seq (pr [.mv 4 cF] [4])
.ret) .skip))
(.seq (.seq (pr [.fld 15 (.s 2) 2, .load 16 false 1 (.s 15), .fld 17 (.s 3) 2, .load 18 false 1 (.s 17), .bin 19 false .neq (.s 16) (.s 18)] [2,3,19])
(.cond (.s 19) (.seq (pr [.mv 4 cF] [4])
.ret) .skip))
(.seq (.seq (pr [.fld 20 (.s 2) 3, .load 21 false 1 (.s 20), .fld 22 (.s 3) 3, .load 23 false 1 (.s 22), .bin 24 false .neq (.s 21) (.s 23)] [24])
(.cond (.s 24) (.seq (pr [.mv 4 cF] [4])
.ret) .skip))
(.seq (pr [.mv 4 cT] [4])
.ret))))))
theorem c_laws_eqStatement (x y : GStatement) : Ctr Tryz.prog n_laws_eqStatement [aS x.enc, aS y.enc] [rB (decide (x = y))] := by
 refine cA m_laws_eqStatement 2 25 [(.tmp 4, [false])] Tryz.func160 rfl rfl ?_; unfold m_laws_eqStatement
 intro hb
 clear hb
 simp only [↓reduceIte, go_sem]
 refine ⟨fun h => ?_, fun h_Witness => ?_⟩
 ·symm
  rw [decide_eq_false_iff_not]
  rintro rfl
  exact h rfl
 refine ⟨fun h => ?_, fun h_Digest => ?_⟩
 ·symm
  rw [decide_eq_false_iff_not]
  rintro rfl
  exact h rfl
 refine ⟨fun h => ?_, fun h_Tick => ?_⟩
 ·symm
  rw [decide_eq_false_iff_not]
  rintro rfl
  exact h rfl
 refine ⟨fun h => ?_, fun h_Seal => ?_⟩
 ·symm
  rw [decide_eq_false_iff_not]
  rintro rfl
  exact h rfl
 cases x; cases y; simp_all
def m_laws_szStatementS : MC :=
(.seq (pr [.mv 4 (ci 0)] [0,1])
(.seq (pr [.mv 5 (.s 1), .mv 6 (.s 0), .len 7 false (.s 6), .bin 8 false .sub (.s 5) (.s 7), .mv 1 (.s 8)] [1])
(.seq (.seq (pr [.mv 9 (.s 1), .bin 10 false .lss (.s 9) (ci 0)] [1,10])
(.cond (.s 10) (.seq (pr [.mv 4 (.c (.int .i64 (-1)))] [4])
.ret) .skip))
(.seq (pr [.mv 11 (.s 1), .mv 4 (.s 11)] [4])
.ret))))
theorem c_laws_szStatementS (xs : List GStatement) (left : Int) (h0 : 0 ≤ left) : Ctr Tryz.prog n_laws_szStatementS [aL 4 (xs.map GStatement.enc), aI left] [rI (szr xs.length left)] := by
 refine cA m_laws_szStatementS 0 12 [(.tmp 4, [false])] Tryz.func56 rfl rfl ?_; unfold m_laws_szStatementS
 intro hb
 simp only [bdA, bdL, bdT, bdR, bdR_map, wfB_i64, wfB_bool, wfB_str, roomB, and_true, true_and, List.length_map] at hb
 obtain ⟨⟨hl, -⟩, hn⟩ := hb
 simp only [↓reduceIte, go_sem]
 rw [wI (by omega) (by omega)]
 unfold szr
 refine ⟨fun h => ?_, fun h => ?_⟩
 ·rw [if_neg (by omega)]
 ·rw [if_pos (by omega)]
def m_laws_toStatementS : MC :=
(.seq (pr [.nilo 2 0 4] [0])
(.seq (pr [.mv 5 (.s 0), .len 6 false (.s 5), .mk 7 0 4 32 [.sc (.int .i64 0), .sc (.int .i64 0), .sc (.int .i64 0), .sc (.int .i64 0)] (.s 6), .mv 3 (.s 7)] [0,3])
(.seq (.seq (pr [.mv 4 (ci 0)] [0,3,4])
(.block 0 (.loop ([0,3,4], []) (.seq (.seq (pr [.mv 8 (.s 4), .mv 9 (.s 0), .len 10 false (.s 9), .bin 11 false .lss (.s 8) (.s 10)] [0,3,4,11])
(.cond (.s 11) .skip (.exit 0)))
(.seq (.block 1 (pr [.mv 14 (.s 3), .mv 15 (.s 4), .mv 16 (.s 0), .mv 17 (.s 4), .idx 18 4 (.s 16) (.s 17), .load 19 true 4 (.s 18), .call 20 [] (.f n_laws_toStatement) [.s 19], .idx 21 4 (.s 14) (.s 15), .store 4 (.s 21) (.s 20)] [0,3,4]))
(pr [.mv 12 (.s 4), .bin 13 false .add (.s 12) (ci 1), .mv 4 (.s 13)] [0,3,4]))))))
(.seq (pr [.mv 22 (.s 3), .mv 2 (.s 22)] [2])
.ret))))
theorem c_laws_toStatementS (xs : List GStatement) (hs : xs.length ≤ 1073741824) : Ctr Tryz.prog n_laws_toStatementS [aL 4 (xs.map GStatement.enc)] [rL 4 (xs.map GStatement.enc)] := by
 refine cA m_laws_toStatementS 1 23 [(.tmp 2, [true])] Tryz.func64 rfl rfl ?_; unfold m_laws_toStatementS
 intro hb
 simp only [↓reduceIte, go_sem, replicate_toNat]
 refine ⟨⟨by omega, by simp only [roomB]; omega⟩, ?_⟩
 refine loopK_rng xs (fun k => [(4, vI k)]) (fun k => [(0, ⟨0, .row true 4 (filled GStatement.enc [tI 0, tI 0, tI 0, tI 0] xs k)⟩)]) (fun _ => True) (by simp only [roomB]; omega) ?_
 simp only [↓reduceIte, go_sem]
 refine ⟨?_, trivial, ?_, ?_⟩
 ·simp only [↓reduceIte, go_sem, filled_zero]
  all_goals rfl
 ·intro k x hx _ h0 h1 hw
  have h : k < xs.length := by omega
  simp only [↓reduceIte, go_sem, bk_eq hx, bk_eq (filled_get h), filled_len (Nat.le_of_lt h), h0, h1, hw]
  refine callK_of (c_laws_toStatement x) ?_
  simp only [↓reduceIte, go_sem, bk_eq hx, bk_eq (filled_get h), filled_len (Nat.le_of_lt h), h0, h1, hw]
  intros; exact filled_set hx
 ·intro _
  simp only [↓reduceIte, go_sem, filled_all]
def m_laws_eqStatementS : MC :=
(.seq (pr [.mv 4 cF] [0,1])
(.seq (.seq (pr [.mv 6 (.s 0), .len 7 false (.s 6), .mv 8 (.s 1), .len 9 false (.s 8), .bin 10 false .neq (.s 7) (.s 9)] [0,1,10])
(.cond (.s 10) (.seq (pr [.mv 4 cF] [4])
.ret) .skip))
(.seq (.seq (pr [.mv 5 (ci 0)] [0,1,5])
(.block 0 (.loop ([0,1,5], []) (.seq (.seq (pr [.mv 11 (.s 5), .mv 12 (.s 0), .len 13 false (.s 12), .bin 14 false .lss (.s 11) (.s 13)] [0,1,5,14])
(.cond (.s 14) .skip (.exit 0)))
(.seq (.block 1 (.seq (.dreg [Zc [18,21,22,23,24] (.mv 17 (.s 0)), Zc [17,21,22,23,24] (.mv 18 (.s 5)), Zd [21,22,23,24] [0,1] (.idx 19 4 (.s 17) (.s 18)), Zd [21,22,23,24] [0,1,2] (.load 20 true 4 (.s 19)), Zc [17,18,19,20,22] (.mv 21 (.s 1)), Zc [17,18,19,20,21] (.mv 22 (.s 5)), Zd [17,18,19,20] [4,5] (.idx 23 4 (.s 21) (.s 22)), Zd [17,18,19,20] [4,5,6] (.load 24 true 4 (.s 23)), Ze (.range 8) (.call 25 [] (.f n_laws_eqStatement) [.s 20, .s 24]), Ze (.range 9) (.un 26 .not (.s 25))] [0,1,5,26])
(.cond (.s 26) (.seq (pr [.mv 4 cF] [4])
.ret) .skip)))
(pr [.mv 15 (.s 5), .bin 16 false .add (.s 15) (ci 1), .mv 5 (.s 16)] [0,1,5]))))))
(.seq (pr [.mv 4 cT] [4])
.ret))))
theorem c_laws_eqStatementS (xs ys : List GStatement) : Ctr Tryz.prog n_laws_eqStatementS [aL 4 (xs.map GStatement.enc), aL 4 (ys.map GStatement.enc)] [rB (decide (xs = ys))] := by
 refine cA m_laws_eqStatementS 0 27 [(.tmp 4, [false])] Tryz.func74 rfl rfl ?_; unfold m_laws_eqStatementS
 intro hb
 simp only [bdA, bdL, bdT, bdR, bdR_map, wfB_i64, wfB_bool, wfB_str, roomB, and_true, true_and, List.length_map] at hb
 obtain ⟨⟨hl, -⟩, ⟨hl2, -⟩⟩ := hb
 simp only [↓reduceIte, go_sem]
 refine ⟨fun h => ne_len h, fun h => ?_⟩
 have hle : xs.length = ys.length := by omega
 refine loopK_rng xs (fun k => [(5, vI k)]) (fun k => []) (fun k => xs.take k = ys.take k) hl ?_
 simp only [↓reduceIte, go_sem]
 refine ⟨?_, rfl, ?_, ?_⟩
 ·simp only [↓reduceIte, go_sem]
 ·intro k x hx he h0 h1 hw
  obtain ⟨y, hy⟩ := at_some (show k < ys.length by omega)
  have h2 : (k : Int) < ys.length := by omega
  simp only [↓reduceIte, go_sem, bk_eq hx, bk_eq hy, h0, h1, h2, hw]
  refine callK_of (c_laws_eqStatement x y) ?_
  simp only [↓reduceIte, go_sem, hw]
  exact ⟨fun hn => ne_at hx hy hn, fun hn => (take_eq_step hx hy he).2 hn⟩
 ·intro he
  simp only [↓reduceIte, go_sem]
  exact eq_all he hle
def m_laws_szLibrary : MC :=
(.seq (pr [.box 2 0 (.s 0), .mv 4 (ci 0)] [1,2])
(.seq (pr [.fld 5 (.s 2) 1, .load 6 false 1 (.s 5), .mv 7 (.s 1), .call 8 [] (.f n_laws_szIntS) [.s 6, .s 7], .mv 1 (.s 8)] [1])
(.seq (.seq (pr [.mv 9 (.s 1), .bin 10 false .lss (.s 9) (ci 0)] [1,10])
(.cond (.s 10) (.seq (pr [.mv 4 (.c (.int .i64 (-1)))] [4])
.ret) .skip))
(.seq (pr [.mv 11 (.s 1), .mv 4 (.s 11)] [4])
.ret))))
theorem c_laws_szLibrary (x : GLibrary) (left : Int) (h0 : 0 ≤ left) : Ctr Tryz.prog n_laws_szLibrary [aS x.enc, aI left] [rI (szr x.size left)] := by
 refine cA m_laws_szLibrary 1 12 [(.tmp 4, [false])] Tryz.func139 rfl rfl ?_; unfold m_laws_szLibrary
 intro hb
 simp only [↓reduceIte, go_sem]
 refine callK_of (c_laws_szIntS x.Digests left h0) ?_
 simp only [↓reduceIte, go_sem]
 intro _
 refine ⟨fun h => szr_bad' h0 h (by simp only [GLibrary.size]; omega), fun h1 => ?_⟩
 rfl
def m_laws_toLibrary : MC :=
(.seq (pr [.box 1 0 (.s 0), .alloc 2 1 [pz, .emp 1, .pl (.sc (.bool false)), .pl (.sc (.bool false))]] [1,2])
(.seq (pr [.alloc 3 2 [pz, .emp 1, .pl (.sc (.bool false)), .pl (.sc (.bool false))]] [1,2,3])
(.seq (pr [.fld 4 (.s 1) 0, .load 5 false 1 (.s 4), .fld 6 (.s 3) 0, .store 1 (.s 6) (.s 5)] [1,2,3])
(.seq (pr [.fld 7 (.s 1) 1, .load 8 false 1 (.s 7), .call 9 [3] (.f n_laws_toIntS) [.s 8], .fld 10 (.s 3) 1, .store 1 (.s 10) (.s 9)] [1,2,3])
(.seq (pr [.fld 11 (.s 1) 2, .load 12 false 1 (.s 11), .fld 13 (.s 3) 2, .store 1 (.s 13) (.s 12)] [1,2,3])
(.seq (pr [.fld 14 (.s 1) 3, .load 15 false 1 (.s 14), .fld 16 (.s 3) 3, .store 1 (.s 16) (.s 15)] [2,3])
(.seq (pr [.load 17 true 4 (.s 3), .store 4 (.s 2) (.s 17)] [2])
.ret)))))))
theorem c_laws_toLibrary (x : GLibrary) (hs : x.size ≤ 1073741824) : Ctr Tryz.prog n_laws_toLibrary [aS x.enc] [rS x.enc] := by
 refine cA m_laws_toLibrary 4 18 [(.cell 2 true 4, [false, true, false, false])] Tryz.func146 rfl rfl ?_; unfold m_laws_toLibrary
 intro hb
 simp only [GLibrary.size] at hs
 simp only [↓reduceIte, go_sem]
 refine callK_of (c_laws_toIntS x.Digests (by omega)) ?_
 simp only [↓reduceIte, go_sem]
 try intros
def m_laws_eqLibrary : MC :=
(.seq (pr [.box 2 0 (.s 0), .box 3 1 (.s 1), .mv 4 cF] [2,3])
(.seq (.seq (pr [.fld 5 (.s 2) 0, .load 6 false 1 (.s 5), .fld 7 (.s 3) 0, .load 8 false 1 (.s 7), .bin 9 false .neq (.s 6) (.s 8)] [2,3,9])
(.cond (.s 9) (.seq (pr [.mv 4 cF] [4])
.ret) .skip))
(.seq (.seq (pr [.fld 10 (.s 2) 1, .load 11 false 1 (.s 10), .fld 12 (.s 3) 1, .load 13 false 1 (.s 12), .call 14 [] (.f n_laws_eqIntS) [.s 11, .s 13], .un 15 .not (.s 14)] [2,3,15])
(.cond (.s 15) (.seq (pr [.mv 4 cF] [4])
.ret) .skip))
(.seq (.seq (pr [.fld 16 (.s 2) 2, .load 17 false 1 (.s 16), .fld 18 (.s 3) 2, .load 19 false 1 (.s 18), .bin 20 true .neq (.s 17) (.s 19)] [2,3,20])
(.cond (.s 20) (.seq (pr [.mv 4 cF] [4])
.ret) .skip))
(.seq (.seq (pr [.fld 21 (.s 2) 3, .load 22 false 1 (.s 21), .fld 23 (.s 3) 3, .load 24 false 1 (.s 23), .bin 25 true .neq (.s 22) (.s 24)] [25])
(.cond (.s 25) (.seq (pr [.mv 4 cF] [4])
.ret) .skip))
(.seq (pr [.mv 4 cT] [4])
.ret))))))
theorem c_laws_eqLibrary (x y : GLibrary) : Ctr Tryz.prog n_laws_eqLibrary [aS x.enc, aS y.enc] [rB (decide (x = y))] := by
 refine cA m_laws_eqLibrary 2 26 [(.tmp 4, [false])] Tryz.func159 rfl rfl ?_; unfold m_laws_eqLibrary
 intro hb
 clear hb
 simp only [↓reduceIte, go_sem]
 refine ⟨fun h => ?_, fun h_Id => ?_⟩
 ·symm
  rw [decide_eq_false_iff_not]
  rintro rfl
  exact h rfl
 refine callK_of (c_laws_eqIntS x.Digests y.Digests) ?_
 simp only [↓reduceIte, go_sem]
 refine ⟨fun h => ?_, fun h_Digests => ?_⟩
 ·symm
  rw [decide_eq_false_iff_not]
  rintro rfl
  exact h rfl
 refine ⟨fun h => ?_, fun h_Up => ?_⟩
 ·symm
  rw [decide_eq_false_iff_not]
  rintro rfl
  exact h rfl
 refine ⟨fun h => ?_, fun h_Lies => ?_⟩
 ·symm
  rw [decide_eq_false_iff_not]
  rintro rfl
  exact h rfl
 cases x; cases y; simp_all
def m_laws_szLibraryS : MC :=
(.seq (pr [.mv 4 (ci 0)] [0,1])
(.seq (pr [.mv 6 (.s 1), .mv 7 (.s 0), .len 8 false (.s 7), .bin 9 false .sub (.s 6) (.s 8), .mv 1 (.s 9)] [0,1])
(.seq (.seq (pr [.mv 10 (.s 1), .bin 11 false .lss (.s 10) (ci 0)] [0,1,11])
(.cond (.s 11) (.seq (pr [.mv 4 (.c (.int .i64 (-1)))] [4])
.ret) .skip))
(.seq (.seq (pr [.mv 5 (ci 0)] [0,1,5])
(.block 0 (.loop ([0,1,5], []) (.seq (.seq (pr [.mv 12 (.s 5), .mv 13 (.s 0), .len 14 false (.s 13), .bin 15 false .lss (.s 12) (.s 14)] [0,1,5,15])
(.cond (.s 15) .skip (.exit 0)))
(.seq (.block 1 (.seq (pr [.mv 18 (.s 0), .mv 19 (.s 5), .idx 20 4 (.s 18) (.s 19), .load 21 true 4 (.s 20), .mv 22 (.s 1), .call 23 [] (.f n_laws_szLibrary) [.s 21, .s 22], .mv 1 (.s 23)] [0,1,5])
(.seq (pr [.mv 24 (.s 1), .bin 25 false .lss (.s 24) (ci 0)] [0,1,5,25])
(.cond (.s 25) (.seq (pr [.mv 4 (.c (.int .i64 (-1)))] [4])
.ret) .skip))))
(pr [.mv 16 (.s 5), .bin 17 false .add (.s 16) (ci 1), .mv 5 (.s 17)] [0,1,5]))))))
(.seq (pr [.mv 26 (.s 1), .mv 4 (.s 26)] [4])
.ret)))))
theorem c_laws_szLibraryS (xs : List GLibrary) (left : Int) (h0 : 0 ≤ left) : Ctr Tryz.prog n_laws_szLibraryS [aL 4 (xs.map GLibrary.enc), aI left] [rI (szr (xs.length + (xs.map GLibrary.size).sum) left)] := by
 refine cA m_laws_szLibraryS 0 27 [(.tmp 4, [false])] Tryz.func54 rfl rfl ?_; unfold m_laws_szLibraryS
 intro hb
 simp only [bdA, bdL, bdT, bdR, bdR_map, wfB_i64, wfB_bool, wfB_str, roomB, and_true, true_and, List.length_map] at hb
 obtain ⟨⟨hl, -⟩, hn⟩ := hb
 simp only [↓reduceIte, go_sem]
 rw [wI (by omega) (by omega)]
 refine ⟨fun h => ?_, fun h => ?_⟩
 ·exact szr_bad' (n := xs.length) h0 ((szr_neg h0).2 (by omega)) (by omega)
 ·have hz : szr xs.length left = left - xs.length := by unfold szr; rw [if_pos (by omega)]
  rw [← hz] at h ⊢
  refine loopK_rng xs (fun k => [(1, vI (szr (xs.length + ((xs.take k).map GLibrary.size).sum) left)), (5, vI k)]) (fun k => []) (fun k => ¬ szr (xs.length + ((xs.take k).map GLibrary.size).sum) left < 0) hl ?_
  simp only [↓reduceIte, go_sem]
  refine ⟨?_, by simpa using h, ?_, ?_⟩
  ·simp only [↓reduceIte, go_sem, List.take_zero, List.map_nil, List.sum_nil, Nat.add_zero]
   all_goals rfl
  ·intro k x hx hs hk0 h1 hw
   obtain ⟨a1, a2, a3⟩ := szr_add (m := x.size) h0 hs
   rw [Nat.add_assoc, ← sum_snoc hx] at a3
   simp only [↓reduceIte, go_sem, bk_eq hx, hk0, h1, hw]
   refine callK_of (c_laws_szLibrary x _ a1) ?_
   rw [← a3]
   simp only [↓reduceIte, go_sem, hw]
   intro _
   refine ⟨fun hn => ?_, fun hn => hn⟩
   have := sum_take_le (f := GLibrary.size) xs (k + 1)
   exact szr_bad' h0 hn (by omega)
  ·intro _
   simp only [↓reduceIte, go_sem, List.take_length]
def m_laws_toLibraryS : MC :=
(.seq (pr [.nilo 2 0 4] [0])
(.seq (pr [.mv 5 (.s 0), .len 6 false (.s 5), .mk 7 0 4 40 [.sc (.int .i64 0), .sl 1 [], .sc (.bool false), .sc (.bool false)] (.s 6), .mv 3 (.s 7)] [0,3])
(.seq (.seq (pr [.mv 4 (ci 0)] [0,3,4])
(.block 0 (.loop ([0,3,4], [1]) (.seq (.seq (pr [.mv 8 (.s 4), .mv 9 (.s 0), .len 10 false (.s 9), .bin 11 false .lss (.s 8) (.s 10)] [0,3,4,11])
(.cond (.s 11) .skip (.exit 0)))
(.seq (.block 1 (pr [.mv 14 (.s 3), .mv 15 (.s 4), .mv 16 (.s 0), .mv 17 (.s 4), .idx 18 4 (.s 16) (.s 17), .load 19 true 4 (.s 18), .call 20 [1] (.f n_laws_toLibrary) [.s 19], .idx 21 4 (.s 14) (.s 15), .store 4 (.s 21) (.s 20)] [0,3,4]))
(pr [.mv 12 (.s 4), .bin 13 false .add (.s 12) (ci 1), .mv 4 (.s 13)] [0,3,4]))))))
(.seq (pr [.mv 22 (.s 3), .mv 2 (.s 22)] [2])
.ret))))
theorem c_laws_toLibraryS (xs : List GLibrary) (hs : xs.length + (xs.map GLibrary.size).sum ≤ 1073741824) : Ctr Tryz.prog n_laws_toLibraryS [aL 4 (xs.map GLibrary.enc)] [rL 4 (xs.map GLibrary.enc)] := by
 refine cA m_laws_toLibraryS 2 23 [(.tmp 2, [true])] Tryz.func63 rfl rfl ?_; unfold m_laws_toLibraryS
 intro hb
 simp only [↓reduceIte, go_sem, replicate_toNat]
 refine ⟨⟨by omega, by simp only [roomB]; omega⟩, ?_⟩
 refine loopK_rng xs (fun k => [(4, vI k)]) (fun k => [(0, ⟨0, .row true 4 (filled GLibrary.enc [tI 0, .sl 1 [], tB false, tB false] xs k)⟩)]) (fun _ => True) (by simp only [roomB]; omega) ?_
 simp only [↓reduceIte, go_sem]
 refine ⟨?_, trivial, ?_, ?_⟩
 ·simp only [↓reduceIte, go_sem, filled_zero]
  all_goals rfl
 ·intro k x hx _ h0 h1 hw
  have h : k < xs.length := by omega
  simp only [↓reduceIte, go_sem, bk_eq hx, bk_eq (filled_get h), filled_len (Nat.le_of_lt h), h0, h1, hw]
  have hx1 := mem_sum (f := GLibrary.size) (at_mem hx)
  refine callK_of (c_laws_toLibrary x (by omega)) ?_
  simp only [↓reduceIte, go_sem, bk_eq hx, bk_eq (filled_get h), filled_len (Nat.le_of_lt h), h0, h1, hw]
  intros; exact filled_set hx
 ·intro _
  simp only [↓reduceIte, go_sem, filled_all]
def m_laws_eqLibraryS : MC :=
(.seq (pr [.mv 4 cF] [0,1])
(.seq (.seq (pr [.mv 6 (.s 0), .len 7 false (.s 6), .mv 8 (.s 1), .len 9 false (.s 8), .bin 10 false .neq (.s 7) (.s 9)] [0,1,10])
(.cond (.s 10) (.seq (pr [.mv 4 cF] [4])
.ret) .skip))
(.seq (.seq (pr [.mv 5 (ci 0)] [0,1,5])
(.block 0 (.loop ([0,1,5], []) (.seq (.seq (pr [.mv 11 (.s 5), .mv 12 (.s 0), .len 13 false (.s 12), .bin 14 false .lss (.s 11) (.s 13)] [0,1,5,14])
(.cond (.s 14) .skip (.exit 0)))
(.seq (.block 1 (.seq (.dreg [Zc [18,21,22,23,24] (.mv 17 (.s 0)), Zc [17,21,22,23,24] (.mv 18 (.s 5)), Zd [21,22,23,24] [0,1] (.idx 19 4 (.s 17) (.s 18)), Zd [21,22,23,24] [0,1,2] (.load 20 true 4 (.s 19)), Zc [17,18,19,20,22] (.mv 21 (.s 1)), Zc [17,18,19,20,21] (.mv 22 (.s 5)), Zd [17,18,19,20] [4,5] (.idx 23 4 (.s 21) (.s 22)), Zd [17,18,19,20] [4,5,6] (.load 24 true 4 (.s 23)), Ze (.range 8) (.call 25 [] (.f n_laws_eqLibrary) [.s 20, .s 24]), Ze (.range 9) (.un 26 .not (.s 25))] [0,1,5,26])
(.cond (.s 26) (.seq (pr [.mv 4 cF] [4])
.ret) .skip)))
(pr [.mv 15 (.s 5), .bin 16 false .add (.s 15) (ci 1), .mv 5 (.s 16)] [0,1,5]))))))
(.seq (pr [.mv 4 cT] [4])
.ret))))
theorem c_laws_eqLibraryS (xs ys : List GLibrary) : Ctr Tryz.prog n_laws_eqLibraryS [aL 4 (xs.map GLibrary.enc), aL 4 (ys.map GLibrary.enc)] [rB (decide (xs = ys))] := by
 refine cA m_laws_eqLibraryS 0 27 [(.tmp 4, [false])] Tryz.func73 rfl rfl ?_; unfold m_laws_eqLibraryS
 intro hb
 simp only [bdA, bdL, bdT, bdR, bdR_map, wfB_i64, wfB_bool, wfB_str, roomB, and_true, true_and, List.length_map] at hb
 obtain ⟨⟨hl, -⟩, ⟨hl2, -⟩⟩ := hb
 simp only [↓reduceIte, go_sem]
 refine ⟨fun h => ne_len h, fun h => ?_⟩
 have hle : xs.length = ys.length := by omega
 refine loopK_rng xs (fun k => [(5, vI k)]) (fun k => []) (fun k => xs.take k = ys.take k) hl ?_
 simp only [↓reduceIte, go_sem]
 refine ⟨?_, rfl, ?_, ?_⟩
 ·simp only [↓reduceIte, go_sem]
 ·intro k x hx he h0 h1 hw
  obtain ⟨y, hy⟩ := at_some (show k < ys.length by omega)
  have h2 : (k : Int) < ys.length := by omega
  simp only [↓reduceIte, go_sem, bk_eq hx, bk_eq hy, h0, h1, h2, hw]
  refine callK_of (c_laws_eqLibrary x y) ?_
  simp only [↓reduceIte, go_sem, hw]
  exact ⟨fun hn => ne_at hx hy hn, fun hn => (take_eq_step hx hy he).2 hn⟩
 ·intro he
  simp only [↓reduceIte, go_sem]
  exact eq_all he hle
def m_laws_szContainer : MC :=
(.seq (pr [.box 2 0 (.s 0), .mv 4 (ci 0)] [1,2])
(.seq (pr [.fld 5 (.s 2) 0, .load 6 false 1 (.s 5), .mv 7 (.s 1), .call 8 [] (.f n_laws_szOpS) [.s 6, .s 7], .mv 1 (.s 8)] [1,2])
(.seq (.seq (pr [.mv 9 (.s 1), .bin 10 false .lss (.s 9) (ci 0)] [1,2,10])
(.cond (.s 10) (.seq (pr [.mv 4 (.c (.int .i64 (-1)))] [4])
.ret) .skip))
(.seq (pr [.fld 11 (.s 2) 1, .load 12 false 1 (.s 11), .mv 13 (.s 1), .call 14 [] (.f n_laws_szEntryS) [.s 12, .s 13], .mv 1 (.s 14)] [1,2])
(.seq (.seq (pr [.mv 15 (.s 1), .bin 16 false .lss (.s 15) (ci 0)] [1,2,16])
(.cond (.s 16) (.seq (pr [.mv 4 (.c (.int .i64 (-1)))] [4])
.ret) .skip))
(.seq (pr [.fld 17 (.s 2) 2, .load 18 false 1 (.s 17), .mv 19 (.s 1), .call 20 [] (.f n_laws_szCaptureS) [.s 18, .s 19], .mv 1 (.s 20)] [1])
(.seq (.seq (pr [.mv 21 (.s 1), .bin 22 false .lss (.s 21) (ci 0)] [1,22])
(.cond (.s 22) (.seq (pr [.mv 4 (.c (.int .i64 (-1)))] [4])
.ret) .skip))
(.seq (pr [.mv 23 (.s 1), .mv 4 (.s 23)] [4])
.ret))))))))
theorem c_laws_szContainer (x : GContainer) (left : Int) (h0 : 0 ≤ left) : Ctr Tryz.prog n_laws_szContainer [aS x.enc, aI left] [rI (szr x.size left)] := by
 refine cA m_laws_szContainer 1 24 [(.tmp 4, [false])] Tryz.func264 rfl rfl ?_; unfold m_laws_szContainer
 intro hb
 simp only [↓reduceIte, go_sem]
 refine callK_of (c_laws_szOpS x.Script left h0) ?_
 simp only [↓reduceIte, go_sem]
 intro _
 refine ⟨fun h => szr_bad' h0 h (by simp only [GContainer.size]; omega), fun h1 => ?_⟩
 obtain ⟨a1, b1, e1⟩ := szr_add (m := x.Entries.length) h0 h1
 refine callK_of (c_laws_szEntryS x.Entries _ a1) ?_
 rw [← e1]
 simp only [↓reduceIte, go_sem]
 intro _
 refine ⟨fun h => szr_bad' h0 h (by simp only [GContainer.size]; omega), fun h2 => ?_⟩
 obtain ⟨a2, b2, e2⟩ := szr_add (m := x.Captures.length + (x.Captures.map GCapture.size).sum) h0 h2
 refine callK_of (c_laws_szCaptureS x.Captures _ a2) ?_
 rw [← e2]
 simp only [↓reduceIte, go_sem]
 intro _
 refine ⟨fun h => szr_bad' h0 h (by simp only [GContainer.size]; omega), fun h3 => ?_⟩
 rfl
def m_laws_toContainer : MC :=
(.seq (pr [.box 1 0 (.s 0), .alloc 2 1 [.emp 4, .emp 5, .emp 9, pz]] [1,2])
(.seq (pr [.alloc 3 2 [.emp 4, .emp 5, .emp 9, pz]] [1,2,3])
(.seq (pr [.fld 4 (.s 1) 0, .load 5 false 1 (.s 4), .call 6 [3] (.f n_laws_toOpS) [.s 5], .fld 7 (.s 3) 0, .store 1 (.s 7) (.s 6)] [1,2,3])
(.seq (pr [.fld 8 (.s 1) 1, .load 9 false 1 (.s 8), .call 10 [4] (.f n_laws_toEntryS) [.s 9], .fld 11 (.s 3) 1, .store 1 (.s 11) (.s 10)] [1,2,3])
(.seq (pr [.fld 12 (.s 1) 2, .load 13 false 1 (.s 12), .call 14 [5] (.f n_laws_toCaptureS) [.s 13], .fld 15 (.s 3) 2, .store 1 (.s 15) (.s 14)] [1,2,3])
(.seq (pr [.fld 16 (.s 1) 3, .load 17 false 1 (.s 16), .fld 18 (.s 3) 3, .store 1 (.s 18) (.s 17)] [2,3])
(.seq (pr [.load 19 true 4 (.s 3), .store 4 (.s 2) (.s 19)] [2])
.ret)))))))
theorem c_laws_toContainer (x : GContainer) (hs : x.size ≤ 1073741824) : Ctr Tryz.prog n_laws_toContainer [aS x.enc] [rS x.enc] := by
 refine cA m_laws_toContainer 6 20 [(.cell 2 true 4, [true, true, true, false])] Tryz.func268 rfl rfl ?_; unfold m_laws_toContainer
 intro hb
 simp only [GContainer.size] at hs
 simp only [↓reduceIte, go_sem]
 refine callK_of (c_laws_toOpS x.Script (by omega)) ?_
 simp only [↓reduceIte, go_sem]
 try intros
 refine callK_of (c_laws_toEntryS x.Entries (by omega)) ?_
 simp only [↓reduceIte, go_sem]
 try intros
 refine callK_of (c_laws_toCaptureS x.Captures (by omega)) ?_
 simp only [↓reduceIte, go_sem]
 try intros
def m_laws_eqContainer : MC :=
(.seq (pr [.box 2 0 (.s 0), .box 3 1 (.s 1), .mv 4 cF] [2,3])
(.seq (.seq (pr [.fld 5 (.s 2) 0, .load 6 false 1 (.s 5), .fld 7 (.s 3) 0, .load 8 false 1 (.s 7), .call 9 [] (.f n_laws_eqOpS) [.s 6, .s 8], .un 10 .not (.s 9)] [2,3,10])
(.cond (.s 10) (.seq (pr [.mv 4 cF] [4])
.ret) .skip))
(.seq (.seq (pr [.fld 11 (.s 2) 1, .load 12 false 1 (.s 11), .fld 13 (.s 3) 1, .load 14 false 1 (.s 13), .call 15 [] (.f n_laws_eqEntryS) [.s 12, .s 14], .un 16 .not (.s 15)] [2,3,16])
(.cond (.s 16) (.seq (pr [.mv 4 cF] [4])
.ret) .skip))
(.seq (.seq (pr [.fld 17 (.s 2) 2, .load 18 false 1 (.s 17), .fld 19 (.s 3) 2, .load 20 false 1 (.s 19), .call 21 [] (.f n_laws_eqCaptureS) [.s 18, .s 20], .un 22 .not (.s 21)] [2,3,22])
(.cond (.s 22) (.seq (pr [.mv 4 cF] [4])
.ret) .skip))
(.seq (.seq (pr [.fld 23 (.s 2) 3, .load 24 false 1 (.s 23), .fld 25 (.s 3) 3, .load 26 false 1 (.s 25), .bin 27 false .neq (.s 24) (.s 26)] [27])
(.cond (.s 27) (.seq (pr [.mv 4 cF] [4])
.ret) .skip))
(.seq (pr [.mv 4 cT] [4])
.ret))))))
theorem c_laws_eqContainer (x y : GContainer) : Ctr Tryz.prog n_laws_eqContainer [aS x.enc, aS y.enc] [rB (decide (x = y))] := by
 refine cA m_laws_eqContainer 2 28 [(.tmp 4, [false])] Tryz.func274 rfl rfl ?_; unfold m_laws_eqContainer
 intro hb
 clear hb
 simp only [↓reduceIte, go_sem]
 refine callK_of (c_laws_eqOpS x.Script y.Script) ?_
 simp only [↓reduceIte, go_sem]
 refine ⟨fun h => ?_, fun h_Script => ?_⟩
 ·symm
  rw [decide_eq_false_iff_not]
  rintro rfl
  exact h rfl
 refine callK_of (c_laws_eqEntryS x.Entries y.Entries) ?_
 simp only [↓reduceIte, go_sem]
 refine ⟨fun h => ?_, fun h_Entries => ?_⟩
 ·symm
  rw [decide_eq_false_iff_not]
  rintro rfl
  exact h rfl
 refine callK_of (c_laws_eqCaptureS x.Captures y.Captures) ?_
 simp only [↓reduceIte, go_sem]
 refine ⟨fun h => ?_, fun h_Captures => ?_⟩
 ·symm
  rw [decide_eq_false_iff_not]
  rintro rfl
  exact h rfl
 refine ⟨fun h => ?_, fun h_Root => ?_⟩
 ·symm
  rw [decide_eq_false_iff_not]
  rintro rfl
  exact h rfl
 cases x; cases y; simp_all
def m_laws_szContainerS : MC :=
(.seq (pr [.mv 4 (ci 0)] [0,1])
(.seq (pr [.mv 6 (.s 1), .mv 7 (.s 0), .len 8 false (.s 7), .bin 9 false .sub (.s 6) (.s 8), .mv 1 (.s 9)] [0,1])
(.seq (.seq (pr [.mv 10 (.s 1), .bin 11 false .lss (.s 10) (ci 0)] [0,1,11])
(.cond (.s 11) (.seq (pr [.mv 4 (.c (.int .i64 (-1)))] [4])
.ret) .skip))
(.seq (.seq (pr [.mv 5 (ci 0)] [0,1,5])
(.block 0 (.loop ([0,1,5], []) (.seq (.seq (pr [.mv 12 (.s 5), .mv 13 (.s 0), .len 14 false (.s 13), .bin 15 false .lss (.s 12) (.s 14)] [0,1,5,15])
(.cond (.s 15) .skip (.exit 0)))
(.seq (.block 1 (.seq (pr [.mv 18 (.s 0), .mv 19 (.s 5), .idx 20 4 (.s 18) (.s 19), .load 21 true 4 (.s 20), .mv 22 (.s 1), .call 23 [] (.f n_laws_szContainer) [.s 21, .s 22], .mv 1 (.s 23)] [0,1,5])
(.seq (pr [.mv 24 (.s 1), .bin 25 false .lss (.s 24) (ci 0)] [0,1,5,25])
(.cond (.s 25) (.seq (pr [.mv 4 (.c (.int .i64 (-1)))] [4])
.ret) .skip))))
(pr [.mv 16 (.s 5), .bin 17 false .add (.s 16) (ci 1), .mv 5 (.s 17)] [0,1,5]))))))
(.seq (pr [.mv 26 (.s 1), .mv 4 (.s 26)] [4])
.ret)))))
theorem c_laws_szContainerS (xs : List GContainer) (left : Int) (h0 : 0 ≤ left) : Ctr Tryz.prog n_laws_szContainerS [aL 4 (xs.map GContainer.enc), aI left] [rI (szr (xs.length + (xs.map GContainer.size).sum) left)] := by
 refine cA m_laws_szContainerS 0 27 [(.tmp 4, [false])] Tryz.func137 rfl rfl ?_; unfold m_laws_szContainerS
 intro hb
 simp only [bdA, bdL, bdT, bdR, bdR_map, wfB_i64, wfB_bool, wfB_str, roomB, and_true, true_and, List.length_map] at hb
 obtain ⟨⟨hl, -⟩, hn⟩ := hb
 simp only [↓reduceIte, go_sem]
 rw [wI (by omega) (by omega)]
 refine ⟨fun h => ?_, fun h => ?_⟩
 ·exact szr_bad' (n := xs.length) h0 ((szr_neg h0).2 (by omega)) (by omega)
 ·have hz : szr xs.length left = left - xs.length := by unfold szr; rw [if_pos (by omega)]
  rw [← hz] at h ⊢
  refine loopK_rng xs (fun k => [(1, vI (szr (xs.length + ((xs.take k).map GContainer.size).sum) left)), (5, vI k)]) (fun k => []) (fun k => ¬ szr (xs.length + ((xs.take k).map GContainer.size).sum) left < 0) hl ?_
  simp only [↓reduceIte, go_sem]
  refine ⟨?_, by simpa using h, ?_, ?_⟩
  ·simp only [↓reduceIte, go_sem, List.take_zero, List.map_nil, List.sum_nil, Nat.add_zero]
   all_goals rfl
  ·intro k x hx hs hk0 h1 hw
   obtain ⟨a1, a2, a3⟩ := szr_add (m := x.size) h0 hs
   rw [Nat.add_assoc, ← sum_snoc hx] at a3
   simp only [↓reduceIte, go_sem, bk_eq hx, hk0, h1, hw]
   refine callK_of (c_laws_szContainer x _ a1) ?_
   rw [← a3]
   simp only [↓reduceIte, go_sem, hw]
   intro _
   refine ⟨fun hn => ?_, fun hn => hn⟩
   have := sum_take_le (f := GContainer.size) xs (k + 1)
   exact szr_bad' h0 hn (by omega)
  ·intro _
   simp only [↓reduceIte, go_sem, List.take_length]
def m_laws_toContainerS : MC :=
(.seq (pr [.nilo 2 0 4] [0])
(.seq (pr [.mv 5 (.s 0), .len 6 false (.s 5), .mk 7 0 4 80 [.sl 4 [], .sl 5 [], .sl 9 [], .sc (.int .i64 0)] (.s 6), .mv 3 (.s 7)] [0,3])
(.seq (.seq (pr [.mv 4 (ci 0)] [0,3,4])
(.block 0 (.loop ([0,3,4], [1,2,3]) (.seq (.seq (pr [.mv 8 (.s 4), .mv 9 (.s 0), .len 10 false (.s 9), .bin 11 false .lss (.s 8) (.s 10)] [0,3,4,11])
(.cond (.s 11) .skip (.exit 0)))
(.seq (.block 1 (pr [.mv 14 (.s 3), .mv 15 (.s 4), .mv 16 (.s 0), .mv 17 (.s 4), .idx 18 4 (.s 16) (.s 17), .load 19 true 4 (.s 18), .call 20 [1, 2, 3] (.f n_laws_toContainer) [.s 19], .idx 21 4 (.s 14) (.s 15), .store 4 (.s 21) (.s 20)] [0,3,4]))
(pr [.mv 12 (.s 4), .bin 13 false .add (.s 12) (ci 1), .mv 4 (.s 13)] [0,3,4]))))))
(.seq (pr [.mv 22 (.s 3), .mv 2 (.s 22)] [2])
.ret))))
theorem c_laws_toContainerS (xs : List GContainer) (hs : xs.length + (xs.map GContainer.size).sum ≤ 1073741824) : Ctr Tryz.prog n_laws_toContainerS [aL 4 (xs.map GContainer.enc)] [rL 4 (xs.map GContainer.enc)] := by
 refine cA m_laws_toContainerS 4 23 [(.tmp 2, [true])] Tryz.func143 rfl rfl ?_; unfold m_laws_toContainerS
 intro hb
 simp only [↓reduceIte, go_sem, replicate_toNat]
 refine ⟨⟨by omega, by simp only [roomB]; omega⟩, ?_⟩
 refine loopK_rng xs (fun k => [(4, vI k)]) (fun k => [(0, ⟨0, .row true 4 (filled GContainer.enc [.sl 4 [], .sl 5 [], .sl 9 [], tI 0] xs k)⟩)]) (fun _ => True) (by simp only [roomB]; omega) ?_
 simp only [↓reduceIte, go_sem]
 refine ⟨?_, trivial, ?_, ?_⟩
 ·simp only [↓reduceIte, go_sem, filled_zero]
  all_goals rfl
 ·intro k x hx _ h0 h1 hw
  have h : k < xs.length := by omega
  simp only [↓reduceIte, go_sem, bk_eq hx, bk_eq (filled_get h), filled_len (Nat.le_of_lt h), h0, h1, hw]
  have hx1 := mem_sum (f := GContainer.size) (at_mem hx)
  refine callK_of (c_laws_toContainer x (by omega)) ?_
  simp only [↓reduceIte, go_sem, bk_eq hx, bk_eq (filled_get h), filled_len (Nat.le_of_lt h), h0, h1, hw]
  intros; exact filled_set hx
 ·intro _
  simp only [↓reduceIte, go_sem, filled_all]
def m_laws_eqContainerS : MC :=
(.seq (pr [.mv 4 cF] [0,1])
(.seq (.seq (pr [.mv 6 (.s 0), .len 7 false (.s 6), .mv 8 (.s 1), .len 9 false (.s 8), .bin 10 false .neq (.s 7) (.s 9)] [0,1,10])
(.cond (.s 10) (.seq (pr [.mv 4 cF] [4])
.ret) .skip))
(.seq (.seq (pr [.mv 5 (ci 0)] [0,1,5])
(.block 0 (.loop ([0,1,5], []) (.seq (.seq (pr [.mv 11 (.s 5), .mv 12 (.s 0), .len 13 false (.s 12), .bin 14 false .lss (.s 11) (.s 13)] [0,1,5,14])
(.cond (.s 14) .skip (.exit 0)))
(.seq (.block 1 (.seq (.dreg [Zc [18,21,22,23,24] (.mv 17 (.s 0)), Zc [17,21,22,23,24] (.mv 18 (.s 5)), Zd [21,22,23,24] [0,1] (.idx 19 4 (.s 17) (.s 18)), Zd [21,22,23,24] [0,1,2] (.load 20 true 4 (.s 19)), Zc [17,18,19,20,22] (.mv 21 (.s 1)), Zc [17,18,19,20,21] (.mv 22 (.s 5)), Zd [17,18,19,20] [4,5] (.idx 23 4 (.s 21) (.s 22)), Zd [17,18,19,20] [4,5,6] (.load 24 true 4 (.s 23)), Ze (.range 8) (.call 25 [] (.f n_laws_eqContainer) [.s 20, .s 24]), Ze (.range 9) (.un 26 .not (.s 25))] [0,1,5,26])
(.cond (.s 26) (.seq (pr [.mv 4 cF] [4])
.ret) .skip)))
(pr [.mv 15 (.s 5), .bin 16 false .add (.s 15) (ci 1), .mv 5 (.s 16)] [0,1,5]))))))
(.seq (pr [.mv 4 cT] [4])
.ret))))
theorem c_laws_eqContainerS (xs ys : List GContainer) : Ctr Tryz.prog n_laws_eqContainerS [aL 4 (xs.map GContainer.enc), aL 4 (ys.map GContainer.enc)] [rB (decide (xs = ys))] := by
 refine cA m_laws_eqContainerS 0 27 [(.tmp 4, [false])] Tryz.func156 rfl rfl ?_; unfold m_laws_eqContainerS
 intro hb
 simp only [bdA, bdL, bdT, bdR, bdR_map, wfB_i64, wfB_bool, wfB_str, roomB, and_true, true_and, List.length_map] at hb
 obtain ⟨⟨hl, -⟩, ⟨hl2, -⟩⟩ := hb
 simp only [↓reduceIte, go_sem]
 refine ⟨fun h => ne_len h, fun h => ?_⟩
 have hle : xs.length = ys.length := by omega
 refine loopK_rng xs (fun k => [(5, vI k)]) (fun k => []) (fun k => xs.take k = ys.take k) hl ?_
 simp only [↓reduceIte, go_sem]
 refine ⟨?_, rfl, ?_, ?_⟩
 ·simp only [↓reduceIte, go_sem]
 ·intro k x hx he h0 h1 hw
  obtain ⟨y, hy⟩ := at_some (show k < ys.length by omega)
  have h2 : (k : Int) < ys.length := by omega
  simp only [↓reduceIte, go_sem, bk_eq hx, bk_eq hy, h0, h1, h2, hw]
  refine callK_of (c_laws_eqContainer x y) ?_
  simp only [↓reduceIte, go_sem, hw]
  exact ⟨fun hn => ne_at hx hy hn, fun hn => (take_eq_step hx hy he).2 hn⟩
 ·intro he
  simp only [↓reduceIte, go_sem]
  exact eq_all he hle
def m_laws_toFound : MC :=
(.seq (pr [.box 1 0 (.s 0), .alloc 2 1 [pz, pz, pz, pz, pz, pz]] [1,2])
(.seq (pr [.alloc 3 2 [pz, pz, pz, pz, pz, pz]] [1,2,3])
(.seq (pr [.fld 4 (.s 1) 0, .load 5 true 3 (.s 4), .call 6 [] (.f n_laws_toAddress) [.s 5], .fld 7 (.s 3) 0, .store 3 (.s 7) (.s 6)] [1,2,3])
(.seq (pr [.fld 8 (.s 1) 3, .load 9 false 1 (.s 8), .fld 10 (.s 3) 3, .store 1 (.s 10) (.s 9)] [1,2,3])
(.seq (pr [.fld 11 (.s 1) 4, .load 12 false 1 (.s 11), .fld 13 (.s 3) 4, .store 1 (.s 13) (.s 12)] [1,2,3])
(.seq (pr [.fld 14 (.s 1) 5, .load 15 false 1 (.s 14), .fld 16 (.s 3) 5, .store 1 (.s 16) (.s 15)] [2,3])
(.seq (pr [.load 17 true 6 (.s 3), .store 6 (.s 2) (.s 17)] [2])
.ret)))))))
theorem c_laws_toFound (x : GFound) : Ctr Tryz.prog n_laws_toFound [aS x.enc] [rS x.enc] := by
 refine cA m_laws_toFound 3 18 [(.cell 2 true 6, [false, false, false, false, false, false])] Tryz.func269 rfl rfl ?_; unfold m_laws_toFound
 intro hb
 simp only [↓reduceIte, go_sem]
 refine callK_of (c_laws_toAddress x.Address) ?_
 simp only [↓reduceIte, go_sem]
 try intros
def m_laws_eqFound : MC :=
(.seq (pr [.box 2 0 (.s 0), .box 3 1 (.s 1), .mv 4 cF] [2,3])
(.seq (.seq (pr [.fld 5 (.s 2) 0, .load 6 true 3 (.s 5), .fld 7 (.s 3) 0, .load 8 true 3 (.s 7), .call 9 [] (.f n_laws_eqAddress) [.s 6, .s 8], .un 10 .not (.s 9)] [2,3,10])
(.cond (.s 10) (.seq (pr [.mv 4 cF] [4])
.ret) .skip))
(.seq (.seq (pr [.fld 11 (.s 2) 3, .load 12 false 1 (.s 11), .fld 13 (.s 3) 3, .load 14 false 1 (.s 13), .bin 15 false .neq (.s 12) (.s 14)] [2,3,15])
(.cond (.s 15) (.seq (pr [.mv 4 cF] [4])
.ret) .skip))
(.seq (.seq (pr [.fld 16 (.s 2) 4, .load 17 false 1 (.s 16), .fld 18 (.s 3) 4, .load 19 false 1 (.s 18), .bin 20 false .neq (.s 17) (.s 19)] [2,3,20])
(.cond (.s 20) (.seq (pr [.mv 4 cF] [4])
.ret) .skip))
(.seq (.seq (pr [.fld 21 (.s 2) 5, .load 22 false 1 (.s 21), .fld 23 (.s 3) 5, .load 24 false 1 (.s 23), .bin 25 false .neq (.s 22) (.s 24)] [25])
(.cond (.s 25) (.seq (pr [.mv 4 cF] [4])
.ret) .skip))
(.seq (pr [.mv 4 cT] [4])
.ret))))))
theorem c_laws_eqFound (x y : GFound) : Ctr Tryz.prog n_laws_eqFound [aS x.enc, aS y.enc] [rB (decide (x = y))] := by
 refine cA m_laws_eqFound 2 26 [(.tmp 4, [false])] Tryz.func275 rfl rfl ?_; unfold m_laws_eqFound
 intro hb
 clear hb
 simp only [↓reduceIte, go_sem]
 refine callK_of (c_laws_eqAddress x.Address y.Address) ?_
 simp only [↓reduceIte, go_sem]
 refine ⟨fun h => ?_, fun h_Address => ?_⟩
 ·symm
  rw [decide_eq_false_iff_not]
  rintro rfl
  exact h rfl
 refine ⟨fun h => ?_, fun h_Tick => ?_⟩
 ·symm
  rw [decide_eq_false_iff_not]
  rintro rfl
  exact h rfl
 refine ⟨fun h => ?_, fun h_Container => ?_⟩
 ·symm
  rw [decide_eq_false_iff_not]
  rintro rfl
  exact h rfl
 refine ⟨fun h => ?_, fun h_At => ?_⟩
 ·symm
  rw [decide_eq_false_iff_not]
  rintro rfl
  exact h rfl
 cases x; cases y; simp_all
def m_laws_szFoundS : MC :=
(.seq (pr [.mv 4 (ci 0)] [0,1])
(.seq (pr [.mv 5 (.s 1), .mv 6 (.s 0), .len 7 false (.s 6), .bin 8 false .sub (.s 5) (.s 7), .mv 1 (.s 8)] [1])
(.seq (.seq (pr [.mv 9 (.s 1), .bin 10 false .lss (.s 9) (ci 0)] [1,10])
(.cond (.s 10) (.seq (pr [.mv 4 (.c (.int .i64 (-1)))] [4])
.ret) .skip))
(.seq (pr [.mv 11 (.s 1), .mv 4 (.s 11)] [4])
.ret))))
theorem c_laws_szFoundS (xs : List GFound) (left : Int) (h0 : 0 ≤ left) : Ctr Tryz.prog n_laws_szFoundS [aL 6 (xs.map GFound.enc), aI left] [rI (szr xs.length left)] := by
 refine cA m_laws_szFoundS 0 12 [(.tmp 4, [false])] Tryz.func138 rfl rfl ?_; unfold m_laws_szFoundS
 intro hb
 simp only [bdA, bdL, bdT, bdR, bdR_map, wfB_i64, wfB_bool, wfB_str, roomB, and_true, true_and, List.length_map] at hb
 obtain ⟨⟨hl, -⟩, hn⟩ := hb
 simp only [↓reduceIte, go_sem]
 rw [wI (by omega) (by omega)]
 unfold szr
 refine ⟨fun h => ?_, fun h => ?_⟩
 ·rw [if_neg (by omega)]
 ·rw [if_pos (by omega)]
def m_laws_toFoundS : MC :=
(.seq (pr [.nilo 2 0 6] [0])
(.seq (pr [.mv 5 (.s 0), .len 6 false (.s 5), .mk 7 0 6 48 [.sc (.int .i64 0), .sc (.int .i64 0), .sc (.int .i64 0), .sc (.int .i64 0), .sc (.int .i64 0), .sc (.int .i64 0)] (.s 6), .mv 3 (.s 7)] [0,3])
(.seq (.seq (pr [.mv 4 (ci 0)] [0,3,4])
(.block 0 (.loop ([0,3,4], []) (.seq (.seq (pr [.mv 8 (.s 4), .mv 9 (.s 0), .len 10 false (.s 9), .bin 11 false .lss (.s 8) (.s 10)] [0,3,4,11])
(.cond (.s 11) .skip (.exit 0)))
(.seq (.block 1 (pr [.mv 14 (.s 3), .mv 15 (.s 4), .mv 16 (.s 0), .mv 17 (.s 4), .idx 18 6 (.s 16) (.s 17), .load 19 true 6 (.s 18), .call 20 [] (.f n_laws_toFound) [.s 19], .idx 21 6 (.s 14) (.s 15), .store 6 (.s 21) (.s 20)] [0,3,4]))
(pr [.mv 12 (.s 4), .bin 13 false .add (.s 12) (ci 1), .mv 4 (.s 13)] [0,3,4]))))))
(.seq (pr [.mv 22 (.s 3), .mv 2 (.s 22)] [2])
.ret))))
theorem c_laws_toFoundS (xs : List GFound) (hs : xs.length ≤ 1073741824) : Ctr Tryz.prog n_laws_toFoundS [aL 6 (xs.map GFound.enc)] [rL 6 (xs.map GFound.enc)] := by
 refine cA m_laws_toFoundS 1 23 [(.tmp 2, [true])] Tryz.func144 rfl rfl ?_; unfold m_laws_toFoundS
 intro hb
 simp only [↓reduceIte, go_sem, replicate_toNat]
 refine ⟨⟨by omega, by simp only [roomB]; omega⟩, ?_⟩
 refine loopK_rng xs (fun k => [(4, vI k)]) (fun k => [(0, ⟨0, .row true 6 (filled GFound.enc [tI 0, tI 0, tI 0, tI 0, tI 0, tI 0] xs k)⟩)]) (fun _ => True) (by simp only [roomB]; omega) ?_
 simp only [↓reduceIte, go_sem]
 refine ⟨?_, trivial, ?_, ?_⟩
 ·simp only [↓reduceIte, go_sem, filled_zero]
  all_goals rfl
 ·intro k x hx _ h0 h1 hw
  have h : k < xs.length := by omega
  simp only [↓reduceIte, go_sem, bk_eq hx, bk_eq (filled_get h), filled_len (Nat.le_of_lt h), h0, h1, hw]
  refine callK_of (c_laws_toFound x) ?_
  simp only [↓reduceIte, go_sem, bk_eq hx, bk_eq (filled_get h), filled_len (Nat.le_of_lt h), h0, h1, hw]
  intros; exact filled_set hx
 ·intro _
  simp only [↓reduceIte, go_sem, filled_all]
def m_laws_eqFoundS : MC :=
(.seq (pr [.mv 4 cF] [0,1])
(.seq (.seq (pr [.mv 6 (.s 0), .len 7 false (.s 6), .mv 8 (.s 1), .len 9 false (.s 8), .bin 10 false .neq (.s 7) (.s 9)] [0,1,10])
(.cond (.s 10) (.seq (pr [.mv 4 cF] [4])
.ret) .skip))
(.seq (.seq (pr [.mv 5 (ci 0)] [0,1,5])
(.block 0 (.loop ([0,1,5], []) (.seq (.seq (pr [.mv 11 (.s 5), .mv 12 (.s 0), .len 13 false (.s 12), .bin 14 false .lss (.s 11) (.s 13)] [0,1,5,14])
(.cond (.s 14) .skip (.exit 0)))
(.seq (.block 1 (.seq (.dreg [Zc [18,21,22,23,24] (.mv 17 (.s 0)), Zc [17,21,22,23,24] (.mv 18 (.s 5)), Zd [21,22,23,24] [0,1] (.idx 19 6 (.s 17) (.s 18)), Zd [21,22,23,24] [0,1,2] (.load 20 true 6 (.s 19)), Zc [17,18,19,20,22] (.mv 21 (.s 1)), Zc [17,18,19,20,21] (.mv 22 (.s 5)), Zd [17,18,19,20] [4,5] (.idx 23 6 (.s 21) (.s 22)), Zd [17,18,19,20] [4,5,6] (.load 24 true 6 (.s 23)), Ze (.range 8) (.call 25 [] (.f n_laws_eqFound) [.s 20, .s 24]), Ze (.range 9) (.un 26 .not (.s 25))] [0,1,5,26])
(.cond (.s 26) (.seq (pr [.mv 4 cF] [4])
.ret) .skip)))
(pr [.mv 15 (.s 5), .bin 16 false .add (.s 15) (ci 1), .mv 5 (.s 16)] [0,1,5]))))))
(.seq (pr [.mv 4 cT] [4])
.ret))))
theorem c_laws_eqFoundS (xs ys : List GFound) : Ctr Tryz.prog n_laws_eqFoundS [aL 6 (xs.map GFound.enc), aL 6 (ys.map GFound.enc)] [rB (decide (xs = ys))] := by
 refine cA m_laws_eqFoundS 0 27 [(.tmp 4, [false])] Tryz.func157 rfl rfl ?_; unfold m_laws_eqFoundS
 intro hb
 simp only [bdA, bdL, bdT, bdR, bdR_map, wfB_i64, wfB_bool, wfB_str, roomB, and_true, true_and, List.length_map] at hb
 obtain ⟨⟨hl, -⟩, ⟨hl2, -⟩⟩ := hb
 simp only [↓reduceIte, go_sem]
 refine ⟨fun h => ne_len h, fun h => ?_⟩
 have hle : xs.length = ys.length := by omega
 refine loopK_rng xs (fun k => [(5, vI k)]) (fun k => []) (fun k => xs.take k = ys.take k) hl ?_
 simp only [↓reduceIte, go_sem]
 refine ⟨?_, rfl, ?_, ?_⟩
 ·simp only [↓reduceIte, go_sem]
 ·intro k x hx he h0 h1 hw
  obtain ⟨y, hy⟩ := at_some (show k < ys.length by omega)
  have h2 : (k : Int) < ys.length := by omega
  simp only [↓reduceIte, go_sem, bk_eq hx, bk_eq hy, h0, h1, h2, hw]
  refine callK_of (c_laws_eqFound x y) ?_
  simp only [↓reduceIte, go_sem, hw]
  exact ⟨fun hn => ne_at hx hy hn, fun hn => (take_eq_step hx hy he).2 hn⟩
 ·intro he
  simp only [↓reduceIte, go_sem]
  exact eq_all he hle
def m_laws_szDisk : MC :=
(.seq (pr [.box 2 0 (.s 0), .mv 4 (ci 0)] [1,2])
(.seq (pr [.fld 5 (.s 2) 0, .load 6 false 1 (.s 5), .mv 7 (.s 1), .call 8 [] (.f n_laws_szContainerS) [.s 6, .s 7], .mv 1 (.s 8)] [1,2])
(.seq (.seq (pr [.mv 9 (.s 1), .bin 10 false .lss (.s 9) (ci 0)] [1,2,10])
(.cond (.s 10) (.seq (pr [.mv 4 (.c (.int .i64 (-1)))] [4])
.ret) .skip))
(.seq (pr [.fld 11 (.s 2) 1, .load 12 false 1 (.s 11), .mv 13 (.s 1), .call 14 [] (.f n_laws_szFoundS) [.s 12, .s 13], .mv 1 (.s 14)] [1,2])
(.seq (.seq (pr [.mv 15 (.s 1), .bin 16 false .lss (.s 15) (ci 0)] [1,2,16])
(.cond (.s 16) (.seq (pr [.mv 4 (.c (.int .i64 (-1)))] [4])
.ret) .skip))
(.seq (pr [.fld 17 (.s 2) 2, .load 18 false 1 (.s 17), .mv 19 (.s 1), .call 20 [] (.f n_laws_szContainerS) [.s 18, .s 19], .mv 1 (.s 20)] [1])
(.seq (.seq (pr [.mv 21 (.s 1), .bin 22 false .lss (.s 21) (ci 0)] [1,22])
(.cond (.s 22) (.seq (pr [.mv 4 (.c (.int .i64 (-1)))] [4])
.ret) .skip))
(.seq (pr [.mv 23 (.s 1), .mv 4 (.s 23)] [4])
.ret))))))))
theorem c_laws_szDisk (x : GDisk) (left : Int) (h0 : 0 ≤ left) : Ctr Tryz.prog n_laws_szDisk [aS x.enc, aI left] [rI (szr x.size left)] := by
 refine cA m_laws_szDisk 1 24 [(.tmp 4, [false])] Tryz.func52 rfl rfl ?_; unfold m_laws_szDisk
 intro hb
 simp only [↓reduceIte, go_sem]
 refine callK_of (c_laws_szContainerS x.Containers left h0) ?_
 simp only [↓reduceIte, go_sem]
 intro _
 refine ⟨fun h => szr_bad' h0 h (by simp only [GDisk.size]; omega), fun h1 => ?_⟩
 obtain ⟨a1, b1, e1⟩ := szr_add (m := x.Index.length) h0 h1
 refine callK_of (c_laws_szFoundS x.Index _ a1) ?_
 rw [← e1]
 simp only [↓reduceIte, go_sem]
 intro _
 refine ⟨fun h => szr_bad' h0 h (by simp only [GDisk.size]; omega), fun h2 => ?_⟩
 obtain ⟨a2, b2, e2⟩ := szr_add (m := x.Wanted.length + (x.Wanted.map GContainer.size).sum) h0 h2
 refine callK_of (c_laws_szContainerS x.Wanted _ a2) ?_
 rw [← e2]
 simp only [↓reduceIte, go_sem]
 intro _
 refine ⟨fun h => szr_bad' h0 h (by simp only [GDisk.size]; omega), fun h3 => ?_⟩
 rfl
def m_laws_toDisk : MC :=
(.seq (pr [.box 1 0 (.s 0), .alloc 2 1 [.emp 4, .emp 6, .emp 4]] [1,2])
(.seq (pr [.alloc 3 2 [.emp 4, .emp 6, .emp 4]] [1,2,3])
(.seq (pr [.fld 4 (.s 1) 0, .load 5 false 1 (.s 4), .call 6 [3] (.f n_laws_toContainerS) [.s 5], .fld 7 (.s 3) 0, .store 1 (.s 7) (.s 6)] [1,2,3])
(.seq (pr [.fld 8 (.s 1) 1, .load 9 false 1 (.s 8), .call 10 [4] (.f n_laws_toFoundS) [.s 9], .fld 11 (.s 3) 1, .store 1 (.s 11) (.s 10)] [1,2,3])
(.seq (pr [.fld 12 (.s 1) 2, .load 13 false 1 (.s 12), .call 14 [5] (.f n_laws_toContainerS) [.s 13], .fld 15 (.s 3) 2, .store 1 (.s 15) (.s 14)] [2,3])
(.seq (pr [.load 16 true 3 (.s 3), .store 3 (.s 2) (.s 16)] [2])
.ret))))))
theorem c_laws_toDisk (x : GDisk) (hs : x.size ≤ 1073741824) : Ctr Tryz.prog n_laws_toDisk [aS x.enc] [rS x.enc] := by
 refine cA m_laws_toDisk 6 17 [(.cell 2 true 3, [true, true, true])] Tryz.func61 rfl rfl ?_; unfold m_laws_toDisk
 intro hb
 simp only [GDisk.size] at hs
 simp only [↓reduceIte, go_sem]
 refine callK_of (c_laws_toContainerS x.Containers (by omega)) ?_
 simp only [↓reduceIte, go_sem]
 try intros
 refine callK_of (c_laws_toFoundS x.Index (by omega)) ?_
 simp only [↓reduceIte, go_sem]
 try intros
 refine callK_of (c_laws_toContainerS x.Wanted (by omega)) ?_
 simp only [↓reduceIte, go_sem]
 try intros
def m_laws_eqDisk : MC :=
(.seq (pr [.box 2 0 (.s 0), .box 3 1 (.s 1), .mv 4 cF] [2,3])
(.seq (.seq (pr [.fld 5 (.s 2) 0, .load 6 false 1 (.s 5), .fld 7 (.s 3) 0, .load 8 false 1 (.s 7), .call 9 [] (.f n_laws_eqContainerS) [.s 6, .s 8], .un 10 .not (.s 9)] [2,3,10])
(.cond (.s 10) (.seq (pr [.mv 4 cF] [4])
.ret) .skip))
(.seq (.seq (pr [.fld 11 (.s 2) 1, .load 12 false 1 (.s 11), .fld 13 (.s 3) 1, .load 14 false 1 (.s 13), .call 15 [] (.f n_laws_eqFoundS) [.s 12, .s 14], .un 16 .not (.s 15)] [2,3,16])
(.cond (.s 16) (.seq (pr [.mv 4 cF] [4])
.ret) .skip))
(.seq (.seq (pr [.fld 17 (.s 2) 2, .load 18 false 1 (.s 17), .fld 19 (.s 3) 2, .load 20 false 1 (.s 19), .call 21 [] (.f n_laws_eqContainerS) [.s 18, .s 20], .un 22 .not (.s 21)] [22])
(.cond (.s 22) (.seq (pr [.mv 4 cF] [4])
.ret) .skip))
(.seq (pr [.mv 4 cT] [4])
.ret)))))
theorem c_laws_eqDisk (x y : GDisk) : Ctr Tryz.prog n_laws_eqDisk [aS x.enc, aS y.enc] [rB (decide (x = y))] := by
 refine cA m_laws_eqDisk 2 23 [(.tmp 4, [false])] Tryz.func71 rfl rfl ?_; unfold m_laws_eqDisk
 intro hb
 clear hb
 simp only [↓reduceIte, go_sem]
 refine callK_of (c_laws_eqContainerS x.Containers y.Containers) ?_
 simp only [↓reduceIte, go_sem]
 refine ⟨fun h => ?_, fun h_Containers => ?_⟩
 ·symm
  rw [decide_eq_false_iff_not]
  rintro rfl
  exact h rfl
 refine callK_of (c_laws_eqFoundS x.Index y.Index) ?_
 simp only [↓reduceIte, go_sem]
 refine ⟨fun h => ?_, fun h_Index => ?_⟩
 ·symm
  rw [decide_eq_false_iff_not]
  rintro rfl
  exact h rfl
 refine callK_of (c_laws_eqContainerS x.Wanted y.Wanted) ?_
 simp only [↓reduceIte, go_sem]
 refine ⟨fun h => ?_, fun h_Wanted => ?_⟩
 ·symm
  rw [decide_eq_false_iff_not]
  rintro rfl
  exact h rfl
 cases x; cases y; simp_all
def m_laws_szArchive : MC :=
(.seq (pr [.box 2 0 (.s 0), .mv 4 (ci 0)] [1,2])
(.seq (pr [.fld 5 (.s 2) 0, .load 6 false 1 (.s 5), .mv 7 (.s 1), .call 8 [] (.f n_laws_szVersionS) [.s 6, .s 7], .mv 1 (.s 8)] [1,2])
(.seq (.seq (pr [.mv 9 (.s 1), .bin 10 false .lss (.s 9) (ci 0)] [1,2,10])
(.cond (.s 10) (.seq (pr [.mv 4 (.c (.int .i64 (-1)))] [4])
.ret) .skip))
(.seq (pr [.fld 11 (.s 2) 1, .load 12 false 1 (.s 11), .mv 13 (.s 1), .call 14 [] (.f n_laws_szOpS) [.s 12, .s 13], .mv 1 (.s 14)] [1,2])
(.seq (.seq (pr [.mv 15 (.s 1), .bin 16 false .lss (.s 15) (ci 0)] [1,2,16])
(.cond (.s 16) (.seq (pr [.mv 4 (.c (.int .i64 (-1)))] [4])
.ret) .skip))
(.seq (pr [.fld 17 (.s 2) 2, .load 18 true 3 (.s 17), .mv 19 (.s 1), .call 20 [] (.f n_laws_szDisk) [.s 18, .s 19], .mv 1 (.s 20)] [1,2])
(.seq (.seq (pr [.mv 21 (.s 1), .bin 22 false .lss (.s 21) (ci 0)] [1,2,22])
(.cond (.s 22) (.seq (pr [.mv 4 (.c (.int .i64 (-1)))] [4])
.ret) .skip))
(.seq (pr [.fld 23 (.s 2) 5, .load 24 false 1 (.s 23), .mv 25 (.s 1), .call 26 [] (.f n_laws_szExclusionS) [.s 24, .s 25], .mv 1 (.s 26)] [1,2])
(.seq (.seq (pr [.mv 27 (.s 1), .bin 28 false .lss (.s 27) (ci 0)] [1,2,28])
(.cond (.s 28) (.seq (pr [.mv 4 (.c (.int .i64 (-1)))] [4])
.ret) .skip))
(.seq (pr [.fld 29 (.s 2) 6, .load 30 false 1 (.s 29), .mv 31 (.s 1), .call 32 [] (.f n_laws_szLibraryS) [.s 30, .s 31], .mv 1 (.s 32)] [1,2])
(.seq (.seq (pr [.mv 33 (.s 1), .bin 34 false .lss (.s 33) (ci 0)] [1,2,34])
(.cond (.s 34) (.seq (pr [.mv 4 (.c (.int .i64 (-1)))] [4])
.ret) .skip))
(.seq (pr [.fld 35 (.s 2) 7, .load 36 false 1 (.s 35), .mv 37 (.s 1), .call 38 [] (.f n_laws_szIntS) [.s 36, .s 37], .mv 1 (.s 38)] [1,2])
(.seq (.seq (pr [.mv 39 (.s 1), .bin 40 false .lss (.s 39) (ci 0)] [1,2,40])
(.cond (.s 40) (.seq (pr [.mv 4 (.c (.int .i64 (-1)))] [4])
.ret) .skip))
(.seq (pr [.fld 41 (.s 2) 8, .load 42 false 1 (.s 41), .mv 43 (.s 1), .call 44 [] (.f n_laws_szStatementS) [.s 42, .s 43], .mv 1 (.s 44)] [1])
(.seq (.seq (pr [.mv 45 (.s 1), .bin 46 false .lss (.s 45) (ci 0)] [1,46])
(.cond (.s 46) (.seq (pr [.mv 4 (.c (.int .i64 (-1)))] [4])
.ret) .skip))
(.seq (pr [.mv 47 (.s 1), .mv 4 (.s 47)] [4])
.ret))))))))))))))))
theorem c_laws_szArchive (x : GArchive) (left : Int) (h0 : 0 ≤ left) : Ctr Tryz.prog n_laws_szArchive [aS x.enc, aI left] [rI (szr x.size left)] := by
 refine cA m_laws_szArchive 1 48 [(.tmp 4, [false])] Tryz.func13 rfl rfl ?_; unfold m_laws_szArchive
 intro hb
 simp only [↓reduceIte, go_sem]
 refine callK_of (c_laws_szVersionS x.Site left h0) ?_
 simp only [↓reduceIte, go_sem]
 intro _
 refine ⟨fun h => szr_bad' h0 h (by simp only [GArchive.size]; omega), fun h1 => ?_⟩
 obtain ⟨a1, b1, e1⟩ := szr_add (m := x.Script.length) h0 h1
 refine callK_of (c_laws_szOpS x.Script _ a1) ?_
 rw [← e1]
 simp only [↓reduceIte, go_sem]
 intro _
 refine ⟨fun h => szr_bad' h0 h (by simp only [GArchive.size]; omega), fun h2 => ?_⟩
 obtain ⟨a2, b2, e2⟩ := szr_add (m := x.Disk.size) h0 h2
 refine callK_of (c_laws_szDisk x.Disk _ a2) ?_
 rw [← e2]
 simp only [↓reduceIte, go_sem]
 intro _
 refine ⟨fun h => szr_bad' h0 h (by simp only [GArchive.size]; omega), fun h3 => ?_⟩
 obtain ⟨a3, b3, e3⟩ := szr_add (m := x.Exclusions.length) h0 h3
 refine callK_of (c_laws_szExclusionS x.Exclusions _ a3) ?_
 rw [← e3]
 simp only [↓reduceIte, go_sem]
 intro _
 refine ⟨fun h => szr_bad' h0 h (by simp only [GArchive.size]; omega), fun h4 => ?_⟩
 obtain ⟨a4, b4, e4⟩ := szr_add (m := x.Libraries.length + (x.Libraries.map GLibrary.size).sum) h0 h4
 refine callK_of (c_laws_szLibraryS x.Libraries _ a4) ?_
 rw [← e4]
 simp only [↓reduceIte, go_sem]
 intro _
 refine ⟨fun h => szr_bad' h0 h (by simp only [GArchive.size]; omega), fun h5 => ?_⟩
 obtain ⟨a5, b5, e5⟩ := szr_add (m := x.Keys.length) h0 h5
 refine callK_of (c_laws_szIntS x.Keys _ a5) ?_
 rw [← e5]
 simp only [↓reduceIte, go_sem]
 intro _
 refine ⟨fun h => szr_bad' h0 h (by simp only [GArchive.size]; omega), fun h6 => ?_⟩
 obtain ⟨a6, b6, e6⟩ := szr_add (m := x.Statements.length) h0 h6
 refine callK_of (c_laws_szStatementS x.Statements _ a6) ?_
 rw [← e6]
 simp only [↓reduceIte, go_sem]
 intro _
 refine ⟨fun h => szr_bad' h0 h (by simp only [GArchive.size]; omega), fun h7 => ?_⟩
 rfl
def m_laws_toArchive : MC :=
(.seq (pr [.box 1 0 (.s 0), .alloc 2 1 [.emp 9, .emp 4, .emp 4, .emp 6, .emp 4, .emp 5, .emp 4, .emp 1, .emp 4, pz]] [1,2])
(.seq (pr [.alloc 3 2 [.emp 9, .emp 4, .emp 4, .emp 6, .emp 4, .emp 5, .emp 4, .emp 1, .emp 4, pz]] [1,2,3])
(.seq (pr [.fld 4 (.s 1) 0, .load 5 false 1 (.s 4), .call 6 [3] (.f n_laws_toVersionS) [.s 5], .fld 7 (.s 3) 0, .store 1 (.s 7) (.s 6)] [1,2,3])
(.seq (pr [.fld 8 (.s 1) 1, .load 9 false 1 (.s 8), .call 10 [4] (.f n_laws_toOpS) [.s 9], .fld 11 (.s 3) 1, .store 1 (.s 11) (.s 10)] [1,2,3])
(.seq (pr [.fld 12 (.s 1) 2, .load 13 true 3 (.s 12), .call 14 [5, 6, 7] (.f n_laws_toDisk) [.s 13], .fld 15 (.s 3) 2, .store 3 (.s 15) (.s 14)] [1,2,3])
(.seq (pr [.fld 16 (.s 1) 5, .load 17 false 1 (.s 16), .call 18 [8] (.f n_laws_toExclusionS) [.s 17], .fld 19 (.s 3) 5, .store 1 (.s 19) (.s 18)] [1,2,3])
(.seq (pr [.fld 20 (.s 1) 6, .load 21 false 1 (.s 20), .call 22 [9] (.f n_laws_toLibraryS) [.s 21], .fld 23 (.s 3) 6, .store 1 (.s 23) (.s 22)] [1,2,3])
(.seq (pr [.fld 24 (.s 1) 7, .load 25 false 1 (.s 24), .call 26 [10] (.f n_laws_toIntS) [.s 25], .fld 27 (.s 3) 7, .store 1 (.s 27) (.s 26)] [1,2,3])
(.seq (pr [.fld 28 (.s 1) 8, .load 29 false 1 (.s 28), .call 30 [11] (.f n_laws_toStatementS) [.s 29], .fld 31 (.s 3) 8, .store 1 (.s 31) (.s 30)] [1,2,3])
(.seq (pr [.fld 32 (.s 1) 9, .load 33 false 1 (.s 32), .fld 34 (.s 3) 9, .store 1 (.s 34) (.s 33)] [2,3])
(.seq (pr [.load 35 true 10 (.s 3), .store 10 (.s 2) (.s 35)] [2])
.ret)))))))))))
theorem c_laws_toArchive (x : GArchive) (hs : x.size ≤ 1073741824) : Ctr Tryz.prog n_laws_toArchive [aS x.enc] [rS x.enc] := by
 refine cA m_laws_toArchive 12 36 [(.cell 2 true 10, [true, true, true, true, true, true, true, true, true, false])] Tryz.func15 rfl rfl ?_; unfold m_laws_toArchive
 intro hb
 simp only [GArchive.size] at hs
 simp only [↓reduceIte, go_sem]
 refine callK_of (c_laws_toVersionS x.Site (by omega)) ?_
 simp only [↓reduceIte, go_sem]
 try intros
 refine callK_of (c_laws_toOpS x.Script (by omega)) ?_
 simp only [↓reduceIte, go_sem]
 try intros
 refine callK_of (c_laws_toDisk x.Disk (by omega)) ?_
 simp only [↓reduceIte, go_sem]
 try intros
 refine callK_of (c_laws_toExclusionS x.Exclusions (by omega)) ?_
 simp only [↓reduceIte, go_sem]
 try intros
 refine callK_of (c_laws_toLibraryS x.Libraries (by omega)) ?_
 simp only [↓reduceIte, go_sem]
 try intros
 refine callK_of (c_laws_toIntS x.Keys (by omega)) ?_
 simp only [↓reduceIte, go_sem]
 try intros
 refine callK_of (c_laws_toStatementS x.Statements (by omega)) ?_
 simp only [↓reduceIte, go_sem]
 try intros
def m_laws_eqArchive : MC :=
(.seq (pr [.box 2 0 (.s 0), .box 3 1 (.s 1), .mv 4 cF] [2,3])
(.seq (.seq (pr [.fld 5 (.s 2) 0, .load 6 false 1 (.s 5), .fld 7 (.s 3) 0, .load 8 false 1 (.s 7), .call 9 [] (.f n_laws_eqVersionS) [.s 6, .s 8], .un 10 .not (.s 9)] [2,3,10])
(.cond (.s 10) (.seq (pr [.mv 4 cF] [4])
.ret) .skip))
(.seq (.seq (pr [.fld 11 (.s 2) 1, .load 12 false 1 (.s 11), .fld 13 (.s 3) 1, .load 14 false 1 (.s 13), .call 15 [] (.f n_laws_eqOpS) [.s 12, .s 14], .un 16 .not (.s 15)] [2,3,16])
(.cond (.s 16) (.seq (pr [.mv 4 cF] [4])
.ret) .skip))
(.seq (.seq (pr [.fld 17 (.s 2) 2, .load 18 true 3 (.s 17), .fld 19 (.s 3) 2, .load 20 true 3 (.s 19), .call 21 [] (.f n_laws_eqDisk) [.s 18, .s 20], .un 22 .not (.s 21)] [2,3,22])
(.cond (.s 22) (.seq (pr [.mv 4 cF] [4])
.ret) .skip))
(.seq (.seq (pr [.fld 23 (.s 2) 5, .load 24 false 1 (.s 23), .fld 25 (.s 3) 5, .load 26 false 1 (.s 25), .call 27 [] (.f n_laws_eqExclusionS) [.s 24, .s 26], .un 28 .not (.s 27)] [2,3,28])
(.cond (.s 28) (.seq (pr [.mv 4 cF] [4])
.ret) .skip))
(.seq (.seq (pr [.fld 29 (.s 2) 6, .load 30 false 1 (.s 29), .fld 31 (.s 3) 6, .load 32 false 1 (.s 31), .call 33 [] (.f n_laws_eqLibraryS) [.s 30, .s 32], .un 34 .not (.s 33)] [2,3,34])
(.cond (.s 34) (.seq (pr [.mv 4 cF] [4])
.ret) .skip))
(.seq (.seq (pr [.fld 35 (.s 2) 7, .load 36 false 1 (.s 35), .fld 37 (.s 3) 7, .load 38 false 1 (.s 37), .call 39 [] (.f n_laws_eqIntS) [.s 36, .s 38], .un 40 .not (.s 39)] [2,3,40])
(.cond (.s 40) (.seq (pr [.mv 4 cF] [4])
.ret) .skip))
(.seq (.seq (pr [.fld 41 (.s 2) 8, .load 42 false 1 (.s 41), .fld 43 (.s 3) 8, .load 44 false 1 (.s 43), .call 45 [] (.f n_laws_eqStatementS) [.s 42, .s 44], .un 46 .not (.s 45)] [2,3,46])
(.cond (.s 46) (.seq (pr [.mv 4 cF] [4])
.ret) .skip))
(.seq (.seq (pr [.fld 47 (.s 2) 9, .load 48 false 1 (.s 47), .fld 49 (.s 3) 9, .load 50 false 1 (.s 49), .bin 51 false .neq (.s 48) (.s 50)] [51])
(.cond (.s 51) (.seq (pr [.mv 4 cF] [4])
.ret) .skip))
(.seq (pr [.mv 4 cT] [4])
.ret))))))))))
theorem c_laws_eqArchive (x y : GArchive) : Ctr Tryz.prog n_laws_eqArchive [aS x.enc, aS y.enc] [rB (decide (x = y))] := by
 refine cA m_laws_eqArchive 2 52 [(.tmp 4, [false])] Tryz.func17 rfl rfl ?_; unfold m_laws_eqArchive
 intro hb
 clear hb
 simp only [↓reduceIte, go_sem]
 refine callK_of (c_laws_eqVersionS x.Site y.Site) ?_
 simp only [↓reduceIte, go_sem]
 refine ⟨fun h => ?_, fun h_Site => ?_⟩
 ·symm
  rw [decide_eq_false_iff_not]
  rintro rfl
  exact h rfl
 refine callK_of (c_laws_eqOpS x.Script y.Script) ?_
 simp only [↓reduceIte, go_sem]
 refine ⟨fun h => ?_, fun h_Script => ?_⟩
 ·symm
  rw [decide_eq_false_iff_not]
  rintro rfl
  exact h rfl
 refine callK_of (c_laws_eqDisk x.Disk y.Disk) ?_
 simp only [↓reduceIte, go_sem]
 refine ⟨fun h => ?_, fun h_Disk => ?_⟩
 ·symm
  rw [decide_eq_false_iff_not]
  rintro rfl
  exact h rfl
 refine callK_of (c_laws_eqExclusionS x.Exclusions y.Exclusions) ?_
 simp only [↓reduceIte, go_sem]
 refine ⟨fun h => ?_, fun h_Exclusions => ?_⟩
 ·symm
  rw [decide_eq_false_iff_not]
  rintro rfl
  exact h rfl
 refine callK_of (c_laws_eqLibraryS x.Libraries y.Libraries) ?_
 simp only [↓reduceIte, go_sem]
 refine ⟨fun h => ?_, fun h_Libraries => ?_⟩
 ·symm
  rw [decide_eq_false_iff_not]
  rintro rfl
  exact h rfl
 refine callK_of (c_laws_eqIntS x.Keys y.Keys) ?_
 simp only [↓reduceIte, go_sem]
 refine ⟨fun h => ?_, fun h_Keys => ?_⟩
 ·symm
  rw [decide_eq_false_iff_not]
  rintro rfl
  exact h rfl
 refine callK_of (c_laws_eqStatementS x.Statements y.Statements) ?_
 simp only [↓reduceIte, go_sem]
 refine ⟨fun h => ?_, fun h_Statements => ?_⟩
 ·symm
  rw [decide_eq_false_iff_not]
  rintro rfl
  exact h rfl
 refine ⟨fun h => ?_, fun h_Now => ?_⟩
 ·symm
  rw [decide_eq_false_iff_not]
  rintro rfl
  exact h rfl
 cases x; cases y; simp_all
end Go.Proofs.YtgkeplbnnjogiaaGreatR
namespace Go.Proofs.YtgkeplbnnjogiaaGreatR
open Go Go.RowKit Go.Proofs
open Nat (reduceEqDiff reduceLT reduceLeDiff reduceAdd reduceMul)
open List (reduceReplicate)
def mkL {α : Type} (mk : α → Int → α) (c : α → Nat) : List α → Int → List α
 | [], _ => []
 | x :: l, k => mk x k :: mkL mk c l (k + (c x : Nat))
def ctL {α : Type} (c : α → Nat) (l : List α) : Nat := (l.map c).sum
def iMk (_ : Int) (k : Int) : Int := k
def iCt (_ : Int) : Nat := 1
def bMk (_ : Bool) (k : Int) : Bool := k.tmod 3 == 0
section
variable {α : Type} {mk : α → Int → α} {c : α → Nat} {l : List α} {k : Int} {i : Nat} {x : α} {f : α → List T}
theorem mkL_nil : mkL mk c [] k = [] := rfl
theorem ctL_nil : ctL c [] = 0 := rfl
theorem ctL_snoc (h : l[i]? = some x) : ctL c (l.take (i + 1)) = ctL c (l.take i) + c x := sum_snoc h
theorem ctL_take_le (i : Nat) : ctL c (l.take i) ≤ ctL c l := sum_take_le l i
theorem mkL_len : ∀ {l : List α} {k : Int}, (mkL mk c l k).length = l.length
 | [], _ => rfl
 | x :: l, k => by simp [mkL, mkL_len (l := l)]
theorem mkL_append : ∀ {l m : List α} {k : Int}, mkL mk c (l ++ m) k = mkL mk c l k ++ mkL mk c m (k + (ctL c l : Nat))
 | [], m, k => by simp [mkL, ctL]
 | x :: l, m, k => by
  simp only [List.cons_append, mkL, mkL_append (l := l), ctL, List.map_cons, List.sum_cons]
  rw [show k + (c x : Nat) + (((l.map c).sum : Nat) : Int) = k + ((c x + (l.map c).sum : Nat) : Int) by omega]
theorem mkL_snoc (h : l[i]? = some x) : mkL mk c (l.take (i + 1)) k = mkL mk c (l.take i) k ++ [mk x (k + (ctL c (l.take i) : Nat))] := by
 rw [take_snoc h, mkL_append]; rfl
theorem mkL_get (h : l[i]? = some x) : (mkL mk c l k)[i]? = some (mk x (k + (ctL c (l.take i) : Nat))) := by
 have hi := len_at h
 have e : mkL mk c l k = mkL mk c (l.take i) k ++ mkL mk c (l.drop i) (k + (ctL c (l.take i) : Nat)) := by
  rw [← mkL_append, List.take_append_drop]
 rw [e, List.getElem?_append_right (by rw [mkL_len]; simp; omega), mkL_len, List.length_take, Nat.min_eq_left (Nat.le_of_lt hi), Nat.sub_self, drop_cons h]
 rfl
def mid (A : List (List T)) (e : List T) (B : List (List T)) : List (List T) := A ++ e :: B
theorem mid_of (h : l[i]? = some x) : (mkL mk c (l.take i) k).map f ++ (l.drop i).map f = mid ((mkL mk c (l.take i) k).map f) (f x) ((l.drop (i + 1)).map f) := by
 rw [drop_cons h]; rfl
theorem mid_at (h : l[i]? = some x) : (∀ e, (mid ((mkL mk c (l.take i) k).map f) e ((l.drop (i + 1)).map f))[i]? = some e) ∧
  (∀ e e', (mid ((mkL mk c (l.take i) k).map f) e ((l.drop (i + 1)).map f)).set i e' = mid ((mkL mk c (l.take i) k).map f) e' ((l.drop (i + 1)).map f)) ∧
  (∀ e, (mid ((mkL mk c (l.take i) k).map f) e ((l.drop (i + 1)).map f)).length = l.length) ∧
  (∀ e, (mid ((mkL mk c (l.take i) k).map f) e ((l.drop (i + 1)).map f)).getD i [] = e) := by
 have hi := len_at h
 have hl : ((mkL mk c (l.take i) k).map f).length = i := by rw [List.length_map, mkL_len]; simp; omega
 generalize (mkL mk c (l.take i) k).map f = A at hl
 subst hl
 have h1 : ∀ e, (mid A e ((l.drop (A.length + 1)).map f))[A.length]? = some e := fun e => by simp [mid]
 refine ⟨h1, fun e e' => by simp [mid], fun e => by simp [mid]; omega, fun e => by rw [List.getD_eq_getElem?_getD, h1]; rfl⟩
theorem mid_snoc (h : l[i]? = some x) : mid ((mkL mk c (l.take i) k).map f) (f (mk x (k + (ctL c (l.take i) : Nat)))) ((l.drop (i + 1)).map f) = (mkL mk c (l.take (i + 1)) k).map f ++ (l.drop (i + 1)).map f := by
 rw [mkL_snoc h]; simp [mid]
theorem len_of_bd {sz : Nat} {es : List α} {rs : List RV} (h : bdVA (oL sz (es.map f) :: rs)) : es.length ≤ roomB := by
 simp only [bdVA, List.map_cons, bdL, bdT, List.length_map] at h
 exact h.1.1.1
theorem waK {K K' : Int} (h : K = K') (h1 : 0 ≤ K') (h2 : K' ≤ 9223372036854775807) : IntKind.i64.wrap K = K' := by
 subst h; rw [wI (by omega) (by omega)]
theorem ctL_le {s : α → Nat} (h : ∀ x, c x ≤ 16 * (1 + s x)) : ∀ l : List α, ctL c l ≤ 16 * (l.length + (l.map s).sum)
 | [] => by simp [ctL]
 | x :: l => by
  have h1 := h x
  have h2 := ctL_le h l
  simp only [ctL, List.map_cons, List.sum_cons, List.length_cons] at *
  omega
theorem ctL_le' (h : ∀ x, c x ≤ 16) : ∀ l : List α, ctL c l ≤ 16 * l.length
 | [] => by simp [ctL]
 | x :: l => by
  have h1 := h x
  have h2 := ctL_le' h l
  simp only [ctL, List.map_cons, List.sum_cons, List.length_cons] at *
  omega
end
abbrev oS (ts : List T) : RV := ⟨true, own ts⟩
attribute [go_sem] oS
theorem three_ne : ¬ (3 : Int) = 0 := by decide
attribute [go_sem] mkL_len
def m_laws_markIntS : MC :=
(.seq (pr [.mv 4 (ci 0)] [0,1])
(.seq (.seq (pr [.mv 5 (ci 0)] [0,1,5])
(.block 0 (.loop ([0,1,5], []) (.seq (.seq (pr [.mv 6 (.s 5), .mv 7 (.s 0), .len 8 false (.s 7), .bin 9 false .lss (.s 6) (.s 8)] [0,1,5,9])
(.cond (.s 9) .skip (.exit 0)))
(.seq (.block 1 (.seq (pr [.mv 12 (.s 0), .mv 13 (.s 5), .mv 14 (.s 1), .idx 15 1 (.s 12) (.s 13), .store 1 (.s 15) (.s 14)] [0,1,5])
(pr [.mv 16 (.s 1), .bin 17 false .add (.s 16) (ci 1), .mv 1 (.s 17)] [0,1,5])))
(pr [.mv 10 (.s 5), .bin 11 false .add (.s 10) (ci 1), .mv 5 (.s 11)] [0,1,5]))))))
(.seq (pr [.mv 18 (.s 1), .mv 4 (.s 18)] [4])
.ret)))
theorem c_laws_markIntS (xs : List Int) (k : Int) (hk : 0 ≤ k) (hN : k + (ctL iCt xs : Nat) ≤ 4611686018427387904) : CtrI Tryz.prog n_laws_markIntS [oL 1 (xs.map encI), iI k] [some (1, (mkL iMk iCt xs k).map encI)] [rI (k + (ctL iCt xs : Nat))] := by
 refine ctrI_at (M := m_laws_markIntS) (m := 0) (n := 19) (res := [(.tmp 4, [false])]) hmix Tryz.func43 rfl (by kernel_rfl) rfl (by kernel_rfl) (by kernel_rfl) (Nat.le_of_ble_eq_true rfl) rfl rfl ?_; unfold m_laws_markIntS
 intro hb
 have hl := len_of_bd hb
 clear hb
 simp only [↓reduceIte, go_sem]
 refine loopK_rng xs (fun i => [(1, vI (k + (ctL iCt (xs.take i) : Nat))), (5, vI i)]) (fun i => [(0, ⟨1, .row true 1 ((mkL iMk iCt (xs.take i) k).map encI ++ (xs.drop i).map encI)⟩)]) (fun _ => True) hl ?_
 simp only [↓reduceIte, go_sem]
 refine ⟨?_, trivial, ?_, ?_⟩
 ·simp only [↓reduceIte, go_sem, List.take_zero, List.drop_zero, mkL_nil, ctL_nil]
  all_goals simp
 ·intro i x hx _ h0 h1 hw
  have hR := mid_of (mk := iMk) (c := iCt) (k := k) (f := encI) hx
  have hA := mid_at (mk := iMk) (c := iCt) (k := k) (f := encI) hx
  generalize hAe : (mkL iMk iCt (xs.take i) k).map encI = A at hR hA
  generalize hBe : (xs.drop (i + 1)).map encI = B at hR hA
  obtain ⟨hg, hs, hl, hd⟩ := hA
  have hc := ctL_take_le (c := iCt) (i + 1) (l := xs)
  rw [ctL_snoc hx] at hc
  have hK0 : 0 ≤ k + ((ctL iCt (xs.take i) : Nat) : Int) := by omega
  have hK1 : k + ((ctL iCt (xs.take i) : Nat) : Int) + (iCt x : Nat) ≤ 4611686018427387904 := by omega
  generalize hK : k + ((ctL iCt (xs.take i) : Nat) : Int) = K at hK0 hK1
  simp only [iCt] at hK1
  simp only [↓reduceIte, go_sem, hw, hR, hg, hs, hl, h0, h1, waK (K := K + 1) (K' := K + 1) (by omega) (by omega) (by omega)]
  subst hK hAe hBe
  refine ⟨?_, mid_snoc hx⟩
  rw [ctL_snoc hx]
  simp only [iCt]
  omega
 ·intro _
  simp only [↓reduceIte, go_sem, List.take_length, List.drop_length, List.map_nil, List.append_nil, mkL_len]
def m_laws_heldIntS : MC :=
(.seq (pr [.mv 4 (ci 0)] [0,1])
(.seq (.seq (pr [.mv 5 (ci 0)] [0,1,5])
(.block 0 (.loop ([0,1,5], []) (.seq (.seq (pr [.mv 6 (.s 5), .mv 7 (.s 0), .len 8 false (.s 7), .bin 9 false .lss (.s 6) (.s 8)] [0,1,5,9])
(.cond (.s 9) .skip (.exit 0)))
(.seq (.block 1 (.seq (.seq (pr [.mv 12 (.s 0), .mv 13 (.s 5), .idx 14 1 (.s 12) (.s 13), .load 15 false 1 (.s 14), .mv 16 (.s 1), .bin 17 false .neq (.s 15) (.s 16)] [0,1,5,17])
(.cond (.s 17) (.seq (pr [.mv 4 (.c (.int .i64 (-1)))] [4])
.ret) .skip))
(pr [.mv 18 (.s 1), .bin 19 false .add (.s 18) (ci 1), .mv 1 (.s 19)] [0,1,5])))
(pr [.mv 10 (.s 5), .bin 11 false .add (.s 10) (ci 1), .mv 5 (.s 11)] [0,1,5]))))))
(.seq (pr [.mv 20 (.s 1), .mv 4 (.s 20)] [4])
.ret)))
theorem c_laws_heldIntS (xs : List Int) (k : Int) (hk : 0 ≤ k) (hN : k + (ctL iCt xs : Nat) ≤ 4611686018427387904) : Ctr Tryz.prog n_laws_heldIntS [aL 1 ((mkL iMk iCt xs k).map encI), aI k] [rI (k + (ctL iCt xs : Nat))] := by
 refine cA m_laws_heldIntS 0 21 [(.tmp 4, [false])] Tryz.func108 rfl rfl ?_; unfold m_laws_heldIntS
 intro hb
 simp only [bdA, bdL, bdT, bdR_map, wfB_i64, roomB, and_true, List.length_map] at hb
 have hl := hb.1.1
 rw [mkL_len] at hl
 clear hb
 simp only [↓reduceIte, go_sem]
 refine loopK_rng xs (fun i => [(1, vI (k + (ctL iCt (xs.take i) : Nat))), (5, vI i)]) (fun i => []) (fun _ => True) hl ?_
 simp only [↓reduceIte, go_sem]
 refine ⟨?_, trivial, ?_, ?_⟩
 ·simp only [↓reduceIte, go_sem, List.take_zero, ctL_nil]
  all_goals simp
 ·intro i x hx _ h0 h1 hw
  have hg := mkL_get (mk := iMk) (c := iCt) (k := k) hx
  have hc := ctL_take_le (c := iCt) (i + 1) (l := xs)
  rw [ctL_snoc hx] at hc
  have hK0 : 0 ≤ k + ((ctL iCt (xs.take i) : Nat) : Int) := by omega
  have hK1 : k + ((ctL iCt (xs.take i) : Nat) : Int) + (iCt x : Nat) ≤ 4611686018427387904 := by omega
  generalize hK : k + ((ctL iCt (xs.take i) : Nat) : Int) = K at hK0 hK1 hg
  simp only [iCt] at hK1
  simp only [↓reduceIte, go_sem, hw, bk_eq hg, h0, h1, mkL_len, iMk, waK (K := K + 1) (K' := K + 1) (by omega) (by omega) (by omega)]
  rw [ctL_snoc hx]
  simp only [iCt]
  omega
 ·intro _
  simp only [↓reduceIte, go_sem, List.take_length, mkL_len]
def GAddress.mkd (x : GAddress) (k : Int) : GAddress := ⟨k, (k + 1), (k + 2)⟩
def GAddress.ct (x : GAddress) : Nat := 3
def GResource.mkd (x : GResource) (k : Int) : GResource := ⟨k, (mkL iMk iCt x.Body (k + 1)), ⟨((k + 1) + (ctL iCt x.Body : Nat)), (((k + 1) + (ctL iCt x.Body : Nat)) + 1), (((k + 1) + (ctL iCt x.Body : Nat)) + 2)⟩⟩
def GResource.ct (x : GResource) : Nat := 4 + ctL iCt x.Body
theorem GResource.ct_le (x : GResource) : x.ct ≤ 16 * (1 + x.size) := by
 simp only [GResource.ct, GResource.size]
 have h0 := ctL_le' (c := iCt) (fun y => by simp only [iCt]; omega) x.Body
 omega
def GResource.mks (x : GResource) (k : Int) : GResource := { x with Body := mkL iMk iCt x.Body (k) }
def GResource.cts (x : GResource) : Nat := ctL iCt x.Body
theorem GResource.cts_le (x : GResource) : x.cts ≤ 16 * x.size := by
 simp only [GResource.cts, GResource.size]
 have hBody := ctL_le' (c := iCt) (fun y => by simp only [iCt]; omega) x.Body
 omega
@[go_sem] theorem GResource.mks_len0 (x : GResource) (k : Int) : ((x.mks k).Body).length = x.Body.length := mkL_len
def GPart.mkd (x : GPart) (k : Int) : GPart := ⟨k, ⟨(k + 1), (mkL iMk iCt x.Resource.Body (k + 2)), ⟨((k + 2) + (ctL iCt x.Resource.Body : Nat)), (((k + 2) + (ctL iCt x.Resource.Body : Nat)) + 1), (((k + 2) + (ctL iCt x.Resource.Body : Nat)) + 2)⟩⟩, (((k + 2) + (ctL iCt x.Resource.Body : Nat)) + 3)⟩
def GPart.ct (x : GPart) : Nat := 6 + ctL iCt x.Resource.Body
theorem GPart.ct_le (x : GPart) : x.ct ≤ 16 * (1 + x.size) := by
 simp only [GPart.ct, GPart.size, GResource.size]
 have h0 := ctL_le' (c := iCt) (fun y => by simp only [iCt]; omega) x.Resource.Body
 omega
def GPart.mks (x : GPart) (k : Int) : GPart := { x with Resource := x.Resource.mks (k) }
def GPart.cts (x : GPart) : Nat := x.Resource.cts
theorem GPart.cts_le (x : GPart) : x.cts ≤ 16 * x.size := by
 simp only [GPart.cts, GPart.size]
 have hResource := GResource.cts_le x.Resource
 omega
@[go_sem] theorem GPart.mks_len0 (x : GPart) (k : Int) : ((x.mks k).Resource.Body).length = x.Resource.Body.length := mkL_len
def GPiece.mkd (x : GPiece) (k : Int) : GPiece := ⟨k, (k + 1), (mkL iMk iCt x.New (k + 2))⟩
def GPiece.ct (x : GPiece) : Nat := 2 + ctL iCt x.New
theorem GPiece.ct_le (x : GPiece) : x.ct ≤ 16 * (1 + x.size) := by
 simp only [GPiece.ct, GPiece.size]
 have h0 := ctL_le' (c := iCt) (fun y => by simp only [iCt]; omega) x.New
 omega
def GPiece.mks (x : GPiece) (k : Int) : GPiece := { x with New := mkL iMk iCt x.New (k) }
def GPiece.cts (x : GPiece) : Nat := ctL iCt x.New
theorem GPiece.cts_le (x : GPiece) : x.cts ≤ 16 * x.size := by
 simp only [GPiece.cts, GPiece.size]
 have hNew := ctL_le' (c := iCt) (fun y => by simp only [iCt]; omega) x.New
 omega
@[go_sem] theorem GPiece.mks_len0 (x : GPiece) (k : Int) : ((x.mks k).New).length = x.New.length := mkL_len
def GVersion.mkd (x : GVersion) (k : Int) : GVersion := ⟨⟨k, (k + 1), (k + 2)⟩, (k + 3), ⟨(k + 4), (mkL iMk iCt x.Resource.Body (k + 5)), ⟨((k + 5) + (ctL iCt x.Resource.Body : Nat)), (((k + 5) + (ctL iCt x.Resource.Body : Nat)) + 1), (((k + 5) + (ctL iCt x.Resource.Body : Nat)) + 2)⟩⟩⟩
def GVersion.ct (x : GVersion) : Nat := 8 + ctL iCt x.Resource.Body
theorem GVersion.ct_le (x : GVersion) : x.ct ≤ 16 * (1 + x.size) := by
 simp only [GVersion.ct, GVersion.size, GResource.size]
 have h0 := ctL_le' (c := iCt) (fun y => by simp only [iCt]; omega) x.Resource.Body
 omega
def m_laws_markVersionS : MC :=
(.seq (pr [.mv 4 (ci 0)] [0,1])
(.seq (.seq (pr [.mv 5 (ci 0)] [0,1,5])
(.block 0 (.loop ([0,1,5], [1]) (.seq (.seq (pr [.mv 6 (.s 5), .mv 7 (.s 0), .len 8 false (.s 7), .bin 9 false .lss (.s 6) (.s 8)] [0,1,5,9])
(.cond (.s 9) .skip (.exit 0)))
(.seq (.block 1 (.seq (pr [.mv 12 (.s 0), .mv 13 (.s 5), .mv 14 (.s 1), .idx 15 9 (.s 12) (.s 13), .fld 16 (.s 15) 0, .fld 17 (.s 16) 0, .store 1 (.s 17) (.s 14)] [0,1,5])
(.seq (pr [.mv 18 (.s 1), .bin 19 false .add (.s 18) (ci 1), .mv 1 (.s 19)] [0,1,5])
(.seq (pr [.mv 20 (.s 0), .mv 21 (.s 5), .mv 22 (.s 1), .idx 23 9 (.s 20) (.s 21), .fld 24 (.s 23) 0, .fld 25 (.s 24) 1, .store 1 (.s 25) (.s 22)] [0,1,5])
(.seq (pr [.mv 26 (.s 1), .bin 27 false .add (.s 26) (ci 1), .mv 1 (.s 27)] [0,1,5])
(.seq (pr [.mv 28 (.s 0), .mv 29 (.s 5), .mv 30 (.s 1), .idx 31 9 (.s 28) (.s 29), .fld 32 (.s 31) 0, .fld 33 (.s 32) 2, .store 1 (.s 33) (.s 30)] [0,1,5])
(.seq (pr [.mv 34 (.s 1), .bin 35 false .add (.s 34) (ci 1), .mv 1 (.s 35)] [0,1,5])
(.seq (pr [.mv 36 (.s 0), .mv 37 (.s 5), .mv 38 (.s 1), .idx 39 9 (.s 36) (.s 37), .fld 40 (.s 39) 3, .store 1 (.s 40) (.s 38)] [0,1,5])
(.seq (pr [.mv 41 (.s 1), .bin 42 false .add (.s 41) (ci 1), .mv 1 (.s 42)] [0,1,5])
(.seq (pr [.mv 43 (.s 0), .mv 44 (.s 5), .mv 45 (.s 1), .idx 46 9 (.s 43) (.s 44), .fld 47 (.s 46) 4, .fld 48 (.s 47) 0, .store 1 (.s 48) (.s 45)] [0,1,5])
(.seq (pr [.mv 49 (.s 1), .bin 50 false .add (.s 49) (ci 1), .mv 1 (.s 50)] [0,1,5])
(.seq (pr [.mv 51 (.s 0), .mv 52 (.s 5), .idx 53 9 (.s 51) (.s 52), .fld 54 (.s 53) 4, .fld 55 (.s 54) 1, .loadT 56 1 (.s 55), .mv 57 (.s 1), .callI 58 [] (.f n_laws_markIntS) [.s 56, .s 57] [1] [0], .mv 1 (.s 58)] [0,1,5])
(.seq (pr [.mv 59 (.s 0), .mv 60 (.s 5), .mv 61 (.s 1), .idx 62 9 (.s 59) (.s 60), .fld 63 (.s 62) 4, .fld 64 (.s 63) 2, .fld 65 (.s 64) 0, .store 1 (.s 65) (.s 61)] [0,1,5])
(.seq (pr [.mv 66 (.s 1), .bin 67 false .add (.s 66) (ci 1), .mv 1 (.s 67)] [0,1,5])
(.seq (pr [.mv 68 (.s 0), .mv 69 (.s 5), .mv 70 (.s 1), .idx 71 9 (.s 68) (.s 69), .fld 72 (.s 71) 4, .fld 73 (.s 72) 2, .fld 74 (.s 73) 1, .store 1 (.s 74) (.s 70)] [0,1,5])
(.seq (pr [.mv 75 (.s 1), .bin 76 false .add (.s 75) (ci 1), .mv 1 (.s 76)] [0,1,5])
(.seq (pr [.mv 77 (.s 0), .mv 78 (.s 5), .mv 79 (.s 1), .idx 80 9 (.s 77) (.s 78), .fld 81 (.s 80) 4, .fld 82 (.s 81) 2, .fld 83 (.s 82) 2, .store 1 (.s 83) (.s 79)] [0,1,5])
(pr [.mv 84 (.s 1), .bin 85 false .add (.s 84) (ci 1), .mv 1 (.s 85)] [0,1,5]))))))))))))))))))
(pr [.mv 10 (.s 5), .bin 11 false .add (.s 10) (ci 1), .mv 5 (.s 11)] [0,1,5]))))))
(.seq (pr [.mv 86 (.s 1), .mv 4 (.s 86)] [4])
.ret)))
theorem c_laws_markVersionS (xs : List GVersion) (k : Int) (hk : 0 ≤ k) (hN : k + (ctL GVersion.ct xs : Nat) ≤ 4611686018427387904) : CtrI Tryz.prog n_laws_markVersionS [oL 9 (xs.map GVersion.enc), iI k] [some (9, (mkL GVersion.mkd GVersion.ct xs k).map GVersion.enc)] [rI (k + (ctL GVersion.ct xs : Nat))] := by
 refine ctrI_at (M := m_laws_markVersionS) (m := 1) (n := 87) (res := [(.tmp 4, [false])]) hmix Tryz.func86 rfl (by kernel_rfl) rfl (by kernel_rfl) (by kernel_rfl) (Nat.le_of_ble_eq_true rfl) rfl rfl ?_; unfold m_laws_markVersionS
 intro hb
 have hl := len_of_bd hb
 clear hb
 simp only [↓reduceIte, go_sem]
 refine loopK_rng xs (fun i => [(1, vI (k + (ctL GVersion.ct (xs.take i) : Nat))), (5, vI i)]) (fun i => [(0, ⟨1, .row true 9 ((mkL GVersion.mkd GVersion.ct (xs.take i) k).map GVersion.enc ++ (xs.drop i).map GVersion.enc)⟩)]) (fun _ => True) hl ?_
 simp only [↓reduceIte, go_sem]
 refine ⟨?_, trivial, ?_, ?_⟩
 ·simp only [↓reduceIte, go_sem, List.take_zero, List.drop_zero, mkL_nil, ctL_nil]
  all_goals simp
 ·intro i x hx _ h0 h1 hw
  have hR := mid_of (mk := GVersion.mkd) (c := GVersion.ct) (k := k) (f := GVersion.enc) hx
  have hA := mid_at (mk := GVersion.mkd) (c := GVersion.ct) (k := k) (f := GVersion.enc) hx
  generalize hAe : (mkL GVersion.mkd GVersion.ct (xs.take i) k).map GVersion.enc = A at hR hA
  generalize hBe : (xs.drop (i + 1)).map GVersion.enc = B at hR hA
  obtain ⟨hg, hs, hl, hd⟩ := hA
  have hc := ctL_take_le (c := GVersion.ct) (i + 1) (l := xs)
  rw [ctL_snoc hx] at hc
  have hK0 : 0 ≤ k + ((ctL GVersion.ct (xs.take i) : Nat) : Int) := by omega
  have hK1 : k + ((ctL GVersion.ct (xs.take i) : Nat) : Int) + (GVersion.ct x : Nat) ≤ 4611686018427387904 := by omega
  generalize hK : k + ((ctL GVersion.ct (xs.take i) : Nat) : Int) = K at hK0 hK1
  simp only [GVersion.ct] at hK1
  simp only [↓reduceIte, go_sem, hR, hg, hs, hl, h0, h1, waK (K := K + 1) (K' := K + 1) (by omega) (by omega) (by omega), waK (K := K + 1 + 1) (K' := K + 2) (by omega) (by omega) (by omega), waK (K := K + 2 + 1) (K' := K + 3) (by omega) (by omega) (by omega), waK (K := K + 3 + 1) (K' := K + 4) (by omega) (by omega) (by omega), waK (K := K + 4 + 1) (K' := K + 5) (by omega) (by omega) (by omega)]
  refine callIK_of (c_laws_markIntS x.Resource.Body (K + 5) (by omega) (by omega)) ?_
  have hK1 : 0 ≤ K + 5 + (ctL iCt x.Resource.Body : Nat) := by omega
  generalize eK1 : K + 5 + ((ctL iCt x.Resource.Body : Nat) : Int) = K1 at hK1
  simp only [↓reduceIte, go_sem, hw, hg, hs, hl, hd, h0, h1, waK (K := K1 + 1) (K' := K1 + 1) (by omega) (by omega) (by omega), waK (K := K1 + 1 + 1) (K' := K1 + 2) (by omega) (by omega) (by omega), waK (K := K1 + 2 + 1) (K' := K1 + 3) (by omega) (by omega) (by omega)]
  subst eK1
  subst hK hAe hBe
  refine ⟨?_, mid_snoc hx⟩
  rw [ctL_snoc hx]
  simp only [GVersion.ct]
  omega
 ·intro _
  simp only [↓reduceIte, go_sem, List.take_length, List.drop_length, List.map_nil, List.append_nil, mkL_len]
def m_laws_heldVersionS : MC :=
(.seq (pr [.mv 4 (ci 0)] [0,1])
(.seq (.seq (pr [.mv 5 (ci 0)] [0,1,5])
(.block 0 (.loop ([0,1,5], []) (.seq (.seq (pr [.mv 6 (.s 5), .mv 7 (.s 0), .len 8 false (.s 7), .bin 9 false .lss (.s 6) (.s 8)] [0,1,5,9])
(.cond (.s 9) .skip (.exit 0)))
(.seq (.block 1 (.seq (.seq (pr [.mv 12 (.s 0), .mv 13 (.s 5), .idx 14 9 (.s 12) (.s 13), .fld 15 (.s 14) 0, .fld 16 (.s 15) 0, .load 17 false 1 (.s 16), .mv 18 (.s 1), .bin 19 false .neq (.s 17) (.s 18)] [0,1,5,19])
(.cond (.s 19) (.seq (pr [.mv 4 (.c (.int .i64 (-1)))] [4])
.ret) .skip))
(.seq (pr [.mv 20 (.s 1), .bin 21 false .add (.s 20) (ci 1), .mv 1 (.s 21)] [0,1,5])
(.seq (.seq (pr [.mv 22 (.s 0), .mv 23 (.s 5), .idx 24 9 (.s 22) (.s 23), .fld 25 (.s 24) 0, .fld 26 (.s 25) 1, .load 27 false 1 (.s 26), .mv 28 (.s 1), .bin 29 false .neq (.s 27) (.s 28)] [0,1,5,29])
(.cond (.s 29) (.seq (pr [.mv 4 (.c (.int .i64 (-1)))] [4])
.ret) .skip))
(.seq (pr [.mv 30 (.s 1), .bin 31 false .add (.s 30) (ci 1), .mv 1 (.s 31)] [0,1,5])
(.seq (.seq (pr [.mv 32 (.s 0), .mv 33 (.s 5), .idx 34 9 (.s 32) (.s 33), .fld 35 (.s 34) 0, .fld 36 (.s 35) 2, .load 37 false 1 (.s 36), .mv 38 (.s 1), .bin 39 false .neq (.s 37) (.s 38)] [0,1,5,39])
(.cond (.s 39) (.seq (pr [.mv 4 (.c (.int .i64 (-1)))] [4])
.ret) .skip))
(.seq (pr [.mv 40 (.s 1), .bin 41 false .add (.s 40) (ci 1), .mv 1 (.s 41)] [0,1,5])
(.seq (.seq (pr [.mv 42 (.s 0), .mv 43 (.s 5), .idx 44 9 (.s 42) (.s 43), .fld 45 (.s 44) 3, .load 46 false 1 (.s 45), .mv 47 (.s 1), .bin 48 false .neq (.s 46) (.s 47)] [0,1,5,48])
(.cond (.s 48) (.seq (pr [.mv 4 (.c (.int .i64 (-1)))] [4])
.ret) .skip))
(.seq (pr [.mv 49 (.s 1), .bin 50 false .add (.s 49) (ci 1), .mv 1 (.s 50)] [0,1,5])
(.seq (.seq (pr [.mv 51 (.s 0), .mv 52 (.s 5), .idx 53 9 (.s 51) (.s 52), .fld 54 (.s 53) 4, .fld 55 (.s 54) 0, .load 56 false 1 (.s 55), .mv 57 (.s 1), .bin 58 false .neq (.s 56) (.s 57)] [0,1,5,58])
(.cond (.s 58) (.seq (pr [.mv 4 (.c (.int .i64 (-1)))] [4])
.ret) .skip))
(.seq (pr [.mv 59 (.s 1), .bin 60 false .add (.s 59) (ci 1), .mv 1 (.s 60)] [0,1,5])
(.seq (pr [.mv 61 (.s 0), .mv 62 (.s 5), .idx 63 9 (.s 61) (.s 62), .fld 64 (.s 63) 4, .fld 65 (.s 64) 1, .load 66 false 1 (.s 65), .mv 67 (.s 1), .call 68 [] (.f n_laws_heldIntS) [.s 66, .s 67], .mv 1 (.s 68)] [0,1,5])
(.seq (.seq (pr [.mv 69 (.s 1), .bin 70 false .lss (.s 69) (ci 0)] [0,1,5,70])
(.cond (.s 70) (.seq (pr [.mv 4 (.c (.int .i64 (-1)))] [4])
.ret) .skip))
(.seq (.seq (pr [.mv 71 (.s 0), .mv 72 (.s 5), .idx 73 9 (.s 71) (.s 72), .fld 74 (.s 73) 4, .fld 75 (.s 74) 2, .fld 76 (.s 75) 0, .load 77 false 1 (.s 76), .mv 78 (.s 1), .bin 79 false .neq (.s 77) (.s 78)] [0,1,5,79])
(.cond (.s 79) (.seq (pr [.mv 4 (.c (.int .i64 (-1)))] [4])
.ret) .skip))
(.seq (pr [.mv 80 (.s 1), .bin 81 false .add (.s 80) (ci 1), .mv 1 (.s 81)] [0,1,5])
(.seq (.seq (pr [.mv 82 (.s 0), .mv 83 (.s 5), .idx 84 9 (.s 82) (.s 83), .fld 85 (.s 84) 4, .fld 86 (.s 85) 2, .fld 87 (.s 86) 1, .load 88 false 1 (.s 87), .mv 89 (.s 1), .bin 90 false .neq (.s 88) (.s 89)] [0,1,5,90])
(.cond (.s 90) (.seq (pr [.mv 4 (.c (.int .i64 (-1)))] [4])
.ret) .skip))
(.seq (pr [.mv 91 (.s 1), .bin 92 false .add (.s 91) (ci 1), .mv 1 (.s 92)] [0,1,5])
(.seq (.seq (pr [.mv 93 (.s 0), .mv 94 (.s 5), .idx 95 9 (.s 93) (.s 94), .fld 96 (.s 95) 4, .fld 97 (.s 96) 2, .fld 98 (.s 97) 2, .load 99 false 1 (.s 98), .mv 100 (.s 1), .bin 101 false .neq (.s 99) (.s 100)] [0,1,5,101])
(.cond (.s 101) (.seq (pr [.mv 4 (.c (.int .i64 (-1)))] [4])
.ret) .skip))
(pr [.mv 102 (.s 1), .bin 103 false .add (.s 102) (ci 1), .mv 1 (.s 103)] [0,1,5])))))))))))))))))))
(pr [.mv 10 (.s 5), .bin 11 false .add (.s 10) (ci 1), .mv 5 (.s 11)] [0,1,5]))))))
(.seq (pr [.mv 104 (.s 1), .mv 4 (.s 104)] [4])
.ret)))
theorem c_laws_heldVersionS (xs : List GVersion) (k : Int) (hk : 0 ≤ k) (hN : k + (ctL GVersion.ct xs : Nat) ≤ 4611686018427387904) : Ctr Tryz.prog n_laws_heldVersionS [aL 9 ((mkL GVersion.mkd GVersion.ct xs k).map GVersion.enc), aI k] [rI (k + (ctL GVersion.ct xs : Nat))] := by
 refine cA m_laws_heldVersionS 0 105 [(.tmp 4, [false])] Tryz.func103 rfl rfl ?_; unfold m_laws_heldVersionS
 intro hb
 simp only [bdA, bdL, bdT, bdR_map, wfB_i64, roomB, and_true, List.length_map] at hb
 have hl := hb.1.1
 rw [mkL_len] at hl
 clear hb
 simp only [↓reduceIte, go_sem]
 refine loopK_rng xs (fun i => [(1, vI (k + (ctL GVersion.ct (xs.take i) : Nat))), (5, vI i)]) (fun i => []) (fun _ => True) hl ?_
 simp only [↓reduceIte, go_sem]
 refine ⟨?_, trivial, ?_, ?_⟩
 ·simp only [↓reduceIte, go_sem, List.take_zero, ctL_nil]
  all_goals simp
 ·intro i x hx _ h0 h1 hw
  have hg := mkL_get (mk := GVersion.mkd) (c := GVersion.ct) (k := k) hx
  have hc := ctL_take_le (c := GVersion.ct) (i + 1) (l := xs)
  rw [ctL_snoc hx] at hc
  have hK0 : 0 ≤ k + ((ctL GVersion.ct (xs.take i) : Nat) : Int) := by omega
  have hK1 : k + ((ctL GVersion.ct (xs.take i) : Nat) : Int) + (GVersion.ct x : Nat) ≤ 4611686018427387904 := by omega
  generalize hK : k + ((ctL GVersion.ct (xs.take i) : Nat) : Int) = K at hK0 hK1 hg
  simp only [GVersion.ct] at hK1
  try simp only [↓reduceIte, go_sem, bk_eq hg, h0, h1, mkL_len, GVersion.mkd, waK (K := K + 1) (K' := K + 1) (by omega) (by omega) (by omega), waK (K := K + 1 + 1) (K' := K + 2) (by omega) (by omega) (by omega), waK (K := K + 2 + 1) (K' := K + 3) (by omega) (by omega) (by omega), waK (K := K + 3 + 1) (K' := K + 4) (by omega) (by omega) (by omega), waK (K := K + 4 + 1) (K' := K + 5) (by omega) (by omega) (by omega)]
  refine callK_of (c_laws_heldIntS x.Resource.Body (K + 5) (by omega) (by omega)) ?_
  have hK1 : 0 ≤ K + 5 + (ctL iCt x.Resource.Body : Nat) := by omega
  generalize eK1 : K + 5 + ((ctL iCt x.Resource.Body : Nat) : Int) = K1 at hK1
  have nK1 : ¬ K1 < 0 := by omega
  simp only [↓reduceIte, go_sem, hw, bk_eq hg, h0, h1, mkL_len, GVersion.mkd, nK1, eK1]
  intro _
  simp only [go_sem, waK (K := K1 + 1) (K' := K1 + 1) (by omega) (by omega) (by omega), waK (K := K1 + 1 + 1) (K' := K1 + 2) (by omega) (by omega) (by omega), waK (K := K1 + 2 + 1) (K' := K1 + 3) (by omega) (by omega) (by omega)]
  subst eK1
  rw [ctL_snoc hx]
  simp only [GVersion.ct]
  omega
 ·intro _
  simp only [↓reduceIte, go_sem, List.take_length, mkL_len]
def GVersion.mks (x : GVersion) (k : Int) : GVersion := { x with Resource := x.Resource.mks (k) }
def GVersion.cts (x : GVersion) : Nat := x.Resource.cts
theorem GVersion.cts_le (x : GVersion) : x.cts ≤ 16 * x.size := by
 simp only [GVersion.cts, GVersion.size]
 have hResource := GResource.cts_le x.Resource
 omega
@[go_sem] theorem GVersion.mks_len0 (x : GVersion) (k : Int) : ((x.mks k).Resource.Body).length = x.Resource.Body.length := mkL_len
def GOp.mkd (x : GOp) (k : Int) : GOp := ⟨k, (k + 1), (k + 2), (k + 3)⟩
def GOp.ct (x : GOp) : Nat := 4
def m_laws_markOpS : MC :=
(.seq (pr [.mv 4 (ci 0)] [0,1])
(.seq (.seq (pr [.mv 5 (ci 0)] [0,1,5])
(.block 0 (.loop ([0,1,5], []) (.seq (.seq (pr [.mv 6 (.s 5), .mv 7 (.s 0), .len 8 false (.s 7), .bin 9 false .lss (.s 6) (.s 8)] [0,1,5,9])
(.cond (.s 9) .skip (.exit 0)))
(.seq (.block 1 (.seq (pr [.mv 12 (.s 0), .mv 13 (.s 5), .mv 14 (.s 1), .idx 15 4 (.s 12) (.s 13), .fld 16 (.s 15) 0, .store 1 (.s 16) (.s 14)] [0,1,5])
(.seq (pr [.mv 17 (.s 1), .bin 18 false .add (.s 17) (ci 1), .mv 1 (.s 18)] [0,1,5])
(.seq (pr [.mv 19 (.s 0), .mv 20 (.s 5), .mv 21 (.s 1), .idx 22 4 (.s 19) (.s 20), .fld 23 (.s 22) 1, .store 1 (.s 23) (.s 21)] [0,1,5])
(.seq (pr [.mv 24 (.s 1), .bin 25 false .add (.s 24) (ci 1), .mv 1 (.s 25)] [0,1,5])
(.seq (pr [.mv 26 (.s 0), .mv 27 (.s 5), .mv 28 (.s 1), .idx 29 4 (.s 26) (.s 27), .fld 30 (.s 29) 2, .store 1 (.s 30) (.s 28)] [0,1,5])
(.seq (pr [.mv 31 (.s 1), .bin 32 false .add (.s 31) (ci 1), .mv 1 (.s 32)] [0,1,5])
(.seq (pr [.mv 33 (.s 0), .mv 34 (.s 5), .mv 35 (.s 1), .idx 36 4 (.s 33) (.s 34), .fld 37 (.s 36) 3, .store 1 (.s 37) (.s 35)] [0,1,5])
(pr [.mv 38 (.s 1), .bin 39 false .add (.s 38) (ci 1), .mv 1 (.s 39)] [0,1,5])))))))))
(pr [.mv 10 (.s 5), .bin 11 false .add (.s 10) (ci 1), .mv 5 (.s 11)] [0,1,5]))))))
(.seq (pr [.mv 40 (.s 1), .mv 4 (.s 40)] [4])
.ret)))
theorem c_laws_markOpS (xs : List GOp) (k : Int) (hk : 0 ≤ k) (hN : k + (ctL GOp.ct xs : Nat) ≤ 4611686018427387904) : CtrI Tryz.prog n_laws_markOpS [oL 4 (xs.map GOp.enc), iI k] [some (4, (mkL GOp.mkd GOp.ct xs k).map GOp.enc)] [rI (k + (ctL GOp.ct xs : Nat))] := by
 refine ctrI_at (M := m_laws_markOpS) (m := 0) (n := 41) (res := [(.tmp 4, [false])]) hmix Tryz.func87 rfl (by kernel_rfl) rfl (by kernel_rfl) (by kernel_rfl) (Nat.le_of_ble_eq_true rfl) rfl rfl ?_; unfold m_laws_markOpS
 intro hb
 have hl := len_of_bd hb
 clear hb
 simp only [↓reduceIte, go_sem]
 refine loopK_rng xs (fun i => [(1, vI (k + (ctL GOp.ct (xs.take i) : Nat))), (5, vI i)]) (fun i => [(0, ⟨1, .row true 4 ((mkL GOp.mkd GOp.ct (xs.take i) k).map GOp.enc ++ (xs.drop i).map GOp.enc)⟩)]) (fun _ => True) hl ?_
 simp only [↓reduceIte, go_sem]
 refine ⟨?_, trivial, ?_, ?_⟩
 ·simp only [↓reduceIte, go_sem, List.take_zero, List.drop_zero, mkL_nil, ctL_nil]
  all_goals simp
 ·intro i x hx _ h0 h1 hw
  have hR := mid_of (mk := GOp.mkd) (c := GOp.ct) (k := k) (f := GOp.enc) hx
  have hA := mid_at (mk := GOp.mkd) (c := GOp.ct) (k := k) (f := GOp.enc) hx
  generalize hAe : (mkL GOp.mkd GOp.ct (xs.take i) k).map GOp.enc = A at hR hA
  generalize hBe : (xs.drop (i + 1)).map GOp.enc = B at hR hA
  obtain ⟨hg, hs, hl, hd⟩ := hA
  have hc := ctL_take_le (c := GOp.ct) (i + 1) (l := xs)
  rw [ctL_snoc hx] at hc
  have hK0 : 0 ≤ k + ((ctL GOp.ct (xs.take i) : Nat) : Int) := by omega
  have hK1 : k + ((ctL GOp.ct (xs.take i) : Nat) : Int) + (GOp.ct x : Nat) ≤ 4611686018427387904 := by omega
  generalize hK : k + ((ctL GOp.ct (xs.take i) : Nat) : Int) = K at hK0 hK1
  simp only [GOp.ct] at hK1
  simp only [↓reduceIte, go_sem, hw, hR, hg, hs, hl, h0, h1, waK (K := K + 1) (K' := K + 1) (by omega) (by omega) (by omega), waK (K := K + 1 + 1) (K' := K + 2) (by omega) (by omega) (by omega), waK (K := K + 2 + 1) (K' := K + 3) (by omega) (by omega) (by omega), waK (K := K + 3 + 1) (K' := K + 4) (by omega) (by omega) (by omega)]
  subst hK hAe hBe
  refine ⟨?_, mid_snoc hx⟩
  rw [ctL_snoc hx]
  simp only [GOp.ct]
  omega
 ·intro _
  simp only [↓reduceIte, go_sem, List.take_length, List.drop_length, List.map_nil, List.append_nil, mkL_len]
def m_laws_heldOpS : MC :=
(.seq (pr [.mv 4 (ci 0)] [0,1])
(.seq (.seq (pr [.mv 5 (ci 0)] [0,1,5])
(.block 0 (.loop ([0,1,5], []) (.seq (.seq (pr [.mv 6 (.s 5), .mv 7 (.s 0), .len 8 false (.s 7), .bin 9 false .lss (.s 6) (.s 8)] [0,1,5,9])
(.cond (.s 9) .skip (.exit 0)))
(.seq (.block 1 (.seq (.seq (pr [.mv 12 (.s 0), .mv 13 (.s 5), .idx 14 4 (.s 12) (.s 13), .fld 15 (.s 14) 0, .load 16 false 1 (.s 15), .mv 17 (.s 1), .bin 18 false .neq (.s 16) (.s 17)] [0,1,5,18])
(.cond (.s 18) (.seq (pr [.mv 4 (.c (.int .i64 (-1)))] [4])
.ret) .skip))
(.seq (pr [.mv 19 (.s 1), .bin 20 false .add (.s 19) (ci 1), .mv 1 (.s 20)] [0,1,5])
(.seq (.seq (pr [.mv 21 (.s 0), .mv 22 (.s 5), .idx 23 4 (.s 21) (.s 22), .fld 24 (.s 23) 1, .load 25 false 1 (.s 24), .mv 26 (.s 1), .bin 27 false .neq (.s 25) (.s 26)] [0,1,5,27])
(.cond (.s 27) (.seq (pr [.mv 4 (.c (.int .i64 (-1)))] [4])
.ret) .skip))
(.seq (pr [.mv 28 (.s 1), .bin 29 false .add (.s 28) (ci 1), .mv 1 (.s 29)] [0,1,5])
(.seq (.seq (pr [.mv 30 (.s 0), .mv 31 (.s 5), .idx 32 4 (.s 30) (.s 31), .fld 33 (.s 32) 2, .load 34 false 1 (.s 33), .mv 35 (.s 1), .bin 36 false .neq (.s 34) (.s 35)] [0,1,5,36])
(.cond (.s 36) (.seq (pr [.mv 4 (.c (.int .i64 (-1)))] [4])
.ret) .skip))
(.seq (pr [.mv 37 (.s 1), .bin 38 false .add (.s 37) (ci 1), .mv 1 (.s 38)] [0,1,5])
(.seq (.seq (pr [.mv 39 (.s 0), .mv 40 (.s 5), .idx 41 4 (.s 39) (.s 40), .fld 42 (.s 41) 3, .load 43 false 1 (.s 42), .mv 44 (.s 1), .bin 45 false .neq (.s 43) (.s 44)] [0,1,5,45])
(.cond (.s 45) (.seq (pr [.mv 4 (.c (.int .i64 (-1)))] [4])
.ret) .skip))
(pr [.mv 46 (.s 1), .bin 47 false .add (.s 46) (ci 1), .mv 1 (.s 47)] [0,1,5])))))))))
(pr [.mv 10 (.s 5), .bin 11 false .add (.s 10) (ci 1), .mv 5 (.s 11)] [0,1,5]))))))
(.seq (pr [.mv 48 (.s 1), .mv 4 (.s 48)] [4])
.ret)))
theorem c_laws_heldOpS (xs : List GOp) (k : Int) (hk : 0 ≤ k) (hN : k + (ctL GOp.ct xs : Nat) ≤ 4611686018427387904) : Ctr Tryz.prog n_laws_heldOpS [aL 4 ((mkL GOp.mkd GOp.ct xs k).map GOp.enc), aI k] [rI (k + (ctL GOp.ct xs : Nat))] := by
 refine cA m_laws_heldOpS 0 49 [(.tmp 4, [false])] Tryz.func104 rfl rfl ?_; unfold m_laws_heldOpS
 intro hb
 simp only [bdA, bdL, bdT, bdR_map, wfB_i64, roomB, and_true, List.length_map] at hb
 have hl := hb.1.1
 rw [mkL_len] at hl
 clear hb
 simp only [↓reduceIte, go_sem]
 refine loopK_rng xs (fun i => [(1, vI (k + (ctL GOp.ct (xs.take i) : Nat))), (5, vI i)]) (fun i => []) (fun _ => True) hl ?_
 simp only [↓reduceIte, go_sem]
 refine ⟨?_, trivial, ?_, ?_⟩
 ·simp only [↓reduceIte, go_sem, List.take_zero, ctL_nil]
  all_goals simp
 ·intro i x hx _ h0 h1 hw
  have hg := mkL_get (mk := GOp.mkd) (c := GOp.ct) (k := k) hx
  have hc := ctL_take_le (c := GOp.ct) (i + 1) (l := xs)
  rw [ctL_snoc hx] at hc
  have hK0 : 0 ≤ k + ((ctL GOp.ct (xs.take i) : Nat) : Int) := by omega
  have hK1 : k + ((ctL GOp.ct (xs.take i) : Nat) : Int) + (GOp.ct x : Nat) ≤ 4611686018427387904 := by omega
  generalize hK : k + ((ctL GOp.ct (xs.take i) : Nat) : Int) = K at hK0 hK1 hg
  simp only [GOp.ct] at hK1
  simp only [↓reduceIte, go_sem, hw, bk_eq hg, h0, h1, mkL_len, GOp.mkd, waK (K := K + 1) (K' := K + 1) (by omega) (by omega) (by omega), waK (K := K + 1 + 1) (K' := K + 2) (by omega) (by omega) (by omega), waK (K := K + 2 + 1) (K' := K + 3) (by omega) (by omega) (by omega), waK (K := K + 3 + 1) (K' := K + 4) (by omega) (by omega) (by omega)]
  rw [ctL_snoc hx]
  simp only [GOp.ct]
  omega
 ·intro _
  simp only [↓reduceIte, go_sem, List.take_length, mkL_len]
def GState.mkd (x : GState) (k : Int) : GState := ⟨k, (mkL iMk iCt x.Regs (k + 1)), (mkL iMk iCt x.Slots ((k + 1) + (ctL iCt x.Regs : Nat))), (mkL iMk iCt x.Nodes (((k + 1) + (ctL iCt x.Regs : Nat)) + (ctL iCt x.Slots : Nat)))⟩
def GState.ct (x : GState) : Nat := 1 + ctL iCt x.Regs + ctL iCt x.Slots + ctL iCt x.Nodes
theorem GState.ct_le (x : GState) : x.ct ≤ 16 * (1 + x.size) := by
 simp only [GState.ct, GState.size]
 have h0 := ctL_le' (c := iCt) (fun y => by simp only [iCt]; omega) x.Regs
 have h1 := ctL_le' (c := iCt) (fun y => by simp only [iCt]; omega) x.Slots
 have h2 := ctL_le' (c := iCt) (fun y => by simp only [iCt]; omega) x.Nodes
 omega
def GState.mks (x : GState) (k : Int) : GState := { x with Regs := mkL iMk iCt x.Regs (k), Slots := mkL iMk iCt x.Slots (k + (ctL iCt x.Regs : Nat)), Nodes := mkL iMk iCt x.Nodes (k + (ctL iCt x.Regs : Nat) + (ctL iCt x.Slots : Nat)) }
def GState.cts (x : GState) : Nat := ctL iCt x.Regs + ctL iCt x.Slots + ctL iCt x.Nodes
theorem GState.cts_le (x : GState) : x.cts ≤ 16 * x.size := by
 simp only [GState.cts, GState.size]
 have hRegs := ctL_le' (c := iCt) (fun y => by simp only [iCt]; omega) x.Regs
 have hSlots := ctL_le' (c := iCt) (fun y => by simp only [iCt]; omega) x.Slots
 have hNodes := ctL_le' (c := iCt) (fun y => by simp only [iCt]; omega) x.Nodes
 omega
@[go_sem] theorem GState.mks_len0 (x : GState) (k : Int) : ((x.mks k).Regs).length = x.Regs.length := mkL_len
@[go_sem] theorem GState.mks_len1 (x : GState) (k : Int) : ((x.mks k).Slots).length = x.Slots.length := mkL_len
@[go_sem] theorem GState.mks_len2 (x : GState) (k : Int) : ((x.mks k).Nodes).length = x.Nodes.length := mkL_len
def GWant.mkd (x : GWant) (k : Int) : GWant := ⟨k, ⟨(k + 1), (k + 2), (k + 3)⟩⟩
def GWant.ct (x : GWant) : Nat := 4
def GEntry.mkd (x : GEntry) (k : Int) : GEntry := ⟨k, ⟨(k + 1), (k + 2), (k + 3)⟩, (k + 4)⟩
def GEntry.ct (x : GEntry) : Nat := 5
def m_laws_markEntryS : MC :=
(.seq (pr [.mv 4 (ci 0)] [0,1])
(.seq (.seq (pr [.mv 5 (ci 0)] [0,1,5])
(.block 0 (.loop ([0,1,5], []) (.seq (.seq (pr [.mv 6 (.s 5), .mv 7 (.s 0), .len 8 false (.s 7), .bin 9 false .lss (.s 6) (.s 8)] [0,1,5,9])
(.cond (.s 9) .skip (.exit 0)))
(.seq (.block 1 (.seq (pr [.mv 12 (.s 0), .mv 13 (.s 5), .mv 14 (.s 1), .idx 15 5 (.s 12) (.s 13), .fld 16 (.s 15) 0, .store 1 (.s 16) (.s 14)] [0,1,5])
(.seq (pr [.mv 17 (.s 1), .bin 18 false .add (.s 17) (ci 1), .mv 1 (.s 18)] [0,1,5])
(.seq (pr [.mv 19 (.s 0), .mv 20 (.s 5), .mv 21 (.s 1), .idx 22 5 (.s 19) (.s 20), .fld 23 (.s 22) 1, .fld 24 (.s 23) 0, .store 1 (.s 24) (.s 21)] [0,1,5])
(.seq (pr [.mv 25 (.s 1), .bin 26 false .add (.s 25) (ci 1), .mv 1 (.s 26)] [0,1,5])
(.seq (pr [.mv 27 (.s 0), .mv 28 (.s 5), .mv 29 (.s 1), .idx 30 5 (.s 27) (.s 28), .fld 31 (.s 30) 1, .fld 32 (.s 31) 1, .store 1 (.s 32) (.s 29)] [0,1,5])
(.seq (pr [.mv 33 (.s 1), .bin 34 false .add (.s 33) (ci 1), .mv 1 (.s 34)] [0,1,5])
(.seq (pr [.mv 35 (.s 0), .mv 36 (.s 5), .mv 37 (.s 1), .idx 38 5 (.s 35) (.s 36), .fld 39 (.s 38) 1, .fld 40 (.s 39) 2, .store 1 (.s 40) (.s 37)] [0,1,5])
(.seq (pr [.mv 41 (.s 1), .bin 42 false .add (.s 41) (ci 1), .mv 1 (.s 42)] [0,1,5])
(.seq (pr [.mv 43 (.s 0), .mv 44 (.s 5), .mv 45 (.s 1), .idx 46 5 (.s 43) (.s 44), .fld 47 (.s 46) 4, .store 1 (.s 47) (.s 45)] [0,1,5])
(pr [.mv 48 (.s 1), .bin 49 false .add (.s 48) (ci 1), .mv 1 (.s 49)] [0,1,5])))))))))))
(pr [.mv 10 (.s 5), .bin 11 false .add (.s 10) (ci 1), .mv 5 (.s 11)] [0,1,5]))))))
(.seq (pr [.mv 50 (.s 1), .mv 4 (.s 50)] [4])
.ret)))
theorem c_laws_markEntryS (xs : List GEntry) (k : Int) (hk : 0 ≤ k) (hN : k + (ctL GEntry.ct xs : Nat) ≤ 4611686018427387904) : CtrI Tryz.prog n_laws_markEntryS [oL 5 (xs.map GEntry.enc), iI k] [some (5, (mkL GEntry.mkd GEntry.ct xs k).map GEntry.enc)] [rI (k + (ctL GEntry.ct xs : Nat))] := by
 refine ctrI_at (M := m_laws_markEntryS) (m := 0) (n := 51) (res := [(.tmp 4, [false])]) hmix Tryz.func290 rfl (by kernel_rfl) rfl (by kernel_rfl) (by kernel_rfl) (Nat.le_of_ble_eq_true rfl) rfl rfl ?_; unfold m_laws_markEntryS
 intro hb
 have hl := len_of_bd hb
 clear hb
 simp only [↓reduceIte, go_sem]
 refine loopK_rng xs (fun i => [(1, vI (k + (ctL GEntry.ct (xs.take i) : Nat))), (5, vI i)]) (fun i => [(0, ⟨1, .row true 5 ((mkL GEntry.mkd GEntry.ct (xs.take i) k).map GEntry.enc ++ (xs.drop i).map GEntry.enc)⟩)]) (fun _ => True) hl ?_
 simp only [↓reduceIte, go_sem]
 refine ⟨?_, trivial, ?_, ?_⟩
 ·simp only [↓reduceIte, go_sem, List.take_zero, List.drop_zero, mkL_nil, ctL_nil]
  all_goals simp
 ·intro i x hx _ h0 h1 hw
  have hR := mid_of (mk := GEntry.mkd) (c := GEntry.ct) (k := k) (f := GEntry.enc) hx
  have hA := mid_at (mk := GEntry.mkd) (c := GEntry.ct) (k := k) (f := GEntry.enc) hx
  generalize hAe : (mkL GEntry.mkd GEntry.ct (xs.take i) k).map GEntry.enc = A at hR hA
  generalize hBe : (xs.drop (i + 1)).map GEntry.enc = B at hR hA
  obtain ⟨hg, hs, hl, hd⟩ := hA
  have hc := ctL_take_le (c := GEntry.ct) (i + 1) (l := xs)
  rw [ctL_snoc hx] at hc
  have hK0 : 0 ≤ k + ((ctL GEntry.ct (xs.take i) : Nat) : Int) := by omega
  have hK1 : k + ((ctL GEntry.ct (xs.take i) : Nat) : Int) + (GEntry.ct x : Nat) ≤ 4611686018427387904 := by omega
  generalize hK : k + ((ctL GEntry.ct (xs.take i) : Nat) : Int) = K at hK0 hK1
  simp only [GEntry.ct] at hK1
  simp only [↓reduceIte, go_sem, hw, hR, hg, hs, hl, h0, h1, waK (K := K + 1) (K' := K + 1) (by omega) (by omega) (by omega), waK (K := K + 1 + 1) (K' := K + 2) (by omega) (by omega) (by omega), waK (K := K + 2 + 1) (K' := K + 3) (by omega) (by omega) (by omega), waK (K := K + 3 + 1) (K' := K + 4) (by omega) (by omega) (by omega), waK (K := K + 4 + 1) (K' := K + 5) (by omega) (by omega) (by omega)]
  subst hK hAe hBe
  refine ⟨?_, mid_snoc hx⟩
  rw [ctL_snoc hx]
  simp only [GEntry.ct]
  omega
 ·intro _
  simp only [↓reduceIte, go_sem, List.take_length, List.drop_length, List.map_nil, List.append_nil, mkL_len]
def m_laws_heldEntryS : MC :=
(.seq (pr [.mv 4 (ci 0)] [0,1])
(.seq (.seq (pr [.mv 5 (ci 0)] [0,1,5])
(.block 0 (.loop ([0,1,5], []) (.seq (.seq (pr [.mv 6 (.s 5), .mv 7 (.s 0), .len 8 false (.s 7), .bin 9 false .lss (.s 6) (.s 8)] [0,1,5,9])
(.cond (.s 9) .skip (.exit 0)))
(.seq (.block 1 (.seq (.seq (pr [.mv 12 (.s 0), .mv 13 (.s 5), .idx 14 5 (.s 12) (.s 13), .fld 15 (.s 14) 0, .load 16 false 1 (.s 15), .mv 17 (.s 1), .bin 18 false .neq (.s 16) (.s 17)] [0,1,5,18])
(.cond (.s 18) (.seq (pr [.mv 4 (.c (.int .i64 (-1)))] [4])
.ret) .skip))
(.seq (pr [.mv 19 (.s 1), .bin 20 false .add (.s 19) (ci 1), .mv 1 (.s 20)] [0,1,5])
(.seq (.seq (pr [.mv 21 (.s 0), .mv 22 (.s 5), .idx 23 5 (.s 21) (.s 22), .fld 24 (.s 23) 1, .fld 25 (.s 24) 0, .load 26 false 1 (.s 25), .mv 27 (.s 1), .bin 28 false .neq (.s 26) (.s 27)] [0,1,5,28])
(.cond (.s 28) (.seq (pr [.mv 4 (.c (.int .i64 (-1)))] [4])
.ret) .skip))
(.seq (pr [.mv 29 (.s 1), .bin 30 false .add (.s 29) (ci 1), .mv 1 (.s 30)] [0,1,5])
(.seq (.seq (pr [.mv 31 (.s 0), .mv 32 (.s 5), .idx 33 5 (.s 31) (.s 32), .fld 34 (.s 33) 1, .fld 35 (.s 34) 1, .load 36 false 1 (.s 35), .mv 37 (.s 1), .bin 38 false .neq (.s 36) (.s 37)] [0,1,5,38])
(.cond (.s 38) (.seq (pr [.mv 4 (.c (.int .i64 (-1)))] [4])
.ret) .skip))
(.seq (pr [.mv 39 (.s 1), .bin 40 false .add (.s 39) (ci 1), .mv 1 (.s 40)] [0,1,5])
(.seq (.seq (pr [.mv 41 (.s 0), .mv 42 (.s 5), .idx 43 5 (.s 41) (.s 42), .fld 44 (.s 43) 1, .fld 45 (.s 44) 2, .load 46 false 1 (.s 45), .mv 47 (.s 1), .bin 48 false .neq (.s 46) (.s 47)] [0,1,5,48])
(.cond (.s 48) (.seq (pr [.mv 4 (.c (.int .i64 (-1)))] [4])
.ret) .skip))
(.seq (pr [.mv 49 (.s 1), .bin 50 false .add (.s 49) (ci 1), .mv 1 (.s 50)] [0,1,5])
(.seq (.seq (pr [.mv 51 (.s 0), .mv 52 (.s 5), .idx 53 5 (.s 51) (.s 52), .fld 54 (.s 53) 4, .load 55 false 1 (.s 54), .mv 56 (.s 1), .bin 57 false .neq (.s 55) (.s 56)] [0,1,5,57])
(.cond (.s 57) (.seq (pr [.mv 4 (.c (.int .i64 (-1)))] [4])
.ret) .skip))
(pr [.mv 58 (.s 1), .bin 59 false .add (.s 58) (ci 1), .mv 1 (.s 59)] [0,1,5])))))))))))
(pr [.mv 10 (.s 5), .bin 11 false .add (.s 10) (ci 1), .mv 5 (.s 11)] [0,1,5]))))))
(.seq (pr [.mv 60 (.s 1), .mv 4 (.s 60)] [4])
.ret)))
theorem c_laws_heldEntryS (xs : List GEntry) (k : Int) (hk : 0 ≤ k) (hN : k + (ctL GEntry.ct xs : Nat) ≤ 4611686018427387904) : Ctr Tryz.prog n_laws_heldEntryS [aL 5 ((mkL GEntry.mkd GEntry.ct xs k).map GEntry.enc), aI k] [rI (k + (ctL GEntry.ct xs : Nat))] := by
 refine cA m_laws_heldEntryS 0 61 [(.tmp 4, [false])] Tryz.func307 rfl rfl ?_; unfold m_laws_heldEntryS
 intro hb
 simp only [bdA, bdL, bdT, bdR_map, wfB_i64, roomB, and_true, List.length_map] at hb
 have hl := hb.1.1
 rw [mkL_len] at hl
 clear hb
 simp only [↓reduceIte, go_sem]
 refine loopK_rng xs (fun i => [(1, vI (k + (ctL GEntry.ct (xs.take i) : Nat))), (5, vI i)]) (fun i => []) (fun _ => True) hl ?_
 simp only [↓reduceIte, go_sem]
 refine ⟨?_, trivial, ?_, ?_⟩
 ·simp only [↓reduceIte, go_sem, List.take_zero, ctL_nil]
  all_goals simp
 ·intro i x hx _ h0 h1 hw
  have hg := mkL_get (mk := GEntry.mkd) (c := GEntry.ct) (k := k) hx
  have hc := ctL_take_le (c := GEntry.ct) (i + 1) (l := xs)
  rw [ctL_snoc hx] at hc
  have hK0 : 0 ≤ k + ((ctL GEntry.ct (xs.take i) : Nat) : Int) := by omega
  have hK1 : k + ((ctL GEntry.ct (xs.take i) : Nat) : Int) + (GEntry.ct x : Nat) ≤ 4611686018427387904 := by omega
  generalize hK : k + ((ctL GEntry.ct (xs.take i) : Nat) : Int) = K at hK0 hK1 hg
  simp only [GEntry.ct] at hK1
  simp only [↓reduceIte, go_sem, hw, bk_eq hg, h0, h1, mkL_len, GEntry.mkd, waK (K := K + 1) (K' := K + 1) (by omega) (by omega) (by omega), waK (K := K + 1 + 1) (K' := K + 2) (by omega) (by omega) (by omega), waK (K := K + 2 + 1) (K' := K + 3) (by omega) (by omega) (by omega), waK (K := K + 3 + 1) (K' := K + 4) (by omega) (by omega) (by omega), waK (K := K + 4 + 1) (K' := K + 5) (by omega) (by omega) (by omega)]
  rw [ctL_snoc hx]
  simp only [GEntry.ct]
  omega
 ·intro _
  simp only [↓reduceIte, go_sem, List.take_length, mkL_len]
def GCapture.mkd (x : GCapture) (k : Int) : GCapture := ⟨⟨k, (k + 1), (k + 2)⟩, (k + 3), ⟨(k + 4), (mkL iMk iCt x.Resource.Body (k + 5)), ⟨((k + 5) + (ctL iCt x.Resource.Body : Nat)), (((k + 5) + (ctL iCt x.Resource.Body : Nat)) + 1), (((k + 5) + (ctL iCt x.Resource.Body : Nat)) + 2)⟩⟩⟩
def GCapture.ct (x : GCapture) : Nat := 8 + ctL iCt x.Resource.Body
theorem GCapture.ct_le (x : GCapture) : x.ct ≤ 16 * (1 + x.size) := by
 simp only [GCapture.ct, GCapture.size, GResource.size]
 have h0 := ctL_le' (c := iCt) (fun y => by simp only [iCt]; omega) x.Resource.Body
 omega
def m_laws_markCaptureS : MC :=
(.seq (pr [.mv 4 (ci 0)] [0,1])
(.seq (.seq (pr [.mv 5 (ci 0)] [0,1,5])
(.block 0 (.loop ([0,1,5], [1]) (.seq (.seq (pr [.mv 6 (.s 5), .mv 7 (.s 0), .len 8 false (.s 7), .bin 9 false .lss (.s 6) (.s 8)] [0,1,5,9])
(.cond (.s 9) .skip (.exit 0)))
(.seq (.block 1 (.seq (pr [.mv 12 (.s 0), .mv 13 (.s 5), .mv 14 (.s 1), .idx 15 9 (.s 12) (.s 13), .fld 16 (.s 15) 0, .fld 17 (.s 16) 0, .store 1 (.s 17) (.s 14)] [0,1,5])
(.seq (pr [.mv 18 (.s 1), .bin 19 false .add (.s 18) (ci 1), .mv 1 (.s 19)] [0,1,5])
(.seq (pr [.mv 20 (.s 0), .mv 21 (.s 5), .mv 22 (.s 1), .idx 23 9 (.s 20) (.s 21), .fld 24 (.s 23) 0, .fld 25 (.s 24) 1, .store 1 (.s 25) (.s 22)] [0,1,5])
(.seq (pr [.mv 26 (.s 1), .bin 27 false .add (.s 26) (ci 1), .mv 1 (.s 27)] [0,1,5])
(.seq (pr [.mv 28 (.s 0), .mv 29 (.s 5), .mv 30 (.s 1), .idx 31 9 (.s 28) (.s 29), .fld 32 (.s 31) 0, .fld 33 (.s 32) 2, .store 1 (.s 33) (.s 30)] [0,1,5])
(.seq (pr [.mv 34 (.s 1), .bin 35 false .add (.s 34) (ci 1), .mv 1 (.s 35)] [0,1,5])
(.seq (pr [.mv 36 (.s 0), .mv 37 (.s 5), .mv 38 (.s 1), .idx 39 9 (.s 36) (.s 37), .fld 40 (.s 39) 3, .store 1 (.s 40) (.s 38)] [0,1,5])
(.seq (pr [.mv 41 (.s 1), .bin 42 false .add (.s 41) (ci 1), .mv 1 (.s 42)] [0,1,5])
(.seq (pr [.mv 43 (.s 0), .mv 44 (.s 5), .mv 45 (.s 1), .idx 46 9 (.s 43) (.s 44), .fld 47 (.s 46) 4, .fld 48 (.s 47) 0, .store 1 (.s 48) (.s 45)] [0,1,5])
(.seq (pr [.mv 49 (.s 1), .bin 50 false .add (.s 49) (ci 1), .mv 1 (.s 50)] [0,1,5])
(.seq (pr [.mv 51 (.s 0), .mv 52 (.s 5), .idx 53 9 (.s 51) (.s 52), .fld 54 (.s 53) 4, .fld 55 (.s 54) 1, .loadT 56 1 (.s 55), .mv 57 (.s 1), .callI 58 [] (.f n_laws_markIntS) [.s 56, .s 57] [1] [0], .mv 1 (.s 58)] [0,1,5])
(.seq (pr [.mv 59 (.s 0), .mv 60 (.s 5), .mv 61 (.s 1), .idx 62 9 (.s 59) (.s 60), .fld 63 (.s 62) 4, .fld 64 (.s 63) 2, .fld 65 (.s 64) 0, .store 1 (.s 65) (.s 61)] [0,1,5])
(.seq (pr [.mv 66 (.s 1), .bin 67 false .add (.s 66) (ci 1), .mv 1 (.s 67)] [0,1,5])
(.seq (pr [.mv 68 (.s 0), .mv 69 (.s 5), .mv 70 (.s 1), .idx 71 9 (.s 68) (.s 69), .fld 72 (.s 71) 4, .fld 73 (.s 72) 2, .fld 74 (.s 73) 1, .store 1 (.s 74) (.s 70)] [0,1,5])
(.seq (pr [.mv 75 (.s 1), .bin 76 false .add (.s 75) (ci 1), .mv 1 (.s 76)] [0,1,5])
(.seq (pr [.mv 77 (.s 0), .mv 78 (.s 5), .mv 79 (.s 1), .idx 80 9 (.s 77) (.s 78), .fld 81 (.s 80) 4, .fld 82 (.s 81) 2, .fld 83 (.s 82) 2, .store 1 (.s 83) (.s 79)] [0,1,5])
(pr [.mv 84 (.s 1), .bin 85 false .add (.s 84) (ci 1), .mv 1 (.s 85)] [0,1,5]))))))))))))))))))
(pr [.mv 10 (.s 5), .bin 11 false .add (.s 10) (ci 1), .mv 5 (.s 11)] [0,1,5]))))))
(.seq (pr [.mv 86 (.s 1), .mv 4 (.s 86)] [4])
.ret)))
theorem c_laws_markCaptureS (xs : List GCapture) (k : Int) (hk : 0 ≤ k) (hN : k + (ctL GCapture.ct xs : Nat) ≤ 4611686018427387904) : CtrI Tryz.prog n_laws_markCaptureS [oL 9 (xs.map GCapture.enc), iI k] [some (9, (mkL GCapture.mkd GCapture.ct xs k).map GCapture.enc)] [rI (k + (ctL GCapture.ct xs : Nat))] := by
 refine ctrI_at (M := m_laws_markCaptureS) (m := 1) (n := 87) (res := [(.tmp 4, [false])]) hmix Tryz.func291 rfl (by kernel_rfl) rfl (by kernel_rfl) (by kernel_rfl) (Nat.le_of_ble_eq_true rfl) rfl rfl ?_; unfold m_laws_markCaptureS
 intro hb
 have hl := len_of_bd hb
 clear hb
 simp only [↓reduceIte, go_sem]
 refine loopK_rng xs (fun i => [(1, vI (k + (ctL GCapture.ct (xs.take i) : Nat))), (5, vI i)]) (fun i => [(0, ⟨1, .row true 9 ((mkL GCapture.mkd GCapture.ct (xs.take i) k).map GCapture.enc ++ (xs.drop i).map GCapture.enc)⟩)]) (fun _ => True) hl ?_
 simp only [↓reduceIte, go_sem]
 refine ⟨?_, trivial, ?_, ?_⟩
 ·simp only [↓reduceIte, go_sem, List.take_zero, List.drop_zero, mkL_nil, ctL_nil]
  all_goals simp
 ·intro i x hx _ h0 h1 hw
  have hR := mid_of (mk := GCapture.mkd) (c := GCapture.ct) (k := k) (f := GCapture.enc) hx
  have hA := mid_at (mk := GCapture.mkd) (c := GCapture.ct) (k := k) (f := GCapture.enc) hx
  generalize hAe : (mkL GCapture.mkd GCapture.ct (xs.take i) k).map GCapture.enc = A at hR hA
  generalize hBe : (xs.drop (i + 1)).map GCapture.enc = B at hR hA
  obtain ⟨hg, hs, hl, hd⟩ := hA
  have hc := ctL_take_le (c := GCapture.ct) (i + 1) (l := xs)
  rw [ctL_snoc hx] at hc
  have hK0 : 0 ≤ k + ((ctL GCapture.ct (xs.take i) : Nat) : Int) := by omega
  have hK1 : k + ((ctL GCapture.ct (xs.take i) : Nat) : Int) + (GCapture.ct x : Nat) ≤ 4611686018427387904 := by omega
  generalize hK : k + ((ctL GCapture.ct (xs.take i) : Nat) : Int) = K at hK0 hK1
  simp only [GCapture.ct] at hK1
  simp only [↓reduceIte, go_sem, hR, hg, hs, hl, h0, h1, waK (K := K + 1) (K' := K + 1) (by omega) (by omega) (by omega), waK (K := K + 1 + 1) (K' := K + 2) (by omega) (by omega) (by omega), waK (K := K + 2 + 1) (K' := K + 3) (by omega) (by omega) (by omega), waK (K := K + 3 + 1) (K' := K + 4) (by omega) (by omega) (by omega), waK (K := K + 4 + 1) (K' := K + 5) (by omega) (by omega) (by omega)]
  refine callIK_of (c_laws_markIntS x.Resource.Body (K + 5) (by omega) (by omega)) ?_
  have hK1 : 0 ≤ K + 5 + (ctL iCt x.Resource.Body : Nat) := by omega
  generalize eK1 : K + 5 + ((ctL iCt x.Resource.Body : Nat) : Int) = K1 at hK1
  simp only [↓reduceIte, go_sem, hw, hg, hs, hl, hd, h0, h1, waK (K := K1 + 1) (K' := K1 + 1) (by omega) (by omega) (by omega), waK (K := K1 + 1 + 1) (K' := K1 + 2) (by omega) (by omega) (by omega), waK (K := K1 + 2 + 1) (K' := K1 + 3) (by omega) (by omega) (by omega)]
  subst eK1
  subst hK hAe hBe
  refine ⟨?_, mid_snoc hx⟩
  rw [ctL_snoc hx]
  simp only [GCapture.ct]
  omega
 ·intro _
  simp only [↓reduceIte, go_sem, List.take_length, List.drop_length, List.map_nil, List.append_nil, mkL_len]
def m_laws_heldCaptureS : MC :=
(.seq (pr [.mv 4 (ci 0)] [0,1])
(.seq (.seq (pr [.mv 5 (ci 0)] [0,1,5])
(.block 0 (.loop ([0,1,5], []) (.seq (.seq (pr [.mv 6 (.s 5), .mv 7 (.s 0), .len 8 false (.s 7), .bin 9 false .lss (.s 6) (.s 8)] [0,1,5,9])
(.cond (.s 9) .skip (.exit 0)))
(.seq (.block 1 (.seq (.seq (pr [.mv 12 (.s 0), .mv 13 (.s 5), .idx 14 9 (.s 12) (.s 13), .fld 15 (.s 14) 0, .fld 16 (.s 15) 0, .load 17 false 1 (.s 16), .mv 18 (.s 1), .bin 19 false .neq (.s 17) (.s 18)] [0,1,5,19])
(.cond (.s 19) (.seq (pr [.mv 4 (.c (.int .i64 (-1)))] [4])
.ret) .skip))
(.seq (pr [.mv 20 (.s 1), .bin 21 false .add (.s 20) (ci 1), .mv 1 (.s 21)] [0,1,5])
(.seq (.seq (pr [.mv 22 (.s 0), .mv 23 (.s 5), .idx 24 9 (.s 22) (.s 23), .fld 25 (.s 24) 0, .fld 26 (.s 25) 1, .load 27 false 1 (.s 26), .mv 28 (.s 1), .bin 29 false .neq (.s 27) (.s 28)] [0,1,5,29])
(.cond (.s 29) (.seq (pr [.mv 4 (.c (.int .i64 (-1)))] [4])
.ret) .skip))
(.seq (pr [.mv 30 (.s 1), .bin 31 false .add (.s 30) (ci 1), .mv 1 (.s 31)] [0,1,5])
(.seq (.seq (pr [.mv 32 (.s 0), .mv 33 (.s 5), .idx 34 9 (.s 32) (.s 33), .fld 35 (.s 34) 0, .fld 36 (.s 35) 2, .load 37 false 1 (.s 36), .mv 38 (.s 1), .bin 39 false .neq (.s 37) (.s 38)] [0,1,5,39])
(.cond (.s 39) (.seq (pr [.mv 4 (.c (.int .i64 (-1)))] [4])
.ret) .skip))
(.seq (pr [.mv 40 (.s 1), .bin 41 false .add (.s 40) (ci 1), .mv 1 (.s 41)] [0,1,5])
(.seq (.seq (pr [.mv 42 (.s 0), .mv 43 (.s 5), .idx 44 9 (.s 42) (.s 43), .fld 45 (.s 44) 3, .load 46 false 1 (.s 45), .mv 47 (.s 1), .bin 48 false .neq (.s 46) (.s 47)] [0,1,5,48])
(.cond (.s 48) (.seq (pr [.mv 4 (.c (.int .i64 (-1)))] [4])
.ret) .skip))
(.seq (pr [.mv 49 (.s 1), .bin 50 false .add (.s 49) (ci 1), .mv 1 (.s 50)] [0,1,5])
(.seq (.seq (pr [.mv 51 (.s 0), .mv 52 (.s 5), .idx 53 9 (.s 51) (.s 52), .fld 54 (.s 53) 4, .fld 55 (.s 54) 0, .load 56 false 1 (.s 55), .mv 57 (.s 1), .bin 58 false .neq (.s 56) (.s 57)] [0,1,5,58])
(.cond (.s 58) (.seq (pr [.mv 4 (.c (.int .i64 (-1)))] [4])
.ret) .skip))
(.seq (pr [.mv 59 (.s 1), .bin 60 false .add (.s 59) (ci 1), .mv 1 (.s 60)] [0,1,5])
(.seq (pr [.mv 61 (.s 0), .mv 62 (.s 5), .idx 63 9 (.s 61) (.s 62), .fld 64 (.s 63) 4, .fld 65 (.s 64) 1, .load 66 false 1 (.s 65), .mv 67 (.s 1), .call 68 [] (.f n_laws_heldIntS) [.s 66, .s 67], .mv 1 (.s 68)] [0,1,5])
(.seq (.seq (pr [.mv 69 (.s 1), .bin 70 false .lss (.s 69) (ci 0)] [0,1,5,70])
(.cond (.s 70) (.seq (pr [.mv 4 (.c (.int .i64 (-1)))] [4])
.ret) .skip))
(.seq (.seq (pr [.mv 71 (.s 0), .mv 72 (.s 5), .idx 73 9 (.s 71) (.s 72), .fld 74 (.s 73) 4, .fld 75 (.s 74) 2, .fld 76 (.s 75) 0, .load 77 false 1 (.s 76), .mv 78 (.s 1), .bin 79 false .neq (.s 77) (.s 78)] [0,1,5,79])
(.cond (.s 79) (.seq (pr [.mv 4 (.c (.int .i64 (-1)))] [4])
.ret) .skip))
(.seq (pr [.mv 80 (.s 1), .bin 81 false .add (.s 80) (ci 1), .mv 1 (.s 81)] [0,1,5])
(.seq (.seq (pr [.mv 82 (.s 0), .mv 83 (.s 5), .idx 84 9 (.s 82) (.s 83), .fld 85 (.s 84) 4, .fld 86 (.s 85) 2, .fld 87 (.s 86) 1, .load 88 false 1 (.s 87), .mv 89 (.s 1), .bin 90 false .neq (.s 88) (.s 89)] [0,1,5,90])
(.cond (.s 90) (.seq (pr [.mv 4 (.c (.int .i64 (-1)))] [4])
.ret) .skip))
(.seq (pr [.mv 91 (.s 1), .bin 92 false .add (.s 91) (ci 1), .mv 1 (.s 92)] [0,1,5])
(.seq (.seq (pr [.mv 93 (.s 0), .mv 94 (.s 5), .idx 95 9 (.s 93) (.s 94), .fld 96 (.s 95) 4, .fld 97 (.s 96) 2, .fld 98 (.s 97) 2, .load 99 false 1 (.s 98), .mv 100 (.s 1), .bin 101 false .neq (.s 99) (.s 100)] [0,1,5,101])
(.cond (.s 101) (.seq (pr [.mv 4 (.c (.int .i64 (-1)))] [4])
.ret) .skip))
(pr [.mv 102 (.s 1), .bin 103 false .add (.s 102) (ci 1), .mv 1 (.s 103)] [0,1,5])))))))))))))))))))
(pr [.mv 10 (.s 5), .bin 11 false .add (.s 10) (ci 1), .mv 5 (.s 11)] [0,1,5]))))))
(.seq (pr [.mv 104 (.s 1), .mv 4 (.s 104)] [4])
.ret)))
theorem c_laws_heldCaptureS (xs : List GCapture) (k : Int) (hk : 0 ≤ k) (hN : k + (ctL GCapture.ct xs : Nat) ≤ 4611686018427387904) : Ctr Tryz.prog n_laws_heldCaptureS [aL 9 ((mkL GCapture.mkd GCapture.ct xs k).map GCapture.enc), aI k] [rI (k + (ctL GCapture.ct xs : Nat))] := by
 refine cA m_laws_heldCaptureS 0 105 [(.tmp 4, [false])] Tryz.func308 rfl rfl ?_; unfold m_laws_heldCaptureS
 intro hb
 simp only [bdA, bdL, bdT, bdR_map, wfB_i64, roomB, and_true, List.length_map] at hb
 have hl := hb.1.1
 rw [mkL_len] at hl
 clear hb
 simp only [↓reduceIte, go_sem]
 refine loopK_rng xs (fun i => [(1, vI (k + (ctL GCapture.ct (xs.take i) : Nat))), (5, vI i)]) (fun i => []) (fun _ => True) hl ?_
 simp only [↓reduceIte, go_sem]
 refine ⟨?_, trivial, ?_, ?_⟩
 ·simp only [↓reduceIte, go_sem, List.take_zero, ctL_nil]
  all_goals simp
 ·intro i x hx _ h0 h1 hw
  have hg := mkL_get (mk := GCapture.mkd) (c := GCapture.ct) (k := k) hx
  have hc := ctL_take_le (c := GCapture.ct) (i + 1) (l := xs)
  rw [ctL_snoc hx] at hc
  have hK0 : 0 ≤ k + ((ctL GCapture.ct (xs.take i) : Nat) : Int) := by omega
  have hK1 : k + ((ctL GCapture.ct (xs.take i) : Nat) : Int) + (GCapture.ct x : Nat) ≤ 4611686018427387904 := by omega
  generalize hK : k + ((ctL GCapture.ct (xs.take i) : Nat) : Int) = K at hK0 hK1 hg
  simp only [GCapture.ct] at hK1
  try simp only [↓reduceIte, go_sem, bk_eq hg, h0, h1, mkL_len, GCapture.mkd, waK (K := K + 1) (K' := K + 1) (by omega) (by omega) (by omega), waK (K := K + 1 + 1) (K' := K + 2) (by omega) (by omega) (by omega), waK (K := K + 2 + 1) (K' := K + 3) (by omega) (by omega) (by omega), waK (K := K + 3 + 1) (K' := K + 4) (by omega) (by omega) (by omega), waK (K := K + 4 + 1) (K' := K + 5) (by omega) (by omega) (by omega)]
  refine callK_of (c_laws_heldIntS x.Resource.Body (K + 5) (by omega) (by omega)) ?_
  have hK1 : 0 ≤ K + 5 + (ctL iCt x.Resource.Body : Nat) := by omega
  generalize eK1 : K + 5 + ((ctL iCt x.Resource.Body : Nat) : Int) = K1 at hK1
  have nK1 : ¬ K1 < 0 := by omega
  simp only [↓reduceIte, go_sem, hw, bk_eq hg, h0, h1, mkL_len, GCapture.mkd, nK1, eK1]
  intro _
  simp only [go_sem, waK (K := K1 + 1) (K' := K1 + 1) (by omega) (by omega) (by omega), waK (K := K1 + 1 + 1) (K' := K1 + 2) (by omega) (by omega) (by omega), waK (K := K1 + 2 + 1) (K' := K1 + 3) (by omega) (by omega) (by omega)]
  subst eK1
  rw [ctL_snoc hx]
  simp only [GCapture.ct]
  omega
 ·intro _
  simp only [↓reduceIte, go_sem, List.take_length, mkL_len]
def GCapture.mks (x : GCapture) (k : Int) : GCapture := { x with Resource := x.Resource.mks (k) }
def GCapture.cts (x : GCapture) : Nat := x.Resource.cts
theorem GCapture.cts_le (x : GCapture) : x.cts ≤ 16 * x.size := by
 simp only [GCapture.cts, GCapture.size]
 have hResource := GResource.cts_le x.Resource
 omega
@[go_sem] theorem GCapture.mks_len0 (x : GCapture) (k : Int) : ((x.mks k).Resource.Body).length = x.Resource.Body.length := mkL_len
def GChoice.mkd (x : GChoice) (k : Int) : GChoice := ⟨k, (k + 1)⟩
def GChoice.ct (x : GChoice) : Nat := 2
def GWander.mks (x : GWander) (k : Int) : GWander := { x with State := x.State.mks (k), Choices := mkL GChoice.mkd GChoice.ct x.Choices (k + (x.State.cts : Nat)), Labels := mkL iMk iCt x.Labels (k + (x.State.cts : Nat) + (ctL GChoice.ct x.Choices : Nat)) }
def GWander.cts (x : GWander) : Nat := x.State.cts + ctL GChoice.ct x.Choices + ctL iCt x.Labels
theorem GWander.cts_le (x : GWander) : x.cts ≤ 16 * x.size := by
 simp only [GWander.cts, GWander.size]
 have hState := GState.cts_le x.State
 have hChoices := ctL_le' (c := GChoice.ct) (fun y => by simp only [GChoice.ct]; omega) x.Choices
 have hLabels := ctL_le' (c := iCt) (fun y => by simp only [iCt]; omega) x.Labels
 omega
@[go_sem] theorem GWander.mks_len0 (x : GWander) (k : Int) : ((x.mks k).State.Regs).length = x.State.Regs.length := mkL_len
@[go_sem] theorem GWander.mks_len1 (x : GWander) (k : Int) : ((x.mks k).State.Slots).length = x.State.Slots.length := mkL_len
@[go_sem] theorem GWander.mks_len2 (x : GWander) (k : Int) : ((x.mks k).State.Nodes).length = x.State.Nodes.length := mkL_len
@[go_sem] theorem GWander.mks_len3 (x : GWander) (k : Int) : ((x.mks k).Choices).length = x.Choices.length := mkL_len
@[go_sem] theorem GWander.mks_len4 (x : GWander) (k : Int) : ((x.mks k).Labels).length = x.Labels.length := mkL_len
def GModel.mkd (x : GModel) (k : Int) : GModel := ⟨k, (k + 1), (k + 2), (bMk x.Fits (k + 3))⟩
def GModel.ct (x : GModel) : Nat := 4
def GShown.mkd (x : GShown) (k : Int) : GShown := ⟨k, ⟨(k + 1), (k + 2), (k + 3)⟩⟩
def GShown.ct (x : GShown) : Nat := 4
def GLeaf.mkd (x : GLeaf) (k : Int) : GLeaf := ⟨k, (k + 1), (bMk x.Hidden (k + 2)), (k + 3)⟩
def GLeaf.ct (x : GLeaf) : Nat := 4
def GEdition.mks (x : GEdition) (k : Int) : GEdition := { x with Captures := mkL GCapture.mkd GCapture.ct x.Captures (k), Hidden := mkL GAddress.mkd GAddress.ct x.Hidden (k + (ctL GCapture.ct x.Captures : Nat)) }
def GEdition.cts (x : GEdition) : Nat := ctL GCapture.ct x.Captures + ctL GAddress.ct x.Hidden
theorem GEdition.cts_le (x : GEdition) : x.cts ≤ 16 * x.size := by
 simp only [GEdition.cts, GEdition.size]
 have hCaptures := ctL_le (c := GCapture.ct) (s := GCapture.size) GCapture.ct_le x.Captures
 have hHidden := ctL_le' (c := GAddress.ct) (fun y => by simp only [GAddress.ct]; omega) x.Hidden
 omega
@[go_sem] theorem GEdition.mks_len0 (x : GEdition) (k : Int) : ((x.mks k).Captures).length = x.Captures.length := mkL_len
@[go_sem] theorem GEdition.mks_len1 (x : GEdition) (k : Int) : ((x.mks k).Hidden).length = x.Hidden.length := mkL_len
def GExclusion.mkd (x : GExclusion) (k : Int) : GExclusion := ⟨k, (k + 1), (k + 2), (k + 3), (k + 4)⟩
def GExclusion.ct (x : GExclusion) : Nat := 5
def m_laws_markExclusionS : MC :=
(.seq (pr [.mv 4 (ci 0)] [0,1])
(.seq (.seq (pr [.mv 5 (ci 0)] [0,1,5])
(.block 0 (.loop ([0,1,5], []) (.seq (.seq (pr [.mv 6 (.s 5), .mv 7 (.s 0), .len 8 false (.s 7), .bin 9 false .lss (.s 6) (.s 8)] [0,1,5,9])
(.cond (.s 9) .skip (.exit 0)))
(.seq (.block 1 (.seq (pr [.mv 12 (.s 0), .mv 13 (.s 5), .mv 14 (.s 1), .idx 15 5 (.s 12) (.s 13), .fld 16 (.s 15) 0, .store 1 (.s 16) (.s 14)] [0,1,5])
(.seq (pr [.mv 17 (.s 1), .bin 18 false .add (.s 17) (ci 1), .mv 1 (.s 18)] [0,1,5])
(.seq (pr [.mv 19 (.s 0), .mv 20 (.s 5), .mv 21 (.s 1), .idx 22 5 (.s 19) (.s 20), .fld 23 (.s 22) 1, .store 1 (.s 23) (.s 21)] [0,1,5])
(.seq (pr [.mv 24 (.s 1), .bin 25 false .add (.s 24) (ci 1), .mv 1 (.s 25)] [0,1,5])
(.seq (pr [.mv 26 (.s 0), .mv 27 (.s 5), .mv 28 (.s 1), .idx 29 5 (.s 26) (.s 27), .fld 30 (.s 29) 2, .store 1 (.s 30) (.s 28)] [0,1,5])
(.seq (pr [.mv 31 (.s 1), .bin 32 false .add (.s 31) (ci 1), .mv 1 (.s 32)] [0,1,5])
(.seq (pr [.mv 33 (.s 0), .mv 34 (.s 5), .mv 35 (.s 1), .idx 36 5 (.s 33) (.s 34), .fld 37 (.s 36) 3, .store 1 (.s 37) (.s 35)] [0,1,5])
(.seq (pr [.mv 38 (.s 1), .bin 39 false .add (.s 38) (ci 1), .mv 1 (.s 39)] [0,1,5])
(.seq (pr [.mv 40 (.s 0), .mv 41 (.s 5), .mv 42 (.s 1), .idx 43 5 (.s 40) (.s 41), .fld 44 (.s 43) 4, .store 1 (.s 44) (.s 42)] [0,1,5])
(pr [.mv 45 (.s 1), .bin 46 false .add (.s 45) (ci 1), .mv 1 (.s 46)] [0,1,5])))))))))))
(pr [.mv 10 (.s 5), .bin 11 false .add (.s 10) (ci 1), .mv 5 (.s 11)] [0,1,5]))))))
(.seq (pr [.mv 47 (.s 1), .mv 4 (.s 47)] [4])
.ret)))
theorem c_laws_markExclusionS (xs : List GExclusion) (k : Int) (hk : 0 ≤ k) (hN : k + (ctL GExclusion.ct xs : Nat) ≤ 4611686018427387904) : CtrI Tryz.prog n_laws_markExclusionS [oL 5 (xs.map GExclusion.enc), iI k] [some (5, (mkL GExclusion.mkd GExclusion.ct xs k).map GExclusion.enc)] [rI (k + (ctL GExclusion.ct xs : Nat))] := by
 refine ctrI_at (M := m_laws_markExclusionS) (m := 0) (n := 48) (res := [(.tmp 4, [false])]) hmix Tryz.func89 rfl (by kernel_rfl) rfl (by kernel_rfl) (by kernel_rfl) (Nat.le_of_ble_eq_true rfl) rfl rfl ?_; unfold m_laws_markExclusionS
 intro hb
 have hl := len_of_bd hb
 clear hb
 simp only [↓reduceIte, go_sem]
 refine loopK_rng xs (fun i => [(1, vI (k + (ctL GExclusion.ct (xs.take i) : Nat))), (5, vI i)]) (fun i => [(0, ⟨1, .row true 5 ((mkL GExclusion.mkd GExclusion.ct (xs.take i) k).map GExclusion.enc ++ (xs.drop i).map GExclusion.enc)⟩)]) (fun _ => True) hl ?_
 simp only [↓reduceIte, go_sem]
 refine ⟨?_, trivial, ?_, ?_⟩
 ·simp only [↓reduceIte, go_sem, List.take_zero, List.drop_zero, mkL_nil, ctL_nil]
  all_goals simp
 ·intro i x hx _ h0 h1 hw
  have hR := mid_of (mk := GExclusion.mkd) (c := GExclusion.ct) (k := k) (f := GExclusion.enc) hx
  have hA := mid_at (mk := GExclusion.mkd) (c := GExclusion.ct) (k := k) (f := GExclusion.enc) hx
  generalize hAe : (mkL GExclusion.mkd GExclusion.ct (xs.take i) k).map GExclusion.enc = A at hR hA
  generalize hBe : (xs.drop (i + 1)).map GExclusion.enc = B at hR hA
  obtain ⟨hg, hs, hl, hd⟩ := hA
  have hc := ctL_take_le (c := GExclusion.ct) (i + 1) (l := xs)
  rw [ctL_snoc hx] at hc
  have hK0 : 0 ≤ k + ((ctL GExclusion.ct (xs.take i) : Nat) : Int) := by omega
  have hK1 : k + ((ctL GExclusion.ct (xs.take i) : Nat) : Int) + (GExclusion.ct x : Nat) ≤ 4611686018427387904 := by omega
  generalize hK : k + ((ctL GExclusion.ct (xs.take i) : Nat) : Int) = K at hK0 hK1
  simp only [GExclusion.ct] at hK1
  simp only [↓reduceIte, go_sem, hw, hR, hg, hs, hl, h0, h1, waK (K := K + 1) (K' := K + 1) (by omega) (by omega) (by omega), waK (K := K + 1 + 1) (K' := K + 2) (by omega) (by omega) (by omega), waK (K := K + 2 + 1) (K' := K + 3) (by omega) (by omega) (by omega), waK (K := K + 3 + 1) (K' := K + 4) (by omega) (by omega) (by omega), waK (K := K + 4 + 1) (K' := K + 5) (by omega) (by omega) (by omega)]
  subst hK hAe hBe
  refine ⟨?_, mid_snoc hx⟩
  rw [ctL_snoc hx]
  simp only [GExclusion.ct]
  omega
 ·intro _
  simp only [↓reduceIte, go_sem, List.take_length, List.drop_length, List.map_nil, List.append_nil, mkL_len]
def m_laws_heldExclusionS : MC :=
(.seq (pr [.mv 4 (ci 0)] [0,1])
(.seq (.seq (pr [.mv 5 (ci 0)] [0,1,5])
(.block 0 (.loop ([0,1,5], []) (.seq (.seq (pr [.mv 6 (.s 5), .mv 7 (.s 0), .len 8 false (.s 7), .bin 9 false .lss (.s 6) (.s 8)] [0,1,5,9])
(.cond (.s 9) .skip (.exit 0)))
(.seq (.block 1 (.seq (.seq (pr [.mv 12 (.s 0), .mv 13 (.s 5), .idx 14 5 (.s 12) (.s 13), .fld 15 (.s 14) 0, .load 16 false 1 (.s 15), .mv 17 (.s 1), .bin 18 false .neq (.s 16) (.s 17)] [0,1,5,18])
(.cond (.s 18) (.seq (pr [.mv 4 (.c (.int .i64 (-1)))] [4])
.ret) .skip))
(.seq (pr [.mv 19 (.s 1), .bin 20 false .add (.s 19) (ci 1), .mv 1 (.s 20)] [0,1,5])
(.seq (.seq (pr [.mv 21 (.s 0), .mv 22 (.s 5), .idx 23 5 (.s 21) (.s 22), .fld 24 (.s 23) 1, .load 25 false 1 (.s 24), .mv 26 (.s 1), .bin 27 false .neq (.s 25) (.s 26)] [0,1,5,27])
(.cond (.s 27) (.seq (pr [.mv 4 (.c (.int .i64 (-1)))] [4])
.ret) .skip))
(.seq (pr [.mv 28 (.s 1), .bin 29 false .add (.s 28) (ci 1), .mv 1 (.s 29)] [0,1,5])
(.seq (.seq (pr [.mv 30 (.s 0), .mv 31 (.s 5), .idx 32 5 (.s 30) (.s 31), .fld 33 (.s 32) 2, .load 34 false 1 (.s 33), .mv 35 (.s 1), .bin 36 false .neq (.s 34) (.s 35)] [0,1,5,36])
(.cond (.s 36) (.seq (pr [.mv 4 (.c (.int .i64 (-1)))] [4])
.ret) .skip))
(.seq (pr [.mv 37 (.s 1), .bin 38 false .add (.s 37) (ci 1), .mv 1 (.s 38)] [0,1,5])
(.seq (.seq (pr [.mv 39 (.s 0), .mv 40 (.s 5), .idx 41 5 (.s 39) (.s 40), .fld 42 (.s 41) 3, .load 43 false 1 (.s 42), .mv 44 (.s 1), .bin 45 false .neq (.s 43) (.s 44)] [0,1,5,45])
(.cond (.s 45) (.seq (pr [.mv 4 (.c (.int .i64 (-1)))] [4])
.ret) .skip))
(.seq (pr [.mv 46 (.s 1), .bin 47 false .add (.s 46) (ci 1), .mv 1 (.s 47)] [0,1,5])
(.seq (.seq (pr [.mv 48 (.s 0), .mv 49 (.s 5), .idx 50 5 (.s 48) (.s 49), .fld 51 (.s 50) 4, .load 52 false 1 (.s 51), .mv 53 (.s 1), .bin 54 false .neq (.s 52) (.s 53)] [0,1,5,54])
(.cond (.s 54) (.seq (pr [.mv 4 (.c (.int .i64 (-1)))] [4])
.ret) .skip))
(pr [.mv 55 (.s 1), .bin 56 false .add (.s 55) (ci 1), .mv 1 (.s 56)] [0,1,5])))))))))))
(pr [.mv 10 (.s 5), .bin 11 false .add (.s 10) (ci 1), .mv 5 (.s 11)] [0,1,5]))))))
(.seq (pr [.mv 57 (.s 1), .mv 4 (.s 57)] [4])
.ret)))
theorem c_laws_heldExclusionS (xs : List GExclusion) (k : Int) (hk : 0 ≤ k) (hN : k + (ctL GExclusion.ct xs : Nat) ≤ 4611686018427387904) : Ctr Tryz.prog n_laws_heldExclusionS [aL 5 ((mkL GExclusion.mkd GExclusion.ct xs k).map GExclusion.enc), aI k] [rI (k + (ctL GExclusion.ct xs : Nat))] := by
 refine cA m_laws_heldExclusionS 0 58 [(.tmp 4, [false])] Tryz.func106 rfl rfl ?_; unfold m_laws_heldExclusionS
 intro hb
 simp only [bdA, bdL, bdT, bdR_map, wfB_i64, roomB, and_true, List.length_map] at hb
 have hl := hb.1.1
 rw [mkL_len] at hl
 clear hb
 simp only [↓reduceIte, go_sem]
 refine loopK_rng xs (fun i => [(1, vI (k + (ctL GExclusion.ct (xs.take i) : Nat))), (5, vI i)]) (fun i => []) (fun _ => True) hl ?_
 simp only [↓reduceIte, go_sem]
 refine ⟨?_, trivial, ?_, ?_⟩
 ·simp only [↓reduceIte, go_sem, List.take_zero, ctL_nil]
  all_goals simp
 ·intro i x hx _ h0 h1 hw
  have hg := mkL_get (mk := GExclusion.mkd) (c := GExclusion.ct) (k := k) hx
  have hc := ctL_take_le (c := GExclusion.ct) (i + 1) (l := xs)
  rw [ctL_snoc hx] at hc
  have hK0 : 0 ≤ k + ((ctL GExclusion.ct (xs.take i) : Nat) : Int) := by omega
  have hK1 : k + ((ctL GExclusion.ct (xs.take i) : Nat) : Int) + (GExclusion.ct x : Nat) ≤ 4611686018427387904 := by omega
  generalize hK : k + ((ctL GExclusion.ct (xs.take i) : Nat) : Int) = K at hK0 hK1 hg
  simp only [GExclusion.ct] at hK1
  simp only [↓reduceIte, go_sem, hw, bk_eq hg, h0, h1, mkL_len, GExclusion.mkd, waK (K := K + 1) (K' := K + 1) (by omega) (by omega) (by omega), waK (K := K + 1 + 1) (K' := K + 2) (by omega) (by omega) (by omega), waK (K := K + 2 + 1) (K' := K + 3) (by omega) (by omega) (by omega), waK (K := K + 3 + 1) (K' := K + 4) (by omega) (by omega) (by omega), waK (K := K + 4 + 1) (K' := K + 5) (by omega) (by omega) (by omega)]
  rw [ctL_snoc hx]
  simp only [GExclusion.ct]
  omega
 ·intro _
  simp only [↓reduceIte, go_sem, List.take_length, mkL_len]
def GStatement.mkd (x : GStatement) (k : Int) : GStatement := ⟨k, (k + 1), (k + 2), (k + 3)⟩
def GStatement.ct (x : GStatement) : Nat := 4
def m_laws_markStatementS : MC :=
(.seq (pr [.mv 4 (ci 0)] [0,1])
(.seq (.seq (pr [.mv 5 (ci 0)] [0,1,5])
(.block 0 (.loop ([0,1,5], []) (.seq (.seq (pr [.mv 6 (.s 5), .mv 7 (.s 0), .len 8 false (.s 7), .bin 9 false .lss (.s 6) (.s 8)] [0,1,5,9])
(.cond (.s 9) .skip (.exit 0)))
(.seq (.block 1 (.seq (pr [.mv 12 (.s 0), .mv 13 (.s 5), .mv 14 (.s 1), .idx 15 4 (.s 12) (.s 13), .fld 16 (.s 15) 0, .store 1 (.s 16) (.s 14)] [0,1,5])
(.seq (pr [.mv 17 (.s 1), .bin 18 false .add (.s 17) (ci 1), .mv 1 (.s 18)] [0,1,5])
(.seq (pr [.mv 19 (.s 0), .mv 20 (.s 5), .mv 21 (.s 1), .idx 22 4 (.s 19) (.s 20), .fld 23 (.s 22) 1, .store 1 (.s 23) (.s 21)] [0,1,5])
(.seq (pr [.mv 24 (.s 1), .bin 25 false .add (.s 24) (ci 1), .mv 1 (.s 25)] [0,1,5])
(.seq (pr [.mv 26 (.s 0), .mv 27 (.s 5), .mv 28 (.s 1), .idx 29 4 (.s 26) (.s 27), .fld 30 (.s 29) 2, .store 1 (.s 30) (.s 28)] [0,1,5])
(.seq (pr [.mv 31 (.s 1), .bin 32 false .add (.s 31) (ci 1), .mv 1 (.s 32)] [0,1,5])
(.seq (pr [.mv 33 (.s 0), .mv 34 (.s 5), .mv 35 (.s 1), .idx 36 4 (.s 33) (.s 34), .fld 37 (.s 36) 3, .store 1 (.s 37) (.s 35)] [0,1,5])
(pr [.mv 38 (.s 1), .bin 39 false .add (.s 38) (ci 1), .mv 1 (.s 39)] [0,1,5])))))))))
(pr [.mv 10 (.s 5), .bin 11 false .add (.s 10) (ci 1), .mv 5 (.s 11)] [0,1,5]))))))
(.seq (pr [.mv 40 (.s 1), .mv 4 (.s 40)] [4])
.ret)))
theorem c_laws_markStatementS (xs : List GStatement) (k : Int) (hk : 0 ≤ k) (hN : k + (ctL GStatement.ct xs : Nat) ≤ 4611686018427387904) : CtrI Tryz.prog n_laws_markStatementS [oL 4 (xs.map GStatement.enc), iI k] [some (4, (mkL GStatement.mkd GStatement.ct xs k).map GStatement.enc)] [rI (k + (ctL GStatement.ct xs : Nat))] := by
 refine ctrI_at (M := m_laws_markStatementS) (m := 0) (n := 41) (res := [(.tmp 4, [false])]) hmix Tryz.func91 rfl (by kernel_rfl) rfl (by kernel_rfl) (by kernel_rfl) (Nat.le_of_ble_eq_true rfl) rfl rfl ?_; unfold m_laws_markStatementS
 intro hb
 have hl := len_of_bd hb
 clear hb
 simp only [↓reduceIte, go_sem]
 refine loopK_rng xs (fun i => [(1, vI (k + (ctL GStatement.ct (xs.take i) : Nat))), (5, vI i)]) (fun i => [(0, ⟨1, .row true 4 ((mkL GStatement.mkd GStatement.ct (xs.take i) k).map GStatement.enc ++ (xs.drop i).map GStatement.enc)⟩)]) (fun _ => True) hl ?_
 simp only [↓reduceIte, go_sem]
 refine ⟨?_, trivial, ?_, ?_⟩
 ·simp only [↓reduceIte, go_sem, List.take_zero, List.drop_zero, mkL_nil, ctL_nil]
  all_goals simp
 ·intro i x hx _ h0 h1 hw
  have hR := mid_of (mk := GStatement.mkd) (c := GStatement.ct) (k := k) (f := GStatement.enc) hx
  have hA := mid_at (mk := GStatement.mkd) (c := GStatement.ct) (k := k) (f := GStatement.enc) hx
  generalize hAe : (mkL GStatement.mkd GStatement.ct (xs.take i) k).map GStatement.enc = A at hR hA
  generalize hBe : (xs.drop (i + 1)).map GStatement.enc = B at hR hA
  obtain ⟨hg, hs, hl, hd⟩ := hA
  have hc := ctL_take_le (c := GStatement.ct) (i + 1) (l := xs)
  rw [ctL_snoc hx] at hc
  have hK0 : 0 ≤ k + ((ctL GStatement.ct (xs.take i) : Nat) : Int) := by omega
  have hK1 : k + ((ctL GStatement.ct (xs.take i) : Nat) : Int) + (GStatement.ct x : Nat) ≤ 4611686018427387904 := by omega
  generalize hK : k + ((ctL GStatement.ct (xs.take i) : Nat) : Int) = K at hK0 hK1
  simp only [GStatement.ct] at hK1
  simp only [↓reduceIte, go_sem, hw, hR, hg, hs, hl, h0, h1, waK (K := K + 1) (K' := K + 1) (by omega) (by omega) (by omega), waK (K := K + 1 + 1) (K' := K + 2) (by omega) (by omega) (by omega), waK (K := K + 2 + 1) (K' := K + 3) (by omega) (by omega) (by omega), waK (K := K + 3 + 1) (K' := K + 4) (by omega) (by omega) (by omega)]
  subst hK hAe hBe
  refine ⟨?_, mid_snoc hx⟩
  rw [ctL_snoc hx]
  simp only [GStatement.ct]
  omega
 ·intro _
  simp only [↓reduceIte, go_sem, List.take_length, List.drop_length, List.map_nil, List.append_nil, mkL_len]
def m_laws_heldStatementS : MC :=
(.seq (pr [.mv 4 (ci 0)] [0,1])
(.seq (.seq (pr [.mv 5 (ci 0)] [0,1,5])
(.block 0 (.loop ([0,1,5], []) (.seq (.seq (pr [.mv 6 (.s 5), .mv 7 (.s 0), .len 8 false (.s 7), .bin 9 false .lss (.s 6) (.s 8)] [0,1,5,9])
(.cond (.s 9) .skip (.exit 0)))
(.seq (.block 1 (.seq (.seq (pr [.mv 12 (.s 0), .mv 13 (.s 5), .idx 14 4 (.s 12) (.s 13), .fld 15 (.s 14) 0, .load 16 false 1 (.s 15), .mv 17 (.s 1), .bin 18 false .neq (.s 16) (.s 17)] [0,1,5,18])
(.cond (.s 18) (.seq (pr [.mv 4 (.c (.int .i64 (-1)))] [4])
.ret) .skip))
(.seq (pr [.mv 19 (.s 1), .bin 20 false .add (.s 19) (ci 1), .mv 1 (.s 20)] [0,1,5])
(.seq (.seq (pr [.mv 21 (.s 0), .mv 22 (.s 5), .idx 23 4 (.s 21) (.s 22), .fld 24 (.s 23) 1, .load 25 false 1 (.s 24), .mv 26 (.s 1), .bin 27 false .neq (.s 25) (.s 26)] [0,1,5,27])
(.cond (.s 27) (.seq (pr [.mv 4 (.c (.int .i64 (-1)))] [4])
.ret) .skip))
(.seq (pr [.mv 28 (.s 1), .bin 29 false .add (.s 28) (ci 1), .mv 1 (.s 29)] [0,1,5])
(.seq (.seq (pr [.mv 30 (.s 0), .mv 31 (.s 5), .idx 32 4 (.s 30) (.s 31), .fld 33 (.s 32) 2, .load 34 false 1 (.s 33), .mv 35 (.s 1), .bin 36 false .neq (.s 34) (.s 35)] [0,1,5,36])
(.cond (.s 36) (.seq (pr [.mv 4 (.c (.int .i64 (-1)))] [4])
.ret) .skip))
(.seq (pr [.mv 37 (.s 1), .bin 38 false .add (.s 37) (ci 1), .mv 1 (.s 38)] [0,1,5])
(.seq (.seq (pr [.mv 39 (.s 0), .mv 40 (.s 5), .idx 41 4 (.s 39) (.s 40), .fld 42 (.s 41) 3, .load 43 false 1 (.s 42), .mv 44 (.s 1), .bin 45 false .neq (.s 43) (.s 44)] [0,1,5,45])
(.cond (.s 45) (.seq (pr [.mv 4 (.c (.int .i64 (-1)))] [4])
.ret) .skip))
(pr [.mv 46 (.s 1), .bin 47 false .add (.s 46) (ci 1), .mv 1 (.s 47)] [0,1,5])))))))))
(pr [.mv 10 (.s 5), .bin 11 false .add (.s 10) (ci 1), .mv 5 (.s 11)] [0,1,5]))))))
(.seq (pr [.mv 48 (.s 1), .mv 4 (.s 48)] [4])
.ret)))
theorem c_laws_heldStatementS (xs : List GStatement) (k : Int) (hk : 0 ≤ k) (hN : k + (ctL GStatement.ct xs : Nat) ≤ 4611686018427387904) : Ctr Tryz.prog n_laws_heldStatementS [aL 4 ((mkL GStatement.mkd GStatement.ct xs k).map GStatement.enc), aI k] [rI (k + (ctL GStatement.ct xs : Nat))] := by
 refine cA m_laws_heldStatementS 0 49 [(.tmp 4, [false])] Tryz.func109 rfl rfl ?_; unfold m_laws_heldStatementS
 intro hb
 simp only [bdA, bdL, bdT, bdR_map, wfB_i64, roomB, and_true, List.length_map] at hb
 have hl := hb.1.1
 rw [mkL_len] at hl
 clear hb
 simp only [↓reduceIte, go_sem]
 refine loopK_rng xs (fun i => [(1, vI (k + (ctL GStatement.ct (xs.take i) : Nat))), (5, vI i)]) (fun i => []) (fun _ => True) hl ?_
 simp only [↓reduceIte, go_sem]
 refine ⟨?_, trivial, ?_, ?_⟩
 ·simp only [↓reduceIte, go_sem, List.take_zero, ctL_nil]
  all_goals simp
 ·intro i x hx _ h0 h1 hw
  have hg := mkL_get (mk := GStatement.mkd) (c := GStatement.ct) (k := k) hx
  have hc := ctL_take_le (c := GStatement.ct) (i + 1) (l := xs)
  rw [ctL_snoc hx] at hc
  have hK0 : 0 ≤ k + ((ctL GStatement.ct (xs.take i) : Nat) : Int) := by omega
  have hK1 : k + ((ctL GStatement.ct (xs.take i) : Nat) : Int) + (GStatement.ct x : Nat) ≤ 4611686018427387904 := by omega
  generalize hK : k + ((ctL GStatement.ct (xs.take i) : Nat) : Int) = K at hK0 hK1 hg
  simp only [GStatement.ct] at hK1
  simp only [↓reduceIte, go_sem, hw, bk_eq hg, h0, h1, mkL_len, GStatement.mkd, waK (K := K + 1) (K' := K + 1) (by omega) (by omega) (by omega), waK (K := K + 1 + 1) (K' := K + 2) (by omega) (by omega) (by omega), waK (K := K + 2 + 1) (K' := K + 3) (by omega) (by omega) (by omega), waK (K := K + 3 + 1) (K' := K + 4) (by omega) (by omega) (by omega)]
  rw [ctL_snoc hx]
  simp only [GStatement.ct]
  omega
 ·intro _
  simp only [↓reduceIte, go_sem, List.take_length, mkL_len]
def GLibrary.mkd (x : GLibrary) (k : Int) : GLibrary := ⟨k, (mkL iMk iCt x.Digests (k + 1)), (bMk x.Up ((k + 1) + (ctL iCt x.Digests : Nat))), (bMk x.Lies (((k + 1) + (ctL iCt x.Digests : Nat)) + 1))⟩
def GLibrary.ct (x : GLibrary) : Nat := 3 + ctL iCt x.Digests
theorem GLibrary.ct_le (x : GLibrary) : x.ct ≤ 16 * (1 + x.size) := by
 simp only [GLibrary.ct, GLibrary.size]
 have h0 := ctL_le' (c := iCt) (fun y => by simp only [iCt]; omega) x.Digests
 omega
def m_laws_markLibraryS : MC :=
(.seq (pr [.mv 4 (ci 0)] [0,1])
(.seq (.seq (pr [.mv 5 (ci 0)] [0,1,5])
(.block 0 (.loop ([0,1,5], [1]) (.seq (.seq (pr [.mv 6 (.s 5), .mv 7 (.s 0), .len 8 false (.s 7), .bin 9 false .lss (.s 6) (.s 8)] [0,1,5,9])
(.cond (.s 9) .skip (.exit 0)))
(.seq (.block 1 (.seq (pr [.mv 12 (.s 0), .mv 13 (.s 5), .mv 14 (.s 1), .idx 15 4 (.s 12) (.s 13), .fld 16 (.s 15) 0, .store 1 (.s 16) (.s 14)] [0,1,5])
(.seq (pr [.mv 17 (.s 1), .bin 18 false .add (.s 17) (ci 1), .mv 1 (.s 18)] [0,1,5])
(.seq (pr [.mv 19 (.s 0), .mv 20 (.s 5), .idx 21 4 (.s 19) (.s 20), .fld 22 (.s 21) 1, .loadT 23 1 (.s 22), .mv 24 (.s 1), .callI 25 [] (.f n_laws_markIntS) [.s 23, .s 24] [1] [0], .mv 1 (.s 25)] [0,1,5])
(.seq (pr [.mv 26 (.s 0), .mv 27 (.s 5), .mv 28 (.s 1), .bin 29 false .rem (.s 28) (ci 3), .bin 30 false .eql (.s 29) (ci 0), .idx 31 4 (.s 26) (.s 27), .fld 32 (.s 31) 2, .store 1 (.s 32) (.s 30)] [0,1,5])
(.seq (pr [.mv 33 (.s 1), .bin 34 false .add (.s 33) (ci 1), .mv 1 (.s 34)] [0,1,5])
(.seq (pr [.mv 35 (.s 0), .mv 36 (.s 5), .mv 37 (.s 1), .bin 38 false .rem (.s 37) (ci 3), .bin 39 false .eql (.s 38) (ci 0), .idx 40 4 (.s 35) (.s 36), .fld 41 (.s 40) 3, .store 1 (.s 41) (.s 39)] [0,1,5])
(pr [.mv 42 (.s 1), .bin 43 false .add (.s 42) (ci 1), .mv 1 (.s 43)] [0,1,5]))))))))
(pr [.mv 10 (.s 5), .bin 11 false .add (.s 10) (ci 1), .mv 5 (.s 11)] [0,1,5]))))))
(.seq (pr [.mv 44 (.s 1), .mv 4 (.s 44)] [4])
.ret)))
theorem c_laws_markLibraryS (xs : List GLibrary) (k : Int) (hk : 0 ≤ k) (hN : k + (ctL GLibrary.ct xs : Nat) ≤ 4611686018427387904) : CtrI Tryz.prog n_laws_markLibraryS [oL 4 (xs.map GLibrary.enc), iI k] [some (4, (mkL GLibrary.mkd GLibrary.ct xs k).map GLibrary.enc)] [rI (k + (ctL GLibrary.ct xs : Nat))] := by
 refine ctrI_at (M := m_laws_markLibraryS) (m := 1) (n := 45) (res := [(.tmp 4, [false])]) hmix Tryz.func90 rfl (by kernel_rfl) rfl (by kernel_rfl) (by kernel_rfl) (Nat.le_of_ble_eq_true rfl) rfl rfl ?_; unfold m_laws_markLibraryS
 intro hb
 have hl := len_of_bd hb
 clear hb
 simp only [↓reduceIte, go_sem]
 refine loopK_rng xs (fun i => [(1, vI (k + (ctL GLibrary.ct (xs.take i) : Nat))), (5, vI i)]) (fun i => [(0, ⟨1, .row true 4 ((mkL GLibrary.mkd GLibrary.ct (xs.take i) k).map GLibrary.enc ++ (xs.drop i).map GLibrary.enc)⟩)]) (fun _ => True) hl ?_
 simp only [↓reduceIte, go_sem]
 refine ⟨?_, trivial, ?_, ?_⟩
 ·simp only [↓reduceIte, go_sem, List.take_zero, List.drop_zero, mkL_nil, ctL_nil]
  all_goals simp
 ·intro i x hx _ h0 h1 hw
  have hR := mid_of (mk := GLibrary.mkd) (c := GLibrary.ct) (k := k) (f := GLibrary.enc) hx
  have hA := mid_at (mk := GLibrary.mkd) (c := GLibrary.ct) (k := k) (f := GLibrary.enc) hx
  generalize hAe : (mkL GLibrary.mkd GLibrary.ct (xs.take i) k).map GLibrary.enc = A at hR hA
  generalize hBe : (xs.drop (i + 1)).map GLibrary.enc = B at hR hA
  obtain ⟨hg, hs, hl, hd⟩ := hA
  have hc := ctL_take_le (c := GLibrary.ct) (i + 1) (l := xs)
  rw [ctL_snoc hx] at hc
  have hK0 : 0 ≤ k + ((ctL GLibrary.ct (xs.take i) : Nat) : Int) := by omega
  have hK1 : k + ((ctL GLibrary.ct (xs.take i) : Nat) : Int) + (GLibrary.ct x : Nat) ≤ 4611686018427387904 := by omega
  generalize hK : k + ((ctL GLibrary.ct (xs.take i) : Nat) : Int) = K at hK0 hK1
  simp only [GLibrary.ct] at hK1
  simp only [↓reduceIte, go_sem, hR, hg, hs, hl, h0, h1, waK (K := K + 1) (K' := K + 1) (by omega) (by omega) (by omega)]
  refine callIK_of (c_laws_markIntS x.Digests (K + 1) (by omega) (by omega)) ?_
  have hK1 : 0 ≤ K + 1 + (ctL iCt x.Digests : Nat) := by omega
  generalize eK1 : K + 1 + ((ctL iCt x.Digests : Nat) : Int) = K1 at hK1
  simp only [↓reduceIte, go_sem, hw, hg, hs, hl, hd, h0, h1, three_ne, waK (K := K1 + 1) (K' := K1 + 1) (by omega) (by omega) (by omega), waK (K := K1 + 1 + 1) (K' := K1 + 2) (by omega) (by omega) (by omega)]
  subst eK1
  subst hK hAe hBe
  refine ⟨?_, mid_snoc hx⟩
  rw [ctL_snoc hx]
  simp only [GLibrary.ct]
  omega
 ·intro _
  simp only [↓reduceIte, go_sem, List.take_length, List.drop_length, List.map_nil, List.append_nil, mkL_len]
def m_laws_heldLibraryS : MC :=
(.seq (pr [.mv 4 (ci 0)] [0,1])
(.seq (.seq (pr [.mv 5 (ci 0)] [0,1,5])
(.block 0 (.loop ([0,1,5], []) (.seq (.seq (pr [.mv 6 (.s 5), .mv 7 (.s 0), .len 8 false (.s 7), .bin 9 false .lss (.s 6) (.s 8)] [0,1,5,9])
(.cond (.s 9) .skip (.exit 0)))
(.seq (.block 1 (.seq (.seq (pr [.mv 12 (.s 0), .mv 13 (.s 5), .idx 14 4 (.s 12) (.s 13), .fld 15 (.s 14) 0, .load 16 false 1 (.s 15), .mv 17 (.s 1), .bin 18 false .neq (.s 16) (.s 17)] [0,1,5,18])
(.cond (.s 18) (.seq (pr [.mv 4 (.c (.int .i64 (-1)))] [4])
.ret) .skip))
(.seq (pr [.mv 19 (.s 1), .bin 20 false .add (.s 19) (ci 1), .mv 1 (.s 20)] [0,1,5])
(.seq (pr [.mv 21 (.s 0), .mv 22 (.s 5), .idx 23 4 (.s 21) (.s 22), .fld 24 (.s 23) 1, .load 25 false 1 (.s 24), .mv 26 (.s 1), .call 27 [] (.f n_laws_heldIntS) [.s 25, .s 26], .mv 1 (.s 27)] [0,1,5])
(.seq (.seq (pr [.mv 28 (.s 1), .bin 29 false .lss (.s 28) (ci 0)] [0,1,5,29])
(.cond (.s 29) (.seq (pr [.mv 4 (.c (.int .i64 (-1)))] [4])
.ret) .skip))
(.seq (.seq (pr [.mv 30 (.s 0), .mv 31 (.s 5), .idx 32 4 (.s 30) (.s 31), .fld 33 (.s 32) 2, .load 34 false 1 (.s 33), .mv 35 (.s 1), .bin 36 false .rem (.s 35) (ci 3), .bin 37 false .eql (.s 36) (ci 0), .bin 38 true .neq (.s 34) (.s 37)] [0,1,5,38])
(.cond (.s 38) (.seq (pr [.mv 4 (.c (.int .i64 (-1)))] [4])
.ret) .skip))
(.seq (pr [.mv 39 (.s 1), .bin 40 false .add (.s 39) (ci 1), .mv 1 (.s 40)] [0,1,5])
(.seq (.seq (pr [.mv 41 (.s 0), .mv 42 (.s 5), .idx 43 4 (.s 41) (.s 42), .fld 44 (.s 43) 3, .load 45 false 1 (.s 44), .mv 46 (.s 1), .bin 47 false .rem (.s 46) (ci 3), .bin 48 false .eql (.s 47) (ci 0), .bin 49 true .neq (.s 45) (.s 48)] [0,1,5,49])
(.cond (.s 49) (.seq (pr [.mv 4 (.c (.int .i64 (-1)))] [4])
.ret) .skip))
(pr [.mv 50 (.s 1), .bin 51 false .add (.s 50) (ci 1), .mv 1 (.s 51)] [0,1,5])))))))))
(pr [.mv 10 (.s 5), .bin 11 false .add (.s 10) (ci 1), .mv 5 (.s 11)] [0,1,5]))))))
(.seq (pr [.mv 52 (.s 1), .mv 4 (.s 52)] [4])
.ret)))
theorem c_laws_heldLibraryS (xs : List GLibrary) (k : Int) (hk : 0 ≤ k) (hN : k + (ctL GLibrary.ct xs : Nat) ≤ 4611686018427387904) : Ctr Tryz.prog n_laws_heldLibraryS [aL 4 ((mkL GLibrary.mkd GLibrary.ct xs k).map GLibrary.enc), aI k] [rI (k + (ctL GLibrary.ct xs : Nat))] := by
 refine cA m_laws_heldLibraryS 0 53 [(.tmp 4, [false])] Tryz.func107 rfl rfl ?_; unfold m_laws_heldLibraryS
 intro hb
 simp only [bdA, bdL, bdT, bdR_map, wfB_i64, roomB, and_true, List.length_map] at hb
 have hl := hb.1.1
 rw [mkL_len] at hl
 clear hb
 simp only [↓reduceIte, go_sem]
 refine loopK_rng xs (fun i => [(1, vI (k + (ctL GLibrary.ct (xs.take i) : Nat))), (5, vI i)]) (fun i => []) (fun _ => True) hl ?_
 simp only [↓reduceIte, go_sem]
 refine ⟨?_, trivial, ?_, ?_⟩
 ·simp only [↓reduceIte, go_sem, List.take_zero, ctL_nil]
  all_goals simp
 ·intro i x hx _ h0 h1 hw
  have hg := mkL_get (mk := GLibrary.mkd) (c := GLibrary.ct) (k := k) hx
  have hc := ctL_take_le (c := GLibrary.ct) (i + 1) (l := xs)
  rw [ctL_snoc hx] at hc
  have hK0 : 0 ≤ k + ((ctL GLibrary.ct (xs.take i) : Nat) : Int) := by omega
  have hK1 : k + ((ctL GLibrary.ct (xs.take i) : Nat) : Int) + (GLibrary.ct x : Nat) ≤ 4611686018427387904 := by omega
  generalize hK : k + ((ctL GLibrary.ct (xs.take i) : Nat) : Int) = K at hK0 hK1 hg
  simp only [GLibrary.ct] at hK1
  try simp only [↓reduceIte, go_sem, bk_eq hg, h0, h1, mkL_len, GLibrary.mkd, bMk, waK (K := K + 1) (K' := K + 1) (by omega) (by omega) (by omega)]
  refine callK_of (c_laws_heldIntS x.Digests (K + 1) (by omega) (by omega)) ?_
  have hK1 : 0 ≤ K + 1 + (ctL iCt x.Digests : Nat) := by omega
  generalize eK1 : K + 1 + ((ctL iCt x.Digests : Nat) : Int) = K1 at hK1
  have nK1 : ¬ K1 < 0 := by omega
  simp only [↓reduceIte, go_sem, hw, bk_eq hg, h0, h1, mkL_len, GLibrary.mkd, three_ne, bMk, nK1, eK1]
  intro _
  simp only [go_sem, waK (K := K1 + 1) (K' := K1 + 1) (by omega) (by omega) (by omega), waK (K := K1 + 1 + 1) (K' := K1 + 2) (by omega) (by omega) (by omega)]
  subst eK1
  rw [ctL_snoc hx]
  simp only [GLibrary.ct]
  omega
 ·intro _
  simp only [↓reduceIte, go_sem, List.take_length, mkL_len]
def GLibrary.mks (x : GLibrary) (k : Int) : GLibrary := { x with Digests := mkL iMk iCt x.Digests (k) }
def GLibrary.cts (x : GLibrary) : Nat := ctL iCt x.Digests
theorem GLibrary.cts_le (x : GLibrary) : x.cts ≤ 16 * x.size := by
 simp only [GLibrary.cts, GLibrary.size]
 have hDigests := ctL_le' (c := iCt) (fun y => by simp only [iCt]; omega) x.Digests
 omega
@[go_sem] theorem GLibrary.mks_len0 (x : GLibrary) (k : Int) : ((x.mks k).Digests).length = x.Digests.length := mkL_len
def GContainer.mkd (x : GContainer) (k : Int) : GContainer := ⟨(mkL GOp.mkd GOp.ct x.Script k), (mkL GEntry.mkd GEntry.ct x.Entries (k + (ctL GOp.ct x.Script : Nat))), (mkL GCapture.mkd GCapture.ct x.Captures ((k + (ctL GOp.ct x.Script : Nat)) + (ctL GEntry.ct x.Entries : Nat))), (((k + (ctL GOp.ct x.Script : Nat)) + (ctL GEntry.ct x.Entries : Nat)) + (ctL GCapture.ct x.Captures : Nat))⟩
def GContainer.ct (x : GContainer) : Nat := 1 + ctL GOp.ct x.Script + ctL GEntry.ct x.Entries + ctL GCapture.ct x.Captures
theorem GContainer.ct_le (x : GContainer) : x.ct ≤ 16 * (1 + x.size) := by
 simp only [GContainer.ct, GContainer.size]
 have h0 := ctL_le' (c := GOp.ct) (fun y => by simp only [GOp.ct]; omega) x.Script
 have h1 := ctL_le' (c := GEntry.ct) (fun y => by simp only [GEntry.ct]; omega) x.Entries
 have h2 := ctL_le (c := GCapture.ct) (s := GCapture.size) GCapture.ct_le x.Captures
 omega
def m_laws_markContainerS : MC :=
(.seq (pr [.mv 4 (ci 0)] [0,1])
(.seq (.seq (pr [.mv 5 (ci 0)] [0,1,5])
(.block 0 (.loop ([0,1,5], [1,2,3]) (.seq (.seq (pr [.mv 6 (.s 5), .mv 7 (.s 0), .len 8 false (.s 7), .bin 9 false .lss (.s 6) (.s 8)] [0,1,5,9])
(.cond (.s 9) .skip (.exit 0)))
(.seq (.block 1 (.seq (pr [.mv 12 (.s 0), .mv 13 (.s 5), .idx 14 4 (.s 12) (.s 13), .fld 15 (.s 14) 0, .loadT 16 1 (.s 15), .mv 17 (.s 1), .callI 18 [] (.f n_laws_markOpS) [.s 16, .s 17] [1] [0], .mv 1 (.s 18)] [0,1,5])
(.seq (pr [.mv 19 (.s 0), .mv 20 (.s 5), .idx 21 4 (.s 19) (.s 20), .fld 22 (.s 21) 1, .loadT 23 2 (.s 22), .mv 24 (.s 1), .callI 25 [] (.f n_laws_markEntryS) [.s 23, .s 24] [2] [0], .mv 1 (.s 25)] [0,1,5])
(.seq (pr [.mv 26 (.s 0), .mv 27 (.s 5), .idx 28 4 (.s 26) (.s 27), .fld 29 (.s 28) 2, .loadT 30 3 (.s 29), .mv 31 (.s 1), .callI 32 [] (.f n_laws_markCaptureS) [.s 30, .s 31] [3] [0], .mv 1 (.s 32)] [0,1,5])
(.seq (pr [.mv 33 (.s 0), .mv 34 (.s 5), .mv 35 (.s 1), .idx 36 4 (.s 33) (.s 34), .fld 37 (.s 36) 3, .store 1 (.s 37) (.s 35)] [0,1,5])
(pr [.mv 38 (.s 1), .bin 39 false .add (.s 38) (ci 1), .mv 1 (.s 39)] [0,1,5]))))))
(pr [.mv 10 (.s 5), .bin 11 false .add (.s 10) (ci 1), .mv 5 (.s 11)] [0,1,5]))))))
(.seq (pr [.mv 40 (.s 1), .mv 4 (.s 40)] [4])
.ret)))
theorem c_laws_markContainerS (xs : List GContainer) (k : Int) (hk : 0 ≤ k) (hN : k + (ctL GContainer.ct xs : Nat) ≤ 4611686018427387904) : CtrI Tryz.prog n_laws_markContainerS [oL 4 (xs.map GContainer.enc), iI k] [some (4, (mkL GContainer.mkd GContainer.ct xs k).map GContainer.enc)] [rI (k + (ctL GContainer.ct xs : Nat))] := by
 refine ctrI_at (M := m_laws_markContainerS) (m := 3) (n := 41) (res := [(.tmp 4, [false])]) hmix Tryz.func171 rfl (by kernel_rfl) rfl (by kernel_rfl) (by kernel_rfl) (Nat.le_of_ble_eq_true rfl) rfl rfl ?_; unfold m_laws_markContainerS
 intro hb
 have hl := len_of_bd hb
 clear hb
 simp only [↓reduceIte, go_sem]
 refine loopK_rng xs (fun i => [(1, vI (k + (ctL GContainer.ct (xs.take i) : Nat))), (5, vI i)]) (fun i => [(0, ⟨1, .row true 4 ((mkL GContainer.mkd GContainer.ct (xs.take i) k).map GContainer.enc ++ (xs.drop i).map GContainer.enc)⟩)]) (fun _ => True) hl ?_
 simp only [↓reduceIte, go_sem]
 refine ⟨?_, trivial, ?_, ?_⟩
 ·simp only [↓reduceIte, go_sem, List.take_zero, List.drop_zero, mkL_nil, ctL_nil]
  all_goals simp
 ·intro i x hx _ h0 h1 hw
  have hR := mid_of (mk := GContainer.mkd) (c := GContainer.ct) (k := k) (f := GContainer.enc) hx
  have hA := mid_at (mk := GContainer.mkd) (c := GContainer.ct) (k := k) (f := GContainer.enc) hx
  generalize hAe : (mkL GContainer.mkd GContainer.ct (xs.take i) k).map GContainer.enc = A at hR hA
  generalize hBe : (xs.drop (i + 1)).map GContainer.enc = B at hR hA
  obtain ⟨hg, hs, hl, hd⟩ := hA
  have hc := ctL_take_le (c := GContainer.ct) (i + 1) (l := xs)
  rw [ctL_snoc hx] at hc
  have hK0 : 0 ≤ k + ((ctL GContainer.ct (xs.take i) : Nat) : Int) := by omega
  have hK1 : k + ((ctL GContainer.ct (xs.take i) : Nat) : Int) + (GContainer.ct x : Nat) ≤ 4611686018427387904 := by omega
  generalize hK : k + ((ctL GContainer.ct (xs.take i) : Nat) : Int) = K at hK0 hK1
  simp only [GContainer.ct] at hK1
  simp only [↓reduceIte, go_sem, hR, hg, hl, h0, h1]
  refine callIK_of (c_laws_markOpS x.Script K (by omega) (by omega)) ?_
  have hK1 : 0 ≤ K + (ctL GOp.ct x.Script : Nat) := by omega
  generalize eK1 : K + ((ctL GOp.ct x.Script : Nat) : Int) = K1 at hK1
  simp only [↓reduceIte, go_sem, hg, hs, hl, hd, h0, h1]
  refine callIK_of (c_laws_markEntryS x.Entries K1 (by omega) (by omega)) ?_
  have hK2 : 0 ≤ K1 + (ctL GEntry.ct x.Entries : Nat) := by omega
  generalize eK2 : K1 + ((ctL GEntry.ct x.Entries : Nat) : Int) = K2 at hK2
  simp only [↓reduceIte, go_sem, hg, hs, hl, hd, h0, h1]
  refine callIK_of (c_laws_markCaptureS x.Captures K2 (by omega) (by omega)) ?_
  have hK3 : 0 ≤ K2 + (ctL GCapture.ct x.Captures : Nat) := by omega
  generalize eK3 : K2 + ((ctL GCapture.ct x.Captures : Nat) : Int) = K3 at hK3
  simp only [↓reduceIte, go_sem, hw, hg, hs, hl, hd, h0, h1, waK (K := K3 + 1) (K' := K3 + 1) (by omega) (by omega) (by omega)]
  subst eK3
  subst eK2
  subst eK1
  subst hK hAe hBe
  refine ⟨?_, mid_snoc hx⟩
  rw [ctL_snoc hx]
  simp only [GContainer.ct]
  omega
 ·intro _
  simp only [↓reduceIte, go_sem, List.take_length, List.drop_length, List.map_nil, List.append_nil, mkL_len]
def m_laws_heldContainerS : MC :=
(.seq (pr [.mv 4 (ci 0)] [0,1])
(.seq (.seq (pr [.mv 5 (ci 0)] [0,1,5])
(.block 0 (.loop ([0,1,5], []) (.seq (.seq (pr [.mv 6 (.s 5), .mv 7 (.s 0), .len 8 false (.s 7), .bin 9 false .lss (.s 6) (.s 8)] [0,1,5,9])
(.cond (.s 9) .skip (.exit 0)))
(.seq (.block 1 (.seq (pr [.mv 12 (.s 0), .mv 13 (.s 5), .idx 14 4 (.s 12) (.s 13), .fld 15 (.s 14) 0, .load 16 false 1 (.s 15), .mv 17 (.s 1), .call 18 [] (.f n_laws_heldOpS) [.s 16, .s 17], .mv 1 (.s 18)] [0,1,5])
(.seq (.seq (pr [.mv 19 (.s 1), .bin 20 false .lss (.s 19) (ci 0)] [0,1,5,20])
(.cond (.s 20) (.seq (pr [.mv 4 (.c (.int .i64 (-1)))] [4])
.ret) .skip))
(.seq (pr [.mv 21 (.s 0), .mv 22 (.s 5), .idx 23 4 (.s 21) (.s 22), .fld 24 (.s 23) 1, .load 25 false 1 (.s 24), .mv 26 (.s 1), .call 27 [] (.f n_laws_heldEntryS) [.s 25, .s 26], .mv 1 (.s 27)] [0,1,5])
(.seq (.seq (pr [.mv 28 (.s 1), .bin 29 false .lss (.s 28) (ci 0)] [0,1,5,29])
(.cond (.s 29) (.seq (pr [.mv 4 (.c (.int .i64 (-1)))] [4])
.ret) .skip))
(.seq (pr [.mv 30 (.s 0), .mv 31 (.s 5), .idx 32 4 (.s 30) (.s 31), .fld 33 (.s 32) 2, .load 34 false 1 (.s 33), .mv 35 (.s 1), .call 36 [] (.f n_laws_heldCaptureS) [.s 34, .s 35], .mv 1 (.s 36)] [0,1,5])
(.seq (.seq (pr [.mv 37 (.s 1), .bin 38 false .lss (.s 37) (ci 0)] [0,1,5,38])
(.cond (.s 38) (.seq (pr [.mv 4 (.c (.int .i64 (-1)))] [4])
.ret) .skip))
(.seq (.seq (pr [.mv 39 (.s 0), .mv 40 (.s 5), .idx 41 4 (.s 39) (.s 40), .fld 42 (.s 41) 3, .load 43 false 1 (.s 42), .mv 44 (.s 1), .bin 45 false .neq (.s 43) (.s 44)] [0,1,5,45])
(.cond (.s 45) (.seq (pr [.mv 4 (.c (.int .i64 (-1)))] [4])
.ret) .skip))
(pr [.mv 46 (.s 1), .bin 47 false .add (.s 46) (ci 1), .mv 1 (.s 47)] [0,1,5])))))))))
(pr [.mv 10 (.s 5), .bin 11 false .add (.s 10) (ci 1), .mv 5 (.s 11)] [0,1,5]))))))
(.seq (pr [.mv 48 (.s 1), .mv 4 (.s 48)] [4])
.ret)))
theorem c_laws_heldContainerS (xs : List GContainer) (k : Int) (hk : 0 ≤ k) (hN : k + (ctL GContainer.ct xs : Nat) ≤ 4611686018427387904) : Ctr Tryz.prog n_laws_heldContainerS [aL 4 ((mkL GContainer.mkd GContainer.ct xs k).map GContainer.enc), aI k] [rI (k + (ctL GContainer.ct xs : Nat))] := by
 refine cA m_laws_heldContainerS 0 49 [(.tmp 4, [false])] Tryz.func193 rfl rfl ?_; unfold m_laws_heldContainerS
 intro hb
 simp only [bdA, bdL, bdT, bdR_map, wfB_i64, roomB, and_true, List.length_map] at hb
 have hl := hb.1.1
 rw [mkL_len] at hl
 clear hb
 simp only [↓reduceIte, go_sem]
 refine loopK_rng xs (fun i => [(1, vI (k + (ctL GContainer.ct (xs.take i) : Nat))), (5, vI i)]) (fun i => []) (fun _ => True) hl ?_
 simp only [↓reduceIte, go_sem]
 refine ⟨?_, trivial, ?_, ?_⟩
 ·simp only [↓reduceIte, go_sem, List.take_zero, ctL_nil]
  all_goals simp
 ·intro i x hx _ h0 h1 hw
  have hg := mkL_get (mk := GContainer.mkd) (c := GContainer.ct) (k := k) hx
  have hc := ctL_take_le (c := GContainer.ct) (i + 1) (l := xs)
  rw [ctL_snoc hx] at hc
  have hK0 : 0 ≤ k + ((ctL GContainer.ct (xs.take i) : Nat) : Int) := by omega
  have hK1 : k + ((ctL GContainer.ct (xs.take i) : Nat) : Int) + (GContainer.ct x : Nat) ≤ 4611686018427387904 := by omega
  generalize hK : k + ((ctL GContainer.ct (xs.take i) : Nat) : Int) = K at hK0 hK1 hg
  simp only [GContainer.ct] at hK1
  try simp only [↓reduceIte, go_sem, bk_eq hg, h0, h1, mkL_len, GContainer.mkd]
  refine callK_of (c_laws_heldOpS x.Script K (by omega) (by omega)) ?_
  have hK1 : 0 ≤ K + (ctL GOp.ct x.Script : Nat) := by omega
  generalize eK1 : K + ((ctL GOp.ct x.Script : Nat) : Int) = K1 at hK1
  have nK1 : ¬ K1 < 0 := by omega
  simp only [↓reduceIte, go_sem, bk_eq hg, h0, h1, mkL_len, GContainer.mkd, nK1, eK1]
  intro _
  try simp only [↓reduceIte, go_sem, hw, bk_eq hg, h0, h1, mkL_len, hK, GContainer.mkd, bne_self_eq_false, beq_self_eq_true, three_ne, bMk, nK1, eK1, waK (K := K1) (K' := K1) rfl (by omega) (by omega), waK (K := K1 + 1) (K' := K1 + 1) (by omega) (by omega) (by omega)]
  refine callK_of (c_laws_heldEntryS x.Entries K1 (by omega) (by omega)) ?_
  have hK2 : 0 ≤ K1 + (ctL GEntry.ct x.Entries : Nat) := by omega
  generalize eK2 : K1 + ((ctL GEntry.ct x.Entries : Nat) : Int) = K2 at hK2
  have nK2 : ¬ K2 < 0 := by omega
  simp only [↓reduceIte, go_sem, bk_eq hg, h0, h1, mkL_len, GContainer.mkd, eK1, nK2, eK2]
  intro _
  try simp only [↓reduceIte, go_sem, hw, bk_eq hg, h0, h1, mkL_len, hK, GContainer.mkd, bne_self_eq_false, beq_self_eq_true, three_ne, bMk, nK1, eK1, nK2, eK2, waK (K := K2) (K' := K2) rfl (by omega) (by omega), waK (K := K2 + 1) (K' := K2 + 1) (by omega) (by omega) (by omega)]
  refine callK_of (c_laws_heldCaptureS x.Captures K2 (by omega) (by omega)) ?_
  have hK3 : 0 ≤ K2 + (ctL GCapture.ct x.Captures : Nat) := by omega
  generalize eK3 : K2 + ((ctL GCapture.ct x.Captures : Nat) : Int) = K3 at hK3
  have nK3 : ¬ K3 < 0 := by omega
  simp only [↓reduceIte, go_sem, hw, bk_eq hg, h0, h1, mkL_len, GContainer.mkd, eK1, eK2, nK3, eK3]
  intro _
  simp only [go_sem, waK (K := K3 + 1) (K' := K3 + 1) (by omega) (by omega) (by omega)]
  subst eK3
  subst eK2
  subst eK1
  rw [ctL_snoc hx]
  simp only [GContainer.ct]
  omega
 ·intro _
  simp only [↓reduceIte, go_sem, List.take_length, mkL_len]
def GContainer.mks (x : GContainer) (k : Int) : GContainer := { x with Script := mkL GOp.mkd GOp.ct x.Script (k), Entries := mkL GEntry.mkd GEntry.ct x.Entries (k + (ctL GOp.ct x.Script : Nat)), Captures := mkL GCapture.mkd GCapture.ct x.Captures (k + (ctL GOp.ct x.Script : Nat) + (ctL GEntry.ct x.Entries : Nat)) }
def GContainer.cts (x : GContainer) : Nat := ctL GOp.ct x.Script + ctL GEntry.ct x.Entries + ctL GCapture.ct x.Captures
theorem GContainer.cts_le (x : GContainer) : x.cts ≤ 16 * x.size := by
 simp only [GContainer.cts, GContainer.size]
 have hScript := ctL_le' (c := GOp.ct) (fun y => by simp only [GOp.ct]; omega) x.Script
 have hEntries := ctL_le' (c := GEntry.ct) (fun y => by simp only [GEntry.ct]; omega) x.Entries
 have hCaptures := ctL_le (c := GCapture.ct) (s := GCapture.size) GCapture.ct_le x.Captures
 omega
@[go_sem] theorem GContainer.mks_len0 (x : GContainer) (k : Int) : ((x.mks k).Script).length = x.Script.length := mkL_len
@[go_sem] theorem GContainer.mks_len1 (x : GContainer) (k : Int) : ((x.mks k).Entries).length = x.Entries.length := mkL_len
@[go_sem] theorem GContainer.mks_len2 (x : GContainer) (k : Int) : ((x.mks k).Captures).length = x.Captures.length := mkL_len
def GFound.mkd (x : GFound) (k : Int) : GFound := ⟨⟨k, (k + 1), (k + 2)⟩, (k + 3), (k + 4), (k + 5)⟩
def GFound.ct (x : GFound) : Nat := 6
def m_laws_markFoundS : MC :=
(.seq (pr [.mv 4 (ci 0)] [0,1])
(.seq (.seq (pr [.mv 5 (ci 0)] [0,1,5])
(.block 0 (.loop ([0,1,5], []) (.seq (.seq (pr [.mv 6 (.s 5), .mv 7 (.s 0), .len 8 false (.s 7), .bin 9 false .lss (.s 6) (.s 8)] [0,1,5,9])
(.cond (.s 9) .skip (.exit 0)))
(.seq (.block 1 (.seq (pr [.mv 12 (.s 0), .mv 13 (.s 5), .mv 14 (.s 1), .idx 15 6 (.s 12) (.s 13), .fld 16 (.s 15) 0, .fld 17 (.s 16) 0, .store 1 (.s 17) (.s 14)] [0,1,5])
(.seq (pr [.mv 18 (.s 1), .bin 19 false .add (.s 18) (ci 1), .mv 1 (.s 19)] [0,1,5])
(.seq (pr [.mv 20 (.s 0), .mv 21 (.s 5), .mv 22 (.s 1), .idx 23 6 (.s 20) (.s 21), .fld 24 (.s 23) 0, .fld 25 (.s 24) 1, .store 1 (.s 25) (.s 22)] [0,1,5])
(.seq (pr [.mv 26 (.s 1), .bin 27 false .add (.s 26) (ci 1), .mv 1 (.s 27)] [0,1,5])
(.seq (pr [.mv 28 (.s 0), .mv 29 (.s 5), .mv 30 (.s 1), .idx 31 6 (.s 28) (.s 29), .fld 32 (.s 31) 0, .fld 33 (.s 32) 2, .store 1 (.s 33) (.s 30)] [0,1,5])
(.seq (pr [.mv 34 (.s 1), .bin 35 false .add (.s 34) (ci 1), .mv 1 (.s 35)] [0,1,5])
(.seq (pr [.mv 36 (.s 0), .mv 37 (.s 5), .mv 38 (.s 1), .idx 39 6 (.s 36) (.s 37), .fld 40 (.s 39) 3, .store 1 (.s 40) (.s 38)] [0,1,5])
(.seq (pr [.mv 41 (.s 1), .bin 42 false .add (.s 41) (ci 1), .mv 1 (.s 42)] [0,1,5])
(.seq (pr [.mv 43 (.s 0), .mv 44 (.s 5), .mv 45 (.s 1), .idx 46 6 (.s 43) (.s 44), .fld 47 (.s 46) 4, .store 1 (.s 47) (.s 45)] [0,1,5])
(.seq (pr [.mv 48 (.s 1), .bin 49 false .add (.s 48) (ci 1), .mv 1 (.s 49)] [0,1,5])
(.seq (pr [.mv 50 (.s 0), .mv 51 (.s 5), .mv 52 (.s 1), .idx 53 6 (.s 50) (.s 51), .fld 54 (.s 53) 5, .store 1 (.s 54) (.s 52)] [0,1,5])
(pr [.mv 55 (.s 1), .bin 56 false .add (.s 55) (ci 1), .mv 1 (.s 56)] [0,1,5])))))))))))))
(pr [.mv 10 (.s 5), .bin 11 false .add (.s 10) (ci 1), .mv 5 (.s 11)] [0,1,5]))))))
(.seq (pr [.mv 57 (.s 1), .mv 4 (.s 57)] [4])
.ret)))
theorem c_laws_markFoundS (xs : List GFound) (k : Int) (hk : 0 ≤ k) (hN : k + (ctL GFound.ct xs : Nat) ≤ 4611686018427387904) : CtrI Tryz.prog n_laws_markFoundS [oL 6 (xs.map GFound.enc), iI k] [some (6, (mkL GFound.mkd GFound.ct xs k).map GFound.enc)] [rI (k + (ctL GFound.ct xs : Nat))] := by
 refine ctrI_at (M := m_laws_markFoundS) (m := 0) (n := 58) (res := [(.tmp 4, [false])]) hmix Tryz.func172 rfl (by kernel_rfl) rfl (by kernel_rfl) (by kernel_rfl) (Nat.le_of_ble_eq_true rfl) rfl rfl ?_; unfold m_laws_markFoundS
 intro hb
 have hl := len_of_bd hb
 clear hb
 simp only [↓reduceIte, go_sem]
 refine loopK_rng xs (fun i => [(1, vI (k + (ctL GFound.ct (xs.take i) : Nat))), (5, vI i)]) (fun i => [(0, ⟨1, .row true 6 ((mkL GFound.mkd GFound.ct (xs.take i) k).map GFound.enc ++ (xs.drop i).map GFound.enc)⟩)]) (fun _ => True) hl ?_
 simp only [↓reduceIte, go_sem]
 refine ⟨?_, trivial, ?_, ?_⟩
 ·simp only [↓reduceIte, go_sem, List.take_zero, List.drop_zero, mkL_nil, ctL_nil]
  all_goals simp
 ·intro i x hx _ h0 h1 hw
  have hR := mid_of (mk := GFound.mkd) (c := GFound.ct) (k := k) (f := GFound.enc) hx
  have hA := mid_at (mk := GFound.mkd) (c := GFound.ct) (k := k) (f := GFound.enc) hx
  generalize hAe : (mkL GFound.mkd GFound.ct (xs.take i) k).map GFound.enc = A at hR hA
  generalize hBe : (xs.drop (i + 1)).map GFound.enc = B at hR hA
  obtain ⟨hg, hs, hl, hd⟩ := hA
  have hc := ctL_take_le (c := GFound.ct) (i + 1) (l := xs)
  rw [ctL_snoc hx] at hc
  have hK0 : 0 ≤ k + ((ctL GFound.ct (xs.take i) : Nat) : Int) := by omega
  have hK1 : k + ((ctL GFound.ct (xs.take i) : Nat) : Int) + (GFound.ct x : Nat) ≤ 4611686018427387904 := by omega
  generalize hK : k + ((ctL GFound.ct (xs.take i) : Nat) : Int) = K at hK0 hK1
  simp only [GFound.ct] at hK1
  simp only [↓reduceIte, go_sem, hw, hR, hg, hs, hl, h0, h1, waK (K := K + 1) (K' := K + 1) (by omega) (by omega) (by omega), waK (K := K + 1 + 1) (K' := K + 2) (by omega) (by omega) (by omega), waK (K := K + 2 + 1) (K' := K + 3) (by omega) (by omega) (by omega), waK (K := K + 3 + 1) (K' := K + 4) (by omega) (by omega) (by omega), waK (K := K + 4 + 1) (K' := K + 5) (by omega) (by omega) (by omega), waK (K := K + 5 + 1) (K' := K + 6) (by omega) (by omega) (by omega)]
  subst hK hAe hBe
  refine ⟨?_, mid_snoc hx⟩
  rw [ctL_snoc hx]
  simp only [GFound.ct]
  omega
 ·intro _
  simp only [↓reduceIte, go_sem, List.take_length, List.drop_length, List.map_nil, List.append_nil, mkL_len]
def m_laws_heldFoundS : MC :=
(.seq (pr [.mv 4 (ci 0)] [0,1])
(.seq (.seq (pr [.mv 5 (ci 0)] [0,1,5])
(.block 0 (.loop ([0,1,5], []) (.seq (.seq (pr [.mv 6 (.s 5), .mv 7 (.s 0), .len 8 false (.s 7), .bin 9 false .lss (.s 6) (.s 8)] [0,1,5,9])
(.cond (.s 9) .skip (.exit 0)))
(.seq (.block 1 (.seq (.seq (pr [.mv 12 (.s 0), .mv 13 (.s 5), .idx 14 6 (.s 12) (.s 13), .fld 15 (.s 14) 0, .fld 16 (.s 15) 0, .load 17 false 1 (.s 16), .mv 18 (.s 1), .bin 19 false .neq (.s 17) (.s 18)] [0,1,5,19])
(.cond (.s 19) (.seq (pr [.mv 4 (.c (.int .i64 (-1)))] [4])
.ret) .skip))
(.seq (pr [.mv 20 (.s 1), .bin 21 false .add (.s 20) (ci 1), .mv 1 (.s 21)] [0,1,5])
(.seq (.seq (pr [.mv 22 (.s 0), .mv 23 (.s 5), .idx 24 6 (.s 22) (.s 23), .fld 25 (.s 24) 0, .fld 26 (.s 25) 1, .load 27 false 1 (.s 26), .mv 28 (.s 1), .bin 29 false .neq (.s 27) (.s 28)] [0,1,5,29])
(.cond (.s 29) (.seq (pr [.mv 4 (.c (.int .i64 (-1)))] [4])
.ret) .skip))
(.seq (pr [.mv 30 (.s 1), .bin 31 false .add (.s 30) (ci 1), .mv 1 (.s 31)] [0,1,5])
(.seq (.seq (pr [.mv 32 (.s 0), .mv 33 (.s 5), .idx 34 6 (.s 32) (.s 33), .fld 35 (.s 34) 0, .fld 36 (.s 35) 2, .load 37 false 1 (.s 36), .mv 38 (.s 1), .bin 39 false .neq (.s 37) (.s 38)] [0,1,5,39])
(.cond (.s 39) (.seq (pr [.mv 4 (.c (.int .i64 (-1)))] [4])
.ret) .skip))
(.seq (pr [.mv 40 (.s 1), .bin 41 false .add (.s 40) (ci 1), .mv 1 (.s 41)] [0,1,5])
(.seq (.seq (pr [.mv 42 (.s 0), .mv 43 (.s 5), .idx 44 6 (.s 42) (.s 43), .fld 45 (.s 44) 3, .load 46 false 1 (.s 45), .mv 47 (.s 1), .bin 48 false .neq (.s 46) (.s 47)] [0,1,5,48])
(.cond (.s 48) (.seq (pr [.mv 4 (.c (.int .i64 (-1)))] [4])
.ret) .skip))
(.seq (pr [.mv 49 (.s 1), .bin 50 false .add (.s 49) (ci 1), .mv 1 (.s 50)] [0,1,5])
(.seq (.seq (pr [.mv 51 (.s 0), .mv 52 (.s 5), .idx 53 6 (.s 51) (.s 52), .fld 54 (.s 53) 4, .load 55 false 1 (.s 54), .mv 56 (.s 1), .bin 57 false .neq (.s 55) (.s 56)] [0,1,5,57])
(.cond (.s 57) (.seq (pr [.mv 4 (.c (.int .i64 (-1)))] [4])
.ret) .skip))
(.seq (pr [.mv 58 (.s 1), .bin 59 false .add (.s 58) (ci 1), .mv 1 (.s 59)] [0,1,5])
(.seq (.seq (pr [.mv 60 (.s 0), .mv 61 (.s 5), .idx 62 6 (.s 60) (.s 61), .fld 63 (.s 62) 5, .load 64 false 1 (.s 63), .mv 65 (.s 1), .bin 66 false .neq (.s 64) (.s 65)] [0,1,5,66])
(.cond (.s 66) (.seq (pr [.mv 4 (.c (.int .i64 (-1)))] [4])
.ret) .skip))
(pr [.mv 67 (.s 1), .bin 68 false .add (.s 67) (ci 1), .mv 1 (.s 68)] [0,1,5])))))))))))))
(pr [.mv 10 (.s 5), .bin 11 false .add (.s 10) (ci 1), .mv 5 (.s 11)] [0,1,5]))))))
(.seq (pr [.mv 69 (.s 1), .mv 4 (.s 69)] [4])
.ret)))
theorem c_laws_heldFoundS (xs : List GFound) (k : Int) (hk : 0 ≤ k) (hN : k + (ctL GFound.ct xs : Nat) ≤ 4611686018427387904) : Ctr Tryz.prog n_laws_heldFoundS [aL 6 ((mkL GFound.mkd GFound.ct xs k).map GFound.enc), aI k] [rI (k + (ctL GFound.ct xs : Nat))] := by
 refine cA m_laws_heldFoundS 0 70 [(.tmp 4, [false])] Tryz.func194 rfl rfl ?_; unfold m_laws_heldFoundS
 intro hb
 simp only [bdA, bdL, bdT, bdR_map, wfB_i64, roomB, and_true, List.length_map] at hb
 have hl := hb.1.1
 rw [mkL_len] at hl
 clear hb
 simp only [↓reduceIte, go_sem]
 refine loopK_rng xs (fun i => [(1, vI (k + (ctL GFound.ct (xs.take i) : Nat))), (5, vI i)]) (fun i => []) (fun _ => True) hl ?_
 simp only [↓reduceIte, go_sem]
 refine ⟨?_, trivial, ?_, ?_⟩
 ·simp only [↓reduceIte, go_sem, List.take_zero, ctL_nil]
  all_goals simp
 ·intro i x hx _ h0 h1 hw
  have hg := mkL_get (mk := GFound.mkd) (c := GFound.ct) (k := k) hx
  have hc := ctL_take_le (c := GFound.ct) (i + 1) (l := xs)
  rw [ctL_snoc hx] at hc
  have hK0 : 0 ≤ k + ((ctL GFound.ct (xs.take i) : Nat) : Int) := by omega
  have hK1 : k + ((ctL GFound.ct (xs.take i) : Nat) : Int) + (GFound.ct x : Nat) ≤ 4611686018427387904 := by omega
  generalize hK : k + ((ctL GFound.ct (xs.take i) : Nat) : Int) = K at hK0 hK1 hg
  simp only [GFound.ct] at hK1
  simp only [↓reduceIte, go_sem, hw, bk_eq hg, h0, h1, mkL_len, GFound.mkd, waK (K := K + 1) (K' := K + 1) (by omega) (by omega) (by omega), waK (K := K + 1 + 1) (K' := K + 2) (by omega) (by omega) (by omega), waK (K := K + 2 + 1) (K' := K + 3) (by omega) (by omega) (by omega), waK (K := K + 3 + 1) (K' := K + 4) (by omega) (by omega) (by omega), waK (K := K + 4 + 1) (K' := K + 5) (by omega) (by omega) (by omega), waK (K := K + 5 + 1) (K' := K + 6) (by omega) (by omega) (by omega)]
  rw [ctL_snoc hx]
  simp only [GFound.ct]
  omega
 ·intro _
  simp only [↓reduceIte, go_sem, List.take_length, mkL_len]
def GDisk.mks (x : GDisk) (k : Int) : GDisk := { x with Containers := mkL GContainer.mkd GContainer.ct x.Containers (k), Index := mkL GFound.mkd GFound.ct x.Index (k + (ctL GContainer.ct x.Containers : Nat)), Wanted := mkL GContainer.mkd GContainer.ct x.Wanted (k + (ctL GContainer.ct x.Containers : Nat) + (ctL GFound.ct x.Index : Nat)) }
def GDisk.cts (x : GDisk) : Nat := ctL GContainer.ct x.Containers + ctL GFound.ct x.Index + ctL GContainer.ct x.Wanted
theorem GDisk.cts_le (x : GDisk) : x.cts ≤ 16 * x.size := by
 simp only [GDisk.cts, GDisk.size]
 have hContainers := ctL_le (c := GContainer.ct) (s := GContainer.size) GContainer.ct_le x.Containers
 have hIndex := ctL_le' (c := GFound.ct) (fun y => by simp only [GFound.ct]; omega) x.Index
 have hWanted := ctL_le (c := GContainer.ct) (s := GContainer.size) GContainer.ct_le x.Wanted
 omega
@[go_sem] theorem GDisk.mks_len0 (x : GDisk) (k : Int) : ((x.mks k).Containers).length = x.Containers.length := mkL_len
@[go_sem] theorem GDisk.mks_len1 (x : GDisk) (k : Int) : ((x.mks k).Index).length = x.Index.length := mkL_len
@[go_sem] theorem GDisk.mks_len2 (x : GDisk) (k : Int) : ((x.mks k).Wanted).length = x.Wanted.length := mkL_len
def m_laws_markDisk : MC :=
(.seq (pr [.box 2 3 (.s 0), .mv 4 (ci 0)] [1,2])
(.seq (pr [.fld 5 (.s 2) 0, .load 6 false 1 (.s 5), .mv 7 (.s 1), .callI 8 [] (.f n_laws_markContainerS) [.s 6, .s 7] [0] [], .mv 1 (.s 8)] [1,2])
(.seq (pr [.fld 9 (.s 2) 1, .load 10 false 1 (.s 9), .mv 11 (.s 1), .callI 12 [] (.f n_laws_markFoundS) [.s 10, .s 11] [1] [], .mv 1 (.s 12)] [1,2])
(.seq (pr [.fld 13 (.s 2) 2, .load 14 false 1 (.s 13), .mv 15 (.s 1), .callI 16 [] (.f n_laws_markContainerS) [.s 14, .s 15] [2] [], .mv 1 (.s 16)] [1])
(.seq (pr [.mv 17 (.s 1), .mv 4 (.s 17)] [4])
.ret)))))
theorem c_laws_markDisk (x : GDisk) (k : Int) (hk : 0 ≤ k) (hN : k + (x.cts : Nat) ≤ 4611686018427387904) : CtrI Tryz.prog n_laws_markDisk [oS x.enc, iI k] [some (4, (x.mks k).Containers.map GContainer.enc), some (6, (x.mks k).Index.map GFound.enc), some (4, (x.mks k).Wanted.map GContainer.enc)] [rI (k + (x.cts : Nat))] := by
 refine ctrI_at (M := m_laws_markDisk) (m := 1) (n := 18) (res := [(.tmp 4, [false])]) hmix Tryz.func88 rfl (by kernel_rfl) rfl (by kernel_rfl) (by kernel_rfl) (Nat.le_of_ble_eq_true rfl) rfl rfl ?_; unfold m_laws_markDisk
 intro hb
 clear hb
 simp only [GDisk.cts] at hN ⊢
 simp only [↓reduceIte, go_sem]
 refine callIK_of (c_laws_markContainerS x.Containers (k) (by omega) (by omega)) ?_
 simp only [↓reduceIte, go_sem]
 refine callIK_of (c_laws_markFoundS x.Index (k + (ctL GContainer.ct x.Containers : Nat)) (by omega) (by omega)) ?_
 simp only [↓reduceIte, go_sem]
 refine callIK_of (c_laws_markContainerS x.Wanted (k + (ctL GContainer.ct x.Containers : Nat) + (ctL GFound.ct x.Index : Nat)) (by omega) (by omega)) ?_
 simp only [↓reduceIte, go_sem]
 all_goals (try omega)
 repeat' (first | rfl | omega | refine And.intro ?_ ?_)
def m_laws_heldDisk : MC :=
(.seq (pr [.box 2 0 (.s 0), .mv 4 (ci 0)] [1,2])
(.seq (pr [.fld 5 (.s 2) 0, .load 6 false 1 (.s 5), .mv 7 (.s 1), .call 8 [] (.f n_laws_heldContainerS) [.s 6, .s 7], .mv 1 (.s 8)] [1,2])
(.seq (.seq (pr [.mv 9 (.s 1), .bin 10 false .lss (.s 9) (ci 0)] [1,2,10])
(.cond (.s 10) (.seq (pr [.mv 4 (.c (.int .i64 (-1)))] [4])
.ret) .skip))
(.seq (pr [.fld 11 (.s 2) 1, .load 12 false 1 (.s 11), .mv 13 (.s 1), .call 14 [] (.f n_laws_heldFoundS) [.s 12, .s 13], .mv 1 (.s 14)] [1,2])
(.seq (.seq (pr [.mv 15 (.s 1), .bin 16 false .lss (.s 15) (ci 0)] [1,2,16])
(.cond (.s 16) (.seq (pr [.mv 4 (.c (.int .i64 (-1)))] [4])
.ret) .skip))
(.seq (pr [.fld 17 (.s 2) 2, .load 18 false 1 (.s 17), .mv 19 (.s 1), .call 20 [] (.f n_laws_heldContainerS) [.s 18, .s 19], .mv 1 (.s 20)] [1])
(.seq (.seq (pr [.mv 21 (.s 1), .bin 22 false .lss (.s 21) (ci 0)] [1,22])
(.cond (.s 22) (.seq (pr [.mv 4 (.c (.int .i64 (-1)))] [4])
.ret) .skip))
(.seq (pr [.mv 23 (.s 1), .mv 4 (.s 23)] [4])
.ret))))))))
theorem c_laws_heldDisk (x : GDisk) (k : Int) (hk : 0 ≤ k) (hN : k + (x.cts : Nat) ≤ 4611686018427387904) : Ctr Tryz.prog n_laws_heldDisk [aS (x.mks k).enc, aI k] [rI (k + (x.cts : Nat))] := by
 refine cA m_laws_heldDisk 1 24 [(.tmp 4, [false])] Tryz.func105 rfl rfl ?_; unfold m_laws_heldDisk
 intro hb
 clear hb
 simp only [GDisk.cts] at hN ⊢
 simp only [↓reduceIte, go_sem]
 refine callK_of (c_laws_heldContainerS x.Containers (k) (by omega) (by omega)) ?_
 have n1 : ¬ k + (ctL GContainer.ct x.Containers : Nat) < 0 := by omega
 simp only [↓reduceIte, go_sem, n1]
 try intro _
 refine callK_of (c_laws_heldFoundS x.Index (k + (ctL GContainer.ct x.Containers : Nat)) (by omega) (by omega)) ?_
 have n2 : ¬ k + (ctL GContainer.ct x.Containers : Nat) + (ctL GFound.ct x.Index : Nat) < 0 := by omega
 simp only [↓reduceIte, go_sem, n2]
 try intro _
 refine callK_of (c_laws_heldContainerS x.Wanted (k + (ctL GContainer.ct x.Containers : Nat) + (ctL GFound.ct x.Index : Nat)) (by omega) (by omega)) ?_
 have n3 : ¬ k + (ctL GContainer.ct x.Containers : Nat) + (ctL GFound.ct x.Index : Nat) + (ctL GContainer.ct x.Wanted : Nat) < 0 := by omega
 simp only [↓reduceIte, go_sem, n3]
 try intro _
 all_goals (try omega)
 all_goals (try simp only [n1, n2, n3])
def GArchive.mks (x : GArchive) (k : Int) : GArchive := { x with Site := mkL GVersion.mkd GVersion.ct x.Site (k), Script := mkL GOp.mkd GOp.ct x.Script (k + (ctL GVersion.ct x.Site : Nat)), Disk := x.Disk.mks (k + (ctL GVersion.ct x.Site : Nat) + (ctL GOp.ct x.Script : Nat)), Exclusions := mkL GExclusion.mkd GExclusion.ct x.Exclusions (k + (ctL GVersion.ct x.Site : Nat) + (ctL GOp.ct x.Script : Nat) + (x.Disk.cts : Nat)), Libraries := mkL GLibrary.mkd GLibrary.ct x.Libraries (k + (ctL GVersion.ct x.Site : Nat) + (ctL GOp.ct x.Script : Nat) + (x.Disk.cts : Nat) + (ctL GExclusion.ct x.Exclusions : Nat)), Keys := mkL iMk iCt x.Keys (k + (ctL GVersion.ct x.Site : Nat) + (ctL GOp.ct x.Script : Nat) + (x.Disk.cts : Nat) + (ctL GExclusion.ct x.Exclusions : Nat) + (ctL GLibrary.ct x.Libraries : Nat)), Statements := mkL GStatement.mkd GStatement.ct x.Statements (k + (ctL GVersion.ct x.Site : Nat) + (ctL GOp.ct x.Script : Nat) + (x.Disk.cts : Nat) + (ctL GExclusion.ct x.Exclusions : Nat) + (ctL GLibrary.ct x.Libraries : Nat) + (ctL iCt x.Keys : Nat)) }
def GArchive.cts (x : GArchive) : Nat := ctL GVersion.ct x.Site + ctL GOp.ct x.Script + x.Disk.cts + ctL GExclusion.ct x.Exclusions + ctL GLibrary.ct x.Libraries + ctL iCt x.Keys + ctL GStatement.ct x.Statements
theorem GArchive.cts_le (x : GArchive) : x.cts ≤ 16 * x.size := by
 simp only [GArchive.cts, GArchive.size]
 have hSite := ctL_le (c := GVersion.ct) (s := GVersion.size) GVersion.ct_le x.Site
 have hScript := ctL_le' (c := GOp.ct) (fun y => by simp only [GOp.ct]; omega) x.Script
 have hDisk := GDisk.cts_le x.Disk
 have hExclusions := ctL_le' (c := GExclusion.ct) (fun y => by simp only [GExclusion.ct]; omega) x.Exclusions
 have hLibraries := ctL_le (c := GLibrary.ct) (s := GLibrary.size) GLibrary.ct_le x.Libraries
 have hKeys := ctL_le' (c := iCt) (fun y => by simp only [iCt]; omega) x.Keys
 have hStatements := ctL_le' (c := GStatement.ct) (fun y => by simp only [GStatement.ct]; omega) x.Statements
 omega
@[go_sem] theorem GArchive.mks_len0 (x : GArchive) (k : Int) : ((x.mks k).Site).length = x.Site.length := mkL_len
@[go_sem] theorem GArchive.mks_len1 (x : GArchive) (k : Int) : ((x.mks k).Script).length = x.Script.length := mkL_len
@[go_sem] theorem GArchive.mks_len2 (x : GArchive) (k : Int) : ((x.mks k).Disk.Containers).length = x.Disk.Containers.length := mkL_len
@[go_sem] theorem GArchive.mks_len3 (x : GArchive) (k : Int) : ((x.mks k).Disk.Index).length = x.Disk.Index.length := mkL_len
@[go_sem] theorem GArchive.mks_len4 (x : GArchive) (k : Int) : ((x.mks k).Disk.Wanted).length = x.Disk.Wanted.length := mkL_len
@[go_sem] theorem GArchive.mks_len5 (x : GArchive) (k : Int) : ((x.mks k).Exclusions).length = x.Exclusions.length := mkL_len
@[go_sem] theorem GArchive.mks_len6 (x : GArchive) (k : Int) : ((x.mks k).Libraries).length = x.Libraries.length := mkL_len
@[go_sem] theorem GArchive.mks_len7 (x : GArchive) (k : Int) : ((x.mks k).Keys).length = x.Keys.length := mkL_len
@[go_sem] theorem GArchive.mks_len8 (x : GArchive) (k : Int) : ((x.mks k).Statements).length = x.Statements.length := mkL_len
def m_laws_markArchive : MC :=
(.seq (pr [.box 2 9 (.s 0), .mv 4 (ci 0)] [1,2])
(.seq (pr [.fld 5 (.s 2) 0, .load 6 false 1 (.s 5), .mv 7 (.s 1), .callI 8 [] (.f n_laws_markVersionS) [.s 6, .s 7] [0] [], .mv 1 (.s 8)] [1,2])
(.seq (pr [.fld 9 (.s 2) 1, .load 10 false 1 (.s 9), .mv 11 (.s 1), .callI 12 [] (.f n_laws_markOpS) [.s 10, .s 11] [1] [], .mv 1 (.s 12)] [1,2])
(.seq (pr [.fld 13 (.s 2) 2, .load 14 true 3 (.s 13), .mv 15 (.s 1), .callI 16 [] (.f n_laws_markDisk) [.s 14, .s 15] [2,3,4] [], .mv 1 (.s 16)] [1,2])
(.seq (pr [.fld 17 (.s 2) 5, .load 18 false 1 (.s 17), .mv 19 (.s 1), .callI 20 [] (.f n_laws_markExclusionS) [.s 18, .s 19] [5] [], .mv 1 (.s 20)] [1,2])
(.seq (pr [.fld 21 (.s 2) 6, .load 22 false 1 (.s 21), .mv 23 (.s 1), .callI 24 [] (.f n_laws_markLibraryS) [.s 22, .s 23] [6] [], .mv 1 (.s 24)] [1,2])
(.seq (pr [.fld 25 (.s 2) 7, .load 26 false 1 (.s 25), .mv 27 (.s 1), .callI 28 [] (.f n_laws_markIntS) [.s 26, .s 27] [7] [], .mv 1 (.s 28)] [1,2])
(.seq (pr [.fld 29 (.s 2) 8, .load 30 false 1 (.s 29), .mv 31 (.s 1), .callI 32 [] (.f n_laws_markStatementS) [.s 30, .s 31] [8] [], .mv 1 (.s 32)] [1])
(.seq (pr [.mv 33 (.s 1), .mv 4 (.s 33)] [4])
.ret)))))))))
theorem c_laws_markArchive (x : GArchive) (k : Int) (hk : 0 ≤ k) (hN : k + (x.cts : Nat) ≤ 4611686018427387904) : CtrI Tryz.prog n_laws_markArchive [oS x.enc, iI k] [some (9, (x.mks k).Site.map GVersion.enc), some (4, (x.mks k).Script.map GOp.enc), some (4, (x.mks k).Disk.Containers.map GContainer.enc), some (6, (x.mks k).Disk.Index.map GFound.enc), some (4, (x.mks k).Disk.Wanted.map GContainer.enc), some (5, (x.mks k).Exclusions.map GExclusion.enc), some (4, (x.mks k).Libraries.map GLibrary.enc), some (1, (x.mks k).Keys.map encI), some (4, (x.mks k).Statements.map GStatement.enc)] [rI (k + (x.cts : Nat))] := by
 refine ctrI_at (M := m_laws_markArchive) (m := 1) (n := 34) (res := [(.tmp 4, [false])]) hmix Tryz.func23 rfl (by kernel_rfl) rfl (by kernel_rfl) (by kernel_rfl) (Nat.le_of_ble_eq_true rfl) rfl rfl ?_; unfold m_laws_markArchive
 intro hb
 clear hb
 simp only [GArchive.cts] at hN ⊢
 simp only [↓reduceIte, go_sem]
 refine callIK_of (c_laws_markVersionS x.Site (k) (by omega) (by omega)) ?_
 simp only [↓reduceIte, go_sem]
 refine callIK_of (c_laws_markOpS x.Script (k + (ctL GVersion.ct x.Site : Nat)) (by omega) (by omega)) ?_
 simp only [↓reduceIte, go_sem]
 refine callIK_of (c_laws_markDisk x.Disk (k + (ctL GVersion.ct x.Site : Nat) + (ctL GOp.ct x.Script : Nat)) (by omega) (by omega)) ?_
 simp only [↓reduceIte, go_sem]
 refine callIK_of (c_laws_markExclusionS x.Exclusions (k + (ctL GVersion.ct x.Site : Nat) + (ctL GOp.ct x.Script : Nat) + (x.Disk.cts : Nat)) (by omega) (by omega)) ?_
 simp only [↓reduceIte, go_sem]
 refine callIK_of (c_laws_markLibraryS x.Libraries (k + (ctL GVersion.ct x.Site : Nat) + (ctL GOp.ct x.Script : Nat) + (x.Disk.cts : Nat) + (ctL GExclusion.ct x.Exclusions : Nat)) (by omega) (by omega)) ?_
 simp only [↓reduceIte, go_sem]
 refine callIK_of (c_laws_markIntS x.Keys (k + (ctL GVersion.ct x.Site : Nat) + (ctL GOp.ct x.Script : Nat) + (x.Disk.cts : Nat) + (ctL GExclusion.ct x.Exclusions : Nat) + (ctL GLibrary.ct x.Libraries : Nat)) (by omega) (by omega)) ?_
 simp only [↓reduceIte, go_sem]
 refine callIK_of (c_laws_markStatementS x.Statements (k + (ctL GVersion.ct x.Site : Nat) + (ctL GOp.ct x.Script : Nat) + (x.Disk.cts : Nat) + (ctL GExclusion.ct x.Exclusions : Nat) + (ctL GLibrary.ct x.Libraries : Nat) + (ctL iCt x.Keys : Nat)) (by omega) (by omega)) ?_
 simp only [↓reduceIte, go_sem]
 all_goals (try omega)
 repeat' (first | rfl | omega | refine And.intro ?_ ?_)
def m_laws_heldArchive : MC :=
(.seq (pr [.box 2 0 (.s 0), .mv 4 (ci 0)] [1,2])
(.seq (pr [.fld 5 (.s 2) 0, .load 6 false 1 (.s 5), .mv 7 (.s 1), .call 8 [] (.f n_laws_heldVersionS) [.s 6, .s 7], .mv 1 (.s 8)] [1,2])
(.seq (.seq (pr [.mv 9 (.s 1), .bin 10 false .lss (.s 9) (ci 0)] [1,2,10])
(.cond (.s 10) (.seq (pr [.mv 4 (.c (.int .i64 (-1)))] [4])
.ret) .skip))
(.seq (pr [.fld 11 (.s 2) 1, .load 12 false 1 (.s 11), .mv 13 (.s 1), .call 14 [] (.f n_laws_heldOpS) [.s 12, .s 13], .mv 1 (.s 14)] [1,2])
(.seq (.seq (pr [.mv 15 (.s 1), .bin 16 false .lss (.s 15) (ci 0)] [1,2,16])
(.cond (.s 16) (.seq (pr [.mv 4 (.c (.int .i64 (-1)))] [4])
.ret) .skip))
(.seq (pr [.fld 17 (.s 2) 2, .load 18 true 3 (.s 17), .mv 19 (.s 1), .call 20 [] (.f n_laws_heldDisk) [.s 18, .s 19], .mv 1 (.s 20)] [1,2])
(.seq (.seq (pr [.mv 21 (.s 1), .bin 22 false .lss (.s 21) (ci 0)] [1,2,22])
(.cond (.s 22) (.seq (pr [.mv 4 (.c (.int .i64 (-1)))] [4])
.ret) .skip))
(.seq (pr [.fld 23 (.s 2) 5, .load 24 false 1 (.s 23), .mv 25 (.s 1), .call 26 [] (.f n_laws_heldExclusionS) [.s 24, .s 25], .mv 1 (.s 26)] [1,2])
(.seq (.seq (pr [.mv 27 (.s 1), .bin 28 false .lss (.s 27) (ci 0)] [1,2,28])
(.cond (.s 28) (.seq (pr [.mv 4 (.c (.int .i64 (-1)))] [4])
.ret) .skip))
(.seq (pr [.fld 29 (.s 2) 6, .load 30 false 1 (.s 29), .mv 31 (.s 1), .call 32 [] (.f n_laws_heldLibraryS) [.s 30, .s 31], .mv 1 (.s 32)] [1,2])
(.seq (.seq (pr [.mv 33 (.s 1), .bin 34 false .lss (.s 33) (ci 0)] [1,2,34])
(.cond (.s 34) (.seq (pr [.mv 4 (.c (.int .i64 (-1)))] [4])
.ret) .skip))
(.seq (pr [.fld 35 (.s 2) 7, .load 36 false 1 (.s 35), .mv 37 (.s 1), .call 38 [] (.f n_laws_heldIntS) [.s 36, .s 37], .mv 1 (.s 38)] [1,2])
(.seq (.seq (pr [.mv 39 (.s 1), .bin 40 false .lss (.s 39) (ci 0)] [1,2,40])
(.cond (.s 40) (.seq (pr [.mv 4 (.c (.int .i64 (-1)))] [4])
.ret) .skip))
(.seq (pr [.fld 41 (.s 2) 8, .load 42 false 1 (.s 41), .mv 43 (.s 1), .call 44 [] (.f n_laws_heldStatementS) [.s 42, .s 43], .mv 1 (.s 44)] [1])
(.seq (.seq (pr [.mv 45 (.s 1), .bin 46 false .lss (.s 45) (ci 0)] [1,46])
(.cond (.s 46) (.seq (pr [.mv 4 (.c (.int .i64 (-1)))] [4])
.ret) .skip))
(.seq (pr [.mv 47 (.s 1), .mv 4 (.s 47)] [4])
.ret))))))))))))))))
theorem c_laws_heldArchive (x : GArchive) (k : Int) (hk : 0 ≤ k) (hN : k + (x.cts : Nat) ≤ 4611686018427387904) : Ctr Tryz.prog n_laws_heldArchive [aS (x.mks k).enc, aI k] [rI (k + (x.cts : Nat))] := by
 refine cA m_laws_heldArchive 1 48 [(.tmp 4, [false])] Tryz.func28 rfl rfl ?_; unfold m_laws_heldArchive
 intro hb
 clear hb
 simp only [GArchive.cts] at hN ⊢
 simp only [↓reduceIte, go_sem]
 refine callK_of (c_laws_heldVersionS x.Site (k) (by omega) (by omega)) ?_
 have n1 : ¬ k + (ctL GVersion.ct x.Site : Nat) < 0 := by omega
 simp only [↓reduceIte, go_sem, n1]
 try intro _
 refine callK_of (c_laws_heldOpS x.Script (k + (ctL GVersion.ct x.Site : Nat)) (by omega) (by omega)) ?_
 have n2 : ¬ k + (ctL GVersion.ct x.Site : Nat) + (ctL GOp.ct x.Script : Nat) < 0 := by omega
 simp only [↓reduceIte, go_sem, n2]
 try intro _
 refine callK_of (c_laws_heldDisk x.Disk (k + (ctL GVersion.ct x.Site : Nat) + (ctL GOp.ct x.Script : Nat)) (by omega) (by omega)) ?_
 have n3 : ¬ k + (ctL GVersion.ct x.Site : Nat) + (ctL GOp.ct x.Script : Nat) + (x.Disk.cts : Nat) < 0 := by omega
 simp only [↓reduceIte, go_sem, n3]
 try intro _
 refine callK_of (c_laws_heldExclusionS x.Exclusions (k + (ctL GVersion.ct x.Site : Nat) + (ctL GOp.ct x.Script : Nat) + (x.Disk.cts : Nat)) (by omega) (by omega)) ?_
 have n4 : ¬ k + (ctL GVersion.ct x.Site : Nat) + (ctL GOp.ct x.Script : Nat) + (x.Disk.cts : Nat) + (ctL GExclusion.ct x.Exclusions : Nat) < 0 := by omega
 simp only [↓reduceIte, go_sem, n4]
 try intro _
 refine callK_of (c_laws_heldLibraryS x.Libraries (k + (ctL GVersion.ct x.Site : Nat) + (ctL GOp.ct x.Script : Nat) + (x.Disk.cts : Nat) + (ctL GExclusion.ct x.Exclusions : Nat)) (by omega) (by omega)) ?_
 have n5 : ¬ k + (ctL GVersion.ct x.Site : Nat) + (ctL GOp.ct x.Script : Nat) + (x.Disk.cts : Nat) + (ctL GExclusion.ct x.Exclusions : Nat) + (ctL GLibrary.ct x.Libraries : Nat) < 0 := by omega
 simp only [↓reduceIte, go_sem, n5]
 try intro _
 refine callK_of (c_laws_heldIntS x.Keys (k + (ctL GVersion.ct x.Site : Nat) + (ctL GOp.ct x.Script : Nat) + (x.Disk.cts : Nat) + (ctL GExclusion.ct x.Exclusions : Nat) + (ctL GLibrary.ct x.Libraries : Nat)) (by omega) (by omega)) ?_
 have n6 : ¬ k + (ctL GVersion.ct x.Site : Nat) + (ctL GOp.ct x.Script : Nat) + (x.Disk.cts : Nat) + (ctL GExclusion.ct x.Exclusions : Nat) + (ctL GLibrary.ct x.Libraries : Nat) + (ctL iCt x.Keys : Nat) < 0 := by omega
 simp only [↓reduceIte, go_sem, n6]
 try intro _
 refine callK_of (c_laws_heldStatementS x.Statements (k + (ctL GVersion.ct x.Site : Nat) + (ctL GOp.ct x.Script : Nat) + (x.Disk.cts : Nat) + (ctL GExclusion.ct x.Exclusions : Nat) + (ctL GLibrary.ct x.Libraries : Nat) + (ctL iCt x.Keys : Nat)) (by omega) (by omega)) ?_
 have n7 : ¬ k + (ctL GVersion.ct x.Site : Nat) + (ctL GOp.ct x.Script : Nat) + (x.Disk.cts : Nat) + (ctL GExclusion.ct x.Exclusions : Nat) + (ctL GLibrary.ct x.Libraries : Nat) + (ctL iCt x.Keys : Nat) + (ctL GStatement.ct x.Statements : Nat) < 0 := by omega
 simp only [↓reduceIte, go_sem, n7]
 try intro _
 all_goals (try omega)
 all_goals (try simp only [n1, n2, n3, n4, n5, n6, n7])
def GChange.mkd (x : GChange) (k : Int) : GChange := ⟨k, (k + 1)⟩
def GChange.ct (x : GChange) : Nat := 2
def GPlayed.mks (x : GPlayed) (k : Int) : GPlayed := { x with State := x.State.mks (k) }
def GPlayed.cts (x : GPlayed) : Nat := x.State.cts
theorem GPlayed.cts_le (x : GPlayed) : x.cts ≤ 16 * x.size := by
 simp only [GPlayed.cts, GPlayed.size]
 have hState := GState.cts_le x.State
 omega
@[go_sem] theorem GPlayed.mks_len0 (x : GPlayed) (k : Int) : ((x.mks k).State.Regs).length = x.State.Regs.length := mkL_len
@[go_sem] theorem GPlayed.mks_len1 (x : GPlayed) (k : Int) : ((x.mks k).State.Slots).length = x.State.Slots.length := mkL_len
@[go_sem] theorem GPlayed.mks_len2 (x : GPlayed) (k : Int) : ((x.mks k).State.Nodes).length = x.State.Nodes.length := mkL_len
end Go.Proofs.YtgkeplbnnjogiaaGreatR
namespace Go.Proofs.YtgkeplbnnjogiaaGreatR
open Go Go.RowKit Go.Proofs
open Nat (reduceEqDiff reduceLT reduceLeDiff reduceAdd reduceMul)
open List (reduceReplicate)
def m_slices_Clone_int_int : MC :=
(.seq (pr [.nilo 2 0 1] [0])
(.seq (.condN 3 4 (.s 0) (.seq (pr [.nilo 2 0 1] [2])
.ret) .skip)
(.seq (pr [.lit 5 0 1 8 [], .mv 6 (.s 0), .app 7 0 1 8 (.s 5) (.s 6), .mv 2 (.s 7)] [2])
.ret)))
theorem c_slices_Clone_int (xs : List Int) (hs : xs.length ≤ 1073741824) : Ctr Tryz.prog n_slices_Clone_int_int [aL 1 (xs.map encI)] [rL 1 (xs.map encI)] := by
 refine cA m_slices_Clone_int_int 1 8 [(.tmp 2, [true])] Tryz.func185 rfl rfl ?_; unfold m_slices_Clone_int_int
 intro hb
 clear hb
 simp only [↓reduceIte, go_sem, ↓flat_of (f := encI) (fun _ => rfl) xs]
 refine ⟨fun h => ?_, ?_⟩
 ·rw [h]
 ·simp only [roomB]
  first | done | omega | (refine ⟨?_, ?_⟩ <;> first | omega | simp)
def m_slices_Clone_impl_Op_impl_Op : MC :=
(.seq (pr [.nilo 2 0 4] [0])
(.seq (.condN 3 4 (.s 0) (.seq (pr [.nilo 2 0 4] [2])
.ret) .skip)
(.seq (pr [.lit 5 0 4 32 [], .mv 6 (.s 0), .app 7 0 4 32 (.s 5) (.s 6), .mv 2 (.s 7)] [2])
.ret)))
theorem c_slices_Clone_Op (xs : List GOp) (hs : xs.length ≤ 1073741824) : Ctr Tryz.prog n_slices_Clone_impl_Op_impl_Op [aL 4 (xs.map GOp.enc)] [rL 4 (xs.map GOp.enc)] := by
 refine cA m_slices_Clone_impl_Op_impl_Op 1 8 [(.tmp 2, [true])] Tryz.func181 rfl rfl ?_; unfold m_slices_Clone_impl_Op_impl_Op
 intro hb
 clear hb
 simp only [↓reduceIte, go_sem, ↓flat_of (f := GOp.enc) (fun _ => rfl) xs]
 refine ⟨fun h => ?_, ?_⟩
 ·rw [h]
 ·simp only [roomB]
  first | done | omega | (refine ⟨?_, ?_⟩ <;> first | omega | simp)
def m_slices_Clone_impl_Entry_impl_Entry : MC :=
(.seq (pr [.nilo 2 0 5] [0])
(.seq (.condN 3 4 (.s 0) (.seq (pr [.nilo 2 0 5] [2])
.ret) .skip)
(.seq (pr [.lit 5 0 5 40 [], .mv 6 (.s 0), .app 7 0 5 40 (.s 5) (.s 6), .mv 2 (.s 7)] [2])
.ret)))
theorem c_slices_Clone_Entry (xs : List GEntry) (hs : xs.length ≤ 1073741824) : Ctr Tryz.prog n_slices_Clone_impl_Entry_impl_Entry [aL 5 (xs.map GEntry.enc)] [rL 5 (xs.map GEntry.enc)] := by
 refine cA m_slices_Clone_impl_Entry_impl_Entry 1 8 [(.tmp 2, [true])] Tryz.func353 rfl rfl ?_; unfold m_slices_Clone_impl_Entry_impl_Entry
 intro hb
 clear hb
 simp only [↓reduceIte, go_sem, ↓flat_of (f := GEntry.enc) (fun _ => rfl) xs]
 refine ⟨fun h => ?_, ?_⟩
 ·rw [h]
 ·simp only [roomB]
  first | done | omega | (refine ⟨?_, ?_⟩ <;> first | omega | simp)
def m_slices_Clone_impl_Exclusion_impl_Exclusion : MC :=
(.seq (pr [.nilo 2 0 5] [0])
(.seq (.condN 3 4 (.s 0) (.seq (pr [.nilo 2 0 5] [2])
.ret) .skip)
(.seq (pr [.lit 5 0 5 40 [], .mv 6 (.s 0), .app 7 0 5 40 (.s 5) (.s 6), .mv 2 (.s 7)] [2])
.ret)))
theorem c_slices_Clone_Exclusion (xs : List GExclusion) (hs : xs.length ≤ 1073741824) : Ctr Tryz.prog n_slices_Clone_impl_Exclusion_impl_Exclusion [aL 5 (xs.map GExclusion.enc)] [rL 5 (xs.map GExclusion.enc)] := by
 refine cA m_slices_Clone_impl_Exclusion_impl_Exclusion 1 8 [(.tmp 2, [true])] Tryz.func183 rfl rfl ?_; unfold m_slices_Clone_impl_Exclusion_impl_Exclusion
 intro hb
 clear hb
 simp only [↓reduceIte, go_sem, ↓flat_of (f := GExclusion.enc) (fun _ => rfl) xs]
 refine ⟨fun h => ?_, ?_⟩
 ·rw [h]
 ·simp only [roomB]
  first | done | omega | (refine ⟨?_, ?_⟩ <;> first | omega | simp)
def m_slices_Clone_impl_Statement_impl_Statement : MC :=
(.seq (pr [.nilo 2 0 4] [0])
(.seq (.condN 3 4 (.s 0) (.seq (pr [.nilo 2 0 4] [2])
.ret) .skip)
(.seq (pr [.lit 5 0 4 32 [], .mv 6 (.s 0), .app 7 0 4 32 (.s 5) (.s 6), .mv 2 (.s 7)] [2])
.ret)))
theorem c_slices_Clone_Statement (xs : List GStatement) (hs : xs.length ≤ 1073741824) : Ctr Tryz.prog n_slices_Clone_impl_Statement_impl_Statement [aL 4 (xs.map GStatement.enc)] [rL 4 (xs.map GStatement.enc)] := by
 refine cA m_slices_Clone_impl_Statement_impl_Statement 1 8 [(.tmp 2, [true])] Tryz.func186 rfl rfl ?_; unfold m_slices_Clone_impl_Statement_impl_Statement
 intro hb
 clear hb
 simp only [↓reduceIte, go_sem, ↓flat_of (f := GStatement.enc) (fun _ => rfl) xs]
 refine ⟨fun h => ?_, ?_⟩
 ·rw [h]
 ·simp only [roomB]
  first | done | omega | (refine ⟨?_, ?_⟩ <;> first | omega | simp)
def m_slices_Clone_impl_Found_impl_Found : MC :=
(.seq (pr [.nilo 2 0 6] [0])
(.seq (.condN 3 4 (.s 0) (.seq (pr [.nilo 2 0 6] [2])
.ret) .skip)
(.seq (pr [.lit 5 0 6 48 [], .mv 6 (.s 0), .app 7 0 6 48 (.s 5) (.s 6), .mv 2 (.s 7)] [2])
.ret)))
theorem c_slices_Clone_Found (xs : List GFound) (hs : xs.length ≤ 1073741824) : Ctr Tryz.prog n_slices_Clone_impl_Found_impl_Found [aL 6 (xs.map GFound.enc)] [rL 6 (xs.map GFound.enc)] := by
 refine cA m_slices_Clone_impl_Found_impl_Found 1 8 [(.tmp 2, [true])] Tryz.func295 rfl rfl ?_; unfold m_slices_Clone_impl_Found_impl_Found
 intro hb
 clear hb
 simp only [↓reduceIte, go_sem, ↓flat_of (f := GFound.enc) (fun _ => rfl) xs]
 refine ⟨fun h => ?_, ?_⟩
 ·rw [h]
 ·simp only [roomB]
  first | done | omega | (refine ⟨?_, ?_⟩ <;> first | omega | simp)
end Go.Proofs.YtgkeplbnnjogiaaGreatR
