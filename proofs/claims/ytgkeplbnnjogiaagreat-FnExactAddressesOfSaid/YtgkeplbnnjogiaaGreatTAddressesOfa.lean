/- What the functions compute that the laws of AddressesOf reach: contracts. Conditions stand in each theorem. -/
import Derived.Test.YtgkeplbnnjogiaaGreatProg
import Derived.KernelRfl
import Derived.Test.YtgkeplbnnjogiaaGreatRAddressesOfc
set_option linter.unusedVariables false
set_option linter.unusedSimpArgs false
namespace Go.Proofs.YtgkeplbnnjogiaaGreatR
open Go Go.RowKit
attribute [go_sem ↓] bk_bind K5m bk_ite K34
def Za (o : MO) : MOp := { o := o }
def Zb (k : Nat) (b : Bool) (o : MO) : MOp := { o := o, g := some (k, b) }
def Zc (h : List Nat) (o : MO) : MOp := { o := o, hs := h }
def Zd (h b : List Nat) (o : MO) : MOp := { o := o, hs := h, bf := b }
def Ze (b : List Nat) (o : MO) : MOp := { o := o, bf := b }
def Zf (h g : List Nat) (o : MO) : MOp := { o := o, hs := h, ho := g }
def Zg (h g b : List Nat) (o : MO) : MOp := { o := o, hs := h, ho := g, bf := b }
def pz : SC := .pl (.sc (.int .i64 0))
def ci (n : Int) : Od := .c (.int .i64 n)
def cT : Od := .c (.bool true)
def cF : Od := .c (.bool false)
attribute [go_sem] Nat.reduceEqDiff Nat.reduceLT Nat.reduceLeDiff Nat.reduceAdd Nat.reduceMul reduceCtorEq List.reduceReplicate
attribute [go_sem ↓] reduceIte
attribute [go_sem] Za Zb Zc Zd Ze Zf Zg pz ci cT cF
def mS (d a : Nat) : MO := .mv d (.s a)
def lF (d k a : Nat) : MO := .load d false k (.s a)
def lT (d k a : Nat) : MO := .load d true k (.s a)
def fS (d a k : Nat) : MO := .fld d (.s a) k
def xS (d k a b : Nat) : MO := .idx d k (.s a) (.s b)
def nS (d a : Nat) : MO := .len d false (.s a)
def bS (d : Nat) (o : BinOp) (a b : Nat) : MO := .bin d false o (.s a) (.s b)
def bC (d : Nat) (o : BinOp) (a : Nat) (b : Int) : MO := .bin d false o (.s a) (.c (.int .i64 b))
def sS (k a b : Nat) : MO := .store k (.s a) (.s b)
def cX (a k : Nat) : MC := .cond (.s a) .skip (.exit k)
def Zs (l : List MO) (h : List Nat) (c : MC) : MC := .seq (pr l h) c
attribute [go_sem] mS lF lT fS xS nS bS bC sS cX Zs
open Nat (reduceEqDiff reduceLT reduceLeDiff reduceAdd reduceMul)
open List (reduceReplicate)
def encI (n : Int) : List T := [tI n]
def encB (b : Bool) : List T := [tB b]
theorem K2v {ts : List T} (h : IsT .int ts) : ∃ n, ts = encI n := h
theorem Kn {α : Type} {enc : α → List T} {ty : DT} (h : ∀ {ts}, IsT ty ts → ∃ x, ts = enc x) : ∀ {es : List (List T)}, (∀ x ∈ es, IsT ty x) → ∃ xs : List α, es = xs.map enc
 | [], _ => ⟨[], rfl⟩
 | e :: es, k => by
  obtain ⟨x, rfl⟩ := h (k e (by simp))
  obtain ⟨xs, hx⟩ := Kn h (es := es) fun y hy => k y (by simp [hy])
  subst hx
  exact ⟨x :: xs, rfl⟩
structure GAddress where
 Host : Int
 Path : Int
 Query : Int
 deriving DecidableEq
def GAddress.enc (x : GAddress) : List T := [tI x.Host, tI x.Path, tI x.Query]
def GAddress.dt : DT := .st (.fc .int (.fc .int (.fc .int .fn)))
theorem GAddress.of {ts : List T} (h : IsT GAddress.dt ts) : ∃ x : GAddress, ts = x.enc := by
 simp only [GAddress.dt, IsT] at h
 obtain ⟨_, _, rfl, ⟨v0, rfl⟩, _, _, rfl, ⟨v1, rfl⟩, _, _, rfl, ⟨v2, rfl⟩, rfl⟩ := h
 exact ⟨⟨v0, v1, v2⟩, rfl⟩
theorem GAddress.eqv {x y : GAddress} : x = y ↔ x.Host = y.Host ∧ x.Path = y.Path ∧ x.Query = y.Query := by
 constructor
 ·rintro rfl; simp
 ·intro h
  rcases x with ⟨aHost, aPath, aQuery⟩
  rcases y with ⟨bHost, bPath, bQuery⟩
  simp only at h
  obtain ⟨rfl, rfl, rfl⟩ := h
  rfl
structure GResource where
 Kind : Int
 Body : List Int
 To : GAddress
 deriving DecidableEq
def GResource.enc (x : GResource) : List T := [tI x.Kind, .sl 1 (x.Body.map encI), tI x.To.Host, tI x.To.Path, tI x.To.Query]
def GResource.dt : DT := .st (.fc .int (.fc (.sl .int) (.fc GAddress.dt .fn)))
theorem GResource.of {ts : List T} (h : IsT GResource.dt ts) : ∃ x : GResource, ts = x.enc := by
 simp only [GResource.dt, IsT] at h
 obtain ⟨_, _, rfl, ⟨v0, rfl⟩, _, _, rfl, ⟨l1, rfl, k1⟩, _, _, rfl, k2, rfl⟩ := h
 obtain ⟨v1, rfl⟩ := Kn K2v k1
 obtain ⟨v2, rfl⟩ := GAddress.of k2
 exact ⟨⟨v0, v1, v2⟩, rfl⟩
theorem GResource.eqv {x y : GResource} : x = y ↔ x.Kind = y.Kind ∧ x.Body = y.Body ∧ x.To.Host = y.To.Host ∧ x.To.Path = y.To.Path ∧ x.To.Query = y.To.Query := by
 constructor
 ·rintro rfl; simp
 ·intro h
  rcases x with ⟨aKind, aBody, ⟨aToHost, aToPath, aToQuery⟩⟩
  rcases y with ⟨bKind, bBody, ⟨bToHost, bToPath, bToQuery⟩⟩
  simp only at h
  obtain ⟨rfl, rfl, rfl, rfl, rfl⟩ := h
  rfl
def GResource.size (x : GResource) : Nat := (x.Body.length)
structure GPart where
 Digest : Int
 Resource : GResource
 Uses : Int
 deriving DecidableEq
def GPart.enc (x : GPart) : List T := [tI x.Digest, tI x.Resource.Kind, .sl 1 (x.Resource.Body.map encI), tI x.Resource.To.Host, tI x.Resource.To.Path, tI x.Resource.To.Query, tI x.Uses]
def GPart.dt : DT := .st (.fc .int (.fc GResource.dt (.fc .int .fn)))
theorem GPart.of {ts : List T} (h : IsT GPart.dt ts) : ∃ x : GPart, ts = x.enc := by
 simp only [GPart.dt, IsT] at h
 obtain ⟨_, _, rfl, ⟨v0, rfl⟩, _, _, rfl, k1, _, _, rfl, ⟨v2, rfl⟩, rfl⟩ := h
 obtain ⟨v1, rfl⟩ := GResource.of k1
 exact ⟨⟨v0, v1, v2⟩, rfl⟩
theorem GPart.eqv {x y : GPart} : x = y ↔ x.Digest = y.Digest ∧ x.Resource.Kind = y.Resource.Kind ∧ x.Resource.Body = y.Resource.Body ∧ x.Resource.To.Host = y.Resource.To.Host ∧ x.Resource.To.Path = y.Resource.To.Path ∧ x.Resource.To.Query = y.Resource.To.Query ∧ x.Uses = y.Uses := by
 constructor
 ·rintro rfl; simp
 ·intro h
  rcases x with ⟨aDigest, ⟨aResourceKind, aResourceBody, ⟨aResourceToHost, aResourceToPath, aResourceToQuery⟩⟩, aUses⟩
  rcases y with ⟨bDigest, ⟨bResourceKind, bResourceBody, ⟨bResourceToHost, bResourceToPath, bResourceToQuery⟩⟩, bUses⟩
  simp only at h
  obtain ⟨rfl, rfl, rfl, rfl, rfl, rfl, rfl⟩ := h
  rfl
def GPart.size (x : GPart) : Nat := (x.Resource.size)
structure GPiece where
 From : Int
 Count : Int
 New : List Int
 deriving DecidableEq
def GPiece.enc (x : GPiece) : List T := [tI x.From, tI x.Count, .sl 1 (x.New.map encI)]
def GPiece.dt : DT := .st (.fc .int (.fc .int (.fc (.sl .int) .fn)))
theorem GPiece.of {ts : List T} (h : IsT GPiece.dt ts) : ∃ x : GPiece, ts = x.enc := by
 simp only [GPiece.dt, IsT] at h
 obtain ⟨_, _, rfl, ⟨v0, rfl⟩, _, _, rfl, ⟨v1, rfl⟩, _, _, rfl, ⟨l2, rfl, k2⟩, rfl⟩ := h
 obtain ⟨v2, rfl⟩ := Kn K2v k2
 exact ⟨⟨v0, v1, v2⟩, rfl⟩
theorem GPiece.eqv {x y : GPiece} : x = y ↔ x.From = y.From ∧ x.Count = y.Count ∧ x.New = y.New := by
 constructor
 ·rintro rfl; simp
 ·intro h
  rcases x with ⟨aFrom, aCount, aNew⟩
  rcases y with ⟨bFrom, bCount, bNew⟩
  simp only at h
  obtain ⟨rfl, rfl, rfl⟩ := h
  rfl
def GPiece.size (x : GPiece) : Nat := (x.New.length)
structure GVersion where
 Address : GAddress
 From : Int
 Resource : GResource
 deriving DecidableEq
def GVersion.enc (x : GVersion) : List T := [tI x.Address.Host, tI x.Address.Path, tI x.Address.Query, tI x.From, tI x.Resource.Kind, .sl 1 (x.Resource.Body.map encI), tI x.Resource.To.Host, tI x.Resource.To.Path, tI x.Resource.To.Query]
def GVersion.dt : DT := .st (.fc GAddress.dt (.fc .int (.fc GResource.dt .fn)))
theorem GVersion.of {ts : List T} (h : IsT GVersion.dt ts) : ∃ x : GVersion, ts = x.enc := by
 simp only [GVersion.dt, IsT] at h
 obtain ⟨_, _, rfl, k0, _, _, rfl, ⟨v1, rfl⟩, _, _, rfl, k2, rfl⟩ := h
 obtain ⟨v0, rfl⟩ := GAddress.of k0
 obtain ⟨v2, rfl⟩ := GResource.of k2
 exact ⟨⟨v0, v1, v2⟩, rfl⟩
theorem GVersion.eqv {x y : GVersion} : x = y ↔ x.Address.Host = y.Address.Host ∧ x.Address.Path = y.Address.Path ∧ x.Address.Query = y.Address.Query ∧ x.From = y.From ∧ x.Resource.Kind = y.Resource.Kind ∧ x.Resource.Body = y.Resource.Body ∧ x.Resource.To.Host = y.Resource.To.Host ∧ x.Resource.To.Path = y.Resource.To.Path ∧ x.Resource.To.Query = y.Resource.To.Query := by
 constructor
 ·rintro rfl; simp
 ·intro h
  rcases x with ⟨⟨aAddressHost, aAddressPath, aAddressQuery⟩, aFrom, ⟨aResourceKind, aResourceBody, ⟨aResourceToHost, aResourceToPath, aResourceToQuery⟩⟩⟩
  rcases y with ⟨⟨bAddressHost, bAddressPath, bAddressQuery⟩, bFrom, ⟨bResourceKind, bResourceBody, ⟨bResourceToHost, bResourceToPath, bResourceToQuery⟩⟩⟩
  simp only at h
  obtain ⟨rfl, rfl, rfl, rfl, rfl, rfl, rfl, rfl, rfl⟩ := h
  rfl
def GVersion.size (x : GVersion) : Nat := (x.Resource.size)
structure GOp where
 Kind : Int
 A : Int
 B : Int
 C : Int
 deriving DecidableEq
def GOp.enc (x : GOp) : List T := [tI x.Kind, tI x.A, tI x.B, tI x.C]
def GOp.dt : DT := .st (.fc .int (.fc .int (.fc .int (.fc .int .fn))))
theorem GOp.of {ts : List T} (h : IsT GOp.dt ts) : ∃ x : GOp, ts = x.enc := by
 simp only [GOp.dt, IsT] at h
 obtain ⟨_, _, rfl, ⟨v0, rfl⟩, _, _, rfl, ⟨v1, rfl⟩, _, _, rfl, ⟨v2, rfl⟩, _, _, rfl, ⟨v3, rfl⟩, rfl⟩ := h
 exact ⟨⟨v0, v1, v2, v3⟩, rfl⟩
theorem GOp.eqv {x y : GOp} : x = y ↔ x.Kind = y.Kind ∧ x.A = y.A ∧ x.B = y.B ∧ x.C = y.C := by
 constructor
 ·rintro rfl; simp
 ·intro h
  rcases x with ⟨aKind, aA, aB, aC⟩
  rcases y with ⟨bKind, bA, bB, bC⟩
  simp only at h
  obtain ⟨rfl, rfl, rfl, rfl⟩ := h
  rfl
structure GState where
 Pc : Int
 Regs : List Int
 Slots : List Int
 Nodes : List Int
 deriving DecidableEq
def GState.enc (x : GState) : List T := [tI x.Pc, .sl 1 (x.Regs.map encI), .sl 1 (x.Slots.map encI), .sl 1 (x.Nodes.map encI)]
def GState.dt : DT := .st (.fc .int (.fc (.sl .int) (.fc (.sl .int) (.fc (.sl .int) .fn))))
theorem GState.of {ts : List T} (h : IsT GState.dt ts) : ∃ x : GState, ts = x.enc := by
 simp only [GState.dt, IsT] at h
 obtain ⟨_, _, rfl, ⟨v0, rfl⟩, _, _, rfl, ⟨l1, rfl, k1⟩, _, _, rfl, ⟨l2, rfl, k2⟩, _, _, rfl, ⟨l3, rfl, k3⟩, rfl⟩ := h
 obtain ⟨v1, rfl⟩ := Kn K2v k1
 obtain ⟨v2, rfl⟩ := Kn K2v k2
 obtain ⟨v3, rfl⟩ := Kn K2v k3
 exact ⟨⟨v0, v1, v2, v3⟩, rfl⟩
theorem GState.eqv {x y : GState} : x = y ↔ x.Pc = y.Pc ∧ x.Regs = y.Regs ∧ x.Slots = y.Slots ∧ x.Nodes = y.Nodes := by
 constructor
 ·rintro rfl; simp
 ·intro h
  rcases x with ⟨aPc, aRegs, aSlots, aNodes⟩
  rcases y with ⟨bPc, bRegs, bSlots, bNodes⟩
  simp only at h
  obtain ⟨rfl, rfl, rfl, rfl⟩ := h
  rfl
def GState.size (x : GState) : Nat := (x.Regs.length) + (x.Slots.length) + (x.Nodes.length)
structure GVisit where
 Site : List GVersion
 Tick : Int
 Seed : Int
 Inputs : List Int
 deriving DecidableEq
def GVisit.enc (x : GVisit) : List T := [.sl 9 (x.Site.map GVersion.enc), tI x.Tick, tI x.Seed, .sl 1 (x.Inputs.map encI)]
def GVisit.dt : DT := .st (.fc (.sl GVersion.dt) (.fc .int (.fc .int (.fc (.sl .int) .fn))))
theorem GVisit.of {ts : List T} (h : IsT GVisit.dt ts) : ∃ x : GVisit, ts = x.enc := by
 simp only [GVisit.dt, IsT] at h
 obtain ⟨_, _, rfl, ⟨l0, rfl, k0⟩, _, _, rfl, ⟨v1, rfl⟩, _, _, rfl, ⟨v2, rfl⟩, _, _, rfl, ⟨l3, rfl, k3⟩, rfl⟩ := h
 obtain ⟨v0, rfl⟩ := Kn GVersion.of k0
 obtain ⟨v3, rfl⟩ := Kn K2v k3
 exact ⟨⟨v0, v1, v2, v3⟩, rfl⟩
theorem GVisit.eqv {x y : GVisit} : x = y ↔ x.Site = y.Site ∧ x.Tick = y.Tick ∧ x.Seed = y.Seed ∧ x.Inputs = y.Inputs := by
 constructor
 ·rintro rfl; simp
 ·intro h
  rcases x with ⟨aSite, aTick, aSeed, aInputs⟩
  rcases y with ⟨bSite, bTick, bSeed, bInputs⟩
  simp only at h
  obtain ⟨rfl, rfl, rfl, rfl⟩ := h
  rfl
def GVisit.size (x : GVisit) : Nat := (x.Site.length + (x.Site.map GVersion.size).sum) + (x.Inputs.length)
structure GWant where
 Kind : Int
 Address : GAddress
 deriving DecidableEq
def GWant.enc (x : GWant) : List T := [tI x.Kind, tI x.Address.Host, tI x.Address.Path, tI x.Address.Query]
def GWant.dt : DT := .st (.fc .int (.fc GAddress.dt .fn))
theorem GWant.of {ts : List T} (h : IsT GWant.dt ts) : ∃ x : GWant, ts = x.enc := by
 simp only [GWant.dt, IsT] at h
 obtain ⟨_, _, rfl, ⟨v0, rfl⟩, _, _, rfl, k1, rfl⟩ := h
 obtain ⟨v1, rfl⟩ := GAddress.of k1
 exact ⟨⟨v0, v1⟩, rfl⟩
theorem GWant.eqv {x y : GWant} : x = y ↔ x.Kind = y.Kind ∧ x.Address.Host = y.Address.Host ∧ x.Address.Path = y.Address.Path ∧ x.Address.Query = y.Address.Query := by
 constructor
 ·rintro rfl; simp
 ·intro h
  rcases x with ⟨aKind, ⟨aAddressHost, aAddressPath, aAddressQuery⟩⟩
  rcases y with ⟨bKind, ⟨bAddressHost, bAddressPath, bAddressQuery⟩⟩
  simp only at h
  obtain ⟨rfl, rfl, rfl, rfl⟩ := h
  rfl
structure GEntry where
 Kind : Int
 Address : GAddress
 Value : Int
 deriving DecidableEq
def GEntry.enc (x : GEntry) : List T := [tI x.Kind, tI x.Address.Host, tI x.Address.Path, tI x.Address.Query, tI x.Value]
def GEntry.dt : DT := .st (.fc .int (.fc GAddress.dt (.fc .int .fn)))
theorem GEntry.of {ts : List T} (h : IsT GEntry.dt ts) : ∃ x : GEntry, ts = x.enc := by
 simp only [GEntry.dt, IsT] at h
 obtain ⟨_, _, rfl, ⟨v0, rfl⟩, _, _, rfl, k1, _, _, rfl, ⟨v2, rfl⟩, rfl⟩ := h
 obtain ⟨v1, rfl⟩ := GAddress.of k1
 exact ⟨⟨v0, v1, v2⟩, rfl⟩
theorem GEntry.eqv {x y : GEntry} : x = y ↔ x.Kind = y.Kind ∧ x.Address.Host = y.Address.Host ∧ x.Address.Path = y.Address.Path ∧ x.Address.Query = y.Address.Query ∧ x.Value = y.Value := by
 constructor
 ·rintro rfl; simp
 ·intro h
  rcases x with ⟨aKind, ⟨aAddressHost, aAddressPath, aAddressQuery⟩, aValue⟩
  rcases y with ⟨bKind, ⟨bAddressHost, bAddressPath, bAddressQuery⟩, bValue⟩
  simp only at h
  obtain ⟨rfl, rfl, rfl, rfl, rfl⟩ := h
  rfl
structure GCapture where
 Address : GAddress
 Tick : Int
 Resource : GResource
 deriving DecidableEq
def GCapture.enc (x : GCapture) : List T := [tI x.Address.Host, tI x.Address.Path, tI x.Address.Query, tI x.Tick, tI x.Resource.Kind, .sl 1 (x.Resource.Body.map encI), tI x.Resource.To.Host, tI x.Resource.To.Path, tI x.Resource.To.Query]
def GCapture.dt : DT := .st (.fc GAddress.dt (.fc .int (.fc GResource.dt .fn)))
theorem GCapture.of {ts : List T} (h : IsT GCapture.dt ts) : ∃ x : GCapture, ts = x.enc := by
 simp only [GCapture.dt, IsT] at h
 obtain ⟨_, _, rfl, k0, _, _, rfl, ⟨v1, rfl⟩, _, _, rfl, k2, rfl⟩ := h
 obtain ⟨v0, rfl⟩ := GAddress.of k0
 obtain ⟨v2, rfl⟩ := GResource.of k2
 exact ⟨⟨v0, v1, v2⟩, rfl⟩
theorem GCapture.eqv {x y : GCapture} : x = y ↔ x.Address.Host = y.Address.Host ∧ x.Address.Path = y.Address.Path ∧ x.Address.Query = y.Address.Query ∧ x.Tick = y.Tick ∧ x.Resource.Kind = y.Resource.Kind ∧ x.Resource.Body = y.Resource.Body ∧ x.Resource.To.Host = y.Resource.To.Host ∧ x.Resource.To.Path = y.Resource.To.Path ∧ x.Resource.To.Query = y.Resource.To.Query := by
 constructor
 ·rintro rfl; simp
 ·intro h
  rcases x with ⟨⟨aAddressHost, aAddressPath, aAddressQuery⟩, aTick, ⟨aResourceKind, aResourceBody, ⟨aResourceToHost, aResourceToPath, aResourceToQuery⟩⟩⟩
  rcases y with ⟨⟨bAddressHost, bAddressPath, bAddressQuery⟩, bTick, ⟨bResourceKind, bResourceBody, ⟨bResourceToHost, bResourceToPath, bResourceToQuery⟩⟩⟩
  simp only at h
  obtain ⟨rfl, rfl, rfl, rfl, rfl, rfl, rfl, rfl, rfl⟩ := h
  rfl
def GCapture.size (x : GCapture) : Nat := (x.Resource.size)
structure GChoice where
 Rule : Int
 At : Int
 deriving DecidableEq
def GChoice.enc (x : GChoice) : List T := [tI x.Rule, tI x.At]
def GChoice.dt : DT := .st (.fc .int (.fc .int .fn))
theorem GChoice.of {ts : List T} (h : IsT GChoice.dt ts) : ∃ x : GChoice, ts = x.enc := by
 simp only [GChoice.dt, IsT] at h
 obtain ⟨_, _, rfl, ⟨v0, rfl⟩, _, _, rfl, ⟨v1, rfl⟩, rfl⟩ := h
 exact ⟨⟨v0, v1⟩, rfl⟩
theorem GChoice.eqv {x y : GChoice} : x = y ↔ x.Rule = y.Rule ∧ x.At = y.At := by
 constructor
 ·rintro rfl; simp
 ·intro h
  rcases x with ⟨aRule, aAt⟩
  rcases y with ⟨bRule, bAt⟩
  simp only at h
  obtain ⟨rfl, rfl⟩ := h
  rfl
structure GWander where
 State : GState
 Choices : List GChoice
 Labels : List Int
 Missing : Int
 deriving DecidableEq
def GWander.enc (x : GWander) : List T := [tI x.State.Pc, .sl 1 (x.State.Regs.map encI), .sl 1 (x.State.Slots.map encI), .sl 1 (x.State.Nodes.map encI), .sl 2 (x.Choices.map GChoice.enc), .sl 1 (x.Labels.map encI), tI x.Missing]
def GWander.dt : DT := .st (.fc GState.dt (.fc (.sl GChoice.dt) (.fc (.sl .int) (.fc .int .fn))))
theorem GWander.of {ts : List T} (h : IsT GWander.dt ts) : ∃ x : GWander, ts = x.enc := by
 simp only [GWander.dt, IsT] at h
 obtain ⟨_, _, rfl, k0, _, _, rfl, ⟨l1, rfl, k1⟩, _, _, rfl, ⟨l2, rfl, k2⟩, _, _, rfl, ⟨v3, rfl⟩, rfl⟩ := h
 obtain ⟨v0, rfl⟩ := GState.of k0
 obtain ⟨v1, rfl⟩ := Kn GChoice.of k1
 obtain ⟨v2, rfl⟩ := Kn K2v k2
 exact ⟨⟨v0, v1, v2, v3⟩, rfl⟩
theorem GWander.eqv {x y : GWander} : x = y ↔ x.State.Pc = y.State.Pc ∧ x.State.Regs = y.State.Regs ∧ x.State.Slots = y.State.Slots ∧ x.State.Nodes = y.State.Nodes ∧ x.Choices = y.Choices ∧ x.Labels = y.Labels ∧ x.Missing = y.Missing := by
 constructor
 ·rintro rfl; simp
 ·intro h
  rcases x with ⟨⟨aStatePc, aStateRegs, aStateSlots, aStateNodes⟩, aChoices, aLabels, aMissing⟩
  rcases y with ⟨⟨bStatePc, bStateRegs, bStateSlots, bStateNodes⟩, bChoices, bLabels, bMissing⟩
  simp only at h
  obtain ⟨rfl, rfl, rfl, rfl, rfl, rfl, rfl⟩ := h
  rfl
def GWander.size (x : GWander) : Nat := (x.State.size) + (x.Choices.length) + (x.Labels.length)
structure GModel where
 Base : Int
 Step : Int
 Seen : Int
 Fits : Bool
 deriving DecidableEq
def GModel.enc (x : GModel) : List T := [tI x.Base, tI x.Step, tI x.Seen, tB x.Fits]
def GModel.dt : DT := .st (.fc .int (.fc .int (.fc .int (.fc .bool .fn))))
theorem GModel.of {ts : List T} (h : IsT GModel.dt ts) : ∃ x : GModel, ts = x.enc := by
 simp only [GModel.dt, IsT] at h
 obtain ⟨_, _, rfl, ⟨v0, rfl⟩, _, _, rfl, ⟨v1, rfl⟩, _, _, rfl, ⟨v2, rfl⟩, _, _, rfl, ⟨v3, rfl⟩, rfl⟩ := h
 exact ⟨⟨v0, v1, v2, v3⟩, rfl⟩
theorem GModel.eqv {x y : GModel} : x = y ↔ x.Base = y.Base ∧ x.Step = y.Step ∧ x.Seen = y.Seen ∧ x.Fits = y.Fits := by
 constructor
 ·rintro rfl; simp
 ·intro h
  rcases x with ⟨aBase, aStep, aSeen, aFits⟩
  rcases y with ⟨bBase, bStep, bSeen, bFits⟩
  simp only at h
  obtain ⟨rfl, rfl, rfl, rfl⟩ := h
  rfl
structure GShown where
 Tick : Int
 Address : GAddress
 deriving DecidableEq
def GShown.enc (x : GShown) : List T := [tI x.Tick, tI x.Address.Host, tI x.Address.Path, tI x.Address.Query]
def GShown.dt : DT := .st (.fc .int (.fc GAddress.dt .fn))
theorem GShown.of {ts : List T} (h : IsT GShown.dt ts) : ∃ x : GShown, ts = x.enc := by
 simp only [GShown.dt, IsT] at h
 obtain ⟨_, _, rfl, ⟨v0, rfl⟩, _, _, rfl, k1, rfl⟩ := h
 obtain ⟨v1, rfl⟩ := GAddress.of k1
 exact ⟨⟨v0, v1⟩, rfl⟩
theorem GShown.eqv {x y : GShown} : x = y ↔ x.Tick = y.Tick ∧ x.Address.Host = y.Address.Host ∧ x.Address.Path = y.Address.Path ∧ x.Address.Query = y.Address.Query := by
 constructor
 ·rintro rfl; simp
 ·intro h
  rcases x with ⟨aTick, ⟨aAddressHost, aAddressPath, aAddressQuery⟩⟩
  rcases y with ⟨bTick, ⟨bAddressHost, bAddressPath, bAddressQuery⟩⟩
  simp only at h
  obtain ⟨rfl, rfl, rfl, rfl⟩ := h
  rfl
structure GLeaf where
 Value : Int
 Salt : Int
 Hidden : Bool
 Seal : Int
 deriving DecidableEq
def GLeaf.enc (x : GLeaf) : List T := [tI x.Value, tI x.Salt, tB x.Hidden, tI x.Seal]
def GLeaf.dt : DT := .st (.fc .int (.fc .int (.fc .bool (.fc .int .fn))))
theorem GLeaf.of {ts : List T} (h : IsT GLeaf.dt ts) : ∃ x : GLeaf, ts = x.enc := by
 simp only [GLeaf.dt, IsT] at h
 obtain ⟨_, _, rfl, ⟨v0, rfl⟩, _, _, rfl, ⟨v1, rfl⟩, _, _, rfl, ⟨v2, rfl⟩, _, _, rfl, ⟨v3, rfl⟩, rfl⟩ := h
 exact ⟨⟨v0, v1, v2, v3⟩, rfl⟩
theorem GLeaf.eqv {x y : GLeaf} : x = y ↔ x.Value = y.Value ∧ x.Salt = y.Salt ∧ x.Hidden = y.Hidden ∧ x.Seal = y.Seal := by
 constructor
 ·rintro rfl; simp
 ·intro h
  rcases x with ⟨aValue, aSalt, aHidden, aSeal⟩
  rcases y with ⟨bValue, bSalt, bHidden, bSeal⟩
  simp only at h
  obtain ⟨rfl, rfl, rfl, rfl⟩ := h
  rfl
structure GEdition where
 Captures : List GCapture
 From : Int
 Until : Int
 Hidden : List GAddress
 deriving DecidableEq
def GEdition.enc (x : GEdition) : List T := [.sl 9 (x.Captures.map GCapture.enc), tI x.From, tI x.Until, .sl 3 (x.Hidden.map GAddress.enc)]
def GEdition.dt : DT := .st (.fc (.sl GCapture.dt) (.fc .int (.fc .int (.fc (.sl GAddress.dt) .fn))))
theorem GEdition.of {ts : List T} (h : IsT GEdition.dt ts) : ∃ x : GEdition, ts = x.enc := by
 simp only [GEdition.dt, IsT] at h
 obtain ⟨_, _, rfl, ⟨l0, rfl, k0⟩, _, _, rfl, ⟨v1, rfl⟩, _, _, rfl, ⟨v2, rfl⟩, _, _, rfl, ⟨l3, rfl, k3⟩, rfl⟩ := h
 obtain ⟨v0, rfl⟩ := Kn GCapture.of k0
 obtain ⟨v3, rfl⟩ := Kn GAddress.of k3
 exact ⟨⟨v0, v1, v2, v3⟩, rfl⟩
theorem GEdition.eqv {x y : GEdition} : x = y ↔ x.Captures = y.Captures ∧ x.From = y.From ∧ x.Until = y.Until ∧ x.Hidden = y.Hidden := by
 constructor
 ·rintro rfl; simp
 ·intro h
  rcases x with ⟨aCaptures, aFrom, aUntil, aHidden⟩
  rcases y with ⟨bCaptures, bFrom, bUntil, bHidden⟩
  simp only at h
  obtain ⟨rfl, rfl, rfl, rfl⟩ := h
  rfl
def GEdition.size (x : GEdition) : Nat := (x.Captures.length + (x.Captures.map GCapture.size).sum) + (x.Hidden.length)
structure GExclusion where
 Host : Int
 Path : Int
 From : Int
 Until : Int
 Asked : Int
 deriving DecidableEq
def GExclusion.enc (x : GExclusion) : List T := [tI x.Host, tI x.Path, tI x.From, tI x.Until, tI x.Asked]
def GExclusion.dt : DT := .st (.fc .int (.fc .int (.fc .int (.fc .int (.fc .int .fn)))))
theorem GExclusion.of {ts : List T} (h : IsT GExclusion.dt ts) : ∃ x : GExclusion, ts = x.enc := by
 simp only [GExclusion.dt, IsT] at h
 obtain ⟨_, _, rfl, ⟨v0, rfl⟩, _, _, rfl, ⟨v1, rfl⟩, _, _, rfl, ⟨v2, rfl⟩, _, _, rfl, ⟨v3, rfl⟩, _, _, rfl, ⟨v4, rfl⟩, rfl⟩ := h
 exact ⟨⟨v0, v1, v2, v3, v4⟩, rfl⟩
theorem GExclusion.eqv {x y : GExclusion} : x = y ↔ x.Host = y.Host ∧ x.Path = y.Path ∧ x.From = y.From ∧ x.Until = y.Until ∧ x.Asked = y.Asked := by
 constructor
 ·rintro rfl; simp
 ·intro h
  rcases x with ⟨aHost, aPath, aFrom, aUntil, aAsked⟩
  rcases y with ⟨bHost, bPath, bFrom, bUntil, bAsked⟩
  simp only at h
  obtain ⟨rfl, rfl, rfl, rfl, rfl⟩ := h
  rfl
structure GStatement where
 Witness : Int
 Digest : Int
 Tick : Int
 Seal : Int
 deriving DecidableEq
def GStatement.enc (x : GStatement) : List T := [tI x.Witness, tI x.Digest, tI x.Tick, tI x.Seal]
def GStatement.dt : DT := .st (.fc .int (.fc .int (.fc .int (.fc .int .fn))))
theorem GStatement.of {ts : List T} (h : IsT GStatement.dt ts) : ∃ x : GStatement, ts = x.enc := by
 simp only [GStatement.dt, IsT] at h
 obtain ⟨_, _, rfl, ⟨v0, rfl⟩, _, _, rfl, ⟨v1, rfl⟩, _, _, rfl, ⟨v2, rfl⟩, _, _, rfl, ⟨v3, rfl⟩, rfl⟩ := h
 exact ⟨⟨v0, v1, v2, v3⟩, rfl⟩
theorem GStatement.eqv {x y : GStatement} : x = y ↔ x.Witness = y.Witness ∧ x.Digest = y.Digest ∧ x.Tick = y.Tick ∧ x.Seal = y.Seal := by
 constructor
 ·rintro rfl; simp
 ·intro h
  rcases x with ⟨aWitness, aDigest, aTick, aSeal⟩
  rcases y with ⟨bWitness, bDigest, bTick, bSeal⟩
  simp only at h
  obtain ⟨rfl, rfl, rfl, rfl⟩ := h
  rfl
structure GLibrary where
 Id : Int
 Digests : List Int
 Up : Bool
 Lies : Bool
 deriving DecidableEq
def GLibrary.enc (x : GLibrary) : List T := [tI x.Id, .sl 1 (x.Digests.map encI), tB x.Up, tB x.Lies]
def GLibrary.dt : DT := .st (.fc .int (.fc (.sl .int) (.fc .bool (.fc .bool .fn))))
theorem GLibrary.of {ts : List T} (h : IsT GLibrary.dt ts) : ∃ x : GLibrary, ts = x.enc := by
 simp only [GLibrary.dt, IsT] at h
 obtain ⟨_, _, rfl, ⟨v0, rfl⟩, _, _, rfl, ⟨l1, rfl, k1⟩, _, _, rfl, ⟨v2, rfl⟩, _, _, rfl, ⟨v3, rfl⟩, rfl⟩ := h
 obtain ⟨v1, rfl⟩ := Kn K2v k1
 exact ⟨⟨v0, v1, v2, v3⟩, rfl⟩
theorem GLibrary.eqv {x y : GLibrary} : x = y ↔ x.Id = y.Id ∧ x.Digests = y.Digests ∧ x.Up = y.Up ∧ x.Lies = y.Lies := by
 constructor
 ·rintro rfl; simp
 ·intro h
  rcases x with ⟨aId, aDigests, aUp, aLies⟩
  rcases y with ⟨bId, bDigests, bUp, bLies⟩
  simp only at h
  obtain ⟨rfl, rfl, rfl, rfl⟩ := h
  rfl
def GLibrary.size (x : GLibrary) : Nat := (x.Digests.length)
structure GContainer where
 Script : List GOp
 Entries : List GEntry
 Captures : List GCapture
 Root : Int
 deriving DecidableEq
def GContainer.enc (x : GContainer) : List T := [.sl 4 (x.Script.map GOp.enc), .sl 5 (x.Entries.map GEntry.enc), .sl 9 (x.Captures.map GCapture.enc), tI x.Root]
def GContainer.dt : DT := .st (.fc (.sl GOp.dt) (.fc (.sl GEntry.dt) (.fc (.sl GCapture.dt) (.fc .int .fn))))
theorem GContainer.of {ts : List T} (h : IsT GContainer.dt ts) : ∃ x : GContainer, ts = x.enc := by
 simp only [GContainer.dt, IsT] at h
 obtain ⟨_, _, rfl, ⟨l0, rfl, k0⟩, _, _, rfl, ⟨l1, rfl, k1⟩, _, _, rfl, ⟨l2, rfl, k2⟩, _, _, rfl, ⟨v3, rfl⟩, rfl⟩ := h
 obtain ⟨v0, rfl⟩ := Kn GOp.of k0
 obtain ⟨v1, rfl⟩ := Kn GEntry.of k1
 obtain ⟨v2, rfl⟩ := Kn GCapture.of k2
 exact ⟨⟨v0, v1, v2, v3⟩, rfl⟩
theorem GContainer.eqv {x y : GContainer} : x = y ↔ x.Script = y.Script ∧ x.Entries = y.Entries ∧ x.Captures = y.Captures ∧ x.Root = y.Root := by
 constructor
 ·rintro rfl; simp
 ·intro h
  rcases x with ⟨aScript, aEntries, aCaptures, aRoot⟩
  rcases y with ⟨bScript, bEntries, bCaptures, bRoot⟩
  simp only at h
  obtain ⟨rfl, rfl, rfl, rfl⟩ := h
  rfl
def GContainer.size (x : GContainer) : Nat := (x.Script.length) + (x.Entries.length) + (x.Captures.length + (x.Captures.map GCapture.size).sum)
structure GFound where
 Address : GAddress
 Tick : Int
 Container : Int
 At : Int
 deriving DecidableEq
def GFound.enc (x : GFound) : List T := [tI x.Address.Host, tI x.Address.Path, tI x.Address.Query, tI x.Tick, tI x.Container, tI x.At]
def GFound.dt : DT := .st (.fc GAddress.dt (.fc .int (.fc .int (.fc .int .fn))))
theorem GFound.of {ts : List T} (h : IsT GFound.dt ts) : ∃ x : GFound, ts = x.enc := by
 simp only [GFound.dt, IsT] at h
 obtain ⟨_, _, rfl, k0, _, _, rfl, ⟨v1, rfl⟩, _, _, rfl, ⟨v2, rfl⟩, _, _, rfl, ⟨v3, rfl⟩, rfl⟩ := h
 obtain ⟨v0, rfl⟩ := GAddress.of k0
 exact ⟨⟨v0, v1, v2, v3⟩, rfl⟩
theorem GFound.eqv {x y : GFound} : x = y ↔ x.Address.Host = y.Address.Host ∧ x.Address.Path = y.Address.Path ∧ x.Address.Query = y.Address.Query ∧ x.Tick = y.Tick ∧ x.Container = y.Container ∧ x.At = y.At := by
 constructor
 ·rintro rfl; simp
 ·intro h
  rcases x with ⟨⟨aAddressHost, aAddressPath, aAddressQuery⟩, aTick, aContainer, aAt⟩
  rcases y with ⟨⟨bAddressHost, bAddressPath, bAddressQuery⟩, bTick, bContainer, bAt⟩
  simp only at h
  obtain ⟨rfl, rfl, rfl, rfl, rfl, rfl⟩ := h
  rfl
structure GDisk where
 Containers : List GContainer
 Index : List GFound
 Wanted : List GContainer
 deriving DecidableEq
def GDisk.enc (x : GDisk) : List T := [.sl 4 (x.Containers.map GContainer.enc), .sl 6 (x.Index.map GFound.enc), .sl 4 (x.Wanted.map GContainer.enc)]
def GDisk.dt : DT := .st (.fc (.sl GContainer.dt) (.fc (.sl GFound.dt) (.fc (.sl GContainer.dt) .fn)))
theorem GDisk.of {ts : List T} (h : IsT GDisk.dt ts) : ∃ x : GDisk, ts = x.enc := by
 simp only [GDisk.dt, IsT] at h
 obtain ⟨_, _, rfl, ⟨l0, rfl, k0⟩, _, _, rfl, ⟨l1, rfl, k1⟩, _, _, rfl, ⟨l2, rfl, k2⟩, rfl⟩ := h
 obtain ⟨v0, rfl⟩ := Kn GContainer.of k0
 obtain ⟨v1, rfl⟩ := Kn GFound.of k1
 obtain ⟨v2, rfl⟩ := Kn GContainer.of k2
 exact ⟨⟨v0, v1, v2⟩, rfl⟩
theorem GDisk.eqv {x y : GDisk} : x = y ↔ x.Containers = y.Containers ∧ x.Index = y.Index ∧ x.Wanted = y.Wanted := by
 constructor
 ·rintro rfl; simp
 ·intro h
  rcases x with ⟨aContainers, aIndex, aWanted⟩
  rcases y with ⟨bContainers, bIndex, bWanted⟩
  simp only at h
  obtain ⟨rfl, rfl, rfl⟩ := h
  rfl
def GDisk.size (x : GDisk) : Nat := (x.Containers.length + (x.Containers.map GContainer.size).sum) + (x.Index.length) + (x.Wanted.length + (x.Wanted.map GContainer.size).sum)
structure GArchive where
 Site : List GVersion
 Script : List GOp
 Disk : GDisk
 Exclusions : List GExclusion
 Libraries : List GLibrary
 Keys : List Int
 Statements : List GStatement
 Now : Int
 deriving DecidableEq
def GArchive.enc (x : GArchive) : List T := [.sl 9 (x.Site.map GVersion.enc), .sl 4 (x.Script.map GOp.enc), .sl 4 (x.Disk.Containers.map GContainer.enc), .sl 6 (x.Disk.Index.map GFound.enc), .sl 4 (x.Disk.Wanted.map GContainer.enc), .sl 5 (x.Exclusions.map GExclusion.enc), .sl 4 (x.Libraries.map GLibrary.enc), .sl 1 (x.Keys.map encI), .sl 4 (x.Statements.map GStatement.enc), tI x.Now]
def GArchive.dt : DT := .st (.fc (.sl GVersion.dt) (.fc (.sl GOp.dt) (.fc GDisk.dt (.fc (.sl GExclusion.dt) (.fc (.sl GLibrary.dt) (.fc (.sl .int) (.fc (.sl GStatement.dt) (.fc .int .fn))))))))
theorem GArchive.of {ts : List T} (h : IsT GArchive.dt ts) : ∃ x : GArchive, ts = x.enc := by
 simp only [GArchive.dt, IsT] at h
 obtain ⟨_, _, rfl, ⟨l0, rfl, k0⟩, _, _, rfl, ⟨l1, rfl, k1⟩, _, _, rfl, k2, _, _, rfl, ⟨l3, rfl, k3⟩, _, _, rfl, ⟨l4, rfl, k4⟩, _, _, rfl, ⟨l5, rfl, k5⟩, _, _, rfl, ⟨l6, rfl, k6⟩, _, _, rfl, ⟨v7, rfl⟩, rfl⟩ := h
 obtain ⟨v0, rfl⟩ := Kn GVersion.of k0
 obtain ⟨v1, rfl⟩ := Kn GOp.of k1
 obtain ⟨v2, rfl⟩ := GDisk.of k2
 obtain ⟨v3, rfl⟩ := Kn GExclusion.of k3
 obtain ⟨v4, rfl⟩ := Kn GLibrary.of k4
 obtain ⟨v5, rfl⟩ := Kn K2v k5
 obtain ⟨v6, rfl⟩ := Kn GStatement.of k6
 exact ⟨⟨v0, v1, v2, v3, v4, v5, v6, v7⟩, rfl⟩
theorem GArchive.eqv {x y : GArchive} : x = y ↔ x.Site = y.Site ∧ x.Script = y.Script ∧ x.Disk.Containers = y.Disk.Containers ∧ x.Disk.Index = y.Disk.Index ∧ x.Disk.Wanted = y.Disk.Wanted ∧ x.Exclusions = y.Exclusions ∧ x.Libraries = y.Libraries ∧ x.Keys = y.Keys ∧ x.Statements = y.Statements ∧ x.Now = y.Now := by
 constructor
 ·rintro rfl; simp
 ·intro h
  rcases x with ⟨aSite, aScript, ⟨aDiskContainers, aDiskIndex, aDiskWanted⟩, aExclusions, aLibraries, aKeys, aStatements, aNow⟩
  rcases y with ⟨bSite, bScript, ⟨bDiskContainers, bDiskIndex, bDiskWanted⟩, bExclusions, bLibraries, bKeys, bStatements, bNow⟩
  simp only at h
  obtain ⟨rfl, rfl, rfl, rfl, rfl, rfl, rfl, rfl, rfl, rfl⟩ := h
  rfl
def GArchive.size (x : GArchive) : Nat := (x.Site.length + (x.Site.map GVersion.size).sum) + (x.Script.length) + (x.Disk.size) + (x.Exclusions.length) + (x.Libraries.length + (x.Libraries.map GLibrary.size).sum) + (x.Keys.length) + (x.Statements.length)
structure GEvent where
 Kind : Int
 N : Int
 Inputs : List Int
 Version : GVersion
 Exclusion : GExclusion
 deriving DecidableEq
def GEvent.enc (x : GEvent) : List T := [tI x.Kind, tI x.N, .sl 1 (x.Inputs.map encI), tI x.Version.Address.Host, tI x.Version.Address.Path, tI x.Version.Address.Query, tI x.Version.From, tI x.Version.Resource.Kind, .sl 1 (x.Version.Resource.Body.map encI), tI x.Version.Resource.To.Host, tI x.Version.Resource.To.Path, tI x.Version.Resource.To.Query, tI x.Exclusion.Host, tI x.Exclusion.Path, tI x.Exclusion.From, tI x.Exclusion.Until, tI x.Exclusion.Asked]
def GEvent.dt : DT := .st (.fc .int (.fc .int (.fc (.sl .int) (.fc GVersion.dt (.fc GExclusion.dt .fn)))))
theorem GEvent.of {ts : List T} (h : IsT GEvent.dt ts) : ∃ x : GEvent, ts = x.enc := by
 simp only [GEvent.dt, IsT] at h
 obtain ⟨_, _, rfl, ⟨v0, rfl⟩, _, _, rfl, ⟨v1, rfl⟩, _, _, rfl, ⟨l2, rfl, k2⟩, _, _, rfl, k3, _, _, rfl, k4, rfl⟩ := h
 obtain ⟨v2, rfl⟩ := Kn K2v k2
 obtain ⟨v3, rfl⟩ := GVersion.of k3
 obtain ⟨v4, rfl⟩ := GExclusion.of k4
 exact ⟨⟨v0, v1, v2, v3, v4⟩, rfl⟩
theorem GEvent.eqv {x y : GEvent} : x = y ↔ x.Kind = y.Kind ∧ x.N = y.N ∧ x.Inputs = y.Inputs ∧ x.Version.Address.Host = y.Version.Address.Host ∧ x.Version.Address.Path = y.Version.Address.Path ∧ x.Version.Address.Query = y.Version.Address.Query ∧ x.Version.From = y.Version.From ∧ x.Version.Resource.Kind = y.Version.Resource.Kind ∧ x.Version.Resource.Body = y.Version.Resource.Body ∧ x.Version.Resource.To.Host = y.Version.Resource.To.Host ∧ x.Version.Resource.To.Path = y.Version.Resource.To.Path ∧ x.Version.Resource.To.Query = y.Version.Resource.To.Query ∧ x.Exclusion.Host = y.Exclusion.Host ∧ x.Exclusion.Path = y.Exclusion.Path ∧ x.Exclusion.From = y.Exclusion.From ∧ x.Exclusion.Until = y.Exclusion.Until ∧ x.Exclusion.Asked = y.Exclusion.Asked := by
 constructor
 ·rintro rfl; simp
 ·intro h
  rcases x with ⟨aKind, aN, aInputs, ⟨⟨aVersionAddressHost, aVersionAddressPath, aVersionAddressQuery⟩, aVersionFrom, ⟨aVersionResourceKind, aVersionResourceBody, ⟨aVersionResourceToHost, aVersionResourceToPath, aVersionResourceToQuery⟩⟩⟩, ⟨aExclusionHost, aExclusionPath, aExclusionFrom, aExclusionUntil, aExclusionAsked⟩⟩
  rcases y with ⟨bKind, bN, bInputs, ⟨⟨bVersionAddressHost, bVersionAddressPath, bVersionAddressQuery⟩, bVersionFrom, ⟨bVersionResourceKind, bVersionResourceBody, ⟨bVersionResourceToHost, bVersionResourceToPath, bVersionResourceToQuery⟩⟩⟩, ⟨bExclusionHost, bExclusionPath, bExclusionFrom, bExclusionUntil, bExclusionAsked⟩⟩
  simp only at h
  obtain ⟨rfl, rfl, rfl, rfl, rfl, rfl, rfl, rfl, rfl, rfl, rfl, rfl, rfl, rfl, rfl, rfl, rfl⟩ := h
  rfl
def GEvent.size (x : GEvent) : Nat := (x.Inputs.length) + (x.Version.size)
structure GChange where
 Tick : Int
 Digest : Int
 deriving DecidableEq
def GChange.enc (x : GChange) : List T := [tI x.Tick, tI x.Digest]
def GChange.dt : DT := .st (.fc .int (.fc .int .fn))
theorem GChange.of {ts : List T} (h : IsT GChange.dt ts) : ∃ x : GChange, ts = x.enc := by
 simp only [GChange.dt, IsT] at h
 obtain ⟨_, _, rfl, ⟨v0, rfl⟩, _, _, rfl, ⟨v1, rfl⟩, rfl⟩ := h
 exact ⟨⟨v0, v1⟩, rfl⟩
theorem GChange.eqv {x y : GChange} : x = y ↔ x.Tick = y.Tick ∧ x.Digest = y.Digest := by
 constructor
 ·rintro rfl; simp
 ·intro h
  rcases x with ⟨aTick, aDigest⟩
  rcases y with ⟨bTick, bDigest⟩
  simp only at h
  obtain ⟨rfl, rfl⟩ := h
  rfl
structure GPlayed where
 Code : Int
 At : Int
 State : GState
 deriving DecidableEq
def GPlayed.enc (x : GPlayed) : List T := [tI x.Code, tI x.At, tI x.State.Pc, .sl 1 (x.State.Regs.map encI), .sl 1 (x.State.Slots.map encI), .sl 1 (x.State.Nodes.map encI)]
def GPlayed.dt : DT := .st (.fc .int (.fc .int (.fc GState.dt .fn)))
theorem GPlayed.of {ts : List T} (h : IsT GPlayed.dt ts) : ∃ x : GPlayed, ts = x.enc := by
 simp only [GPlayed.dt, IsT] at h
 obtain ⟨_, _, rfl, ⟨v0, rfl⟩, _, _, rfl, ⟨v1, rfl⟩, _, _, rfl, k2, rfl⟩ := h
 obtain ⟨v2, rfl⟩ := GState.of k2
 exact ⟨⟨v0, v1, v2⟩, rfl⟩
theorem GPlayed.eqv {x y : GPlayed} : x = y ↔ x.Code = y.Code ∧ x.At = y.At ∧ x.State.Pc = y.State.Pc ∧ x.State.Regs = y.State.Regs ∧ x.State.Slots = y.State.Slots ∧ x.State.Nodes = y.State.Nodes := by
 constructor
 ·rintro rfl; simp
 ·intro h
  rcases x with ⟨aCode, aAt, ⟨aStatePc, aStateRegs, aStateSlots, aStateNodes⟩⟩
  rcases y with ⟨bCode, bAt, ⟨bStatePc, bStateRegs, bStateSlots, bStateNodes⟩⟩
  simp only at h
  obtain ⟨rfl, rfl, rfl, rfl, rfl, rfl⟩ := h
  rfl
def GPlayed.size (x : GPlayed) : Nat := (x.State.size)
attribute [go_sem] encI encB GAddress.enc GResource.enc GPart.enc GPiece.enc GVersion.enc GOp.enc GState.enc GVisit.enc GWant.enc GEntry.enc GCapture.enc GChoice.enc GWander.enc GModel.enc GShown.enc GLeaf.enc GEdition.enc GExclusion.enc GStatement.enc GLibrary.enc GContainer.enc GFound.enc GDisk.enc GArchive.enc GEvent.enc GChange.enc GPlayed.enc
end Go.Proofs.YtgkeplbnnjogiaaGreatR
namespace Go.Proofs.YtgkeplbnnjogiaaGreatR
open Go Go.RowKit
open Nat (reduceEqDiff reduceLT reduceLeDiff reduceAdd reduceMul)
open List (reduceReplicate)
def szr (n : Nat) (left : Int) : Int := if (n : Int) ≤ left then left - n else -1
theorem K4y {n : Nat} {left : Int} (_ : 0 ≤ left) : szr n left < 0 ↔ left < n := by unfold szr; split <;> omega
theorem K1k {n m : Nat} {left : Int} (_ : 0 ≤ left) (h1 : ¬ szr n left < 0) : 0 ≤ szr n left ∧ szr n left ≤ left ∧ szr (n + m) left = szr m (szr n left) := by
 unfold szr at *
 split at h1
 ·rename_i h2
  simp only [h2, if_true]
  refine ⟨by omega, by omega, ?_⟩
  split <;> split <;> omega
 ·omega
def own : List T → List (Bool × T)
 | [] => []
 | .sl k es :: l => (true, .sl k es) :: own l
 | t :: l => (false, t) :: own l
@[go_sem] theorem own_nil : own [] = [] := rfl
@[go_sem] theorem own_sl {k es l} : own (.sl k es :: l) = (true, .sl k es) :: own l := rfl
@[go_sem] theorem own_sc {v l} : own (.sc v :: l) = (false, .sc v) :: own l := rfl
abbrev rS (ts : List T) : RV := ⟨true, own ts⟩
abbrev rL (k : Nat) (es : List (List T)) : RV := ⟨false, [(true, .sl k es)]⟩
abbrev aS (ts : List T) : Bool × List T := (true, ts)
attribute [go_sem] rS rL aS
def filled {α : Type} (f : α → List T) (z : List T) (xs : List α) (k : Nat) : List (List T) := (xs.take k).map f ++ List.replicate (xs.length - k) z
section
variable {α : Type} {f : α → List T} {z : List T} {xs : List α} {k : Nat}
@[go_sem] theorem Kk (h : k ≤ xs.length) : (filled f z xs k).length = xs.length := by simp [filled]; omega
theorem K19 : filled f z xs 0 = List.replicate xs.length z := by simp [filled]
theorem K1e : filled f z xs xs.length = xs.map f := by simp [filled]
theorem Km (h : k < xs.length) : (filled f z xs k)[k]? = some z := by
 unfold filled
 rw [List.getElem?_append_right (by simp; omega), List.getElem?_replicate, if_pos (by simp; omega)]
theorem K1f {x : α} (h : xs[k]? = some x) : (filled f z xs k).set k (f x) = filled f z xs (k + 1) := by
 have hk := Ke h
 unfold filled
 rw [List.set_append_right _ _ (by simp; omega), Ks h]
 have e : xs.length - k = (xs.length - (k + 1)) + 1 := by omega
 rw [e, List.replicate_succ]
 have e2 : k - (List.map f (List.take k xs)).length = 0 := by simp; omega
 rw [e2]
 simp
end
theorem Kv {n : Nat} {z : List T} : List.replicate (n : Int).toNat z = List.replicate n z := by simp
theorem Ku {α : Type} {xs ys : List α} {k : Nat} {x y : α} (hx : xs[k]? = some x) (hy : ys[k]? = some y) (h : xs.take k = ys.take k) : xs.take (k + 1) = ys.take (k + 1) ↔ x = y := by
 rw [Ks hx, Ks hy, h]
 simp
theorem K2q {α : Type} [DecidableEq α] {xs ys : List α} {k : Nat} {x y : α} (hx : xs[k]? = some x) (hy : ys[k]? = some y) (h : ¬ x = y) : false = decide (xs = ys) := by
 symm
 rw [decide_eq_false_iff_not]
 rintro rfl
 rw [hx] at hy
 exact h (Option.some.inj hy)
theorem K26 {α : Type} [DecidableEq α] {xs ys : List α} (h : ¬ (xs.length : Int) = ys.length) : false = decide (xs = ys) := by
 symm
 rw [decide_eq_false_iff_not]
 rintro rfl
 exact h rfl
theorem K29 {α : Type} [DecidableEq α] {xs ys : List α} (he : xs.take xs.length = ys.take xs.length) (hl : xs.length = ys.length) : true = decide (xs = ys) := by
 symm
 rw [decide_eq_true_iff]
 rw [List.take_length] at he
 rw [he, hl, List.take_length]
theorem szr_bad' {n N : Nat} {left : Int} (h0 : 0 ≤ left) (h : szr n left < 0) (hn : n ≤ N) : -1 = szr N left := by
 rw [K4y h0] at h
 unfold szr
 rw [if_neg (by omega)]
theorem szr_ok {n : Nat} {left : Int} (h : ¬ szr n left < 0) : (n : Int) ≤ left := by
 unfold szr at h
 split at h <;> omega
theorem K3z {α : Type} {f : α → Nat} {l : List α} {k : Nat} {x : α} (h : l[k]? = some x) : ((l.take (k + 1)).map f).sum = ((l.take k).map f).sum + f x := by
 rw [Ks h]; simp
theorem K1g {α : Type} {f : α → Nat} (l : List α) (k : Nat) : ((l.take k).map f).sum ≤ (l.map f).sum := by
 have h : (l.map f).sum = ((l.take k).map f).sum + ((l.drop k).map f).sum := by
  rw [← List.sum_append, ← List.map_append, List.take_append_drop]
 omega
theorem K2e {α : Type} {f : α → Nat} {l : List α} {x : α} (h : x ∈ l) : f x ≤ (l.map f).sum := by
 induction l with
 | nil => simp at h
 | cons y l ih =>
  rcases List.mem_cons.1 h with rfl | h
  ·simp
  ·have := ih h; simp; omega
theorem K9c {α : Type} {l : List α} {k : Nat} {x : α} (h : l[k]? = some x) : (l.take k).length + 1 = (l.take (k + 1)).length := by
 rw [Ks h]; simp
theorem K8v {α : Type} {f : α → List T} {l : List α} {k : Nat} {x : α} (h : l[k]? = some x) : (l.take k).map f ++ [f x] = (l.take (k + 1)).map f := by
 rw [Ks h]; simp
end Go.Proofs.YtgkeplbnnjogiaaGreatR
namespace Go.Proofs.YtgkeplbnnjogiaaGreatR
open Go Go.RowKit Go.Proofs
open Nat (reduceEqDiff reduceLT reduceLeDiff reduceAdd reduceMul)
open List (reduceReplicate)
theorem hmix : Tryz.prog.follows .mixedOrders = true := by kernel_rfl
theorem cA {f : FuncId} {fn : Func} {c : Code} {args : List (Bool × List T)} {rs : List RV} (M : MC) (m n : Nat) (res : List (MR × List Bool)) (hf : Tryz.prog.funcs[f]? = some fn) (hb : fn.body = some c) (hnt : fn.ntmps = n)
    (h : bdA args → wpC Tryz.prog M (kF res rs) (startS args n m)) (hname : (fn.name == "runtime.NumGoroutine") = false := by kernel_rfl) (hc : chkC Tryz.prog c M = true := by kernel_rfl) (hres : K1j Tryz.prog fn.results.toList (res.map (·.1)) = true := by kernel_rfl) (hn : args.length ≤ n := by exact Nat.le_of_ble_eq_true rfl) : Ctr Tryz.prog f args rs :=
  ctr_at hmix hf hb hname hnt hc hres hn h
abbrev N58 : Nat := 5
abbrev N5b : Nat := 13
abbrev Nt : Nat := 15
abbrev N5c : Nat := 17
abbrev N34 : Nat := 20
abbrev N1e : Nat := 21
abbrev Nz : Nat := 22
abbrev N35 : Nat := 23
abbrev N23 : Nat := 24
abbrev N16 : Nat := 25
abbrev N1m : Nat := 37
abbrev N1n : Nat := 39
abbrev N1b : Nat := 43
abbrev N42 : Nat := 50
abbrev N5d : Nat := 51
abbrev N7j : Nat := 52
abbrev N24 : Nat := 53
abbrev N43 : Nat := 54
abbrev N3y : Nat := 55
abbrev N25 : Nat := 56
abbrev Nx : Nat := 57
abbrev N44 : Nat := 59
abbrev N5e : Nat := 60
abbrev N7k : Nat := 61
abbrev N26 : Nat := 62
abbrev N45 : Nat := 63
abbrev N27 : Nat := 64
abbrev Ns : Nat := 67
abbrev N46 : Nat := 69
abbrev N5f : Nat := 70
abbrev N7l : Nat := 71
abbrev N28 : Nat := 72
abbrev N47 : Nat := 73
abbrev N29 : Nat := 74
abbrev N1o : Nat := 77
abbrev N86 : Nat := 78
abbrev N12 : Nat := 79
abbrev N1p : Nat := 80
abbrev Na : Nat := 81
abbrev Nb : Nat := 82
abbrev N13 : Nat := 83
abbrev N14 : Nat := 84
abbrev Ng : Nat := 85
abbrev N2a : Nat := 86
abbrev N32 : Nat := 87
abbrev N6c : Nat := 88
abbrev N1q : Nat := 89
abbrev N2b : Nat := 90
abbrev N1r : Nat := 91
abbrev N36 : Nat := 114
abbrev N37 : Nat := 116
abbrev N5g : Nat := 136
abbrev N17 : Nat := 137
abbrev N6d : Nat := 138
abbrev N5h : Nat := 139
abbrev N5i : Nat := 141
abbrev N98 : Nat := 142
abbrev N18 : Nat := 143
abbrev N6e : Nat := 144
abbrev N38 : Nat := 145
abbrev N5j : Nat := 146
abbrev N39 : Nat := 147
abbrev N5k : Nat := 154
abbrev N99 : Nat := 155
abbrev N19 : Nat := 156
abbrev N6f : Nat := 157
abbrev N3a : Nat := 158
abbrev N5l : Nat := 159
abbrev N3b : Nat := 160
abbrev N9t : Nat := 162
abbrev N5m : Nat := 165
abbrev N1g : Nat := 166
abbrev N5n : Nat := 167
abbrev Nd : Nat := 168
abbrev N10 : Nat := 171
abbrev N48 : Nat := 172
abbrev N6g : Nat := 177
abbrev N49 : Nat := 178
abbrev N1i : Nat := 185
abbrev N2c : Nat := 188
abbrev N4a : Nat := 189
abbrev N7m : Nat := 211
abbrev N1a : Nat := 212
abbrev N2d : Nat := 218
abbrev N4b : Nat := 219
abbrev N4c : Nat := 263
abbrev N3c : Nat := 264
abbrev Nu : Nat := 266
abbrev N4d : Nat := 267
abbrev N3d : Nat := 268
abbrev N6y : Nat := 269
abbrev N3e : Nat := 274
abbrev N6z : Nat := 275
abbrev N5o : Nat := 276
abbrev N4 : Nat := 277
abbrev N3f : Nat := 278
abbrev N4e : Nat := 279
abbrev N4f : Nat := 290
abbrev N2e : Nat := 291
abbrev N70 : Nat := 292
abbrev N5p : Nat := 293
abbrev Ni : Nat := 297
abbrev N8 : Nat := 298
abbrev N2f : Nat := 299
abbrev N4g : Nat := 300
abbrev N6h : Nat := 358
abbrev N4h : Nat := 359
abbrev N6i : Nat := 360
abbrev N4i : Nat := 361
abbrev N6j : Nat := 372
abbrev N4j : Nat := 373
abbrev N4k : Nat := 374
abbrev N6 : Nat := 375
abbrev N1j : Nat := 376
abbrev Nn : Nat := 383
abbrev N1z : Nat := 384
abbrev N5q : Nat := 409
abbrev N71 : Nat := 410
abbrev N5r : Nat := 411
abbrev N72 : Nat := 417
abbrev N5s : Nat := 418
abbrev N6k : Nat := 419
abbrev N3g : Nat := 420
abbrev N3 : Nat := 422
abbrev N0 : Nat := 423
abbrev N3h : Nat := 431
abbrev Np : Nat := 432
abbrev N2 : Nat := 434
def Y0 : MC :=
(Zs [.mv 4 (ci 0)] [0,1] (Zs [mS 5 1, mS 6 0, nS 7 6, bS 8 .sub 5 7, mS 1 8] [1] (.seq (Zs [mS 9 1, bC 10 .lss 9 0] [1,10] (.cond (.s 10) (Zs [.mv 4 (.c (.int .i64 (-1)))] [4] .ret) .skip))
(Zs [mS 11 1, mS 4 11] [4] .ret))))
attribute [go_sem] Y0
def M7n : MC := Y0
theorem C3z (xs : List Int) (left : Int) (h0 : 0 ≤ left) : Ctr Tryz.prog N3y [aL 1 (xs.map encI), aI left] [rI (szr xs.length left)] := by
 refine cA M7n 0 12 [(.tmp 4, [false])] Tryz.func55 rfl rfl ?_; unfold M7n
 intro hb
 simp only [bdA, bdL, bdT, bdR, Kj, Kr, Ko, Kx, roomB, and_true, true_and, List.length_map] at hb
 obtain ⟨⟨hl, -⟩, hn⟩ := hb
 simp only [go_sem]
 rw [wI (by omega) (by omega)]
 unfold szr
 refine ⟨fun h => ?_, fun h => ?_⟩
 ·rw [if_neg (by omega)]
 ·rw [if_pos (by omega)]
def M7o : MC :=
(Zs [.nilo 2 0 1] [0] (Zs [mS 5 0, nS 6 5, .mk 7 0 1 8 [.sc (.int .i64 0)] (.s 6), mS 3 7] [0,3] (.seq (Zs [.mv 4 (ci 0)] [0,3,4] (.block 0 (.loop ([0,3,4], []) (.seq (Zs [mS 8 4, mS 9 0, nS 10 9, bS 11 .lss 8 10] [0,3,4,11] (cX 11 0))
(.seq (.block 1 (pr [mS 14 3, mS 15 4, mS 16 0, mS 17 4, xS 18 1 16 17, lF 19 1 18, xS 20 1 14 15, sS 1 20 19] [0,3,4]))
(pr [mS 12 4, bC 13 .add 12 1, mS 4 13] [0,3,4]))))))
(Zs [mS 21 3, mS 2 21] [2] .ret))))
theorem C40 (xs : List Int) (hs : xs.length ≤ 1073741824) : Ctr Tryz.prog N1m [aL 1 (xs.map encI)] [rL 1 (xs.map encI)] := by
 refine cA M7o 1 22 [(.tmp 2, [true])] Tryz.func37 rfl rfl ?_; unfold M7o
 intro hb
 simp only [go_sem, Kv]
 refine ⟨⟨by omega, by simp only [roomB]; omega⟩, ?_⟩
 refine K5 xs (fun k => [(4, vI k)]) (fun k => [(0, ⟨0, .row true 1 (filled encI [tI 0] xs k)⟩)]) (fun _ => True) (by simp only [roomB]; omega) ?_
 simp only [go_sem]
 refine ⟨?_, trivial, ?_, ?_⟩
 ·simp only [go_sem, K19]
  all_goals rfl
 ·intro k x hx _ h0 h1 hw
  have h : k < xs.length := by omega
  simp only [go_sem, K7 hx, K7 (Km h), Kk (Nat.le_of_lt h), h0, h1, hw]
  exact K1f hx
 ·intro _
  simp only [go_sem, K1e]
def M7p : MC :=
(Zs [.mv 4 cF] [0,1] (.seq (Zs [mS 6 0, nS 7 6, mS 8 1, nS 9 8, bS 10 .neq 7 9] [0,1,10] (.cond (.s 10) (Zs [.mv 4 cF] [4] .ret) .skip))
(.seq (Zs [.mv 5 (ci 0)] [0,1,5] (.block 0 (.loop ([0,1,5], []) (.seq (Zs [mS 11 5, mS 12 0, nS 13 12, bS 14 .lss 11 13] [0,1,5,14] (cX 14 0))
(.seq (.block 1 (.seq (.dreg [Zc [18,21,22,23,24] (mS 17 0), Zc [17,21,22,23,24] (mS 18 5), Zd [21,22,23,24] [0,1] (xS 19 1 17 18), Zd [21,22,23,24] [0,1,2] (lF 20 1 19), Zc [17,18,19,20,22] (mS 21 1), Zc [17,18,19,20,21] (mS 22 5), Zd [17,18,19,20] [4,5] (xS 23 1 21 22), Zd [17,18,19,20] [4,5,6] (lF 24 1 23), Ze (.range 8) (bS 25 .neq 20 24)] [0,1,5,25])
(.cond (.s 25) (Zs [.mv 4 cF] [4] .ret) .skip)))
(pr [mS 15 5, bC 16 .add 15 1, mS 5 16] [0,1,5]))))))
(Zs [.mv 4 cT] [4] .ret))))
theorem C41 (xs ys : List Int) : Ctr Tryz.prog N1n [aL 1 (xs.map encI), aL 1 (ys.map encI)] [rB (decide (xs = ys))] := by
 refine cA M7p 0 26 [(.tmp 4, [false])] Tryz.func39 rfl rfl ?_; unfold M7p
 intro hb
 simp only [bdA, bdL, bdT, bdR, Kj, Kr, Ko, Kx, roomB, and_true, true_and, List.length_map] at hb
 obtain ⟨⟨hl, -⟩, ⟨hl2, -⟩⟩ := hb
 simp only [go_sem]
 refine ⟨fun h => K26 h, fun h => ?_⟩
 have hle : xs.length = ys.length := by omega
 refine K5 xs (fun k => [(5, vI k)]) (fun k => []) (fun k => xs.take k = ys.take k) hl ?_
 simp only [go_sem]
 refine ⟨?_, rfl, ?_, ?_⟩
 ·simp only [go_sem]
 ·intro k x hx he h0 h1 hw
  obtain ⟨y, hy⟩ := Ki (show k < ys.length by omega)
  have h2 : (k : Int) < ys.length := by omega
  simp only [go_sem, K7 hx, K7 hy, h0, h1, h2, hw]
  exact ⟨fun hn => K2q hx hy hn, fun hn => (Ku hx hy he).2 hn⟩
 ·intro he
  simp only [go_sem]
  exact K29 he hle
def M5t : MC :=
(Zs [.box 1 0 (.s 0), .alloc 2 1 [pz, pz, pz]] [1,2] (Zs [.alloc 3 2 [pz, pz, pz]] [1,2,3] (Zs [fS 4 1 0, lF 5 1 4, fS 6 3 0, sS 1 6 5] [1,2,3] (Zs [fS 7 1 1, lF 8 1 7, fS 9 3 1, sS 1 9 8] [1,2,3] (Zs [fS 10 1 2, lF 11 1 10, fS 12 3 2, sS 1 12 11] [2,3] (Zs [lT 13 3 3, sS 3 2 13] [2] .ret))))))
theorem Cv (x : GAddress) : Ctr Tryz.prog Nu [aS x.enc] [rS x.enc] := by
 refine cA M5t 3 14 [(.cell 2 true 3, [false, false, false])] Tryz.func266 rfl rfl ?_; unfold M5t
 intro hb
 simp only [go_sem]
def M5u : MC :=
(Zs [.box 2 0 (.s 0), .box 3 1 (.s 1), .mv 4 cF] [2,3] (.seq (Zs [fS 5 2 0, lF 6 1 5, fS 7 3 0, lF 8 1 7, bS 9 .neq 6 8] [2,3,9] (.cond (.s 9) (Zs [.mv 4 cF] [4] .ret) .skip))
(.seq (Zs [fS 10 2 1, lF 11 1 10, fS 12 3 1, lF 13 1 12, bS 14 .neq 11 13] [2,3,14] (.cond (.s 14) (Zs [.mv 4 cF] [4] .ret) .skip))
(.seq (Zs [fS 15 2 2, lF 16 1 15, fS 17 3 2, lF 18 1 17, bS 19 .neq 16 18] [19] (.cond (.s 19) (Zs [.mv 4 cF] [4] .ret) .skip))
(Zs [.mv 4 cT] [4] .ret)))))
theorem Ch (x y : GAddress) : Ctr Tryz.prog Ng [aS x.enc, aS y.enc] [rB (decide (x = y))] := by
 refine cA M5u 2 20 [(.tmp 4, [false])] Tryz.func85 rfl rfl ?_; unfold M5u
 intro hb
 clear hb
 simp only [go_sem]
 refine ⟨fun h => ?_, fun h_Host => ?_⟩
 ·symm
  rw [decide_eq_false_iff_not]
  rintro rfl
  exact h rfl
 refine ⟨fun h => ?_, fun h_Path => ?_⟩
 ·symm
  rw [decide_eq_false_iff_not]
  rintro rfl
  exact h rfl
 refine ⟨fun h => ?_, fun h_Query => ?_⟩
 ·symm
  rw [decide_eq_false_iff_not]
  rintro rfl
  exact h rfl
 cases x; cases y; simp_all
def Y1 (v0 : Nat) (v1 : Nat) : MC :=
(Zs [.mv 4 cF] [0,1] (.seq (Zs [mS 6 0, nS 7 6, mS 8 1, nS 9 8, bS 10 .neq 7 9] [0,1,10] (.cond (.s 10) (Zs [.mv 4 cF] [4] .ret) .skip))
(.seq (Zs [.mv 5 (ci 0)] [0,1,5] (.block 0 (.loop ([0,1,5], []) (.seq (Zs [mS 11 5, mS 12 0, nS 13 12, bS 14 .lss 11 13] [0,1,5,14] (cX 14 0))
(.seq (.block 1 (.seq (.dreg [Zc [18,21,22,23,24] (mS 17 0), Zc [17,21,22,23,24] (mS 18 5), Zd [21,22,23,24] [0,1] (xS 19 v0 17 18), Zd [21,22,23,24] [0,1,2] (lT 20 v0 19), Zc [17,18,19,20,22] (mS 21 1), Zc [17,18,19,20,21] (mS 22 5), Zd [17,18,19,20] [4,5] (xS 23 v0 21 22), Zd [17,18,19,20] [4,5,6] (lT 24 v0 23), Ze (.range 8) (.call 25 [] (.f v1) [.s 20, .s 24]), Ze (.range 9) (.un 26 .not (.s 25))] [0,1,5,26])
(.cond (.s 26) (Zs [.mv 4 cF] [4] .ret) .skip)))
(pr [mS 15 5, bC 16 .add 15 1, mS 5 16] [0,1,5]))))))
(Zs [.mv 4 cT] [4] .ret))))
attribute [go_sem] Y1
def M4l : MC := Y1 3 Ng
theorem C1h (xs ys : List GAddress) : Ctr Tryz.prog Nz [aL 3 (xs.map GAddress.enc), aL 3 (ys.map GAddress.enc)] [rB (decide (xs = ys))] := by
 refine cA M4l 0 27 [(.tmp 4, [false])] Tryz.func22 rfl rfl ?_; unfold M4l
 intro hb
 simp only [bdA, bdL, bdT, bdR, Kj, Kr, Ko, Kx, roomB, and_true, true_and, List.length_map] at hb
 obtain ⟨⟨hl, -⟩, ⟨hl2, -⟩⟩ := hb
 simp only [go_sem]
 refine ⟨fun h => K26 h, fun h => ?_⟩
 have hle : xs.length = ys.length := by omega
 refine K5 xs (fun k => [(5, vI k)]) (fun k => []) (fun k => xs.take k = ys.take k) hl ?_
 simp only [go_sem]
 refine ⟨?_, rfl, ?_, ?_⟩
 ·simp only [go_sem]
 ·intro k x hx he h0 h1 hw
  obtain ⟨y, hy⟩ := Ki (show k < ys.length by omega)
  have h2 : (k : Int) < ys.length := by omega
  simp only [go_sem, K7 hx, K7 hy, h0, h1, h2, hw]
  refine K0 (Ch x y) ?_
  simp only [go_sem, hw]
  exact ⟨fun hn => K2q hx hy hn, fun hn => (Ku hx hy he).2 hn⟩
 ·intro he
  simp only [go_sem]
  exact K29 he hle
def Y2 : MC :=
(Zs [.box 2 0 (.s 0), .mv 4 (ci 0)] [1,2] (Zs [fS 5 2 1, lF 6 1 5, mS 7 1, .call 8 [] (.f N3y) [.s 6, .s 7], mS 1 8] [1] (.seq (Zs [mS 9 1, bC 10 .lss 9 0] [1,10] (.cond (.s 10) (Zs [.mv 4 (.c (.int .i64 (-1)))] [4] .ret) .skip))
(Zs [mS 11 1, mS 4 11] [4] .ret))))
attribute [go_sem] Y2
def M4m : MC := Y2
theorem C4n (x : GResource) (left : Int) (h0 : 0 ≤ left) : Ctr Tryz.prog N4c [aS x.enc, aI left] [rI (szr x.size left)] := by
 refine cA M4m 1 12 [(.tmp 4, [false])] Tryz.func263 rfl rfl ?_; unfold M4m
 intro hb
 simp only [go_sem]
 refine K0 (C3z x.Body left h0) ?_
 simp only [go_sem]
 intro _
 refine ⟨fun h => szr_bad' h0 h (by simp only [GResource.size]; omega), fun h1 => ?_⟩
 rfl
def M4o : MC :=
(Zs [.box 1 0 (.s 0), .alloc 2 1 [pz, .emp 1, pz, pz, pz]] [1,2] (Zs [.alloc 3 2 [pz, .emp 1, pz, pz, pz]] [1,2,3] (Zs [fS 4 1 0, lF 5 1 4, fS 6 3 0, sS 1 6 5] [1,2,3] (Zs [fS 7 1 1, lF 8 1 7, .call 9 [3] (.f N1m) [.s 8], fS 10 3 1, sS 1 10 9] [1,2,3] (Zs [fS 11 1 2, lT 12 3 11, .call 13 [] (.f Nu) [.s 12], fS 14 3 2, sS 3 14 13] [2,3] (Zs [lT 15 5 3, sS 5 2 15] [2] .ret))))))
theorem C4p (x : GResource) (hs : x.size ≤ 1073741824) : Ctr Tryz.prog N4d [aS x.enc] [rS x.enc] := by
 refine cA M4o 4 16 [(.cell 2 true 5, [false, true, false, false, false])] Tryz.func267 rfl rfl ?_; unfold M4o
 intro hb
 simp only [GResource.size] at hs
 simp only [go_sem]
 refine K0 (C40 x.Body (by omega)) ?_
 simp only [go_sem]
 try intros
 refine K0 (Cv x.To) ?_
 simp only [go_sem]
 try intros
def M4q : MC :=
(Zs [.box 2 0 (.s 0), .box 3 1 (.s 1), .mv 4 cF] [2,3] (.seq (Zs [fS 5 2 0, lF 6 1 5, fS 7 3 0, lF 8 1 7, bS 9 .neq 6 8] [2,3,9] (.cond (.s 9) (Zs [.mv 4 cF] [4] .ret) .skip))
(.seq (Zs [fS 10 2 1, lF 11 1 10, fS 12 3 1, lF 13 1 12, .call 14 [] (.f N1n) [.s 11, .s 13], .un 15 .not (.s 14)] [2,3,15] (.cond (.s 15) (Zs [.mv 4 cF] [4] .ret) .skip))
(.seq (Zs [fS 16 2 2, lT 17 3 16, fS 18 3 2, lT 19 3 18, .call 20 [] (.f Ng) [.s 17, .s 19], .un 21 .not (.s 20)] [21] (.cond (.s 21) (Zs [.mv 4 cF] [4] .ret) .skip))
(Zs [.mv 4 cT] [4] .ret)))))
theorem C4r (x y : GResource) : Ctr Tryz.prog N4b [aS x.enc, aS y.enc] [rB (decide (x = y))] := by
 refine cA M4q 2 22 [(.tmp 4, [false])] Tryz.func219 rfl rfl ?_; unfold M4q
 intro hb
 clear hb
 simp only [go_sem]
 refine ⟨fun h => ?_, fun h_Kind => ?_⟩
 ·symm
  rw [decide_eq_false_iff_not]
  rintro rfl
  exact h rfl
 refine K0 (C41 x.Body y.Body) ?_
 simp only [go_sem]
 refine ⟨fun h => ?_, fun h_Body => ?_⟩
 ·symm
  rw [decide_eq_false_iff_not]
  rintro rfl
  exact h rfl
 refine K0 (Ch x.To y.To) ?_
 simp only [go_sem]
 refine ⟨fun h => ?_, fun h_To => ?_⟩
 ·symm
  rw [decide_eq_false_iff_not]
  rintro rfl
  exact h rfl
 cases x; cases y; simp_all
def Y3 : MC :=
(Zs [.box 2 0 (.s 0), .mv 4 (ci 0)] [1,2] (Zs [fS 5 2 4, lT 6 5 5, mS 7 1, .call 8 [] (.f N4c) [.s 6, .s 7], mS 1 8] [1] (.seq (Zs [mS 9 1, bC 10 .lss 9 0] [1,10] (.cond (.s 10) (Zs [.mv 4 (.c (.int .i64 (-1)))] [4] .ret) .skip))
(Zs [mS 11 1, mS 4 11] [4] .ret))))
attribute [go_sem] Y3
def M5v : MC := Y3
theorem C9e (x : GVersion) (left : Int) (h0 : 0 ≤ left) : Ctr Tryz.prog N5g [aS x.enc, aI left] [rI (szr x.size left)] := by
 refine cA M5v 1 12 [(.tmp 4, [false])] Tryz.func136 rfl rfl ?_; unfold M5v
 intro hb
 simp only [go_sem]
 refine K0 (C4n x.Resource left h0) ?_
 simp only [go_sem]
 intro _
 refine ⟨fun h => szr_bad' h0 h (by simp only [GVersion.size]; omega), fun h1 => ?_⟩
 rfl
def Y4 : MC :=
(Zs [.box 1 0 (.s 0), .alloc 2 1 [pz, pz, pz, pz, pz, .emp 1, pz, pz, pz]] [1,2] (Zs [.alloc 3 2 [pz, pz, pz, pz, pz, .emp 1, pz, pz, pz]] [1,2,3] (Zs [fS 4 1 0, lT 5 3 4, .call 6 [] (.f Nu) [.s 5], fS 7 3 0, sS 3 7 6] [1,2,3] (Zs [fS 8 1 3, lF 9 1 8, fS 10 3 3, sS 1 10 9] [1,2,3] (Zs [fS 11 1 4, lT 12 5 11, .call 13 [3] (.f N4d) [.s 12], fS 14 3 4, sS 5 14 13] [2,3] (Zs [lT 15 9 3, sS 9 2 15] [2] .ret))))))
attribute [go_sem] Y4
def M5w : MC := Y4
theorem C9f (x : GVersion) (hs : x.size ≤ 1073741824) : Ctr Tryz.prog N5i [aS x.enc] [rS x.enc] := by
 refine cA M5w 4 16 [(.cell 2 true 9, [false, false, false, false, false, true, false, false, false])] Tryz.func141 rfl rfl ?_; unfold M5w
 intro hb
 simp only [GVersion.size] at hs
 simp only [go_sem]
 refine K0 (Cv x.Address) ?_
 simp only [go_sem]
 try intros
 refine K0 (C4p x.Resource (by omega)) ?_
 simp only [go_sem]
 try intros
def Y5 : MC :=
(Zs [.box 2 0 (.s 0), .box 3 1 (.s 1), .mv 4 cF] [2,3] (.seq (Zs [fS 5 2 0, lT 6 3 5, fS 7 3 0, lT 8 3 7, .call 9 [] (.f Ng) [.s 6, .s 8], .un 10 .not (.s 9)] [2,3,10] (.cond (.s 10) (Zs [.mv 4 cF] [4] .ret) .skip))
(.seq (Zs [fS 11 2 3, lF 12 1 11, fS 13 3 3, lF 14 1 13, bS 15 .neq 12 14] [2,3,15] (.cond (.s 15) (Zs [.mv 4 cF] [4] .ret) .skip))
(.seq (Zs [fS 16 2 4, lT 17 5 16, fS 18 3 4, lT 19 5 18, .call 20 [] (.f N4b) [.s 17, .s 19], .un 21 .not (.s 20)] [21] (.cond (.s 21) (Zs [.mv 4 cF] [4] .ret) .skip))
(Zs [.mv 4 cT] [4] .ret)))))
attribute [go_sem] Y5
def M5x : MC := Y5
theorem C9g (x y : GVersion) : Ctr Tryz.prog N5k [aS x.enc, aS y.enc] [rB (decide (x = y))] := by
 refine cA M5x 2 22 [(.tmp 4, [false])] Tryz.func154 rfl rfl ?_; unfold M5x
 intro hb
 clear hb
 simp only [go_sem]
 refine K0 (Ch x.Address y.Address) ?_
 simp only [go_sem]
 refine ⟨fun h => ?_, fun h_Address => ?_⟩
 ·symm
  rw [decide_eq_false_iff_not]
  rintro rfl
  exact h rfl
 refine ⟨fun h => ?_, fun h_From => ?_⟩
 ·symm
  rw [decide_eq_false_iff_not]
  rintro rfl
  exact h rfl
 refine K0 (C4r x.Resource y.Resource) ?_
 simp only [go_sem]
 refine ⟨fun h => ?_, fun h_Resource => ?_⟩
 ·symm
  rw [decide_eq_false_iff_not]
  rintro rfl
  exact h rfl
 cases x; cases y; simp_all
def Y6 (v0 : Nat) (v1 : Nat) : MC :=
(Zs [.mv 4 (ci 0)] [0,1] (Zs [mS 6 1, mS 7 0, nS 8 7, bS 9 .sub 6 8, mS 1 9] [0,1] (.seq (Zs [mS 10 1, bC 11 .lss 10 0] [0,1,11] (.cond (.s 11) (Zs [.mv 4 (.c (.int .i64 (-1)))] [4] .ret) .skip))
(.seq (Zs [.mv 5 (ci 0)] [0,1,5] (.block 0 (.loop ([0,1,5], []) (.seq (Zs [mS 12 5, mS 13 0, nS 14 13, bS 15 .lss 12 14] [0,1,5,15] (cX 15 0))
(.seq (.block 1 (Zs [mS 18 0, mS 19 5, xS 20 v0 18 19, lT 21 v0 20, mS 22 1, .call 23 [] (.f v1) [.s 21, .s 22], mS 1 23] [0,1,5] (Zs [mS 24 1, bC 25 .lss 24 0] [0,1,5,25] (.cond (.s 25) (Zs [.mv 4 (.c (.int .i64 (-1)))] [4] .ret) .skip))))
(pr [mS 16 5, bC 17 .add 16 1, mS 5 17] [0,1,5]))))))
(Zs [mS 26 1, mS 4 26] [4] .ret)))))
attribute [go_sem] Y6
def M4s : MC := Y6 9 N5g
theorem C8t (xs : List GVersion) (left : Int) (h0 : 0 ≤ left) : Ctr Tryz.prog N42 [aL 9 (xs.map GVersion.enc), aI left] [rI (szr (xs.length + (xs.map GVersion.size).sum) left)] := by
 refine cA M4s 0 27 [(.tmp 4, [false])] Tryz.func50 rfl rfl ?_; unfold M4s
 intro hb
 simp only [bdA, bdL, bdT, bdR, Kj, Kr, Ko, Kx, roomB, and_true, true_and, List.length_map] at hb
 obtain ⟨⟨hl, -⟩, hn⟩ := hb
 simp only [go_sem]
 rw [wI (by omega) (by omega)]
 refine ⟨fun h => ?_, fun h => ?_⟩
 ·exact szr_bad' (n := xs.length) h0 ((K4y h0).2 (by omega)) (by omega)
 ·have hz : szr xs.length left = left - xs.length := by unfold szr; rw [if_pos (by omega)]
  rw [← hz] at h ⊢
  refine K5 xs (fun k => [(1, vI (szr (xs.length + ((xs.take k).map GVersion.size).sum) left)), (5, vI k)]) (fun k => []) (fun k => ¬ szr (xs.length + ((xs.take k).map GVersion.size).sum) left < 0) hl ?_
  simp only [go_sem]
  refine ⟨?_, by simpa using h, ?_, ?_⟩
  ·simp only [go_sem, List.take_zero, List.map_nil, List.sum_nil, Nat.add_zero]
   all_goals rfl
  ·intro k x hx hs hk0 h1 hw
   obtain ⟨a1, a2, a3⟩ := K1k (m := x.size) h0 hs
   rw [Nat.add_assoc, ← K3z hx] at a3
   simp only [go_sem, K7 hx, hk0, h1, hw]
   refine K0 (C9e x _ a1) ?_
   rw [← a3]
   simp only [go_sem, hw]
   intro _
   refine ⟨fun hn => ?_, fun hn => hn⟩
   have := K1g (f := GVersion.size) xs (k + 1)
   exact szr_bad' h0 hn (by omega)
  ·intro _
   simp only [go_sem, List.take_length]
def Y7 (v0 : Nat) : MC :=
(Zs [.nilo 2 0 9] [0] (.seq (pr [mS 5 0, nS 6 5, .mk 7 0 9 88 [.sc (.int .i64 0), .sc (.int .i64 0), .sc (.int .i64 0), .sc (.int .i64 0), .sc (.int .i64 0), .sl 1 [], .sc (.int .i64 0), .sc (.int .i64 0), .sc (.int .i64 0)] (.s 6), mS 3 7] [0,3])
(.seq (Zs [.mv 4 (ci 0)] [0,3,4] (.block 0 (.loop ([0,3,4], [1]) (.seq (Zs [mS 8 4, mS 9 0, nS 10 9, bS 11 .lss 8 10] [0,3,4,11] (cX 11 0))
(.seq (.block 1 (pr [mS 14 3, mS 15 4, mS 16 0, mS 17 4, xS 18 9 16 17, lT 19 9 18, .call 20 [1] (.f v0) [.s 19], xS 21 9 14 15, sS 9 21 20] [0,3,4]))
(pr [mS 12 4, bC 13 .add 12 1, mS 4 13] [0,3,4]))))))
(Zs [mS 22 3, mS 2 22] [2] .ret))))
attribute [go_sem] Y7
def M4t : MC := Y7 N5i
theorem C8u (xs : List GVersion) (hs : xs.length + (xs.map GVersion.size).sum ≤ 1073741824) : Ctr Tryz.prog N44 [aL 9 (xs.map GVersion.enc)] [rL 9 (xs.map GVersion.enc)] := by
 refine cA M4t 2 23 [(.tmp 2, [true])] Tryz.func59 rfl rfl ?_; unfold M4t
 intro hb
 simp only [go_sem, Kv]
 refine ⟨⟨by omega, by simp only [roomB]; omega⟩, ?_⟩
 refine K5 xs (fun k => [(4, vI k)]) (fun k => [(0, ⟨0, .row true 9 (filled GVersion.enc [tI 0, tI 0, tI 0, tI 0, tI 0, .sl 1 [], tI 0, tI 0, tI 0] xs k)⟩)]) (fun _ => True) (by simp only [roomB]; omega) ?_
 simp only [go_sem]
 refine ⟨?_, trivial, ?_, ?_⟩
 ·simp only [go_sem, K19]
  all_goals rfl
 ·intro k x hx _ h0 h1 hw
  have h : k < xs.length := by omega
  simp only [go_sem, K7 hx, K7 (Km h), Kk (Nat.le_of_lt h), h0, h1, hw]
  have hx1 := K2e (f := GVersion.size) (K1y hx)
  refine K0 (C9f x (by omega)) ?_
  simp only [go_sem, K7 hx, K7 (Km h), Kk (Nat.le_of_lt h), h0, h1, hw]
  intros; exact K1f hx
 ·intro _
  simp only [go_sem, K1e]
def M4u : MC := Y1 9 N5k
theorem C8v (xs ys : List GVersion) : Ctr Tryz.prog N46 [aL 9 (xs.map GVersion.enc), aL 9 (ys.map GVersion.enc)] [rB (decide (xs = ys))] := by
 refine cA M4u 0 27 [(.tmp 4, [false])] Tryz.func69 rfl rfl ?_; unfold M4u
 intro hb
 simp only [bdA, bdL, bdT, bdR, Kj, Kr, Ko, Kx, roomB, and_true, true_and, List.length_map] at hb
 obtain ⟨⟨hl, -⟩, ⟨hl2, -⟩⟩ := hb
 simp only [go_sem]
 refine ⟨fun h => K26 h, fun h => ?_⟩
 have hle : xs.length = ys.length := by omega
 refine K5 xs (fun k => [(5, vI k)]) (fun k => []) (fun k => xs.take k = ys.take k) hl ?_
 simp only [go_sem]
 refine ⟨?_, rfl, ?_, ?_⟩
 ·simp only [go_sem]
 ·intro k x hx he h0 h1 hw
  obtain ⟨y, hy⟩ := Ki (show k < ys.length by omega)
  have h2 : (k : Int) < ys.length := by omega
  simp only [go_sem, K7 hx, K7 hy, h0, h1, h2, hw]
  refine K0 (C9g x y) ?_
  simp only [go_sem, hw]
  exact ⟨fun hn => K2q hx hy hn, fun hn => (Ku hx hy he).2 hn⟩
 ·intro he
  simp only [go_sem]
  exact K29 he hle
def Y8 : MC :=
(Zs [.box 1 0 (.s 0), .alloc 2 1 [pz, pz, pz, pz]] [1,2] (Zs [.alloc 3 2 [pz, pz, pz, pz]] [1,2,3] (Zs [fS 4 1 0, lF 5 1 4, fS 6 3 0, sS 1 6 5] [1,2,3] (Zs [fS 7 1 1, lF 8 1 7, fS 9 3 1, sS 1 9 8] [1,2,3] (Zs [fS 10 1 2, lF 11 1 10, fS 12 3 2, sS 1 12 11] [1,2,3] (Zs [fS 13 1 3, lF 14 1 13, fS 15 3 3, sS 1 15 14] [2,3] (Zs [lT 16 4 3, sS 4 2 16] [2] .ret)))))))
attribute [go_sem] Y8
def M9a : MC := Y8
theorem Cah (x : GOp) : Ctr Tryz.prog N98 [aS x.enc] [rS x.enc] := by
 refine cA M9a 3 17 [(.cell 2 true 4, [false, false, false, false])] Tryz.func142 rfl rfl ?_; unfold M9a
 intro hb
 simp only [go_sem]
def Y9 : MC :=
(Zs [.box 2 0 (.s 0), .box 3 1 (.s 1), .mv 4 cF] [2,3] (.seq (Zs [fS 5 2 0, lF 6 1 5, fS 7 3 0, lF 8 1 7, bS 9 .neq 6 8] [2,3,9] (.cond (.s 9) (Zs [.mv 4 cF] [4] .ret) .skip))
(.seq (Zs [fS 10 2 1, lF 11 1 10, fS 12 3 1, lF 13 1 12, bS 14 .neq 11 13] [2,3,14] (.cond (.s 14) (Zs [.mv 4 cF] [4] .ret) .skip))
(.seq (Zs [fS 15 2 2, lF 16 1 15, fS 17 3 2, lF 18 1 17, bS 19 .neq 16 18] [2,3,19] (.cond (.s 19) (Zs [.mv 4 cF] [4] .ret) .skip))
(.seq (Zs [fS 20 2 3, lF 21 1 20, fS 22 3 3, lF 23 1 22, bS 24 .neq 21 23] [24] (.cond (.s 24) (Zs [.mv 4 cF] [4] .ret) .skip))
(Zs [.mv 4 cT] [4] .ret))))))
attribute [go_sem] Y9
def M9b : MC := Y9
theorem Cai (x y : GOp) : Ctr Tryz.prog N99 [aS x.enc, aS y.enc] [rB (decide (x = y))] := by
 refine cA M9b 2 25 [(.tmp 4, [false])] Tryz.func155 rfl rfl ?_; unfold M9b
 intro hb
 clear hb
 simp only [go_sem]
 refine ⟨fun h => ?_, fun h_Kind => ?_⟩
 ·symm
  rw [decide_eq_false_iff_not]
  rintro rfl
  exact h rfl
 refine ⟨fun h => ?_, fun h_A => ?_⟩
 ·symm
  rw [decide_eq_false_iff_not]
  rintro rfl
  exact h rfl
 refine ⟨fun h => ?_, fun h_B => ?_⟩
 ·symm
  rw [decide_eq_false_iff_not]
  rintro rfl
  exact h rfl
 refine ⟨fun h => ?_, fun h_C => ?_⟩
 ·symm
  rw [decide_eq_false_iff_not]
  rintro rfl
  exact h rfl
 cases x; cases y; simp_all
def M87 : MC := Y0
theorem C88 (xs : List GOp) (left : Int) (h0 : 0 ≤ left) : Ctr Tryz.prog N5d [aL 4 (xs.map GOp.enc), aI left] [rI (szr xs.length left)] := by
 refine cA M87 0 12 [(.tmp 4, [false])] Tryz.func51 rfl rfl ?_; unfold M87
 intro hb
 simp only [bdA, bdL, bdT, bdR, Kj, Kr, Ko, Kx, roomB, and_true, true_and, List.length_map] at hb
 obtain ⟨⟨hl, -⟩, hn⟩ := hb
 simp only [go_sem]
 rw [wI (by omega) (by omega)]
 unfold szr
 refine ⟨fun h => ?_, fun h => ?_⟩
 ·rw [if_neg (by omega)]
 ·rw [if_pos (by omega)]
def Y10 (v0 : Nat) : MC :=
(Zs [.nilo 2 0 4] [0] (Zs [mS 5 0, nS 6 5, .mk 7 0 4 32 [.sc (.int .i64 0), .sc (.int .i64 0), .sc (.int .i64 0), .sc (.int .i64 0)] (.s 6), mS 3 7] [0,3] (.seq (Zs [.mv 4 (ci 0)] [0,3,4] (.block 0 (.loop ([0,3,4], []) (.seq (Zs [mS 8 4, mS 9 0, nS 10 9, bS 11 .lss 8 10] [0,3,4,11] (cX 11 0))
(.seq (.block 1 (pr [mS 14 3, mS 15 4, mS 16 0, mS 17 4, xS 18 4 16 17, lT 19 4 18, .call 20 [] (.f v0) [.s 19], xS 21 4 14 15, sS 4 21 20] [0,3,4]))
(pr [mS 12 4, bC 13 .add 12 1, mS 4 13] [0,3,4]))))))
(Zs [mS 22 3, mS 2 22] [2] .ret))))
attribute [go_sem] Y10
def M89 : MC := Y10 N98
theorem C8a (xs : List GOp) (hs : xs.length ≤ 1073741824) : Ctr Tryz.prog N5e [aL 4 (xs.map GOp.enc)] [rL 4 (xs.map GOp.enc)] := by
 refine cA M89 1 23 [(.tmp 2, [true])] Tryz.func60 rfl rfl ?_; unfold M89
 intro hb
 simp only [go_sem, Kv]
 refine ⟨⟨by omega, by simp only [roomB]; omega⟩, ?_⟩
 refine K5 xs (fun k => [(4, vI k)]) (fun k => [(0, ⟨0, .row true 4 (filled GOp.enc [tI 0, tI 0, tI 0, tI 0] xs k)⟩)]) (fun _ => True) (by simp only [roomB]; omega) ?_
 simp only [go_sem]
 refine ⟨?_, trivial, ?_, ?_⟩
 ·simp only [go_sem, K19]
  all_goals rfl
 ·intro k x hx _ h0 h1 hw
  have h : k < xs.length := by omega
  simp only [go_sem, K7 hx, K7 (Km h), Kk (Nat.le_of_lt h), h0, h1, hw]
  refine K0 (Cah x) ?_
  simp only [go_sem, K7 hx, K7 (Km h), Kk (Nat.le_of_lt h), h0, h1, hw]
  intros; exact K1f hx
 ·intro _
  simp only [go_sem, K1e]
def M8b : MC := Y1 4 N99
theorem C8c (xs ys : List GOp) : Ctr Tryz.prog N5f [aL 4 (xs.map GOp.enc), aL 4 (ys.map GOp.enc)] [rB (decide (xs = ys))] := by
 refine cA M8b 0 27 [(.tmp 4, [false])] Tryz.func70 rfl rfl ?_; unfold M8b
 intro hb
 simp only [bdA, bdL, bdT, bdR, Kj, Kr, Ko, Kx, roomB, and_true, true_and, List.length_map] at hb
 obtain ⟨⟨hl, -⟩, ⟨hl2, -⟩⟩ := hb
 simp only [go_sem]
 refine ⟨fun h => K26 h, fun h => ?_⟩
 have hle : xs.length = ys.length := by omega
 refine K5 xs (fun k => [(5, vI k)]) (fun k => []) (fun k => xs.take k = ys.take k) hl ?_
 simp only [go_sem]
 refine ⟨?_, rfl, ?_, ?_⟩
 ·simp only [go_sem]
 ·intro k x hx he h0 h1 hw
  obtain ⟨y, hy⟩ := Ki (show k < ys.length by omega)
  have h2 : (k : Int) < ys.length := by omega
  simp only [go_sem, K7 hx, K7 hy, h0, h1, h2, hw]
  refine K0 (Cai x y) ?_
  simp only [go_sem, hw]
  exact ⟨fun hn => K2q hx hy hn, fun hn => (Ku hx hy he).2 hn⟩
 ·intro he
  simp only [go_sem]
  exact K29 he hle
def M73 : MC :=
(Zs [.box 1 0 (.s 0), .alloc 2 1 [pz, pz, pz, pz, pz]] [1,2] (Zs [.alloc 3 2 [pz, pz, pz, pz, pz]] [1,2,3] (Zs [fS 4 1 0, lF 5 1 4, fS 6 3 0, sS 1 6 5] [1,2,3] (Zs [fS 7 1 1, lT 8 3 7, .call 9 [] (.f Nu) [.s 8], fS 10 3 1, sS 3 10 9] [1,2,3] (Zs [fS 11 1 4, lF 12 1 11, fS 13 3 4, sS 1 13 12] [2,3] (Zs [lT 14 5 3, sS 5 2 14] [2] .ret))))))
theorem Ca4 (x : GEntry) : Ctr Tryz.prog N71 [aS x.enc] [rS x.enc] := by
 refine cA M73 3 15 [(.cell 2 true 5, [false, false, false, false, false])] Tryz.func410 rfl rfl ?_; unfold M73
 intro hb
 simp only [go_sem]
 refine K0 (Cv x.Address) ?_
 simp only [go_sem]
 try intros
def M74 : MC :=
(Zs [.box 2 0 (.s 0), .box 3 1 (.s 1), .mv 4 cF] [2,3] (.seq (Zs [fS 5 2 0, lF 6 1 5, fS 7 3 0, lF 8 1 7, bS 9 .neq 6 8] [2,3,9] (.cond (.s 9) (Zs [.mv 4 cF] [4] .ret) .skip))
(.seq (Zs [fS 10 2 1, lT 11 3 10, fS 12 3 1, lT 13 3 12, .call 14 [] (.f Ng) [.s 11, .s 13], .un 15 .not (.s 14)] [2,3,15] (.cond (.s 15) (Zs [.mv 4 cF] [4] .ret) .skip))
(.seq (Zs [fS 16 2 4, lF 17 1 16, fS 18 3 4, lF 19 1 18, bS 20 .neq 17 19] [20] (.cond (.s 20) (Zs [.mv 4 cF] [4] .ret) .skip))
(Zs [.mv 4 cT] [4] .ret)))))
theorem Ca5 (x y : GEntry) : Ctr Tryz.prog N72 [aS x.enc, aS y.enc] [rB (decide (x = y))] := by
 refine cA M74 2 21 [(.tmp 4, [false])] Tryz.func417 rfl rfl ?_; unfold M74
 intro hb
 clear hb
 simp only [go_sem]
 refine ⟨fun h => ?_, fun h_Kind => ?_⟩
 ·symm
  rw [decide_eq_false_iff_not]
  rintro rfl
  exact h rfl
 refine K0 (Ch x.Address y.Address) ?_
 simp only [go_sem]
 refine ⟨fun h => ?_, fun h_Address => ?_⟩
 ·symm
  rw [decide_eq_false_iff_not]
  rintro rfl
  exact h rfl
 refine ⟨fun h => ?_, fun h_Value => ?_⟩
 ·symm
  rw [decide_eq_false_iff_not]
  rintro rfl
  exact h rfl
 cases x; cases y; simp_all
def M6l : MC := Y0
theorem C9u (xs : List GEntry) (left : Int) (h0 : 0 ≤ left) : Ctr Tryz.prog N6h [aL 5 (xs.map GEntry.enc), aI left] [rI (szr xs.length left)] := by
 refine cA M6l 0 12 [(.tmp 4, [false])] Tryz.func358 rfl rfl ?_; unfold M6l
 intro hb
 simp only [bdA, bdL, bdT, bdR, Kj, Kr, Ko, Kx, roomB, and_true, true_and, List.length_map] at hb
 obtain ⟨⟨hl, -⟩, hn⟩ := hb
 simp only [go_sem]
 rw [wI (by omega) (by omega)]
 unfold szr
 refine ⟨fun h => ?_, fun h => ?_⟩
 ·rw [if_neg (by omega)]
 ·rw [if_pos (by omega)]
def Y11 (v0 : Nat) : MC :=
(Zs [.nilo 2 0 5] [0] (Zs [mS 5 0, nS 6 5, .mk 7 0 5 40 [.sc (.int .i64 0), .sc (.int .i64 0), .sc (.int .i64 0), .sc (.int .i64 0), .sc (.int .i64 0)] (.s 6), mS 3 7] [0,3] (.seq (Zs [.mv 4 (ci 0)] [0,3,4] (.block 0 (.loop ([0,3,4], []) (.seq (Zs [mS 8 4, mS 9 0, nS 10 9, bS 11 .lss 8 10] [0,3,4,11] (cX 11 0))
(.seq (.block 1 (pr [mS 14 3, mS 15 4, mS 16 0, mS 17 4, xS 18 5 16 17, lT 19 5 18, .call 20 [] (.f v0) [.s 19], xS 21 5 14 15, sS 5 21 20] [0,3,4]))
(pr [mS 12 4, bC 13 .add 12 1, mS 4 13] [0,3,4]))))))
(Zs [mS 22 3, mS 2 22] [2] .ret))))
attribute [go_sem] Y11
def M6m : MC := Y11 N71
theorem C9v (xs : List GEntry) (hs : xs.length ≤ 1073741824) : Ctr Tryz.prog N6i [aL 5 (xs.map GEntry.enc)] [rL 5 (xs.map GEntry.enc)] := by
 refine cA M6m 1 23 [(.tmp 2, [true])] Tryz.func360 rfl rfl ?_; unfold M6m
 intro hb
 simp only [go_sem, Kv]
 refine ⟨⟨by omega, by simp only [roomB]; omega⟩, ?_⟩
 refine K5 xs (fun k => [(4, vI k)]) (fun k => [(0, ⟨0, .row true 5 (filled GEntry.enc [tI 0, tI 0, tI 0, tI 0, tI 0] xs k)⟩)]) (fun _ => True) (by simp only [roomB]; omega) ?_
 simp only [go_sem]
 refine ⟨?_, trivial, ?_, ?_⟩
 ·simp only [go_sem, K19]
  all_goals rfl
 ·intro k x hx _ h0 h1 hw
  have h : k < xs.length := by omega
  simp only [go_sem, K7 hx, K7 (Km h), Kk (Nat.le_of_lt h), h0, h1, hw]
  refine K0 (Ca4 x) ?_
  simp only [go_sem, K7 hx, K7 (Km h), Kk (Nat.le_of_lt h), h0, h1, hw]
  intros; exact K1f hx
 ·intro _
  simp only [go_sem, K1e]
def M6n : MC := Y1 5 N72
theorem C9w (xs ys : List GEntry) : Ctr Tryz.prog N6j [aL 5 (xs.map GEntry.enc), aL 5 (ys.map GEntry.enc)] [rB (decide (xs = ys))] := by
 refine cA M6n 0 27 [(.tmp 4, [false])] Tryz.func372 rfl rfl ?_; unfold M6n
 intro hb
 simp only [bdA, bdL, bdT, bdR, Kj, Kr, Ko, Kx, roomB, and_true, true_and, List.length_map] at hb
 obtain ⟨⟨hl, -⟩, ⟨hl2, -⟩⟩ := hb
 simp only [go_sem]
 refine ⟨fun h => K26 h, fun h => ?_⟩
 have hle : xs.length = ys.length := by omega
 refine K5 xs (fun k => [(5, vI k)]) (fun k => []) (fun k => xs.take k = ys.take k) hl ?_
 simp only [go_sem]
 refine ⟨?_, rfl, ?_, ?_⟩
 ·simp only [go_sem]
 ·intro k x hx he h0 h1 hw
  obtain ⟨y, hy⟩ := Ki (show k < ys.length by omega)
  have h2 : (k : Int) < ys.length := by omega
  simp only [go_sem, K7 hx, K7 hy, h0, h1, h2, hw]
  refine K0 (Ca5 x y) ?_
  simp only [go_sem, hw]
  exact ⟨fun hn => K2q hx hy hn, fun hn => (Ku hx hy he).2 hn⟩
 ·intro he
  simp only [go_sem]
  exact K29 he hle
def M5y : MC := Y3
theorem C9h (x : GCapture) (left : Int) (h0 : 0 ≤ left) : Ctr Tryz.prog N5q [aS x.enc, aI left] [rI (szr x.size left)] := by
 refine cA M5y 1 12 [(.tmp 4, [false])] Tryz.func409 rfl rfl ?_; unfold M5y
 intro hb
 simp only [go_sem]
 refine K0 (C4n x.Resource left h0) ?_
 simp only [go_sem]
 intro _
 refine ⟨fun h => szr_bad' h0 h (by simp only [GCapture.size]; omega), fun h1 => ?_⟩
 rfl
def M5z : MC := Y4
theorem C9i (x : GCapture) (hs : x.size ≤ 1073741824) : Ctr Tryz.prog N5r [aS x.enc] [rS x.enc] := by
 refine cA M5z 4 16 [(.cell 2 true 9, [false, false, false, false, false, true, false, false, false])] Tryz.func411 rfl rfl ?_; unfold M5z
 intro hb
 simp only [GCapture.size] at hs
 simp only [go_sem]
 refine K0 (Cv x.Address) ?_
 simp only [go_sem]
 try intros
 refine K0 (C4p x.Resource (by omega)) ?_
 simp only [go_sem]
 try intros
def M60 : MC := Y5
theorem C9j (x y : GCapture) : Ctr Tryz.prog N5s [aS x.enc, aS y.enc] [rB (decide (x = y))] := by
 refine cA M60 2 22 [(.tmp 4, [false])] Tryz.func418 rfl rfl ?_; unfold M60
 intro hb
 clear hb
 simp only [go_sem]
 refine K0 (Ch x.Address y.Address) ?_
 simp only [go_sem]
 refine ⟨fun h => ?_, fun h_Address => ?_⟩
 ·symm
  rw [decide_eq_false_iff_not]
  rintro rfl
  exact h rfl
 refine ⟨fun h => ?_, fun h_Tick => ?_⟩
 ·symm
  rw [decide_eq_false_iff_not]
  rintro rfl
  exact h rfl
 refine K0 (C4r x.Resource y.Resource) ?_
 simp only [go_sem]
 refine ⟨fun h => ?_, fun h_Resource => ?_⟩
 ·symm
  rw [decide_eq_false_iff_not]
  rintro rfl
  exact h rfl
 cases x; cases y; simp_all
def M4v : MC := Y6 9 N5q
theorem C8w (xs : List GCapture) (left : Int) (h0 : 0 ≤ left) : Ctr Tryz.prog N4h [aL 9 (xs.map GCapture.enc), aI left] [rI (szr (xs.length + (xs.map GCapture.size).sum) left)] := by
 refine cA M4v 0 27 [(.tmp 4, [false])] Tryz.func359 rfl rfl ?_; unfold M4v
 intro hb
 simp only [bdA, bdL, bdT, bdR, Kj, Kr, Ko, Kx, roomB, and_true, true_and, List.length_map] at hb
 obtain ⟨⟨hl, -⟩, hn⟩ := hb
 simp only [go_sem]
 rw [wI (by omega) (by omega)]
 refine ⟨fun h => ?_, fun h => ?_⟩
 ·exact szr_bad' (n := xs.length) h0 ((K4y h0).2 (by omega)) (by omega)
 ·have hz : szr xs.length left = left - xs.length := by unfold szr; rw [if_pos (by omega)]
  rw [← hz] at h ⊢
  refine K5 xs (fun k => [(1, vI (szr (xs.length + ((xs.take k).map GCapture.size).sum) left)), (5, vI k)]) (fun k => []) (fun k => ¬ szr (xs.length + ((xs.take k).map GCapture.size).sum) left < 0) hl ?_
  simp only [go_sem]
  refine ⟨?_, by simpa using h, ?_, ?_⟩
  ·simp only [go_sem, List.take_zero, List.map_nil, List.sum_nil, Nat.add_zero]
   all_goals rfl
  ·intro k x hx hs hk0 h1 hw
   obtain ⟨a1, a2, a3⟩ := K1k (m := x.size) h0 hs
   rw [Nat.add_assoc, ← K3z hx] at a3
   simp only [go_sem, K7 hx, hk0, h1, hw]
   refine K0 (C9h x _ a1) ?_
   rw [← a3]
   simp only [go_sem, hw]
   intro _
   refine ⟨fun hn => ?_, fun hn => hn⟩
   have := K1g (f := GCapture.size) xs (k + 1)
   exact szr_bad' h0 hn (by omega)
  ·intro _
   simp only [go_sem, List.take_length]
def M4w : MC := Y7 N5r
theorem C8x (xs : List GCapture) (hs : xs.length + (xs.map GCapture.size).sum ≤ 1073741824) : Ctr Tryz.prog N4i [aL 9 (xs.map GCapture.enc)] [rL 9 (xs.map GCapture.enc)] := by
 refine cA M4w 2 23 [(.tmp 2, [true])] Tryz.func361 rfl rfl ?_; unfold M4w
 intro hb
 simp only [go_sem, Kv]
 refine ⟨⟨by omega, by simp only [roomB]; omega⟩, ?_⟩
 refine K5 xs (fun k => [(4, vI k)]) (fun k => [(0, ⟨0, .row true 9 (filled GCapture.enc [tI 0, tI 0, tI 0, tI 0, tI 0, .sl 1 [], tI 0, tI 0, tI 0] xs k)⟩)]) (fun _ => True) (by simp only [roomB]; omega) ?_
 simp only [go_sem]
 refine ⟨?_, trivial, ?_, ?_⟩
 ·simp only [go_sem, K19]
  all_goals rfl
 ·intro k x hx _ h0 h1 hw
  have h : k < xs.length := by omega
  simp only [go_sem, K7 hx, K7 (Km h), Kk (Nat.le_of_lt h), h0, h1, hw]
  have hx1 := K2e (f := GCapture.size) (K1y hx)
  refine K0 (C9i x (by omega)) ?_
  simp only [go_sem, K7 hx, K7 (Km h), Kk (Nat.le_of_lt h), h0, h1, hw]
  intros; exact K1f hx
 ·intro _
  simp only [go_sem, K1e]
def M4x : MC := Y1 9 N5s
theorem C8y (xs ys : List GCapture) : Ctr Tryz.prog N4j [aL 9 (xs.map GCapture.enc), aL 9 (ys.map GCapture.enc)] [rB (decide (xs = ys))] := by
 refine cA M4x 0 27 [(.tmp 4, [false])] Tryz.func373 rfl rfl ?_; unfold M4x
 intro hb
 simp only [bdA, bdL, bdT, bdR, Kj, Kr, Ko, Kx, roomB, and_true, true_and, List.length_map] at hb
 obtain ⟨⟨hl, -⟩, ⟨hl2, -⟩⟩ := hb
 simp only [go_sem]
 refine ⟨fun h => K26 h, fun h => ?_⟩
 have hle : xs.length = ys.length := by omega
 refine K5 xs (fun k => [(5, vI k)]) (fun k => []) (fun k => xs.take k = ys.take k) hl ?_
 simp only [go_sem]
 refine ⟨?_, rfl, ?_, ?_⟩
 ·simp only [go_sem]
 ·intro k x hx he h0 h1 hw
  obtain ⟨y, hy⟩ := Ki (show k < ys.length by omega)
  have h2 : (k : Int) < ys.length := by omega
  simp only [go_sem, K7 hx, K7 hy, h0, h1, h2, hw]
  refine K0 (C9j x y) ?_
  simp only [go_sem, hw]
  exact ⟨fun hn => K2q hx hy hn, fun hn => (Ku hx hy he).2 hn⟩
 ·intro he
  simp only [go_sem]
  exact K29 he hle
def M3i : MC :=
(Zs [.box 1 0 (.s 0), .alloc 2 1 [pz, pz, pz, pz, pz]] [1,2] (Zs [.alloc 3 2 [pz, pz, pz, pz, pz]] [1,2,3] (Zs [fS 4 1 0, lF 5 1 4, fS 6 3 0, sS 1 6 5] [1,2,3] (Zs [fS 7 1 1, lF 8 1 7, fS 9 3 1, sS 1 9 8] [1,2,3] (Zs [fS 10 1 2, lF 11 1 10, fS 12 3 2, sS 1 12 11] [1,2,3] (Zs [fS 13 1 3, lF 14 1 13, fS 15 3 3, sS 1 15 14] [1,2,3] (Zs [fS 16 1 4, lF 17 1 16, fS 18 3 4, sS 1 18 17] [2,3] (Zs [lT 19 5 3, sS 5 2 19] [2] .ret))))))))
theorem C8d (x : GExclusion) : Ctr Tryz.prog N38 [aS x.enc] [rS x.enc] := by
 refine cA M3i 3 20 [(.cell 2 true 5, [false, false, false, false, false])] Tryz.func145 rfl rfl ?_; unfold M3i
 intro hb
 simp only [go_sem]
def M3j : MC :=
(Zs [.box 2 0 (.s 0), .box 3 1 (.s 1), .mv 4 cF] [2,3] (.seq (Zs [fS 5 2 0, lF 6 1 5, fS 7 3 0, lF 8 1 7, bS 9 .neq 6 8] [2,3,9] (.cond (.s 9) (Zs [.mv 4 cF] [4] .ret) .skip))
(.seq (Zs [fS 10 2 1, lF 11 1 10, fS 12 3 1, lF 13 1 12, bS 14 .neq 11 13] [2,3,14] (.cond (.s 14) (Zs [.mv 4 cF] [4] .ret) .skip))
(.seq (Zs [fS 15 2 2, lF 16 1 15, fS 17 3 2, lF 18 1 17, bS 19 .neq 16 18] [2,3,19] (.cond (.s 19) (Zs [.mv 4 cF] [4] .ret) .skip))
(.seq (Zs [fS 20 2 3, lF 21 1 20, fS 22 3 3, lF 23 1 22, bS 24 .neq 21 23] [2,3,24] (.cond (.s 24) (Zs [.mv 4 cF] [4] .ret) .skip))
(.seq (Zs [fS 25 2 4, lF 26 1 25, fS 27 3 4, lF 28 1 27, bS 29 .neq 26 28] [29] (.cond (.s 29) (Zs [.mv 4 cF] [4] .ret) .skip))
(Zs [.mv 4 cT] [4] .ret)))))))
theorem C8e (x y : GExclusion) : Ctr Tryz.prog N3a [aS x.enc, aS y.enc] [rB (decide (x = y))] := by
 refine cA M3j 2 30 [(.tmp 4, [false])] Tryz.func158 rfl rfl ?_; unfold M3j
 intro hb
 clear hb
 simp only [go_sem]
 refine ⟨fun h => ?_, fun h_Host => ?_⟩
 ·symm
  rw [decide_eq_false_iff_not]
  rintro rfl
  exact h rfl
 refine ⟨fun h => ?_, fun h_Path => ?_⟩
 ·symm
  rw [decide_eq_false_iff_not]
  rintro rfl
  exact h rfl
 refine ⟨fun h => ?_, fun h_From => ?_⟩
 ·symm
  rw [decide_eq_false_iff_not]
  rintro rfl
  exact h rfl
 refine ⟨fun h => ?_, fun h_Until => ?_⟩
 ·symm
  rw [decide_eq_false_iff_not]
  rintro rfl
  exact h rfl
 refine ⟨fun h => ?_, fun h_Asked => ?_⟩
 ·symm
  rw [decide_eq_false_iff_not]
  rintro rfl
  exact h rfl
 cases x; cases y; simp_all
def M2g : MC := Y0
theorem C7u (xs : List GExclusion) (left : Int) (h0 : 0 ≤ left) : Ctr Tryz.prog N24 [aL 5 (xs.map GExclusion.enc), aI left] [rI (szr xs.length left)] := by
 refine cA M2g 0 12 [(.tmp 4, [false])] Tryz.func53 rfl rfl ?_; unfold M2g
 intro hb
 simp only [bdA, bdL, bdT, bdR, Kj, Kr, Ko, Kx, roomB, and_true, true_and, List.length_map] at hb
 obtain ⟨⟨hl, -⟩, hn⟩ := hb
 simp only [go_sem]
 rw [wI (by omega) (by omega)]
 unfold szr
 refine ⟨fun h => ?_, fun h => ?_⟩
 ·rw [if_neg (by omega)]
 ·rw [if_pos (by omega)]
def M2h : MC := Y11 N38
theorem C7v (xs : List GExclusion) (hs : xs.length ≤ 1073741824) : Ctr Tryz.prog N26 [aL 5 (xs.map GExclusion.enc)] [rL 5 (xs.map GExclusion.enc)] := by
 refine cA M2h 1 23 [(.tmp 2, [true])] Tryz.func62 rfl rfl ?_; unfold M2h
 intro hb
 simp only [go_sem, Kv]
 refine ⟨⟨by omega, by simp only [roomB]; omega⟩, ?_⟩
 refine K5 xs (fun k => [(4, vI k)]) (fun k => [(0, ⟨0, .row true 5 (filled GExclusion.enc [tI 0, tI 0, tI 0, tI 0, tI 0] xs k)⟩)]) (fun _ => True) (by simp only [roomB]; omega) ?_
 simp only [go_sem]
 refine ⟨?_, trivial, ?_, ?_⟩
 ·simp only [go_sem, K19]
  all_goals rfl
 ·intro k x hx _ h0 h1 hw
  have h : k < xs.length := by omega
  simp only [go_sem, K7 hx, K7 (Km h), Kk (Nat.le_of_lt h), h0, h1, hw]
  refine K0 (C8d x) ?_
  simp only [go_sem, K7 hx, K7 (Km h), Kk (Nat.le_of_lt h), h0, h1, hw]
  intros; exact K1f hx
 ·intro _
  simp only [go_sem, K1e]
def M2i : MC := Y1 5 N3a
theorem C7w (xs ys : List GExclusion) : Ctr Tryz.prog N28 [aL 5 (xs.map GExclusion.enc), aL 5 (ys.map GExclusion.enc)] [rB (decide (xs = ys))] := by
 refine cA M2i 0 27 [(.tmp 4, [false])] Tryz.func72 rfl rfl ?_; unfold M2i
 intro hb
 simp only [bdA, bdL, bdT, bdR, Kj, Kr, Ko, Kx, roomB, and_true, true_and, List.length_map] at hb
 obtain ⟨⟨hl, -⟩, ⟨hl2, -⟩⟩ := hb
 simp only [go_sem]
 refine ⟨fun h => K26 h, fun h => ?_⟩
 have hle : xs.length = ys.length := by omega
 refine K5 xs (fun k => [(5, vI k)]) (fun k => []) (fun k => xs.take k = ys.take k) hl ?_
 simp only [go_sem]
 refine ⟨?_, rfl, ?_, ?_⟩
 ·simp only [go_sem]
 ·intro k x hx he h0 h1 hw
  obtain ⟨y, hy⟩ := Ki (show k < ys.length by omega)
  have h2 : (k : Int) < ys.length := by omega
  simp only [go_sem, K7 hx, K7 hy, h0, h1, h2, hw]
  refine K0 (C8e x y) ?_
  simp only [go_sem, hw]
  exact ⟨fun hn => K2q hx hy hn, fun hn => (Ku hx hy he).2 hn⟩
 ·intro he
  simp only [go_sem]
  exact K29 he hle
def M3k : MC := Y8
theorem C8f (x : GStatement) : Ctr Tryz.prog N39 [aS x.enc] [rS x.enc] := by
 refine cA M3k 3 17 [(.cell 2 true 4, [false, false, false, false])] Tryz.func147 rfl rfl ?_; unfold M3k
 intro hb
 simp only [go_sem]
def M3l : MC := Y9
theorem C8g (x y : GStatement) : Ctr Tryz.prog N3b [aS x.enc, aS y.enc] [rB (decide (x = y))] := by
 refine cA M3l 2 25 [(.tmp 4, [false])] Tryz.func160 rfl rfl ?_; unfold M3l
 intro hb
 clear hb
 simp only [go_sem]
 refine ⟨fun h => ?_, fun h_Witness => ?_⟩
 ·symm
  rw [decide_eq_false_iff_not]
  rintro rfl
  exact h rfl
 refine ⟨fun h => ?_, fun h_Digest => ?_⟩
 ·symm
  rw [decide_eq_false_iff_not]
  rintro rfl
  exact h rfl
 refine ⟨fun h => ?_, fun h_Tick => ?_⟩
 ·symm
  rw [decide_eq_false_iff_not]
  rintro rfl
  exact h rfl
 refine ⟨fun h => ?_, fun h_Seal => ?_⟩
 ·symm
  rw [decide_eq_false_iff_not]
  rintro rfl
  exact h rfl
 cases x; cases y; simp_all
def M2j : MC := Y0
theorem C7x (xs : List GStatement) (left : Int) (h0 : 0 ≤ left) : Ctr Tryz.prog N25 [aL 4 (xs.map GStatement.enc), aI left] [rI (szr xs.length left)] := by
 refine cA M2j 0 12 [(.tmp 4, [false])] Tryz.func56 rfl rfl ?_; unfold M2j
 intro hb
 simp only [bdA, bdL, bdT, bdR, Kj, Kr, Ko, Kx, roomB, and_true, true_and, List.length_map] at hb
 obtain ⟨⟨hl, -⟩, hn⟩ := hb
 simp only [go_sem]
 rw [wI (by omega) (by omega)]
 unfold szr
 refine ⟨fun h => ?_, fun h => ?_⟩
 ·rw [if_neg (by omega)]
 ·rw [if_pos (by omega)]
def M2k : MC := Y10 N39
theorem C7y (xs : List GStatement) (hs : xs.length ≤ 1073741824) : Ctr Tryz.prog N27 [aL 4 (xs.map GStatement.enc)] [rL 4 (xs.map GStatement.enc)] := by
 refine cA M2k 1 23 [(.tmp 2, [true])] Tryz.func64 rfl rfl ?_; unfold M2k
 intro hb
 simp only [go_sem, Kv]
 refine ⟨⟨by omega, by simp only [roomB]; omega⟩, ?_⟩
 refine K5 xs (fun k => [(4, vI k)]) (fun k => [(0, ⟨0, .row true 4 (filled GStatement.enc [tI 0, tI 0, tI 0, tI 0] xs k)⟩)]) (fun _ => True) (by simp only [roomB]; omega) ?_
 simp only [go_sem]
 refine ⟨?_, trivial, ?_, ?_⟩
 ·simp only [go_sem, K19]
  all_goals rfl
 ·intro k x hx _ h0 h1 hw
  have h : k < xs.length := by omega
  simp only [go_sem, K7 hx, K7 (Km h), Kk (Nat.le_of_lt h), h0, h1, hw]
  refine K0 (C8f x) ?_
  simp only [go_sem, K7 hx, K7 (Km h), Kk (Nat.le_of_lt h), h0, h1, hw]
  intros; exact K1f hx
 ·intro _
  simp only [go_sem, K1e]
def M2l : MC := Y1 4 N3b
theorem C7z (xs ys : List GStatement) : Ctr Tryz.prog N29 [aL 4 (xs.map GStatement.enc), aL 4 (ys.map GStatement.enc)] [rB (decide (xs = ys))] := by
 refine cA M2l 0 27 [(.tmp 4, [false])] Tryz.func74 rfl rfl ?_; unfold M2l
 intro hb
 simp only [bdA, bdL, bdT, bdR, Kj, Kr, Ko, Kx, roomB, and_true, true_and, List.length_map] at hb
 obtain ⟨⟨hl, -⟩, ⟨hl2, -⟩⟩ := hb
 simp only [go_sem]
 refine ⟨fun h => K26 h, fun h => ?_⟩
 have hle : xs.length = ys.length := by omega
 refine K5 xs (fun k => [(5, vI k)]) (fun k => []) (fun k => xs.take k = ys.take k) hl ?_
 simp only [go_sem]
 refine ⟨?_, rfl, ?_, ?_⟩
 ·simp only [go_sem]
 ·intro k x hx he h0 h1 hw
  obtain ⟨y, hy⟩ := Ki (show k < ys.length by omega)
  have h2 : (k : Int) < ys.length := by omega
  simp only [go_sem, K7 hx, K7 hy, h0, h1, h2, hw]
  refine K0 (C8g x y) ?_
  simp only [go_sem, hw]
  exact ⟨fun hn => K2q hx hy hn, fun hn => (Ku hx hy he).2 hn⟩
 ·intro he
  simp only [go_sem]
  exact K29 he hle
def M61 : MC := Y2
theorem C9k (x : GLibrary) (left : Int) (h0 : 0 ≤ left) : Ctr Tryz.prog N5h [aS x.enc, aI left] [rI (szr x.size left)] := by
 refine cA M61 1 12 [(.tmp 4, [false])] Tryz.func139 rfl rfl ?_; unfold M61
 intro hb
 simp only [go_sem]
 refine K0 (C3z x.Digests left h0) ?_
 simp only [go_sem]
 intro _
 refine ⟨fun h => szr_bad' h0 h (by simp only [GLibrary.size]; omega), fun h1 => ?_⟩
 rfl
def M62 : MC :=
(Zs [.box 1 0 (.s 0), .alloc 2 1 [pz, .emp 1, .pl (.sc (.bool false)), .pl (.sc (.bool false))]] [1,2] (Zs [.alloc 3 2 [pz, .emp 1, .pl (.sc (.bool false)), .pl (.sc (.bool false))]] [1,2,3] (Zs [fS 4 1 0, lF 5 1 4, fS 6 3 0, sS 1 6 5] [1,2,3] (Zs [fS 7 1 1, lF 8 1 7, .call 9 [3] (.f N1m) [.s 8], fS 10 3 1, sS 1 10 9] [1,2,3] (Zs [fS 11 1 2, lF 12 1 11, fS 13 3 2, sS 1 13 12] [1,2,3] (Zs [fS 14 1 3, lF 15 1 14, fS 16 3 3, sS 1 16 15] [2,3] (Zs [lT 17 4 3, sS 4 2 17] [2] .ret)))))))
theorem C9l (x : GLibrary) (hs : x.size ≤ 1073741824) : Ctr Tryz.prog N5j [aS x.enc] [rS x.enc] := by
 refine cA M62 4 18 [(.cell 2 true 4, [false, true, false, false])] Tryz.func146 rfl rfl ?_; unfold M62
 intro hb
 simp only [GLibrary.size] at hs
 simp only [go_sem]
 refine K0 (C40 x.Digests (by omega)) ?_
 simp only [go_sem]
 try intros
def M63 : MC :=
(Zs [.box 2 0 (.s 0), .box 3 1 (.s 1), .mv 4 cF] [2,3] (.seq (Zs [fS 5 2 0, lF 6 1 5, fS 7 3 0, lF 8 1 7, bS 9 .neq 6 8] [2,3,9] (.cond (.s 9) (Zs [.mv 4 cF] [4] .ret) .skip))
(.seq (Zs [fS 10 2 1, lF 11 1 10, fS 12 3 1, lF 13 1 12, .call 14 [] (.f N1n) [.s 11, .s 13], .un 15 .not (.s 14)] [2,3,15] (.cond (.s 15) (Zs [.mv 4 cF] [4] .ret) .skip))
(.seq (Zs [fS 16 2 2, lF 17 1 16, fS 18 3 2, lF 19 1 18, .bin 20 true .neq (.s 17) (.s 19)] [2,3,20] (.cond (.s 20) (Zs [.mv 4 cF] [4] .ret) .skip))
(.seq (Zs [fS 21 2 3, lF 22 1 21, fS 23 3 3, lF 24 1 23, .bin 25 true .neq (.s 22) (.s 24)] [25] (.cond (.s 25) (Zs [.mv 4 cF] [4] .ret) .skip))
(Zs [.mv 4 cT] [4] .ret))))))
theorem C9m (x y : GLibrary) : Ctr Tryz.prog N5l [aS x.enc, aS y.enc] [rB (decide (x = y))] := by
 refine cA M63 2 26 [(.tmp 4, [false])] Tryz.func159 rfl rfl ?_; unfold M63
 intro hb
 clear hb
 simp only [go_sem]
 refine ⟨fun h => ?_, fun h_Id => ?_⟩
 ·symm
  rw [decide_eq_false_iff_not]
  rintro rfl
  exact h rfl
 refine K0 (C41 x.Digests y.Digests) ?_
 simp only [go_sem]
 refine ⟨fun h => ?_, fun h_Digests => ?_⟩
 ·symm
  rw [decide_eq_false_iff_not]
  rintro rfl
  exact h rfl
 refine ⟨fun h => ?_, fun h_Up => ?_⟩
 ·symm
  rw [decide_eq_false_iff_not]
  rintro rfl
  exact h rfl
 refine ⟨fun h => ?_, fun h_Lies => ?_⟩
 ·symm
  rw [decide_eq_false_iff_not]
  rintro rfl
  exact h rfl
 cases x; cases y; simp_all
def M4y : MC := Y6 4 N5h
theorem C8z (xs : List GLibrary) (left : Int) (h0 : 0 ≤ left) : Ctr Tryz.prog N43 [aL 4 (xs.map GLibrary.enc), aI left] [rI (szr (xs.length + (xs.map GLibrary.size).sum) left)] := by
 refine cA M4y 0 27 [(.tmp 4, [false])] Tryz.func54 rfl rfl ?_; unfold M4y
 intro hb
 simp only [bdA, bdL, bdT, bdR, Kj, Kr, Ko, Kx, roomB, and_true, true_and, List.length_map] at hb
 obtain ⟨⟨hl, -⟩, hn⟩ := hb
 simp only [go_sem]
 rw [wI (by omega) (by omega)]
 refine ⟨fun h => ?_, fun h => ?_⟩
 ·exact szr_bad' (n := xs.length) h0 ((K4y h0).2 (by omega)) (by omega)
 ·have hz : szr xs.length left = left - xs.length := by unfold szr; rw [if_pos (by omega)]
  rw [← hz] at h ⊢
  refine K5 xs (fun k => [(1, vI (szr (xs.length + ((xs.take k).map GLibrary.size).sum) left)), (5, vI k)]) (fun k => []) (fun k => ¬ szr (xs.length + ((xs.take k).map GLibrary.size).sum) left < 0) hl ?_
  simp only [go_sem]
  refine ⟨?_, by simpa using h, ?_, ?_⟩
  ·simp only [go_sem, List.take_zero, List.map_nil, List.sum_nil, Nat.add_zero]
   all_goals rfl
  ·intro k x hx hs hk0 h1 hw
   obtain ⟨a1, a2, a3⟩ := K1k (m := x.size) h0 hs
   rw [Nat.add_assoc, ← K3z hx] at a3
   simp only [go_sem, K7 hx, hk0, h1, hw]
   refine K0 (C9k x _ a1) ?_
   rw [← a3]
   simp only [go_sem, hw]
   intro _
   refine ⟨fun hn => ?_, fun hn => hn⟩
   have := K1g (f := GLibrary.size) xs (k + 1)
   exact szr_bad' h0 hn (by omega)
  ·intro _
   simp only [go_sem, List.take_length]
def M4z : MC :=
(Zs [.nilo 2 0 4] [0] (.seq (pr [mS 5 0, nS 6 5, .mk 7 0 4 40 [.sc (.int .i64 0), .sl 1 [], .sc (.bool false), .sc (.bool false)] (.s 6), mS 3 7] [0,3])
(.seq (Zs [.mv 4 (ci 0)] [0,3,4] (.block 0 (.loop ([0,3,4], [1]) (.seq (Zs [mS 8 4, mS 9 0, nS 10 9, bS 11 .lss 8 10] [0,3,4,11] (cX 11 0))
(.seq (.block 1 (pr [mS 14 3, mS 15 4, mS 16 0, mS 17 4, xS 18 4 16 17, lT 19 4 18, .call 20 [1] (.f N5j) [.s 19], xS 21 4 14 15, sS 4 21 20] [0,3,4]))
(pr [mS 12 4, bC 13 .add 12 1, mS 4 13] [0,3,4]))))))
(Zs [mS 22 3, mS 2 22] [2] .ret))))
theorem C90 (xs : List GLibrary) (hs : xs.length + (xs.map GLibrary.size).sum ≤ 1073741824) : Ctr Tryz.prog N45 [aL 4 (xs.map GLibrary.enc)] [rL 4 (xs.map GLibrary.enc)] := by
 refine cA M4z 2 23 [(.tmp 2, [true])] Tryz.func63 rfl rfl ?_; unfold M4z
 intro hb
 simp only [go_sem, Kv]
 refine ⟨⟨by omega, by simp only [roomB]; omega⟩, ?_⟩
 refine K5 xs (fun k => [(4, vI k)]) (fun k => [(0, ⟨0, .row true 4 (filled GLibrary.enc [tI 0, .sl 1 [], tB false, tB false] xs k)⟩)]) (fun _ => True) (by simp only [roomB]; omega) ?_
 simp only [go_sem]
 refine ⟨?_, trivial, ?_, ?_⟩
 ·simp only [go_sem, K19]
  all_goals rfl
 ·intro k x hx _ h0 h1 hw
  have h : k < xs.length := by omega
  simp only [go_sem, K7 hx, K7 (Km h), Kk (Nat.le_of_lt h), h0, h1, hw]
  have hx1 := K2e (f := GLibrary.size) (K1y hx)
  refine K0 (C9l x (by omega)) ?_
  simp only [go_sem, K7 hx, K7 (Km h), Kk (Nat.le_of_lt h), h0, h1, hw]
  intros; exact K1f hx
 ·intro _
  simp only [go_sem, K1e]
def M50 : MC := Y1 4 N5l
theorem C91 (xs ys : List GLibrary) : Ctr Tryz.prog N47 [aL 4 (xs.map GLibrary.enc), aL 4 (ys.map GLibrary.enc)] [rB (decide (xs = ys))] := by
 refine cA M50 0 27 [(.tmp 4, [false])] Tryz.func73 rfl rfl ?_; unfold M50
 intro hb
 simp only [bdA, bdL, bdT, bdR, Kj, Kr, Ko, Kx, roomB, and_true, true_and, List.length_map] at hb
 obtain ⟨⟨hl, -⟩, ⟨hl2, -⟩⟩ := hb
 simp only [go_sem]
 refine ⟨fun h => K26 h, fun h => ?_⟩
 have hle : xs.length = ys.length := by omega
 refine K5 xs (fun k => [(5, vI k)]) (fun k => []) (fun k => xs.take k = ys.take k) hl ?_
 simp only [go_sem]
 refine ⟨?_, rfl, ?_, ?_⟩
 ·simp only [go_sem]
 ·intro k x hx he h0 h1 hw
  obtain ⟨y, hy⟩ := Ki (show k < ys.length by omega)
  have h2 : (k : Int) < ys.length := by omega
  simp only [go_sem, K7 hx, K7 hy, h0, h1, h2, hw]
  refine K0 (C9m x y) ?_
  simp only [go_sem, hw]
  exact ⟨fun hn => K2q hx hy hn, fun hn => (Ku hx hy he).2 hn⟩
 ·intro he
  simp only [go_sem]
  exact K29 he hle
def Y12 (v0 : Nat) (v1 : Nat) (v2 : Nat) : MC :=
(Zs [.box 2 0 (.s 0), .mv 4 (ci 0)] [1,2] (Zs [fS 5 2 0, lF 6 1 5, mS 7 1, .call 8 [] (.f v0) [.s 6, .s 7], mS 1 8] [1,2] (.seq (Zs [mS 9 1, bC 10 .lss 9 0] [1,2,10] (.cond (.s 10) (Zs [.mv 4 (.c (.int .i64 (-1)))] [4] .ret) .skip))
(Zs [fS 11 2 1, lF 12 1 11, mS 13 1, .call 14 [] (.f v1) [.s 12, .s 13], mS 1 14] [1,2] (.seq (Zs [mS 15 1, bC 16 .lss 15 0] [1,2,16] (.cond (.s 16) (Zs [.mv 4 (.c (.int .i64 (-1)))] [4] .ret) .skip))
(Zs [fS 17 2 2, lF 18 1 17, mS 19 1, .call 20 [] (.f v2) [.s 18, .s 19], mS 1 20] [1] (.seq (Zs [mS 21 1, bC 22 .lss 21 0] [1,22] (.cond (.s 22) (Zs [.mv 4 (.c (.int .i64 (-1)))] [4] .ret) .skip))
(Zs [mS 23 1, mS 4 23] [4] .ret))))))))
attribute [go_sem] Y12
def M3m : MC := Y12 N5d N6h N4h
theorem C8h (x : GContainer) (left : Int) (h0 : 0 ≤ left) : Ctr Tryz.prog N3c [aS x.enc, aI left] [rI (szr x.size left)] := by
 refine cA M3m 1 24 [(.tmp 4, [false])] Tryz.func264 rfl rfl ?_; unfold M3m
 intro hb
 simp only [go_sem]
 refine K0 (C88 x.Script left h0) ?_
 simp only [go_sem]
 intro _
 refine ⟨fun h => szr_bad' h0 h (by simp only [GContainer.size]; omega), fun h1 => ?_⟩
 obtain ⟨a1, b1, e1⟩ := K1k (m := x.Entries.length) h0 h1
 refine K0 (C9u x.Entries _ a1) ?_
 rw [← e1]
 simp only [go_sem]
 intro _
 refine ⟨fun h => szr_bad' h0 h (by simp only [GContainer.size]; omega), fun h2 => ?_⟩
 obtain ⟨a2, b2, e2⟩ := K1k (m := x.Captures.length + (x.Captures.map GCapture.size).sum) h0 h2
 refine K0 (C8w x.Captures _ a2) ?_
 rw [← e2]
 simp only [go_sem]
 intro _
 refine ⟨fun h => szr_bad' h0 h (by simp only [GContainer.size]; omega), fun h3 => ?_⟩
 rfl
def M3n : MC :=
(Zs [.box 1 0 (.s 0), .alloc 2 1 [.emp 4, .emp 5, .emp 9, pz]] [1,2] (Zs [.alloc 3 2 [.emp 4, .emp 5, .emp 9, pz]] [1,2,3] (Zs [fS 4 1 0, lF 5 1 4, .call 6 [3] (.f N5e) [.s 5], fS 7 3 0, sS 1 7 6] [1,2,3] (Zs [fS 8 1 1, lF 9 1 8, .call 10 [4] (.f N6i) [.s 9], fS 11 3 1, sS 1 11 10] [1,2,3] (Zs [fS 12 1 2, lF 13 1 12, .call 14 [5] (.f N4i) [.s 13], fS 15 3 2, sS 1 15 14] [1,2,3] (Zs [fS 16 1 3, lF 17 1 16, fS 18 3 3, sS 1 18 17] [2,3] (Zs [lT 19 4 3, sS 4 2 19] [2] .ret)))))))
theorem C8i (x : GContainer) (hs : x.size ≤ 1073741824) : Ctr Tryz.prog N3d [aS x.enc] [rS x.enc] := by
 refine cA M3n 6 20 [(.cell 2 true 4, [true, true, true, false])] Tryz.func268 rfl rfl ?_; unfold M3n
 intro hb
 simp only [GContainer.size] at hs
 simp only [go_sem]
 refine K0 (C8a x.Script (by omega)) ?_
 simp only [go_sem]
 try intros
 refine K0 (C9v x.Entries (by omega)) ?_
 simp only [go_sem]
 try intros
 refine K0 (C8x x.Captures (by omega)) ?_
 simp only [go_sem]
 try intros
def M3o : MC :=
(Zs [.box 2 0 (.s 0), .box 3 1 (.s 1), .mv 4 cF] [2,3] (.seq (Zs [fS 5 2 0, lF 6 1 5, fS 7 3 0, lF 8 1 7, .call 9 [] (.f N5f) [.s 6, .s 8], .un 10 .not (.s 9)] [2,3,10] (.cond (.s 10) (Zs [.mv 4 cF] [4] .ret) .skip))
(.seq (Zs [fS 11 2 1, lF 12 1 11, fS 13 3 1, lF 14 1 13, .call 15 [] (.f N6j) [.s 12, .s 14], .un 16 .not (.s 15)] [2,3,16] (.cond (.s 16) (Zs [.mv 4 cF] [4] .ret) .skip))
(.seq (Zs [fS 17 2 2, lF 18 1 17, fS 19 3 2, lF 20 1 19, .call 21 [] (.f N4j) [.s 18, .s 20], .un 22 .not (.s 21)] [2,3,22] (.cond (.s 22) (Zs [.mv 4 cF] [4] .ret) .skip))
(.seq (Zs [fS 23 2 3, lF 24 1 23, fS 25 3 3, lF 26 1 25, bS 27 .neq 24 26] [27] (.cond (.s 27) (Zs [.mv 4 cF] [4] .ret) .skip))
(Zs [.mv 4 cT] [4] .ret))))))
theorem C8j (x y : GContainer) : Ctr Tryz.prog N3e [aS x.enc, aS y.enc] [rB (decide (x = y))] := by
 refine cA M3o 2 28 [(.tmp 4, [false])] Tryz.func274 rfl rfl ?_; unfold M3o
 intro hb
 clear hb
 simp only [go_sem]
 refine K0 (C8c x.Script y.Script) ?_
 simp only [go_sem]
 refine ⟨fun h => ?_, fun h_Script => ?_⟩
 ·symm
  rw [decide_eq_false_iff_not]
  rintro rfl
  exact h rfl
 refine K0 (C9w x.Entries y.Entries) ?_
 simp only [go_sem]
 refine ⟨fun h => ?_, fun h_Entries => ?_⟩
 ·symm
  rw [decide_eq_false_iff_not]
  rintro rfl
  exact h rfl
 refine K0 (C8y x.Captures y.Captures) ?_
 simp only [go_sem]
 refine ⟨fun h => ?_, fun h_Captures => ?_⟩
 ·symm
  rw [decide_eq_false_iff_not]
  rintro rfl
  exact h rfl
 refine ⟨fun h => ?_, fun h_Root => ?_⟩
 ·symm
  rw [decide_eq_false_iff_not]
  rintro rfl
  exact h rfl
 cases x; cases y; simp_all
def M2m : MC := Y6 4 N3c
theorem C2n (xs : List GContainer) (left : Int) (h0 : 0 ≤ left) : Ctr Tryz.prog N17 [aL 4 (xs.map GContainer.enc), aI left] [rI (szr (xs.length + (xs.map GContainer.size).sum) left)] := by
 refine cA M2m 0 27 [(.tmp 4, [false])] Tryz.func137 rfl rfl ?_; unfold M2m
 intro hb
 simp only [bdA, bdL, bdT, bdR, Kj, Kr, Ko, Kx, roomB, and_true, true_and, List.length_map] at hb
 obtain ⟨⟨hl, -⟩, hn⟩ := hb
 simp only [go_sem]
 rw [wI (by omega) (by omega)]
 refine ⟨fun h => ?_, fun h => ?_⟩
 ·exact szr_bad' (n := xs.length) h0 ((K4y h0).2 (by omega)) (by omega)
 ·have hz : szr xs.length left = left - xs.length := by unfold szr; rw [if_pos (by omega)]
  rw [← hz] at h ⊢
  refine K5 xs (fun k => [(1, vI (szr (xs.length + ((xs.take k).map GContainer.size).sum) left)), (5, vI k)]) (fun k => []) (fun k => ¬ szr (xs.length + ((xs.take k).map GContainer.size).sum) left < 0) hl ?_
  simp only [go_sem]
  refine ⟨?_, by simpa using h, ?_, ?_⟩
  ·simp only [go_sem, List.take_zero, List.map_nil, List.sum_nil, Nat.add_zero]
   all_goals rfl
  ·intro k x hx hs hk0 h1 hw
   obtain ⟨a1, a2, a3⟩ := K1k (m := x.size) h0 hs
   rw [Nat.add_assoc, ← K3z hx] at a3
   simp only [go_sem, K7 hx, hk0, h1, hw]
   refine K0 (C8h x _ a1) ?_
   rw [← a3]
   simp only [go_sem, hw]
   intro _
   refine ⟨fun hn => ?_, fun hn => hn⟩
   have := K1g (f := GContainer.size) xs (k + 1)
   exact szr_bad' h0 hn (by omega)
  ·intro _
   simp only [go_sem, List.take_length]
def M2o : MC :=
(Zs [.nilo 2 0 4] [0] (.seq (pr [mS 5 0, nS 6 5, .mk 7 0 4 80 [.sl 4 [], .sl 5 [], .sl 9 [], .sc (.int .i64 0)] (.s 6), mS 3 7] [0,3])
(.seq (Zs [.mv 4 (ci 0)] [0,3,4] (.block 0 (.loop ([0,3,4], [1,2,3]) (.seq (Zs [mS 8 4, mS 9 0, nS 10 9, bS 11 .lss 8 10] [0,3,4,11] (cX 11 0))
(.seq (.block 1 (pr [mS 14 3, mS 15 4, mS 16 0, mS 17 4, xS 18 4 16 17, lT 19 4 18, .call 20 [1, 2, 3] (.f N3d) [.s 19], xS 21 4 14 15, sS 4 21 20] [0,3,4]))
(pr [mS 12 4, bC 13 .add 12 1, mS 4 13] [0,3,4]))))))
(Zs [mS 22 3, mS 2 22] [2] .ret))))
theorem C2p (xs : List GContainer) (hs : xs.length + (xs.map GContainer.size).sum ≤ 1073741824) : Ctr Tryz.prog N18 [aL 4 (xs.map GContainer.enc)] [rL 4 (xs.map GContainer.enc)] := by
 refine cA M2o 4 23 [(.tmp 2, [true])] Tryz.func143 rfl rfl ?_; unfold M2o
 intro hb
 simp only [go_sem, Kv]
 refine ⟨⟨by omega, by simp only [roomB]; omega⟩, ?_⟩
 refine K5 xs (fun k => [(4, vI k)]) (fun k => [(0, ⟨0, .row true 4 (filled GContainer.enc [.sl 4 [], .sl 5 [], .sl 9 [], tI 0] xs k)⟩)]) (fun _ => True) (by simp only [roomB]; omega) ?_
 simp only [go_sem]
 refine ⟨?_, trivial, ?_, ?_⟩
 ·simp only [go_sem, K19]
  all_goals rfl
 ·intro k x hx _ h0 h1 hw
  have h : k < xs.length := by omega
  simp only [go_sem, K7 hx, K7 (Km h), Kk (Nat.le_of_lt h), h0, h1, hw]
  have hx1 := K2e (f := GContainer.size) (K1y hx)
  refine K0 (C8i x (by omega)) ?_
  simp only [go_sem, K7 hx, K7 (Km h), Kk (Nat.le_of_lt h), h0, h1, hw]
  intros; exact K1f hx
 ·intro _
  simp only [go_sem, K1e]
def M2q : MC := Y1 4 N3e
theorem C2r (xs ys : List GContainer) : Ctr Tryz.prog N19 [aL 4 (xs.map GContainer.enc), aL 4 (ys.map GContainer.enc)] [rB (decide (xs = ys))] := by
 refine cA M2q 0 27 [(.tmp 4, [false])] Tryz.func156 rfl rfl ?_; unfold M2q
 intro hb
 simp only [bdA, bdL, bdT, bdR, Kj, Kr, Ko, Kx, roomB, and_true, true_and, List.length_map] at hb
 obtain ⟨⟨hl, -⟩, ⟨hl2, -⟩⟩ := hb
 simp only [go_sem]
 refine ⟨fun h => K26 h, fun h => ?_⟩
 have hle : xs.length = ys.length := by omega
 refine K5 xs (fun k => [(5, vI k)]) (fun k => []) (fun k => xs.take k = ys.take k) hl ?_
 simp only [go_sem]
 refine ⟨?_, rfl, ?_, ?_⟩
 ·simp only [go_sem]
 ·intro k x hx he h0 h1 hw
  obtain ⟨y, hy⟩ := Ki (show k < ys.length by omega)
  have h2 : (k : Int) < ys.length := by omega
  simp only [go_sem, K7 hx, K7 hy, h0, h1, h2, hw]
  refine K0 (C8j x y) ?_
  simp only [go_sem, hw]
  exact ⟨fun hn => K2q hx hy hn, fun hn => (Ku hx hy he).2 hn⟩
 ·intro he
  simp only [go_sem]
  exact K29 he hle
def M75 : MC :=
(Zs [.box 1 0 (.s 0), .alloc 2 1 [pz, pz, pz, pz, pz, pz]] [1,2] (Zs [.alloc 3 2 [pz, pz, pz, pz, pz, pz]] [1,2,3] (Zs [fS 4 1 0, lT 5 3 4, .call 6 [] (.f Nu) [.s 5], fS 7 3 0, sS 3 7 6] [1,2,3] (Zs [fS 8 1 3, lF 9 1 8, fS 10 3 3, sS 1 10 9] [1,2,3] (Zs [fS 11 1 4, lF 12 1 11, fS 13 3 4, sS 1 13 12] [1,2,3] (Zs [fS 14 1 5, lF 15 1 14, fS 16 3 5, sS 1 16 15] [2,3] (Zs [lT 17 6 3, sS 6 2 17] [2] .ret)))))))
theorem Ca6 (x : GFound) : Ctr Tryz.prog N6y [aS x.enc] [rS x.enc] := by
 refine cA M75 3 18 [(.cell 2 true 6, [false, false, false, false, false, false])] Tryz.func269 rfl rfl ?_; unfold M75
 intro hb
 simp only [go_sem]
 refine K0 (Cv x.Address) ?_
 simp only [go_sem]
 try intros
def M76 : MC :=
(Zs [.box 2 0 (.s 0), .box 3 1 (.s 1), .mv 4 cF] [2,3] (.seq (Zs [fS 5 2 0, lT 6 3 5, fS 7 3 0, lT 8 3 7, .call 9 [] (.f Ng) [.s 6, .s 8], .un 10 .not (.s 9)] [2,3,10] (.cond (.s 10) (Zs [.mv 4 cF] [4] .ret) .skip))
(.seq (Zs [fS 11 2 3, lF 12 1 11, fS 13 3 3, lF 14 1 13, bS 15 .neq 12 14] [2,3,15] (.cond (.s 15) (Zs [.mv 4 cF] [4] .ret) .skip))
(.seq (Zs [fS 16 2 4, lF 17 1 16, fS 18 3 4, lF 19 1 18, bS 20 .neq 17 19] [2,3,20] (.cond (.s 20) (Zs [.mv 4 cF] [4] .ret) .skip))
(.seq (Zs [fS 21 2 5, lF 22 1 21, fS 23 3 5, lF 24 1 23, bS 25 .neq 22 24] [25] (.cond (.s 25) (Zs [.mv 4 cF] [4] .ret) .skip))
(Zs [.mv 4 cT] [4] .ret))))))
theorem Ca7 (x y : GFound) : Ctr Tryz.prog N6z [aS x.enc, aS y.enc] [rB (decide (x = y))] := by
 refine cA M76 2 26 [(.tmp 4, [false])] Tryz.func275 rfl rfl ?_; unfold M76
 intro hb
 clear hb
 simp only [go_sem]
 refine K0 (Ch x.Address y.Address) ?_
 simp only [go_sem]
 refine ⟨fun h => ?_, fun h_Address => ?_⟩
 ·symm
  rw [decide_eq_false_iff_not]
  rintro rfl
  exact h rfl
 refine ⟨fun h => ?_, fun h_Tick => ?_⟩
 ·symm
  rw [decide_eq_false_iff_not]
  rintro rfl
  exact h rfl
 refine ⟨fun h => ?_, fun h_Container => ?_⟩
 ·symm
  rw [decide_eq_false_iff_not]
  rintro rfl
  exact h rfl
 refine ⟨fun h => ?_, fun h_At => ?_⟩
 ·symm
  rw [decide_eq_false_iff_not]
  rintro rfl
  exact h rfl
 cases x; cases y; simp_all
def M6o : MC := Y0
theorem C9x (xs : List GFound) (left : Int) (h0 : 0 ≤ left) : Ctr Tryz.prog N6d [aL 6 (xs.map GFound.enc), aI left] [rI (szr xs.length left)] := by
 refine cA M6o 0 12 [(.tmp 4, [false])] Tryz.func138 rfl rfl ?_; unfold M6o
 intro hb
 simp only [bdA, bdL, bdT, bdR, Kj, Kr, Ko, Kx, roomB, and_true, true_and, List.length_map] at hb
 obtain ⟨⟨hl, -⟩, hn⟩ := hb
 simp only [go_sem]
 rw [wI (by omega) (by omega)]
 unfold szr
 refine ⟨fun h => ?_, fun h => ?_⟩
 ·rw [if_neg (by omega)]
 ·rw [if_pos (by omega)]
def M6p : MC :=
(Zs [.nilo 2 0 6] [0] (Zs [mS 5 0, nS 6 5, .mk 7 0 6 48 [.sc (.int .i64 0), .sc (.int .i64 0), .sc (.int .i64 0), .sc (.int .i64 0), .sc (.int .i64 0), .sc (.int .i64 0)] (.s 6), mS 3 7] [0,3] (.seq (Zs [.mv 4 (ci 0)] [0,3,4] (.block 0 (.loop ([0,3,4], []) (.seq (Zs [mS 8 4, mS 9 0, nS 10 9, bS 11 .lss 8 10] [0,3,4,11] (cX 11 0))
(.seq (.block 1 (pr [mS 14 3, mS 15 4, mS 16 0, mS 17 4, xS 18 6 16 17, lT 19 6 18, .call 20 [] (.f N6y) [.s 19], xS 21 6 14 15, sS 6 21 20] [0,3,4]))
(pr [mS 12 4, bC 13 .add 12 1, mS 4 13] [0,3,4]))))))
(Zs [mS 22 3, mS 2 22] [2] .ret))))
theorem C9y (xs : List GFound) (hs : xs.length ≤ 1073741824) : Ctr Tryz.prog N6e [aL 6 (xs.map GFound.enc)] [rL 6 (xs.map GFound.enc)] := by
 refine cA M6p 1 23 [(.tmp 2, [true])] Tryz.func144 rfl rfl ?_; unfold M6p
 intro hb
 simp only [go_sem, Kv]
 refine ⟨⟨by omega, by simp only [roomB]; omega⟩, ?_⟩
 refine K5 xs (fun k => [(4, vI k)]) (fun k => [(0, ⟨0, .row true 6 (filled GFound.enc [tI 0, tI 0, tI 0, tI 0, tI 0, tI 0] xs k)⟩)]) (fun _ => True) (by simp only [roomB]; omega) ?_
 simp only [go_sem]
 refine ⟨?_, trivial, ?_, ?_⟩
 ·simp only [go_sem, K19]
  all_goals rfl
 ·intro k x hx _ h0 h1 hw
  have h : k < xs.length := by omega
  simp only [go_sem, K7 hx, K7 (Km h), Kk (Nat.le_of_lt h), h0, h1, hw]
  refine K0 (Ca6 x) ?_
  simp only [go_sem, K7 hx, K7 (Km h), Kk (Nat.le_of_lt h), h0, h1, hw]
  intros; exact K1f hx
 ·intro _
  simp only [go_sem, K1e]
def M6q : MC := Y1 6 N6z
theorem C9z (xs ys : List GFound) : Ctr Tryz.prog N6f [aL 6 (xs.map GFound.enc), aL 6 (ys.map GFound.enc)] [rB (decide (xs = ys))] := by
 refine cA M6q 0 27 [(.tmp 4, [false])] Tryz.func157 rfl rfl ?_; unfold M6q
 intro hb
 simp only [bdA, bdL, bdT, bdR, Kj, Kr, Ko, Kx, roomB, and_true, true_and, List.length_map] at hb
 obtain ⟨⟨hl, -⟩, ⟨hl2, -⟩⟩ := hb
 simp only [go_sem]
 refine ⟨fun h => K26 h, fun h => ?_⟩
 have hle : xs.length = ys.length := by omega
 refine K5 xs (fun k => [(5, vI k)]) (fun k => []) (fun k => xs.take k = ys.take k) hl ?_
 simp only [go_sem]
 refine ⟨?_, rfl, ?_, ?_⟩
 ·simp only [go_sem]
 ·intro k x hx he h0 h1 hw
  obtain ⟨y, hy⟩ := Ki (show k < ys.length by omega)
  have h2 : (k : Int) < ys.length := by omega
  simp only [go_sem, K7 hx, K7 hy, h0, h1, h2, hw]
  refine K0 (Ca7 x y) ?_
  simp only [go_sem, hw]
  exact ⟨fun hn => K2q hx hy hn, fun hn => (Ku hx hy he).2 hn⟩
 ·intro he
  simp only [go_sem]
  exact K29 he hle
def M7q : MC := Y12 N17 N6d N17
theorem Caa (x : GDisk) (left : Int) (h0 : 0 ≤ left) : Ctr Tryz.prog N7j [aS x.enc, aI left] [rI (szr x.size left)] := by
 refine cA M7q 1 24 [(.tmp 4, [false])] Tryz.func52 rfl rfl ?_; unfold M7q
 intro hb
 simp only [go_sem]
 refine K0 (C2n x.Containers left h0) ?_
 simp only [go_sem]
 intro _
 refine ⟨fun h => szr_bad' h0 h (by simp only [GDisk.size]; omega), fun h1 => ?_⟩
 obtain ⟨a1, b1, e1⟩ := K1k (m := x.Index.length) h0 h1
 refine K0 (C9x x.Index _ a1) ?_
 rw [← e1]
 simp only [go_sem]
 intro _
 refine ⟨fun h => szr_bad' h0 h (by simp only [GDisk.size]; omega), fun h2 => ?_⟩
 obtain ⟨a2, b2, e2⟩ := K1k (m := x.Wanted.length + (x.Wanted.map GContainer.size).sum) h0 h2
 refine K0 (C2n x.Wanted _ a2) ?_
 rw [← e2]
 simp only [go_sem]
 intro _
 refine ⟨fun h => szr_bad' h0 h (by simp only [GDisk.size]; omega), fun h3 => ?_⟩
 rfl
def M7r : MC :=
(Zs [.box 1 0 (.s 0), .alloc 2 1 [.emp 4, .emp 6, .emp 4]] [1,2] (Zs [.alloc 3 2 [.emp 4, .emp 6, .emp 4]] [1,2,3] (Zs [fS 4 1 0, lF 5 1 4, .call 6 [3] (.f N18) [.s 5], fS 7 3 0, sS 1 7 6] [1,2,3] (Zs [fS 8 1 1, lF 9 1 8, .call 10 [4] (.f N6e) [.s 9], fS 11 3 1, sS 1 11 10] [1,2,3] (Zs [fS 12 1 2, lF 13 1 12, .call 14 [5] (.f N18) [.s 13], fS 15 3 2, sS 1 15 14] [2,3] (Zs [lT 16 3 3, sS 3 2 16] [2] .ret))))))
theorem Cab (x : GDisk) (hs : x.size ≤ 1073741824) : Ctr Tryz.prog N7k [aS x.enc] [rS x.enc] := by
 refine cA M7r 6 17 [(.cell 2 true 3, [true, true, true])] Tryz.func61 rfl rfl ?_; unfold M7r
 intro hb
 simp only [GDisk.size] at hs
 simp only [go_sem]
 refine K0 (C2p x.Containers (by omega)) ?_
 simp only [go_sem]
 try intros
 refine K0 (C9y x.Index (by omega)) ?_
 simp only [go_sem]
 try intros
 refine K0 (C2p x.Wanted (by omega)) ?_
 simp only [go_sem]
 try intros
def M7s : MC :=
(Zs [.box 2 0 (.s 0), .box 3 1 (.s 1), .mv 4 cF] [2,3] (.seq (Zs [fS 5 2 0, lF 6 1 5, fS 7 3 0, lF 8 1 7, .call 9 [] (.f N19) [.s 6, .s 8], .un 10 .not (.s 9)] [2,3,10] (.cond (.s 10) (Zs [.mv 4 cF] [4] .ret) .skip))
(.seq (Zs [fS 11 2 1, lF 12 1 11, fS 13 3 1, lF 14 1 13, .call 15 [] (.f N6f) [.s 12, .s 14], .un 16 .not (.s 15)] [2,3,16] (.cond (.s 16) (Zs [.mv 4 cF] [4] .ret) .skip))
(.seq (Zs [fS 17 2 2, lF 18 1 17, fS 19 3 2, lF 20 1 19, .call 21 [] (.f N19) [.s 18, .s 20], .un 22 .not (.s 21)] [22] (.cond (.s 22) (Zs [.mv 4 cF] [4] .ret) .skip))
(Zs [.mv 4 cT] [4] .ret)))))
theorem Cac (x y : GDisk) : Ctr Tryz.prog N7l [aS x.enc, aS y.enc] [rB (decide (x = y))] := by
 refine cA M7s 2 23 [(.tmp 4, [false])] Tryz.func71 rfl rfl ?_; unfold M7s
 intro hb
 clear hb
 simp only [go_sem]
 refine K0 (C2r x.Containers y.Containers) ?_
 simp only [go_sem]
 refine ⟨fun h => ?_, fun h_Containers => ?_⟩
 ·symm
  rw [decide_eq_false_iff_not]
  rintro rfl
  exact h rfl
 refine K0 (C9z x.Index y.Index) ?_
 simp only [go_sem]
 refine ⟨fun h => ?_, fun h_Index => ?_⟩
 ·symm
  rw [decide_eq_false_iff_not]
  rintro rfl
  exact h rfl
 refine K0 (C2r x.Wanted y.Wanted) ?_
 simp only [go_sem]
 refine ⟨fun h => ?_, fun h_Wanted => ?_⟩
 ·symm
  rw [decide_eq_false_iff_not]
  rintro rfl
  exact h rfl
 cases x; cases y; simp_all
def M64 : MC :=
(Zs [.box 2 0 (.s 0), .mv 4 (ci 0)] [1,2] (Zs [fS 5 2 0, lF 6 1 5, mS 7 1, .call 8 [] (.f N42) [.s 6, .s 7], mS 1 8] [1,2] (.seq (Zs [mS 9 1, bC 10 .lss 9 0] [1,2,10] (.cond (.s 10) (Zs [.mv 4 (.c (.int .i64 (-1)))] [4] .ret) .skip))
(Zs [fS 11 2 1, lF 12 1 11, mS 13 1, .call 14 [] (.f N5d) [.s 12, .s 13], mS 1 14] [1,2] (.seq (Zs [mS 15 1, bC 16 .lss 15 0] [1,2,16] (.cond (.s 16) (Zs [.mv 4 (.c (.int .i64 (-1)))] [4] .ret) .skip))
(Zs [fS 17 2 2, lT 18 3 17, mS 19 1, .call 20 [] (.f N7j) [.s 18, .s 19], mS 1 20] [1,2] (.seq (Zs [mS 21 1, bC 22 .lss 21 0] [1,2,22] (.cond (.s 22) (Zs [.mv 4 (.c (.int .i64 (-1)))] [4] .ret) .skip))
(Zs [fS 23 2 5, lF 24 1 23, mS 25 1, .call 26 [] (.f N24) [.s 24, .s 25], mS 1 26] [1,2] (.seq (Zs [mS 27 1, bC 28 .lss 27 0] [1,2,28] (.cond (.s 28) (Zs [.mv 4 (.c (.int .i64 (-1)))] [4] .ret) .skip))
(Zs [fS 29 2 6, lF 30 1 29, mS 31 1, .call 32 [] (.f N43) [.s 30, .s 31], mS 1 32] [1,2] (.seq (Zs [mS 33 1, bC 34 .lss 33 0] [1,2,34] (.cond (.s 34) (Zs [.mv 4 (.c (.int .i64 (-1)))] [4] .ret) .skip))
(Zs [fS 35 2 7, lF 36 1 35, mS 37 1, .call 38 [] (.f N3y) [.s 36, .s 37], mS 1 38] [1,2] (.seq (Zs [mS 39 1, bC 40 .lss 39 0] [1,2,40] (.cond (.s 40) (Zs [.mv 4 (.c (.int .i64 (-1)))] [4] .ret) .skip))
(Zs [fS 41 2 8, lF 42 1 41, mS 43 1, .call 44 [] (.f N25) [.s 42, .s 43], mS 1 44] [1] (.seq (Zs [mS 45 1, bC 46 .lss 45 0] [1,46] (.cond (.s 46) (Zs [.mv 4 (.c (.int .i64 (-1)))] [4] .ret) .skip))
(Zs [mS 47 1, mS 4 47] [4] .ret))))))))))))))))
theorem C9n (x : GArchive) (left : Int) (h0 : 0 ≤ left) : Ctr Tryz.prog N5b [aS x.enc, aI left] [rI (szr x.size left)] := by
 refine cA M64 1 48 [(.tmp 4, [false])] Tryz.func13 rfl rfl ?_; unfold M64
 intro hb
 simp only [go_sem]
 refine K0 (C8t x.Site left h0) ?_
 simp only [go_sem]
 intro _
 refine ⟨fun h => szr_bad' h0 h (by simp only [GArchive.size]; omega), fun h1 => ?_⟩
 obtain ⟨a1, b1, e1⟩ := K1k (m := x.Script.length) h0 h1
 refine K0 (C88 x.Script _ a1) ?_
 rw [← e1]
 simp only [go_sem]
 intro _
 refine ⟨fun h => szr_bad' h0 h (by simp only [GArchive.size]; omega), fun h2 => ?_⟩
 obtain ⟨a2, b2, e2⟩ := K1k (m := x.Disk.size) h0 h2
 refine K0 (Caa x.Disk _ a2) ?_
 rw [← e2]
 simp only [go_sem]
 intro _
 refine ⟨fun h => szr_bad' h0 h (by simp only [GArchive.size]; omega), fun h3 => ?_⟩
 obtain ⟨a3, b3, e3⟩ := K1k (m := x.Exclusions.length) h0 h3
 refine K0 (C7u x.Exclusions _ a3) ?_
 rw [← e3]
 simp only [go_sem]
 intro _
 refine ⟨fun h => szr_bad' h0 h (by simp only [GArchive.size]; omega), fun h4 => ?_⟩
 obtain ⟨a4, b4, e4⟩ := K1k (m := x.Libraries.length + (x.Libraries.map GLibrary.size).sum) h0 h4
 refine K0 (C8z x.Libraries _ a4) ?_
 rw [← e4]
 simp only [go_sem]
 intro _
 refine ⟨fun h => szr_bad' h0 h (by simp only [GArchive.size]; omega), fun h5 => ?_⟩
 obtain ⟨a5, b5, e5⟩ := K1k (m := x.Keys.length) h0 h5
 refine K0 (C3z x.Keys _ a5) ?_
 rw [← e5]
 simp only [go_sem]
 intro _
 refine ⟨fun h => szr_bad' h0 h (by simp only [GArchive.size]; omega), fun h6 => ?_⟩
 obtain ⟨a6, b6, e6⟩ := K1k (m := x.Statements.length) h0 h6
 refine K0 (C7x x.Statements _ a6) ?_
 rw [← e6]
 simp only [go_sem]
 intro _
 refine ⟨fun h => szr_bad' h0 h (by simp only [GArchive.size]; omega), fun h7 => ?_⟩
 rfl
def M65 : MC :=
(Zs [.box 1 0 (.s 0), .alloc 2 1 [.emp 9, .emp 4, .emp 4, .emp 6, .emp 4, .emp 5, .emp 4, .emp 1, .emp 4, pz]] [1,2] (Zs [.alloc 3 2 [.emp 9, .emp 4, .emp 4, .emp 6, .emp 4, .emp 5, .emp 4, .emp 1, .emp 4, pz]] [1,2,3] (Zs [fS 4 1 0, lF 5 1 4, .call 6 [3] (.f N44) [.s 5], fS 7 3 0, sS 1 7 6] [1,2,3] (Zs [fS 8 1 1, lF 9 1 8, .call 10 [4] (.f N5e) [.s 9], fS 11 3 1, sS 1 11 10] [1,2,3] (Zs [fS 12 1 2, lT 13 3 12, .call 14 [5, 6, 7] (.f N7k) [.s 13], fS 15 3 2, sS 3 15 14] [1,2,3] (Zs [fS 16 1 5, lF 17 1 16, .call 18 [8] (.f N26) [.s 17], fS 19 3 5, sS 1 19 18] [1,2,3] (Zs [fS 20 1 6, lF 21 1 20, .call 22 [9] (.f N45) [.s 21], fS 23 3 6, sS 1 23 22] [1,2,3] (Zs [fS 24 1 7, lF 25 1 24, .call 26 [10] (.f N1m) [.s 25], fS 27 3 7, sS 1 27 26] [1,2,3] (Zs [fS 28 1 8, lF 29 1 28, .call 30 [11] (.f N27) [.s 29], fS 31 3 8, sS 1 31 30] [1,2,3] (Zs [fS 32 1 9, lF 33 1 32, fS 34 3 9, sS 1 34 33] [2,3] (Zs [lT 35 10 3, sS 10 2 35] [2] .ret)))))))))))
theorem C15 (x : GArchive) (hs : x.size ≤ 1073741824) : Ctr Tryz.prog Nt [aS x.enc] [rS x.enc] := by
 refine cA M65 12 36 [(.cell 2 true 10, [true, true, true, true, true, true, true, true, true, false])] Tryz.func15 rfl rfl ?_; unfold M65
 intro hb
 simp only [GArchive.size] at hs
 simp only [go_sem]
 refine K0 (C8u x.Site (by omega)) ?_
 simp only [go_sem]
 try intros
 refine K0 (C8a x.Script (by omega)) ?_
 simp only [go_sem]
 try intros
 refine K0 (Cab x.Disk (by omega)) ?_
 simp only [go_sem]
 try intros
 refine K0 (C7v x.Exclusions (by omega)) ?_
 simp only [go_sem]
 try intros
 refine K0 (C90 x.Libraries (by omega)) ?_
 simp only [go_sem]
 try intros
 refine K0 (C40 x.Keys (by omega)) ?_
 simp only [go_sem]
 try intros
 refine K0 (C7y x.Statements (by omega)) ?_
 simp only [go_sem]
 try intros
def M66 : MC :=
(Zs [.box 2 0 (.s 0), .box 3 1 (.s 1), .mv 4 cF] [2,3] (.seq (Zs [fS 5 2 0, lF 6 1 5, fS 7 3 0, lF 8 1 7, .call 9 [] (.f N46) [.s 6, .s 8], .un 10 .not (.s 9)] [2,3,10] (.cond (.s 10) (Zs [.mv 4 cF] [4] .ret) .skip))
(.seq (Zs [fS 11 2 1, lF 12 1 11, fS 13 3 1, lF 14 1 13, .call 15 [] (.f N5f) [.s 12, .s 14], .un 16 .not (.s 15)] [2,3,16] (.cond (.s 16) (Zs [.mv 4 cF] [4] .ret) .skip))
(.seq (Zs [fS 17 2 2, lT 18 3 17, fS 19 3 2, lT 20 3 19, .call 21 [] (.f N7l) [.s 18, .s 20], .un 22 .not (.s 21)] [2,3,22] (.cond (.s 22) (Zs [.mv 4 cF] [4] .ret) .skip))
(.seq (Zs [fS 23 2 5, lF 24 1 23, fS 25 3 5, lF 26 1 25, .call 27 [] (.f N28) [.s 24, .s 26], .un 28 .not (.s 27)] [2,3,28] (.cond (.s 28) (Zs [.mv 4 cF] [4] .ret) .skip))
(.seq (Zs [fS 29 2 6, lF 30 1 29, fS 31 3 6, lF 32 1 31, .call 33 [] (.f N47) [.s 30, .s 32], .un 34 .not (.s 33)] [2,3,34] (.cond (.s 34) (Zs [.mv 4 cF] [4] .ret) .skip))
(.seq (Zs [fS 35 2 7, lF 36 1 35, fS 37 3 7, lF 38 1 37, .call 39 [] (.f N1n) [.s 36, .s 38], .un 40 .not (.s 39)] [2,3,40] (.cond (.s 40) (Zs [.mv 4 cF] [4] .ret) .skip))
(.seq (Zs [fS 41 2 8, lF 42 1 41, fS 43 3 8, lF 44 1 43, .call 45 [] (.f N29) [.s 42, .s 44], .un 46 .not (.s 45)] [2,3,46] (.cond (.s 46) (Zs [.mv 4 cF] [4] .ret) .skip))
(.seq (Zs [fS 47 2 9, lF 48 1 47, fS 49 3 9, lF 50 1 49, bS 51 .neq 48 50] [51] (.cond (.s 51) (Zs [.mv 4 cF] [4] .ret) .skip))
(Zs [.mv 4 cT] [4] .ret))))))))))
theorem C9o (x y : GArchive) : Ctr Tryz.prog N5c [aS x.enc, aS y.enc] [rB (decide (x = y))] := by
 refine cA M66 2 52 [(.tmp 4, [false])] Tryz.func17 rfl rfl ?_; unfold M66
 intro hb
 clear hb
 simp only [go_sem]
 refine K0 (C8v x.Site y.Site) ?_
 simp only [go_sem]
 refine ⟨fun h => ?_, fun h_Site => ?_⟩
 ·symm
  rw [decide_eq_false_iff_not]
  rintro rfl
  exact h rfl
 refine K0 (C8c x.Script y.Script) ?_
 simp only [go_sem]
 refine ⟨fun h => ?_, fun h_Script => ?_⟩
 ·symm
  rw [decide_eq_false_iff_not]
  rintro rfl
  exact h rfl
 refine K0 (Cac x.Disk y.Disk) ?_
 simp only [go_sem]
 refine ⟨fun h => ?_, fun h_Disk => ?_⟩
 ·symm
  rw [decide_eq_false_iff_not]
  rintro rfl
  exact h rfl
 refine K0 (C7w x.Exclusions y.Exclusions) ?_
 simp only [go_sem]
 refine ⟨fun h => ?_, fun h_Exclusions => ?_⟩
 ·symm
  rw [decide_eq_false_iff_not]
  rintro rfl
  exact h rfl
 refine K0 (C91 x.Libraries y.Libraries) ?_
 simp only [go_sem]
 refine ⟨fun h => ?_, fun h_Libraries => ?_⟩
 ·symm
  rw [decide_eq_false_iff_not]
  rintro rfl
  exact h rfl
 refine K0 (C41 x.Keys y.Keys) ?_
 simp only [go_sem]
 refine ⟨fun h => ?_, fun h_Keys => ?_⟩
 ·symm
  rw [decide_eq_false_iff_not]
  rintro rfl
  exact h rfl
 refine K0 (C7z x.Statements y.Statements) ?_
 simp only [go_sem]
 refine ⟨fun h => ?_, fun h_Statements => ?_⟩
 ·symm
  rw [decide_eq_false_iff_not]
  rintro rfl
  exact h rfl
 refine ⟨fun h => ?_, fun h_Now => ?_⟩
 ·symm
  rw [decide_eq_false_iff_not]
  rintro rfl
  exact h rfl
 cases x; cases y; simp_all
end Go.Proofs.YtgkeplbnnjogiaaGreatR
namespace Go.Proofs.YtgkeplbnnjogiaaGreatR
open Go Go.RowKit Go.Proofs
open Nat (reduceEqDiff reduceLT reduceLeDiff reduceAdd reduceMul)
open List (reduceReplicate)
def mkL {α : Type} (mk : α → Int → α) (c : α → Nat) : List α → Int → List α
 | [], _ => []
 | x :: l, k => mk x k :: mkL mk c l (k + (c x : Nat))
def ctL {α : Type} (c : α → Nat) (l : List α) : Nat := (l.map c).sum
def iMk (_ : Int) (k : Int) : Int := k
def iCt (_ : Int) : Nat := 1
def bMk (_ : Bool) (k : Int) : Bool := k.tmod 3 == 0
section
variable {α : Type} {mk : α → Int → α} {c : α → Nat} {l : List α} {k : Int} {i : Nat} {x : α} {f : α → List T}
theorem K27 : mkL mk c [] k = [] := rfl
theorem K1v : ctL c [] = 0 := rfl
theorem Kl (h : l[i]? = some x) : ctL c (l.take (i + 1)) = ctL c (l.take i) + c x := K3z h
theorem K10 (i : Nat) : ctL c (l.take i) ≤ ctL c l := K1g l i
theorem K9 : ∀ {l : List α} {k : Int}, (mkL mk c l k).length = l.length
 | [], _ => rfl
 | x :: l, k => by simp [mkL, K9 (l := l)]
theorem K51 : ∀ {l m : List α} {k : Int}, mkL mk c (l ++ m) k = mkL mk c l k ++ mkL mk c m (k + (ctL c l : Nat))
 | [], m, k => by simp [mkL, ctL]
 | x :: l, m, k => by
  simp only [List.cons_append, mkL, K51 (l := l), ctL, List.map_cons, List.sum_cons]
  rw [show k + (c x : Nat) + (((l.map c).sum : Nat) : Int) = k + ((c x + (l.map c).sum : Nat) : Int) by omega]
theorem mkL_snoc (h : l[i]? = some x) : mkL mk c (l.take (i + 1)) k = mkL mk c (l.take i) k ++ [mk x (k + (ctL c (l.take i) : Nat))] := by
 rw [Ks h, K51]; rfl
theorem mkL_get (h : l[i]? = some x) : (mkL mk c l k)[i]? = some (mk x (k + (ctL c (l.take i) : Nat))) := by
 have hi := Ke h
 have e : mkL mk c l k = mkL mk c (l.take i) k ++ mkL mk c (l.drop i) (k + (ctL c (l.take i) : Nat)) := by
  rw [← K51, List.take_append_drop]
 rw [e, List.getElem?_append_right (by rw [K9]; simp; omega), K9, List.length_take, Nat.min_eq_left (Nat.le_of_lt hi), Nat.sub_self, K1h h]
 rfl
def mid (A : List (List T)) (e : List T) (B : List (List T)) : List (List T) := A ++ e :: B
theorem K2m (h : l[i]? = some x) : (mkL mk c (l.take i) k).map f ++ (l.drop i).map f = mid ((mkL mk c (l.take i) k).map f) (f x) ((l.drop (i + 1)).map f) := by
 rw [K1h h]; rfl
theorem K2j (h : l[i]? = some x) : (∀ e, (mid ((mkL mk c (l.take i) k).map f) e ((l.drop (i + 1)).map f))[i]? = some e) ∧
  (∀ e e', (mid ((mkL mk c (l.take i) k).map f) e ((l.drop (i + 1)).map f)).set i e' = mid ((mkL mk c (l.take i) k).map f) e' ((l.drop (i + 1)).map f)) ∧
  (∀ e, (mid ((mkL mk c (l.take i) k).map f) e ((l.drop (i + 1)).map f)).length = l.length) ∧
  (∀ e, (mid ((mkL mk c (l.take i) k).map f) e ((l.drop (i + 1)).map f)).getD i [] = e) := by
 have hi := Ke h
 have hl : ((mkL mk c (l.take i) k).map f).length = i := by rw [List.length_map, K9]; simp; omega
 generalize (mkL mk c (l.take i) k).map f = A at hl
 subst hl
 have h1 : ∀ e, (mid A e ((l.drop (A.length + 1)).map f))[A.length]? = some e := fun e => by simp [mid]
 refine ⟨h1, fun e e' => by simp [mid], fun e => by simp [mid]; omega, fun e => by rw [List.getD_eq_getElem?_getD, h1]; rfl⟩
theorem K1s (h : l[i]? = some x) : mid ((mkL mk c (l.take i) k).map f) (f (mk x (k + (ctL c (l.take i) : Nat)))) ((l.drop (i + 1)).map f) = (mkL mk c (l.take (i + 1)) k).map f ++ (l.drop (i + 1)).map f := by
 rw [mkL_snoc h]; simp [mid]
theorem Kw {sz : Nat} {es : List α} {rs : List RV} (h : bdVA (oL sz (es.map f) :: rs)) : es.length ≤ roomB := by
 simp only [bdVA, List.map_cons, bdL, bdT, List.length_map] at h
 exact h.1.1.1
theorem waK {K K' : Int} (h : K = K') (h1 : 0 ≤ K') (h2 : K' ≤ 9223372036854775807) : IntKind.i64.wrap K = K' := by
 subst h; rw [wI (by omega) (by omega)]
theorem K3k {s : α → Nat} (h : ∀ x, c x ≤ 16 * (1 + s x)) : ∀ l : List α, ctL c l ≤ 16 * (l.length + (l.map s).sum)
 | [] => by simp [ctL]
 | x :: l => by
  have h1 := h x
  have h2 := K3k h l
  simp only [ctL, List.map_cons, List.sum_cons, List.length_cons] at *
  omega
theorem ctL_le' (h : ∀ x, c x ≤ 16) : ∀ l : List α, ctL c l ≤ 16 * l.length
 | [] => by simp [ctL]
 | x :: l => by
  have h1 := h x
  have h2 := ctL_le' h l
  simp only [ctL, List.map_cons, List.sum_cons, List.length_cons] at *
  omega
end
abbrev oS (ts : List T) : RV := ⟨true, own ts⟩
attribute [go_sem] oS
theorem three_ne : ¬ (3 : Int) = 0 := by decide
attribute [go_sem] K9
def M6r : MC :=
(Zs [.mv 4 (ci 0)] [0,1] (.seq (Zs [.mv 5 (ci 0)] [0,1,5] (.block 0 (.loop ([0,1,5], []) (.seq (Zs [mS 6 5, mS 7 0, nS 8 7, bS 9 .lss 6 8] [0,1,5,9] (cX 9 0))
(.seq (.block 1 (Zs [mS 12 0, mS 13 5, mS 14 1, xS 15 1 12 13, sS 1 15 14] [0,1,5] (pr [mS 16 1, bC 17 .add 16 1, mS 1 17] [0,1,5])))
(pr [mS 10 5, bC 11 .add 10 1, mS 5 11] [0,1,5]))))))
(Zs [mS 18 1, mS 4 18] [4] .ret)))
theorem C1c (xs : List Int) (k : Int) (hk : 0 ≤ k) (hN : k + (ctL iCt xs : Nat) ≤ 4611686018427387904) : CtrI Tryz.prog N1b [oL 1 (xs.map encI), iI k] [some (1, (mkL iMk iCt xs k).map encI)] [rI (k + (ctL iCt xs : Nat))] := by
 refine K11 (M := M6r) (m := 0) (n := 19) (res := [(.tmp 4, [false])]) hmix Tryz.func43 rfl (by kernel_rfl) rfl (by kernel_rfl) (by kernel_rfl) (Nat.le_of_ble_eq_true rfl) rfl rfl ?_; unfold M6r
 intro hb
 have hl := Kw hb
 clear hb
 simp only [go_sem]
 refine K5 xs (fun i => [(1, vI (k + (ctL iCt (xs.take i) : Nat))), (5, vI i)]) (fun i => [(0, ⟨1, .row true 1 ((mkL iMk iCt (xs.take i) k).map encI ++ (xs.drop i).map encI)⟩)]) (fun _ => True) hl ?_
 simp only [go_sem]
 refine ⟨?_, trivial, ?_, ?_⟩
 ·simp only [go_sem, List.take_zero, List.drop_zero, K27, K1v]
  all_goals simp
 ·intro i x hx _ h0 h1 hw
  have hR := K2m (mk := iMk) (c := iCt) (k := k) (f := encI) hx
  have hA := K2j (mk := iMk) (c := iCt) (k := k) (f := encI) hx
  generalize hAe : (mkL iMk iCt (xs.take i) k).map encI = A at hR hA
  generalize hBe : (xs.drop (i + 1)).map encI = B at hR hA
  obtain ⟨hg, hs, hl, hd⟩ := hA
  have hc := K10 (c := iCt) (i + 1) (l := xs)
  rw [Kl hx] at hc
  have hK0 : 0 ≤ k + ((ctL iCt (xs.take i) : Nat) : Int) := by omega
  have hK1 : k + ((ctL iCt (xs.take i) : Nat) : Int) + (iCt x : Nat) ≤ 4611686018427387904 := by omega
  generalize hK : k + ((ctL iCt (xs.take i) : Nat) : Int) = K at hK0 hK1
  simp only [iCt] at hK1
  simp only [go_sem, hw, hR, hg, hs, hl, h0, h1, waK (K := K + 1) (K' := K + 1) (by omega) (by omega) (by omega)]
  subst hK hAe hBe
  refine ⟨?_, K1s hx⟩
  rw [Kl hx]
  simp only [iCt]
  omega
 ·intro _
  simp only [go_sem, List.take_length, List.drop_length, List.map_nil, List.append_nil, K9]
def GAddress.mkd (x : GAddress) (k : Int) : GAddress := ⟨k, (k + 1), (k + 2)⟩
def GAddress.ct (x : GAddress) : Nat := 3
def M2s : MC :=
(Zs [.mv 4 (ci 0)] [0,1] (.seq (Zs [.mv 5 (ci 0)] [0,1,5] (.block 0 (.loop ([0,1,5], []) (.seq (Zs [mS 6 5, mS 7 0, nS 8 7, bS 9 .lss 6 8] [0,1,5,9] (cX 9 0))
(.seq (.block 1 (Zs [mS 12 0, mS 13 5, mS 14 1, xS 15 3 12 13, fS 16 15 0, sS 1 16 14] [0,1,5] (Zs [mS 17 1, bC 18 .add 17 1, mS 1 18] [0,1,5] (Zs [mS 19 0, mS 20 5, mS 21 1, xS 22 3 19 20, fS 23 22 1, sS 1 23 21] [0,1,5] (Zs [mS 24 1, bC 25 .add 24 1, mS 1 25] [0,1,5] (Zs [mS 26 0, mS 27 5, mS 28 1, xS 29 3 26 27, fS 30 29 2, sS 1 30 28] [0,1,5] (pr [mS 31 1, bC 32 .add 31 1, mS 1 32] [0,1,5])))))))
(pr [mS 10 5, bC 11 .add 10 1, mS 5 11] [0,1,5]))))))
(Zs [mS 33 1, mS 4 33] [4] .ret)))
theorem C80 (xs : List GAddress) (k : Int) (hk : 0 ≤ k) (hN : k + (ctL GAddress.ct xs : Nat) ≤ 4611686018427387904) : CtrI Tryz.prog N23 [oL 3 (xs.map GAddress.enc), iI k] [some (3, (mkL GAddress.mkd GAddress.ct xs k).map GAddress.enc)] [rI (k + (ctL GAddress.ct xs : Nat))] := by
 refine K11 (M := M2s) (m := 0) (n := 34) (res := [(.tmp 4, [false])]) hmix Tryz.func24 rfl (by kernel_rfl) rfl (by kernel_rfl) (by kernel_rfl) (Nat.le_of_ble_eq_true rfl) rfl rfl ?_; unfold M2s
 intro hb
 have hl := Kw hb
 clear hb
 simp only [go_sem]
 refine K5 xs (fun i => [(1, vI (k + (ctL GAddress.ct (xs.take i) : Nat))), (5, vI i)]) (fun i => [(0, ⟨1, .row true 3 ((mkL GAddress.mkd GAddress.ct (xs.take i) k).map GAddress.enc ++ (xs.drop i).map GAddress.enc)⟩)]) (fun _ => True) hl ?_
 simp only [go_sem]
 refine ⟨?_, trivial, ?_, ?_⟩
 ·simp only [go_sem, List.take_zero, List.drop_zero, K27, K1v]
  all_goals simp
 ·intro i x hx _ h0 h1 hw
  have hR := K2m (mk := GAddress.mkd) (c := GAddress.ct) (k := k) (f := GAddress.enc) hx
  have hA := K2j (mk := GAddress.mkd) (c := GAddress.ct) (k := k) (f := GAddress.enc) hx
  generalize hAe : (mkL GAddress.mkd GAddress.ct (xs.take i) k).map GAddress.enc = A at hR hA
  generalize hBe : (xs.drop (i + 1)).map GAddress.enc = B at hR hA
  obtain ⟨hg, hs, hl, hd⟩ := hA
  have hc := K10 (c := GAddress.ct) (i + 1) (l := xs)
  rw [Kl hx] at hc
  have hK0 : 0 ≤ k + ((ctL GAddress.ct (xs.take i) : Nat) : Int) := by omega
  have hK1 : k + ((ctL GAddress.ct (xs.take i) : Nat) : Int) + (GAddress.ct x : Nat) ≤ 4611686018427387904 := by omega
  generalize hK : k + ((ctL GAddress.ct (xs.take i) : Nat) : Int) = K at hK0 hK1
  simp only [GAddress.ct] at hK1
  simp only [go_sem, hw, hR, hg, hs, hl, h0, h1, waK (K := K + 1) (K' := K + 1) (by omega) (by omega) (by omega), waK (K := K + 1 + 1) (K' := K + 2) (by omega) (by omega) (by omega), waK (K := K + 2 + 1) (K' := K + 3) (by omega) (by omega) (by omega)]
  subst hK hAe hBe
  refine ⟨?_, K1s hx⟩
  rw [Kl hx]
  simp only [GAddress.ct]
  omega
 ·intro _
  simp only [go_sem, List.take_length, List.drop_length, List.map_nil, List.append_nil, K9]
def M2t : MC :=
(Zs [.mv 4 (ci 0)] [0,1] (.seq (Zs [.mv 5 (ci 0)] [0,1,5] (.block 0 (.loop ([0,1,5], []) (.seq (Zs [mS 6 5, mS 7 0, nS 8 7, bS 9 .lss 6 8] [0,1,5,9] (cX 9 0))
(.seq (.block 1 (.seq (Zs [mS 12 0, mS 13 5, xS 14 3 12 13, fS 15 14 0, lF 16 1 15, mS 17 1, bS 18 .neq 16 17] [0,1,5,18] (.cond (.s 18) (Zs [.mv 4 (.c (.int .i64 (-1)))] [4] .ret) .skip))
(Zs [mS 19 1, bC 20 .add 19 1, mS 1 20] [0,1,5] (.seq (Zs [mS 21 0, mS 22 5, xS 23 3 21 22, fS 24 23 1, lF 25 1 24, mS 26 1, bS 27 .neq 25 26] [0,1,5,27] (.cond (.s 27) (Zs [.mv 4 (.c (.int .i64 (-1)))] [4] .ret) .skip))
(Zs [mS 28 1, bC 29 .add 28 1, mS 1 29] [0,1,5] (.seq (Zs [mS 30 0, mS 31 5, xS 32 3 30 31, fS 33 32 2, lF 34 1 33, mS 35 1, bS 36 .neq 34 35] [0,1,5,36] (.cond (.s 36) (Zs [.mv 4 (.c (.int .i64 (-1)))] [4] .ret) .skip))
(pr [mS 37 1, bC 38 .add 37 1, mS 1 38] [0,1,5])))))))
(pr [mS 10 5, bC 11 .add 10 1, mS 5 11] [0,1,5]))))))
(Zs [mS 39 1, mS 4 39] [4] .ret)))
theorem C2u (xs : List GAddress) (k : Int) (hk : 0 ≤ k) (hN : k + (ctL GAddress.ct xs : Nat) ≤ 4611686018427387904) : Ctr Tryz.prog N16 [aL 3 ((mkL GAddress.mkd GAddress.ct xs k).map GAddress.enc), aI k] [rI (k + (ctL GAddress.ct xs : Nat))] := by
 refine cA M2t 0 40 [(.tmp 4, [false])] Tryz.func25 rfl rfl ?_; unfold M2t
 intro hb
 simp only [bdA, bdL, bdT, Kj, Kr, roomB, and_true, List.length_map] at hb
 have hl := hb.1.1
 rw [K9] at hl
 clear hb
 simp only [go_sem]
 refine K5 xs (fun i => [(1, vI (k + (ctL GAddress.ct (xs.take i) : Nat))), (5, vI i)]) (fun i => []) (fun _ => True) hl ?_
 simp only [go_sem]
 refine ⟨?_, trivial, ?_, ?_⟩
 ·simp only [go_sem, List.take_zero, K1v]
  all_goals simp
 ·intro i x hx _ h0 h1 hw
  have hg := mkL_get (mk := GAddress.mkd) (c := GAddress.ct) (k := k) hx
  have hc := K10 (c := GAddress.ct) (i + 1) (l := xs)
  rw [Kl hx] at hc
  have hK0 : 0 ≤ k + ((ctL GAddress.ct (xs.take i) : Nat) : Int) := by omega
  have hK1 : k + ((ctL GAddress.ct (xs.take i) : Nat) : Int) + (GAddress.ct x : Nat) ≤ 4611686018427387904 := by omega
  generalize hK : k + ((ctL GAddress.ct (xs.take i) : Nat) : Int) = K at hK0 hK1 hg
  simp only [GAddress.ct] at hK1
  simp only [go_sem, hw, K7 hg, h0, h1, K9, GAddress.mkd, waK (K := K + 1) (K' := K + 1) (by omega) (by omega) (by omega), waK (K := K + 1 + 1) (K' := K + 2) (by omega) (by omega) (by omega), waK (K := K + 2 + 1) (K' := K + 3) (by omega) (by omega) (by omega)]
  rw [Kl hx]
  simp only [GAddress.ct]
  omega
 ·intro _
  simp only [go_sem, List.take_length, K9]
def GResource.mkd (x : GResource) (k : Int) : GResource := ⟨k, (mkL iMk iCt x.Body (k + 1)), ⟨((k + 1) + (ctL iCt x.Body : Nat)), (((k + 1) + (ctL iCt x.Body : Nat)) + 1), (((k + 1) + (ctL iCt x.Body : Nat)) + 2)⟩⟩
def GResource.ct (x : GResource) : Nat := 4 + ctL iCt x.Body
theorem GResource.ct_le (x : GResource) : x.ct ≤ 16 * (1 + x.size) := by
 simp only [GResource.ct, GResource.size]
 have h0 := ctL_le' (c := iCt) (fun y => by simp only [iCt]; omega) x.Body
 omega
def GResource.mks (x : GResource) (k : Int) : GResource := { x with Body := mkL iMk iCt x.Body (k) }
def GResource.cts (x : GResource) : Nat := ctL iCt x.Body
theorem GResource.cts_le (x : GResource) : x.cts ≤ 16 * x.size := by
 simp only [GResource.cts, GResource.size]
 have hBody := ctL_le' (c := iCt) (fun y => by simp only [iCt]; omega) x.Body
 omega
@[go_sem] theorem GResource.mks_len0 (x : GResource) (k : Int) : ((x.mks k).Body).length = x.Body.length := K9
def GPart.mkd (x : GPart) (k : Int) : GPart := ⟨k, ⟨(k + 1), (mkL iMk iCt x.Resource.Body (k + 2)), ⟨((k + 2) + (ctL iCt x.Resource.Body : Nat)), (((k + 2) + (ctL iCt x.Resource.Body : Nat)) + 1), (((k + 2) + (ctL iCt x.Resource.Body : Nat)) + 2)⟩⟩, (((k + 2) + (ctL iCt x.Resource.Body : Nat)) + 3)⟩
def GPart.ct (x : GPart) : Nat := 6 + ctL iCt x.Resource.Body
theorem GPart.ct_le (x : GPart) : x.ct ≤ 16 * (1 + x.size) := by
 simp only [GPart.ct, GPart.size, GResource.size]
 have h0 := ctL_le' (c := iCt) (fun y => by simp only [iCt]; omega) x.Resource.Body
 omega
def GPart.mks (x : GPart) (k : Int) : GPart := { x with Resource := x.Resource.mks (k) }
def GPart.cts (x : GPart) : Nat := x.Resource.cts
theorem GPart.cts_le (x : GPart) : x.cts ≤ 16 * x.size := by
 simp only [GPart.cts, GPart.size]
 have hResource := GResource.cts_le x.Resource
 omega
@[go_sem] theorem GPart.mks_len0 (x : GPart) (k : Int) : ((x.mks k).Resource.Body).length = x.Resource.Body.length := K9
def GPiece.mkd (x : GPiece) (k : Int) : GPiece := ⟨k, (k + 1), (mkL iMk iCt x.New (k + 2))⟩
def GPiece.ct (x : GPiece) : Nat := 2 + ctL iCt x.New
theorem GPiece.ct_le (x : GPiece) : x.ct ≤ 16 * (1 + x.size) := by
 simp only [GPiece.ct, GPiece.size]
 have h0 := ctL_le' (c := iCt) (fun y => by simp only [iCt]; omega) x.New
 omega
def GPiece.mks (x : GPiece) (k : Int) : GPiece := { x with New := mkL iMk iCt x.New (k) }
def GPiece.cts (x : GPiece) : Nat := ctL iCt x.New
theorem GPiece.cts_le (x : GPiece) : x.cts ≤ 16 * x.size := by
 simp only [GPiece.cts, GPiece.size]
 have hNew := ctL_le' (c := iCt) (fun y => by simp only [iCt]; omega) x.New
 omega
@[go_sem] theorem GPiece.mks_len0 (x : GPiece) (k : Int) : ((x.mks k).New).length = x.New.length := K9
def GVersion.mkd (x : GVersion) (k : Int) : GVersion := ⟨⟨k, (k + 1), (k + 2)⟩, (k + 3), ⟨(k + 4), (mkL iMk iCt x.Resource.Body (k + 5)), ⟨((k + 5) + (ctL iCt x.Resource.Body : Nat)), (((k + 5) + (ctL iCt x.Resource.Body : Nat)) + 1), (((k + 5) + (ctL iCt x.Resource.Body : Nat)) + 2)⟩⟩⟩
def GVersion.ct (x : GVersion) : Nat := 8 + ctL iCt x.Resource.Body
theorem GVersion.ct_le (x : GVersion) : x.ct ≤ 16 * (1 + x.size) := by
 simp only [GVersion.ct, GVersion.size, GResource.size]
 have h0 := ctL_le' (c := iCt) (fun y => by simp only [iCt]; omega) x.Resource.Body
 omega
def Y13 : MC :=
(Zs [.mv 4 (ci 0)] [0,1] (.seq (Zs [.mv 5 (ci 0)] [0,1,5] (.block 0 (.loop ([0,1,5], [1]) (.seq (Zs [mS 6 5, mS 7 0, nS 8 7, bS 9 .lss 6 8] [0,1,5,9] (cX 9 0))
(.seq (.block 1 (Zs [mS 12 0, mS 13 5, mS 14 1, xS 15 9 12 13, fS 16 15 0, fS 17 16 0, sS 1 17 14] [0,1,5] (Zs [mS 18 1, bC 19 .add 18 1, mS 1 19] [0,1,5] (Zs [mS 20 0, mS 21 5, mS 22 1, xS 23 9 20 21, fS 24 23 0, fS 25 24 1, sS 1 25 22] [0,1,5] (Zs [mS 26 1, bC 27 .add 26 1, mS 1 27] [0,1,5] (Zs [mS 28 0, mS 29 5, mS 30 1, xS 31 9 28 29, fS 32 31 0, fS 33 32 2, sS 1 33 30] [0,1,5] (Zs [mS 34 1, bC 35 .add 34 1, mS 1 35] [0,1,5] (Zs [mS 36 0, mS 37 5, mS 38 1, xS 39 9 36 37, fS 40 39 3, sS 1 40 38] [0,1,5] (Zs [mS 41 1, bC 42 .add 41 1, mS 1 42] [0,1,5] (Zs [mS 43 0, mS 44 5, mS 45 1, xS 46 9 43 44, fS 47 46 4, fS 48 47 0, sS 1 48 45] [0,1,5] (Zs [mS 49 1, bC 50 .add 49 1, mS 1 50] [0,1,5] (Zs [mS 51 0, mS 52 5, xS 53 9 51 52, fS 54 53 4, fS 55 54 1, .loadT 56 1 (.s 55), mS 57 1, .callI 58 [] (.f N1b) [.s 56, .s 57] [1] [0], mS 1 58] [0,1,5] (Zs [mS 59 0, mS 60 5, mS 61 1, xS 62 9 59 60, fS 63 62 4, fS 64 63 2, fS 65 64 0, sS 1 65 61] [0,1,5] (Zs [mS 66 1, bC 67 .add 66 1, mS 1 67] [0,1,5] (Zs [mS 68 0, mS 69 5, mS 70 1, xS 71 9 68 69, fS 72 71 4, fS 73 72 2, fS 74 73 1, sS 1 74 70] [0,1,5] (Zs [mS 75 1, bC 76 .add 75 1, mS 1 76] [0,1,5] (Zs [mS 77 0, mS 78 5, mS 79 1, xS 80 9 77 78, fS 81 80 4, fS 82 81 2, fS 83 82 2, sS 1 83 79] [0,1,5] (pr [mS 84 1, bC 85 .add 84 1, mS 1 85] [0,1,5]))))))))))))))))))
(pr [mS 10 5, bC 11 .add 10 1, mS 5 11] [0,1,5]))))))
(Zs [mS 86 1, mS 4 86] [4] .ret)))
attribute [go_sem] Y13
def M2v : MC := Y13
theorem C81 (xs : List GVersion) (k : Int) (hk : 0 ≤ k) (hN : k + (ctL GVersion.ct xs : Nat) ≤ 4611686018427387904) : CtrI Tryz.prog N2a [oL 9 (xs.map GVersion.enc), iI k] [some (9, (mkL GVersion.mkd GVersion.ct xs k).map GVersion.enc)] [rI (k + (ctL GVersion.ct xs : Nat))] := by
 refine K11 (M := M2v) (m := 1) (n := 87) (res := [(.tmp 4, [false])]) hmix Tryz.func86 rfl (by kernel_rfl) rfl (by kernel_rfl) (by kernel_rfl) (Nat.le_of_ble_eq_true rfl) rfl rfl ?_; unfold M2v
 intro hb
 have hl := Kw hb
 clear hb
 simp only [go_sem]
 refine K5 xs (fun i => [(1, vI (k + (ctL GVersion.ct (xs.take i) : Nat))), (5, vI i)]) (fun i => [(0, ⟨1, .row true 9 ((mkL GVersion.mkd GVersion.ct (xs.take i) k).map GVersion.enc ++ (xs.drop i).map GVersion.enc)⟩)]) (fun _ => True) hl ?_
 simp only [go_sem]
 refine ⟨?_, trivial, ?_, ?_⟩
 ·simp only [go_sem, List.take_zero, List.drop_zero, K27, K1v]
  all_goals simp
 ·intro i x hx _ h0 h1 hw
  have hR := K2m (mk := GVersion.mkd) (c := GVersion.ct) (k := k) (f := GVersion.enc) hx
  have hA := K2j (mk := GVersion.mkd) (c := GVersion.ct) (k := k) (f := GVersion.enc) hx
  generalize hAe : (mkL GVersion.mkd GVersion.ct (xs.take i) k).map GVersion.enc = A at hR hA
  generalize hBe : (xs.drop (i + 1)).map GVersion.enc = B at hR hA
  obtain ⟨hg, hs, hl, hd⟩ := hA
  have hc := K10 (c := GVersion.ct) (i + 1) (l := xs)
  rw [Kl hx] at hc
  have hK0 : 0 ≤ k + ((ctL GVersion.ct (xs.take i) : Nat) : Int) := by omega
  have hK1 : k + ((ctL GVersion.ct (xs.take i) : Nat) : Int) + (GVersion.ct x : Nat) ≤ 4611686018427387904 := by omega
  generalize hK : k + ((ctL GVersion.ct (xs.take i) : Nat) : Int) = K at hK0 hK1
  simp only [GVersion.ct] at hK1
  simp only [go_sem, hR, hg, hs, hl, h0, h1, waK (K := K + 1) (K' := K + 1) (by omega) (by omega) (by omega), waK (K := K + 1 + 1) (K' := K + 2) (by omega) (by omega) (by omega), waK (K := K + 2 + 1) (K' := K + 3) (by omega) (by omega) (by omega), waK (K := K + 3 + 1) (K' := K + 4) (by omega) (by omega) (by omega), waK (K := K + 4 + 1) (K' := K + 5) (by omega) (by omega) (by omega)]
  refine K8 (C1c x.Resource.Body (K + 5) (by omega) (by omega)) ?_
  have hK1 : 0 ≤ K + 5 + (ctL iCt x.Resource.Body : Nat) := by omega
  generalize eK1 : K + 5 + ((ctL iCt x.Resource.Body : Nat) : Int) = K1 at hK1
  simp only [go_sem, hw, hg, hs, hl, hd, h0, h1, waK (K := K1 + 1) (K' := K1 + 1) (by omega) (by omega) (by omega), waK (K := K1 + 1 + 1) (K' := K1 + 2) (by omega) (by omega) (by omega), waK (K := K1 + 2 + 1) (K' := K1 + 3) (by omega) (by omega) (by omega)]
  subst eK1
  subst hK hAe hBe
  refine ⟨?_, K1s hx⟩
  rw [Kl hx]
  simp only [GVersion.ct]
  omega
 ·intro _
  simp only [go_sem, List.take_length, List.drop_length, List.map_nil, List.append_nil, K9]
def GVersion.mks (x : GVersion) (k : Int) : GVersion := { x with Resource := x.Resource.mks (k) }
def GVersion.cts (x : GVersion) : Nat := x.Resource.cts
theorem GVersion.cts_le (x : GVersion) : x.cts ≤ 16 * x.size := by
 simp only [GVersion.cts, GVersion.size]
 have hResource := GResource.cts_le x.Resource
 omega
@[go_sem] theorem GVersion.mks_len0 (x : GVersion) (k : Int) : ((x.mks k).Resource.Body).length = x.Resource.Body.length := K9
def GOp.mkd (x : GOp) (k : Int) : GOp := ⟨k, (k + 1), (k + 2), (k + 3)⟩
def GOp.ct (x : GOp) : Nat := 4
def Y14 : MC :=
(Zs [.mv 4 (ci 0)] [0,1] (.seq (Zs [.mv 5 (ci 0)] [0,1,5] (.block 0 (.loop ([0,1,5], []) (.seq (Zs [mS 6 5, mS 7 0, nS 8 7, bS 9 .lss 6 8] [0,1,5,9] (cX 9 0))
(.seq (.block 1 (Zs [mS 12 0, mS 13 5, mS 14 1, xS 15 4 12 13, fS 16 15 0, sS 1 16 14] [0,1,5] (Zs [mS 17 1, bC 18 .add 17 1, mS 1 18] [0,1,5] (Zs [mS 19 0, mS 20 5, mS 21 1, xS 22 4 19 20, fS 23 22 1, sS 1 23 21] [0,1,5] (Zs [mS 24 1, bC 25 .add 24 1, mS 1 25] [0,1,5] (Zs [mS 26 0, mS 27 5, mS 28 1, xS 29 4 26 27, fS 30 29 2, sS 1 30 28] [0,1,5] (Zs [mS 31 1, bC 32 .add 31 1, mS 1 32] [0,1,5] (Zs [mS 33 0, mS 34 5, mS 35 1, xS 36 4 33 34, fS 37 36 3, sS 1 37 35] [0,1,5] (pr [mS 38 1, bC 39 .add 38 1, mS 1 39] [0,1,5])))))))))
(pr [mS 10 5, bC 11 .add 10 1, mS 5 11] [0,1,5]))))))
(Zs [mS 40 1, mS 4 40] [4] .ret)))
attribute [go_sem] Y14
def M77 : MC := Y14
theorem C78 (xs : List GOp) (k : Int) (hk : 0 ≤ k) (hN : k + (ctL GOp.ct xs : Nat) ≤ 4611686018427387904) : CtrI Tryz.prog N32 [oL 4 (xs.map GOp.enc), iI k] [some (4, (mkL GOp.mkd GOp.ct xs k).map GOp.enc)] [rI (k + (ctL GOp.ct xs : Nat))] := by
 refine K11 (M := M77) (m := 0) (n := 41) (res := [(.tmp 4, [false])]) hmix Tryz.func87 rfl (by kernel_rfl) rfl (by kernel_rfl) (by kernel_rfl) (Nat.le_of_ble_eq_true rfl) rfl rfl ?_; unfold M77
 intro hb
 have hl := Kw hb
 clear hb
 simp only [go_sem]
 refine K5 xs (fun i => [(1, vI (k + (ctL GOp.ct (xs.take i) : Nat))), (5, vI i)]) (fun i => [(0, ⟨1, .row true 4 ((mkL GOp.mkd GOp.ct (xs.take i) k).map GOp.enc ++ (xs.drop i).map GOp.enc)⟩)]) (fun _ => True) hl ?_
 simp only [go_sem]
 refine ⟨?_, trivial, ?_, ?_⟩
 ·simp only [go_sem, List.take_zero, List.drop_zero, K27, K1v]
  all_goals simp
 ·intro i x hx _ h0 h1 hw
  have hR := K2m (mk := GOp.mkd) (c := GOp.ct) (k := k) (f := GOp.enc) hx
  have hA := K2j (mk := GOp.mkd) (c := GOp.ct) (k := k) (f := GOp.enc) hx
  generalize hAe : (mkL GOp.mkd GOp.ct (xs.take i) k).map GOp.enc = A at hR hA
  generalize hBe : (xs.drop (i + 1)).map GOp.enc = B at hR hA
  obtain ⟨hg, hs, hl, hd⟩ := hA
  have hc := K10 (c := GOp.ct) (i + 1) (l := xs)
  rw [Kl hx] at hc
  have hK0 : 0 ≤ k + ((ctL GOp.ct (xs.take i) : Nat) : Int) := by omega
  have hK1 : k + ((ctL GOp.ct (xs.take i) : Nat) : Int) + (GOp.ct x : Nat) ≤ 4611686018427387904 := by omega
  generalize hK : k + ((ctL GOp.ct (xs.take i) : Nat) : Int) = K at hK0 hK1
  simp only [GOp.ct] at hK1
  simp only [go_sem, hw, hR, hg, hs, hl, h0, h1, waK (K := K + 1) (K' := K + 1) (by omega) (by omega) (by omega), waK (K := K + 1 + 1) (K' := K + 2) (by omega) (by omega) (by omega), waK (K := K + 2 + 1) (K' := K + 3) (by omega) (by omega) (by omega), waK (K := K + 3 + 1) (K' := K + 4) (by omega) (by omega) (by omega)]
  subst hK hAe hBe
  refine ⟨?_, K1s hx⟩
  rw [Kl hx]
  simp only [GOp.ct]
  omega
 ·intro _
  simp only [go_sem, List.take_length, List.drop_length, List.map_nil, List.append_nil, K9]
def GState.mkd (x : GState) (k : Int) : GState := ⟨k, (mkL iMk iCt x.Regs (k + 1)), (mkL iMk iCt x.Slots ((k + 1) + (ctL iCt x.Regs : Nat))), (mkL iMk iCt x.Nodes (((k + 1) + (ctL iCt x.Regs : Nat)) + (ctL iCt x.Slots : Nat)))⟩
def GState.ct (x : GState) : Nat := 1 + ctL iCt x.Regs + ctL iCt x.Slots + ctL iCt x.Nodes
theorem GState.ct_le (x : GState) : x.ct ≤ 16 * (1 + x.size) := by
 simp only [GState.ct, GState.size]
 have h0 := ctL_le' (c := iCt) (fun y => by simp only [iCt]; omega) x.Regs
 have h1 := ctL_le' (c := iCt) (fun y => by simp only [iCt]; omega) x.Slots
 have h2 := ctL_le' (c := iCt) (fun y => by simp only [iCt]; omega) x.Nodes
 omega
def GState.mks (x : GState) (k : Int) : GState := { x with Regs := mkL iMk iCt x.Regs (k), Slots := mkL iMk iCt x.Slots (k + (ctL iCt x.Regs : Nat)), Nodes := mkL iMk iCt x.Nodes (k + (ctL iCt x.Regs : Nat) + (ctL iCt x.Slots : Nat)) }
def GState.cts (x : GState) : Nat := ctL iCt x.Regs + ctL iCt x.Slots + ctL iCt x.Nodes
theorem GState.cts_le (x : GState) : x.cts ≤ 16 * x.size := by
 simp only [GState.cts, GState.size]
 have hRegs := ctL_le' (c := iCt) (fun y => by simp only [iCt]; omega) x.Regs
 have hSlots := ctL_le' (c := iCt) (fun y => by simp only [iCt]; omega) x.Slots
 have hNodes := ctL_le' (c := iCt) (fun y => by simp only [iCt]; omega) x.Nodes
 omega
@[go_sem] theorem GState.mks_len0 (x : GState) (k : Int) : ((x.mks k).Regs).length = x.Regs.length := K9
@[go_sem] theorem GState.mks_len1 (x : GState) (k : Int) : ((x.mks k).Slots).length = x.Slots.length := K9
@[go_sem] theorem GState.mks_len2 (x : GState) (k : Int) : ((x.mks k).Nodes).length = x.Nodes.length := K9
def GWant.mkd (x : GWant) (k : Int) : GWant := ⟨k, ⟨(k + 1), (k + 2), (k + 3)⟩⟩
def GWant.ct (x : GWant) : Nat := 4
def GEntry.mkd (x : GEntry) (k : Int) : GEntry := ⟨k, ⟨(k + 1), (k + 2), (k + 3)⟩, (k + 4)⟩
def GEntry.ct (x : GEntry) : Nat := 5
def M51 : MC :=
(Zs [.mv 4 (ci 0)] [0,1] (.seq (Zs [.mv 5 (ci 0)] [0,1,5] (.block 0 (.loop ([0,1,5], []) (.seq (Zs [mS 6 5, mS 7 0, nS 8 7, bS 9 .lss 6 8] [0,1,5,9] (cX 9 0))
(.seq (.block 1 (Zs [mS 12 0, mS 13 5, mS 14 1, xS 15 5 12 13, fS 16 15 0, sS 1 16 14] [0,1,5] (Zs [mS 17 1, bC 18 .add 17 1, mS 1 18] [0,1,5] (Zs [mS 19 0, mS 20 5, mS 21 1, xS 22 5 19 20, fS 23 22 1, fS 24 23 0, sS 1 24 21] [0,1,5] (Zs [mS 25 1, bC 26 .add 25 1, mS 1 26] [0,1,5] (Zs [mS 27 0, mS 28 5, mS 29 1, xS 30 5 27 28, fS 31 30 1, fS 32 31 1, sS 1 32 29] [0,1,5] (Zs [mS 33 1, bC 34 .add 33 1, mS 1 34] [0,1,5] (Zs [mS 35 0, mS 36 5, mS 37 1, xS 38 5 35 36, fS 39 38 1, fS 40 39 2, sS 1 40 37] [0,1,5] (Zs [mS 41 1, bC 42 .add 41 1, mS 1 42] [0,1,5] (Zs [mS 43 0, mS 44 5, mS 45 1, xS 46 5 43 44, fS 47 46 4, sS 1 47 45] [0,1,5] (pr [mS 48 1, bC 49 .add 48 1, mS 1 49] [0,1,5])))))))))))
(pr [mS 10 5, bC 11 .add 10 1, mS 5 11] [0,1,5]))))))
(Zs [mS 50 1, mS 4 50] [4] .ret)))
theorem C92 (xs : List GEntry) (k : Int) (hk : 0 ≤ k) (hN : k + (ctL GEntry.ct xs : Nat) ≤ 4611686018427387904) : CtrI Tryz.prog N4f [oL 5 (xs.map GEntry.enc), iI k] [some (5, (mkL GEntry.mkd GEntry.ct xs k).map GEntry.enc)] [rI (k + (ctL GEntry.ct xs : Nat))] := by
 refine K11 (M := M51) (m := 0) (n := 51) (res := [(.tmp 4, [false])]) hmix Tryz.func290 rfl (by kernel_rfl) rfl (by kernel_rfl) (by kernel_rfl) (Nat.le_of_ble_eq_true rfl) rfl rfl ?_; unfold M51
 intro hb
 have hl := Kw hb
 clear hb
 simp only [go_sem]
 refine K5 xs (fun i => [(1, vI (k + (ctL GEntry.ct (xs.take i) : Nat))), (5, vI i)]) (fun i => [(0, ⟨1, .row true 5 ((mkL GEntry.mkd GEntry.ct (xs.take i) k).map GEntry.enc ++ (xs.drop i).map GEntry.enc)⟩)]) (fun _ => True) hl ?_
 simp only [go_sem]
 refine ⟨?_, trivial, ?_, ?_⟩
 ·simp only [go_sem, List.take_zero, List.drop_zero, K27, K1v]
  all_goals simp
 ·intro i x hx _ h0 h1 hw
  have hR := K2m (mk := GEntry.mkd) (c := GEntry.ct) (k := k) (f := GEntry.enc) hx
  have hA := K2j (mk := GEntry.mkd) (c := GEntry.ct) (k := k) (f := GEntry.enc) hx
  generalize hAe : (mkL GEntry.mkd GEntry.ct (xs.take i) k).map GEntry.enc = A at hR hA
  generalize hBe : (xs.drop (i + 1)).map GEntry.enc = B at hR hA
  obtain ⟨hg, hs, hl, hd⟩ := hA
  have hc := K10 (c := GEntry.ct) (i + 1) (l := xs)
  rw [Kl hx] at hc
  have hK0 : 0 ≤ k + ((ctL GEntry.ct (xs.take i) : Nat) : Int) := by omega
  have hK1 : k + ((ctL GEntry.ct (xs.take i) : Nat) : Int) + (GEntry.ct x : Nat) ≤ 4611686018427387904 := by omega
  generalize hK : k + ((ctL GEntry.ct (xs.take i) : Nat) : Int) = K at hK0 hK1
  simp only [GEntry.ct] at hK1
  simp only [go_sem, hw, hR, hg, hs, hl, h0, h1, waK (K := K + 1) (K' := K + 1) (by omega) (by omega) (by omega), waK (K := K + 1 + 1) (K' := K + 2) (by omega) (by omega) (by omega), waK (K := K + 2 + 1) (K' := K + 3) (by omega) (by omega) (by omega), waK (K := K + 3 + 1) (K' := K + 4) (by omega) (by omega) (by omega), waK (K := K + 4 + 1) (K' := K + 5) (by omega) (by omega) (by omega)]
  subst hK hAe hBe
  refine ⟨?_, K1s hx⟩
  rw [Kl hx]
  simp only [GEntry.ct]
  omega
 ·intro _
  simp only [go_sem, List.take_length, List.drop_length, List.map_nil, List.append_nil, K9]
def GCapture.mkd (x : GCapture) (k : Int) : GCapture := ⟨⟨k, (k + 1), (k + 2)⟩, (k + 3), ⟨(k + 4), (mkL iMk iCt x.Resource.Body (k + 5)), ⟨((k + 5) + (ctL iCt x.Resource.Body : Nat)), (((k + 5) + (ctL iCt x.Resource.Body : Nat)) + 1), (((k + 5) + (ctL iCt x.Resource.Body : Nat)) + 2)⟩⟩⟩
def GCapture.ct (x : GCapture) : Nat := 8 + ctL iCt x.Resource.Body
theorem GCapture.ct_le (x : GCapture) : x.ct ≤ 16 * (1 + x.size) := by
 simp only [GCapture.ct, GCapture.size, GResource.size]
 have h0 := ctL_le' (c := iCt) (fun y => by simp only [iCt]; omega) x.Resource.Body
 omega
def M2w : MC := Y13
theorem C82 (xs : List GCapture) (k : Int) (hk : 0 ≤ k) (hN : k + (ctL GCapture.ct xs : Nat) ≤ 4611686018427387904) : CtrI Tryz.prog N2e [oL 9 (xs.map GCapture.enc), iI k] [some (9, (mkL GCapture.mkd GCapture.ct xs k).map GCapture.enc)] [rI (k + (ctL GCapture.ct xs : Nat))] := by
 refine K11 (M := M2w) (m := 1) (n := 87) (res := [(.tmp 4, [false])]) hmix Tryz.func291 rfl (by kernel_rfl) rfl (by kernel_rfl) (by kernel_rfl) (Nat.le_of_ble_eq_true rfl) rfl rfl ?_; unfold M2w
 intro hb
 have hl := Kw hb
 clear hb
 simp only [go_sem]
 refine K5 xs (fun i => [(1, vI (k + (ctL GCapture.ct (xs.take i) : Nat))), (5, vI i)]) (fun i => [(0, ⟨1, .row true 9 ((mkL GCapture.mkd GCapture.ct (xs.take i) k).map GCapture.enc ++ (xs.drop i).map GCapture.enc)⟩)]) (fun _ => True) hl ?_
 simp only [go_sem]
 refine ⟨?_, trivial, ?_, ?_⟩
 ·simp only [go_sem, List.take_zero, List.drop_zero, K27, K1v]
  all_goals simp
 ·intro i x hx _ h0 h1 hw
  have hR := K2m (mk := GCapture.mkd) (c := GCapture.ct) (k := k) (f := GCapture.enc) hx
  have hA := K2j (mk := GCapture.mkd) (c := GCapture.ct) (k := k) (f := GCapture.enc) hx
  generalize hAe : (mkL GCapture.mkd GCapture.ct (xs.take i) k).map GCapture.enc = A at hR hA
  generalize hBe : (xs.drop (i + 1)).map GCapture.enc = B at hR hA
  obtain ⟨hg, hs, hl, hd⟩ := hA
  have hc := K10 (c := GCapture.ct) (i + 1) (l := xs)
  rw [Kl hx] at hc
  have hK0 : 0 ≤ k + ((ctL GCapture.ct (xs.take i) : Nat) : Int) := by omega
  have hK1 : k + ((ctL GCapture.ct (xs.take i) : Nat) : Int) + (GCapture.ct x : Nat) ≤ 4611686018427387904 := by omega
  generalize hK : k + ((ctL GCapture.ct (xs.take i) : Nat) : Int) = K at hK0 hK1
  simp only [GCapture.ct] at hK1
  simp only [go_sem, hR, hg, hs, hl, h0, h1, waK (K := K + 1) (K' := K + 1) (by omega) (by omega) (by omega), waK (K := K + 1 + 1) (K' := K + 2) (by omega) (by omega) (by omega), waK (K := K + 2 + 1) (K' := K + 3) (by omega) (by omega) (by omega), waK (K := K + 3 + 1) (K' := K + 4) (by omega) (by omega) (by omega), waK (K := K + 4 + 1) (K' := K + 5) (by omega) (by omega) (by omega)]
  refine K8 (C1c x.Resource.Body (K + 5) (by omega) (by omega)) ?_
  have hK1 : 0 ≤ K + 5 + (ctL iCt x.Resource.Body : Nat) := by omega
  generalize eK1 : K + 5 + ((ctL iCt x.Resource.Body : Nat) : Int) = K1 at hK1
  simp only [go_sem, hw, hg, hs, hl, hd, h0, h1, waK (K := K1 + 1) (K' := K1 + 1) (by omega) (by omega) (by omega), waK (K := K1 + 1 + 1) (K' := K1 + 2) (by omega) (by omega) (by omega), waK (K := K1 + 2 + 1) (K' := K1 + 3) (by omega) (by omega) (by omega)]
  subst eK1
  subst hK hAe hBe
  refine ⟨?_, K1s hx⟩
  rw [Kl hx]
  simp only [GCapture.ct]
  omega
 ·intro _
  simp only [go_sem, List.take_length, List.drop_length, List.map_nil, List.append_nil, K9]
def GCapture.mks (x : GCapture) (k : Int) : GCapture := { x with Resource := x.Resource.mks (k) }
def GCapture.cts (x : GCapture) : Nat := x.Resource.cts
theorem GCapture.cts_le (x : GCapture) : x.cts ≤ 16 * x.size := by
 simp only [GCapture.cts, GCapture.size]
 have hResource := GResource.cts_le x.Resource
 omega
@[go_sem] theorem GCapture.mks_len0 (x : GCapture) (k : Int) : ((x.mks k).Resource.Body).length = x.Resource.Body.length := K9
def GChoice.mkd (x : GChoice) (k : Int) : GChoice := ⟨k, (k + 1)⟩
def GChoice.ct (x : GChoice) : Nat := 2
def GWander.mks (x : GWander) (k : Int) : GWander := { x with State := x.State.mks (k), Choices := mkL GChoice.mkd GChoice.ct x.Choices (k + (x.State.cts : Nat)), Labels := mkL iMk iCt x.Labels (k + (x.State.cts : Nat) + (ctL GChoice.ct x.Choices : Nat)) }
def GWander.cts (x : GWander) : Nat := x.State.cts + ctL GChoice.ct x.Choices + ctL iCt x.Labels
theorem GWander.cts_le (x : GWander) : x.cts ≤ 16 * x.size := by
 simp only [GWander.cts, GWander.size]
 have hState := GState.cts_le x.State
 have hChoices := ctL_le' (c := GChoice.ct) (fun y => by simp only [GChoice.ct]; omega) x.Choices
 have hLabels := ctL_le' (c := iCt) (fun y => by simp only [iCt]; omega) x.Labels
 omega
@[go_sem] theorem GWander.mks_len0 (x : GWander) (k : Int) : ((x.mks k).State.Regs).length = x.State.Regs.length := K9
@[go_sem] theorem GWander.mks_len1 (x : GWander) (k : Int) : ((x.mks k).State.Slots).length = x.State.Slots.length := K9
@[go_sem] theorem GWander.mks_len2 (x : GWander) (k : Int) : ((x.mks k).State.Nodes).length = x.State.Nodes.length := K9
@[go_sem] theorem GWander.mks_len3 (x : GWander) (k : Int) : ((x.mks k).Choices).length = x.Choices.length := K9
@[go_sem] theorem GWander.mks_len4 (x : GWander) (k : Int) : ((x.mks k).Labels).length = x.Labels.length := K9
def GModel.mkd (x : GModel) (k : Int) : GModel := ⟨k, (k + 1), (k + 2), (bMk x.Fits (k + 3))⟩
def GModel.ct (x : GModel) : Nat := 4
def GShown.mkd (x : GShown) (k : Int) : GShown := ⟨k, ⟨(k + 1), (k + 2), (k + 3)⟩⟩
def GShown.ct (x : GShown) : Nat := 4
def GLeaf.mkd (x : GLeaf) (k : Int) : GLeaf := ⟨k, (k + 1), (bMk x.Hidden (k + 2)), (k + 3)⟩
def GLeaf.ct (x : GLeaf) : Nat := 4
def GEdition.mks (x : GEdition) (k : Int) : GEdition := { x with Captures := mkL GCapture.mkd GCapture.ct x.Captures (k), Hidden := mkL GAddress.mkd GAddress.ct x.Hidden (k + (ctL GCapture.ct x.Captures : Nat)) }
def GEdition.cts (x : GEdition) : Nat := ctL GCapture.ct x.Captures + ctL GAddress.ct x.Hidden
theorem GEdition.cts_le (x : GEdition) : x.cts ≤ 16 * x.size := by
 simp only [GEdition.cts, GEdition.size]
 have hCaptures := K3k (c := GCapture.ct) (s := GCapture.size) GCapture.ct_le x.Captures
 have hHidden := ctL_le' (c := GAddress.ct) (fun y => by simp only [GAddress.ct]; omega) x.Hidden
 omega
@[go_sem] theorem GEdition.mks_len0 (x : GEdition) (k : Int) : ((x.mks k).Captures).length = x.Captures.length := K9
@[go_sem] theorem GEdition.mks_len1 (x : GEdition) (k : Int) : ((x.mks k).Hidden).length = x.Hidden.length := K9
def GExclusion.mkd (x : GExclusion) (k : Int) : GExclusion := ⟨k, (k + 1), (k + 2), (k + 3), (k + 4)⟩
def GExclusion.ct (x : GExclusion) : Nat := 5
def M1s : MC :=
(Zs [.mv 4 (ci 0)] [0,1] (.seq (Zs [.mv 5 (ci 0)] [0,1,5] (.block 0 (.loop ([0,1,5], []) (.seq (Zs [mS 6 5, mS 7 0, nS 8 7, bS 9 .lss 6 8] [0,1,5,9] (cX 9 0))
(.seq (.block 1 (Zs [mS 12 0, mS 13 5, mS 14 1, xS 15 5 12 13, fS 16 15 0, sS 1 16 14] [0,1,5] (Zs [mS 17 1, bC 18 .add 17 1, mS 1 18] [0,1,5] (Zs [mS 19 0, mS 20 5, mS 21 1, xS 22 5 19 20, fS 23 22 1, sS 1 23 21] [0,1,5] (Zs [mS 24 1, bC 25 .add 24 1, mS 1 25] [0,1,5] (Zs [mS 26 0, mS 27 5, mS 28 1, xS 29 5 26 27, fS 30 29 2, sS 1 30 28] [0,1,5] (Zs [mS 31 1, bC 32 .add 31 1, mS 1 32] [0,1,5] (Zs [mS 33 0, mS 34 5, mS 35 1, xS 36 5 33 34, fS 37 36 3, sS 1 37 35] [0,1,5] (Zs [mS 38 1, bC 39 .add 38 1, mS 1 39] [0,1,5] (Zs [mS 40 0, mS 41 5, mS 42 1, xS 43 5 40 41, fS 44 43 4, sS 1 44 42] [0,1,5] (pr [mS 45 1, bC 46 .add 45 1, mS 1 46] [0,1,5])))))))))))
(pr [mS 10 5, bC 11 .add 10 1, mS 5 11] [0,1,5]))))))
(Zs [mS 47 1, mS 4 47] [4] .ret)))
theorem C79 (xs : List GExclusion) (k : Int) (hk : 0 ≤ k) (hN : k + (ctL GExclusion.ct xs : Nat) ≤ 4611686018427387904) : CtrI Tryz.prog N1q [oL 5 (xs.map GExclusion.enc), iI k] [some (5, (mkL GExclusion.mkd GExclusion.ct xs k).map GExclusion.enc)] [rI (k + (ctL GExclusion.ct xs : Nat))] := by
 refine K11 (M := M1s) (m := 0) (n := 48) (res := [(.tmp 4, [false])]) hmix Tryz.func89 rfl (by kernel_rfl) rfl (by kernel_rfl) (by kernel_rfl) (Nat.le_of_ble_eq_true rfl) rfl rfl ?_; unfold M1s
 intro hb
 have hl := Kw hb
 clear hb
 simp only [go_sem]
 refine K5 xs (fun i => [(1, vI (k + (ctL GExclusion.ct (xs.take i) : Nat))), (5, vI i)]) (fun i => [(0, ⟨1, .row true 5 ((mkL GExclusion.mkd GExclusion.ct (xs.take i) k).map GExclusion.enc ++ (xs.drop i).map GExclusion.enc)⟩)]) (fun _ => True) hl ?_
 simp only [go_sem]
 refine ⟨?_, trivial, ?_, ?_⟩
 ·simp only [go_sem, List.take_zero, List.drop_zero, K27, K1v]
  all_goals simp
 ·intro i x hx _ h0 h1 hw
  have hR := K2m (mk := GExclusion.mkd) (c := GExclusion.ct) (k := k) (f := GExclusion.enc) hx
  have hA := K2j (mk := GExclusion.mkd) (c := GExclusion.ct) (k := k) (f := GExclusion.enc) hx
  generalize hAe : (mkL GExclusion.mkd GExclusion.ct (xs.take i) k).map GExclusion.enc = A at hR hA
  generalize hBe : (xs.drop (i + 1)).map GExclusion.enc = B at hR hA
  obtain ⟨hg, hs, hl, hd⟩ := hA
  have hc := K10 (c := GExclusion.ct) (i + 1) (l := xs)
  rw [Kl hx] at hc
  have hK0 : 0 ≤ k + ((ctL GExclusion.ct (xs.take i) : Nat) : Int) := by omega
  have hK1 : k + ((ctL GExclusion.ct (xs.take i) : Nat) : Int) + (GExclusion.ct x : Nat) ≤ 4611686018427387904 := by omega
  generalize hK : k + ((ctL GExclusion.ct (xs.take i) : Nat) : Int) = K at hK0 hK1
  simp only [GExclusion.ct] at hK1
  simp only [go_sem, hw, hR, hg, hs, hl, h0, h1, waK (K := K + 1) (K' := K + 1) (by omega) (by omega) (by omega), waK (K := K + 1 + 1) (K' := K + 2) (by omega) (by omega) (by omega), waK (K := K + 2 + 1) (K' := K + 3) (by omega) (by omega) (by omega), waK (K := K + 3 + 1) (K' := K + 4) (by omega) (by omega) (by omega), waK (K := K + 4 + 1) (K' := K + 5) (by omega) (by omega) (by omega)]
  subst hK hAe hBe
  refine ⟨?_, K1s hx⟩
  rw [Kl hx]
  simp only [GExclusion.ct]
  omega
 ·intro _
  simp only [go_sem, List.take_length, List.drop_length, List.map_nil, List.append_nil, K9]
def GStatement.mkd (x : GStatement) (k : Int) : GStatement := ⟨k, (k + 1), (k + 2), (k + 3)⟩
def GStatement.ct (x : GStatement) : Nat := 4
def M1t : MC := Y14
theorem C7a (xs : List GStatement) (k : Int) (hk : 0 ≤ k) (hN : k + (ctL GStatement.ct xs : Nat) ≤ 4611686018427387904) : CtrI Tryz.prog N1r [oL 4 (xs.map GStatement.enc), iI k] [some (4, (mkL GStatement.mkd GStatement.ct xs k).map GStatement.enc)] [rI (k + (ctL GStatement.ct xs : Nat))] := by
 refine K11 (M := M1t) (m := 0) (n := 41) (res := [(.tmp 4, [false])]) hmix Tryz.func91 rfl (by kernel_rfl) rfl (by kernel_rfl) (by kernel_rfl) (Nat.le_of_ble_eq_true rfl) rfl rfl ?_; unfold M1t
 intro hb
 have hl := Kw hb
 clear hb
 simp only [go_sem]
 refine K5 xs (fun i => [(1, vI (k + (ctL GStatement.ct (xs.take i) : Nat))), (5, vI i)]) (fun i => [(0, ⟨1, .row true 4 ((mkL GStatement.mkd GStatement.ct (xs.take i) k).map GStatement.enc ++ (xs.drop i).map GStatement.enc)⟩)]) (fun _ => True) hl ?_
 simp only [go_sem]
 refine ⟨?_, trivial, ?_, ?_⟩
 ·simp only [go_sem, List.take_zero, List.drop_zero, K27, K1v]
  all_goals simp
 ·intro i x hx _ h0 h1 hw
  have hR := K2m (mk := GStatement.mkd) (c := GStatement.ct) (k := k) (f := GStatement.enc) hx
  have hA := K2j (mk := GStatement.mkd) (c := GStatement.ct) (k := k) (f := GStatement.enc) hx
  generalize hAe : (mkL GStatement.mkd GStatement.ct (xs.take i) k).map GStatement.enc = A at hR hA
  generalize hBe : (xs.drop (i + 1)).map GStatement.enc = B at hR hA
  obtain ⟨hg, hs, hl, hd⟩ := hA
  have hc := K10 (c := GStatement.ct) (i + 1) (l := xs)
  rw [Kl hx] at hc
  have hK0 : 0 ≤ k + ((ctL GStatement.ct (xs.take i) : Nat) : Int) := by omega
  have hK1 : k + ((ctL GStatement.ct (xs.take i) : Nat) : Int) + (GStatement.ct x : Nat) ≤ 4611686018427387904 := by omega
  generalize hK : k + ((ctL GStatement.ct (xs.take i) : Nat) : Int) = K at hK0 hK1
  simp only [GStatement.ct] at hK1
  simp only [go_sem, hw, hR, hg, hs, hl, h0, h1, waK (K := K + 1) (K' := K + 1) (by omega) (by omega) (by omega), waK (K := K + 1 + 1) (K' := K + 2) (by omega) (by omega) (by omega), waK (K := K + 2 + 1) (K' := K + 3) (by omega) (by omega) (by omega), waK (K := K + 3 + 1) (K' := K + 4) (by omega) (by omega) (by omega)]
  subst hK hAe hBe
  refine ⟨?_, K1s hx⟩
  rw [Kl hx]
  simp only [GStatement.ct]
  omega
 ·intro _
  simp only [go_sem, List.take_length, List.drop_length, List.map_nil, List.append_nil, K9]
def GLibrary.mkd (x : GLibrary) (k : Int) : GLibrary := ⟨k, (mkL iMk iCt x.Digests (k + 1)), (bMk x.Up ((k + 1) + (ctL iCt x.Digests : Nat))), (bMk x.Lies (((k + 1) + (ctL iCt x.Digests : Nat)) + 1))⟩
def GLibrary.ct (x : GLibrary) : Nat := 3 + ctL iCt x.Digests
theorem GLibrary.ct_le (x : GLibrary) : x.ct ≤ 16 * (1 + x.size) := by
 simp only [GLibrary.ct, GLibrary.size]
 have h0 := ctL_le' (c := iCt) (fun y => by simp only [iCt]; omega) x.Digests
 omega
def M2x : MC :=
(Zs [.mv 4 (ci 0)] [0,1] (.seq (Zs [.mv 5 (ci 0)] [0,1,5] (.block 0 (.loop ([0,1,5], [1]) (.seq (Zs [mS 6 5, mS 7 0, nS 8 7, bS 9 .lss 6 8] [0,1,5,9] (cX 9 0))
(.seq (.block 1 (Zs [mS 12 0, mS 13 5, mS 14 1, xS 15 4 12 13, fS 16 15 0, sS 1 16 14] [0,1,5] (Zs [mS 17 1, bC 18 .add 17 1, mS 1 18] [0,1,5] (Zs [mS 19 0, mS 20 5, xS 21 4 19 20, fS 22 21 1, .loadT 23 1 (.s 22), mS 24 1, .callI 25 [] (.f N1b) [.s 23, .s 24] [1] [0], mS 1 25] [0,1,5] (Zs [mS 26 0, mS 27 5, mS 28 1, bC 29 .rem 28 3, bC 30 .eql 29 0, xS 31 4 26 27, fS 32 31 2, sS 1 32 30] [0,1,5] (Zs [mS 33 1, bC 34 .add 33 1, mS 1 34] [0,1,5] (Zs [mS 35 0, mS 36 5, mS 37 1, bC 38 .rem 37 3, bC 39 .eql 38 0, xS 40 4 35 36, fS 41 40 3, sS 1 41 39] [0,1,5] (pr [mS 42 1, bC 43 .add 42 1, mS 1 43] [0,1,5]))))))))
(pr [mS 10 5, bC 11 .add 10 1, mS 5 11] [0,1,5]))))))
(Zs [mS 44 1, mS 4 44] [4] .ret)))
theorem C83 (xs : List GLibrary) (k : Int) (hk : 0 ≤ k) (hN : k + (ctL GLibrary.ct xs : Nat) ≤ 4611686018427387904) : CtrI Tryz.prog N2b [oL 4 (xs.map GLibrary.enc), iI k] [some (4, (mkL GLibrary.mkd GLibrary.ct xs k).map GLibrary.enc)] [rI (k + (ctL GLibrary.ct xs : Nat))] := by
 refine K11 (M := M2x) (m := 1) (n := 45) (res := [(.tmp 4, [false])]) hmix Tryz.func90 rfl (by kernel_rfl) rfl (by kernel_rfl) (by kernel_rfl) (Nat.le_of_ble_eq_true rfl) rfl rfl ?_; unfold M2x
 intro hb
 have hl := Kw hb
 clear hb
 simp only [go_sem]
 refine K5 xs (fun i => [(1, vI (k + (ctL GLibrary.ct (xs.take i) : Nat))), (5, vI i)]) (fun i => [(0, ⟨1, .row true 4 ((mkL GLibrary.mkd GLibrary.ct (xs.take i) k).map GLibrary.enc ++ (xs.drop i).map GLibrary.enc)⟩)]) (fun _ => True) hl ?_
 simp only [go_sem]
 refine ⟨?_, trivial, ?_, ?_⟩
 ·simp only [go_sem, List.take_zero, List.drop_zero, K27, K1v]
  all_goals simp
 ·intro i x hx _ h0 h1 hw
  have hR := K2m (mk := GLibrary.mkd) (c := GLibrary.ct) (k := k) (f := GLibrary.enc) hx
  have hA := K2j (mk := GLibrary.mkd) (c := GLibrary.ct) (k := k) (f := GLibrary.enc) hx
  generalize hAe : (mkL GLibrary.mkd GLibrary.ct (xs.take i) k).map GLibrary.enc = A at hR hA
  generalize hBe : (xs.drop (i + 1)).map GLibrary.enc = B at hR hA
  obtain ⟨hg, hs, hl, hd⟩ := hA
  have hc := K10 (c := GLibrary.ct) (i + 1) (l := xs)
  rw [Kl hx] at hc
  have hK0 : 0 ≤ k + ((ctL GLibrary.ct (xs.take i) : Nat) : Int) := by omega
  have hK1 : k + ((ctL GLibrary.ct (xs.take i) : Nat) : Int) + (GLibrary.ct x : Nat) ≤ 4611686018427387904 := by omega
  generalize hK : k + ((ctL GLibrary.ct (xs.take i) : Nat) : Int) = K at hK0 hK1
  simp only [GLibrary.ct] at hK1
  simp only [go_sem, hR, hg, hs, hl, h0, h1, waK (K := K + 1) (K' := K + 1) (by omega) (by omega) (by omega)]
  refine K8 (C1c x.Digests (K + 1) (by omega) (by omega)) ?_
  have hK1 : 0 ≤ K + 1 + (ctL iCt x.Digests : Nat) := by omega
  generalize eK1 : K + 1 + ((ctL iCt x.Digests : Nat) : Int) = K1 at hK1
  simp only [go_sem, hw, hg, hs, hl, hd, h0, h1, three_ne, waK (K := K1 + 1) (K' := K1 + 1) (by omega) (by omega) (by omega), waK (K := K1 + 1 + 1) (K' := K1 + 2) (by omega) (by omega) (by omega)]
  subst eK1
  subst hK hAe hBe
  refine ⟨?_, K1s hx⟩
  rw [Kl hx]
  simp only [GLibrary.ct]
  omega
 ·intro _
  simp only [go_sem, List.take_length, List.drop_length, List.map_nil, List.append_nil, K9]
def GLibrary.mks (x : GLibrary) (k : Int) : GLibrary := { x with Digests := mkL iMk iCt x.Digests (k) }
def GLibrary.cts (x : GLibrary) : Nat := ctL iCt x.Digests
theorem GLibrary.cts_le (x : GLibrary) : x.cts ≤ 16 * x.size := by
 simp only [GLibrary.cts, GLibrary.size]
 have hDigests := ctL_le' (c := iCt) (fun y => by simp only [iCt]; omega) x.Digests
 omega
@[go_sem] theorem GLibrary.mks_len0 (x : GLibrary) (k : Int) : ((x.mks k).Digests).length = x.Digests.length := K9
def GContainer.mkd (x : GContainer) (k : Int) : GContainer := ⟨(mkL GOp.mkd GOp.ct x.Script k), (mkL GEntry.mkd GEntry.ct x.Entries (k + (ctL GOp.ct x.Script : Nat))), (mkL GCapture.mkd GCapture.ct x.Captures ((k + (ctL GOp.ct x.Script : Nat)) + (ctL GEntry.ct x.Entries : Nat))), (((k + (ctL GOp.ct x.Script : Nat)) + (ctL GEntry.ct x.Entries : Nat)) + (ctL GCapture.ct x.Captures : Nat))⟩
def GContainer.ct (x : GContainer) : Nat := 1 + ctL GOp.ct x.Script + ctL GEntry.ct x.Entries + ctL GCapture.ct x.Captures
theorem GContainer.ct_le (x : GContainer) : x.ct ≤ 16 * (1 + x.size) := by
 simp only [GContainer.ct, GContainer.size]
 have h0 := ctL_le' (c := GOp.ct) (fun y => by simp only [GOp.ct]; omega) x.Script
 have h1 := ctL_le' (c := GEntry.ct) (fun y => by simp only [GEntry.ct]; omega) x.Entries
 have h2 := K3k (c := GCapture.ct) (s := GCapture.size) GCapture.ct_le x.Captures
 omega
def M1u : MC :=
(Zs [.mv 4 (ci 0)] [0,1] (.seq (Zs [.mv 5 (ci 0)] [0,1,5] (.block 0 (.loop ([0,1,5], [1,2,3]) (.seq (Zs [mS 6 5, mS 7 0, nS 8 7, bS 9 .lss 6 8] [0,1,5,9] (cX 9 0))
(.seq (.block 1 (Zs [mS 12 0, mS 13 5, xS 14 4 12 13, fS 15 14 0, .loadT 16 1 (.s 15), mS 17 1, .callI 18 [] (.f N32) [.s 16, .s 17] [1] [0], mS 1 18] [0,1,5] (Zs [mS 19 0, mS 20 5, xS 21 4 19 20, fS 22 21 1, .loadT 23 2 (.s 22), mS 24 1, .callI 25 [] (.f N4f) [.s 23, .s 24] [2] [0], mS 1 25] [0,1,5] (Zs [mS 26 0, mS 27 5, xS 28 4 26 27, fS 29 28 2, .loadT 30 3 (.s 29), mS 31 1, .callI 32 [] (.f N2e) [.s 30, .s 31] [3] [0], mS 1 32] [0,1,5] (Zs [mS 33 0, mS 34 5, mS 35 1, xS 36 4 33 34, fS 37 36 3, sS 1 37 35] [0,1,5] (pr [mS 38 1, bC 39 .add 38 1, mS 1 39] [0,1,5]))))))
(pr [mS 10 5, bC 11 .add 10 1, mS 5 11] [0,1,5]))))))
(Zs [mS 40 1, mS 4 40] [4] .ret)))
theorem C1v (xs : List GContainer) (k : Int) (hk : 0 ≤ k) (hN : k + (ctL GContainer.ct xs : Nat) ≤ 4611686018427387904) : CtrI Tryz.prog N10 [oL 4 (xs.map GContainer.enc), iI k] [some (4, (mkL GContainer.mkd GContainer.ct xs k).map GContainer.enc)] [rI (k + (ctL GContainer.ct xs : Nat))] := by
 refine K11 (M := M1u) (m := 3) (n := 41) (res := [(.tmp 4, [false])]) hmix Tryz.func171 rfl (by kernel_rfl) rfl (by kernel_rfl) (by kernel_rfl) (Nat.le_of_ble_eq_true rfl) rfl rfl ?_; unfold M1u
 intro hb
 have hl := Kw hb
 clear hb
 simp only [go_sem]
 refine K5 xs (fun i => [(1, vI (k + (ctL GContainer.ct (xs.take i) : Nat))), (5, vI i)]) (fun i => [(0, ⟨1, .row true 4 ((mkL GContainer.mkd GContainer.ct (xs.take i) k).map GContainer.enc ++ (xs.drop i).map GContainer.enc)⟩)]) (fun _ => True) hl ?_
 simp only [go_sem]
 refine ⟨?_, trivial, ?_, ?_⟩
 ·simp only [go_sem, List.take_zero, List.drop_zero, K27, K1v]
  all_goals simp
 ·intro i x hx _ h0 h1 hw
  have hR := K2m (mk := GContainer.mkd) (c := GContainer.ct) (k := k) (f := GContainer.enc) hx
  have hA := K2j (mk := GContainer.mkd) (c := GContainer.ct) (k := k) (f := GContainer.enc) hx
  generalize hAe : (mkL GContainer.mkd GContainer.ct (xs.take i) k).map GContainer.enc = A at hR hA
  generalize hBe : (xs.drop (i + 1)).map GContainer.enc = B at hR hA
  obtain ⟨hg, hs, hl, hd⟩ := hA
  have hc := K10 (c := GContainer.ct) (i + 1) (l := xs)
  rw [Kl hx] at hc
  have hK0 : 0 ≤ k + ((ctL GContainer.ct (xs.take i) : Nat) : Int) := by omega
  have hK1 : k + ((ctL GContainer.ct (xs.take i) : Nat) : Int) + (GContainer.ct x : Nat) ≤ 4611686018427387904 := by omega
  generalize hK : k + ((ctL GContainer.ct (xs.take i) : Nat) : Int) = K at hK0 hK1
  simp only [GContainer.ct] at hK1
  simp only [go_sem, hR, hg, hl, h0, h1]
  refine K8 (C78 x.Script K (by omega) (by omega)) ?_
  have hK1 : 0 ≤ K + (ctL GOp.ct x.Script : Nat) := by omega
  generalize eK1 : K + ((ctL GOp.ct x.Script : Nat) : Int) = K1 at hK1
  simp only [go_sem, hg, hs, hl, hd, h0, h1]
  refine K8 (C92 x.Entries K1 (by omega) (by omega)) ?_
  have hK2 : 0 ≤ K1 + (ctL GEntry.ct x.Entries : Nat) := by omega
  generalize eK2 : K1 + ((ctL GEntry.ct x.Entries : Nat) : Int) = K2 at hK2
  simp only [go_sem, hg, hs, hl, hd, h0, h1]
  refine K8 (C82 x.Captures K2 (by omega) (by omega)) ?_
  have hK3 : 0 ≤ K2 + (ctL GCapture.ct x.Captures : Nat) := by omega
  generalize eK3 : K2 + ((ctL GCapture.ct x.Captures : Nat) : Int) = K3 at hK3
  simp only [go_sem, hw, hg, hs, hl, hd, h0, h1, waK (K := K3 + 1) (K' := K3 + 1) (by omega) (by omega) (by omega)]
  subst eK3
  subst eK2
  subst eK1
  subst hK hAe hBe
  refine ⟨?_, K1s hx⟩
  rw [Kl hx]
  simp only [GContainer.ct]
  omega
 ·intro _
  simp only [go_sem, List.take_length, List.drop_length, List.map_nil, List.append_nil, K9]
def GContainer.mks (x : GContainer) (k : Int) : GContainer := { x with Script := mkL GOp.mkd GOp.ct x.Script (k), Entries := mkL GEntry.mkd GEntry.ct x.Entries (k + (ctL GOp.ct x.Script : Nat)), Captures := mkL GCapture.mkd GCapture.ct x.Captures (k + (ctL GOp.ct x.Script : Nat) + (ctL GEntry.ct x.Entries : Nat)) }
def GContainer.cts (x : GContainer) : Nat := ctL GOp.ct x.Script + ctL GEntry.ct x.Entries + ctL GCapture.ct x.Captures
theorem GContainer.cts_le (x : GContainer) : x.cts ≤ 16 * x.size := by
 simp only [GContainer.cts, GContainer.size]
 have hScript := ctL_le' (c := GOp.ct) (fun y => by simp only [GOp.ct]; omega) x.Script
 have hEntries := ctL_le' (c := GEntry.ct) (fun y => by simp only [GEntry.ct]; omega) x.Entries
 have hCaptures := K3k (c := GCapture.ct) (s := GCapture.size) GCapture.ct_le x.Captures
 omega
@[go_sem] theorem GContainer.mks_len0 (x : GContainer) (k : Int) : ((x.mks k).Script).length = x.Script.length := K9
@[go_sem] theorem GContainer.mks_len1 (x : GContainer) (k : Int) : ((x.mks k).Entries).length = x.Entries.length := K9
@[go_sem] theorem GContainer.mks_len2 (x : GContainer) (k : Int) : ((x.mks k).Captures).length = x.Captures.length := K9
def GFound.mkd (x : GFound) (k : Int) : GFound := ⟨⟨k, (k + 1), (k + 2)⟩, (k + 3), (k + 4), (k + 5)⟩
def GFound.ct (x : GFound) : Nat := 6
def M52 : MC :=
(Zs [.mv 4 (ci 0)] [0,1] (.seq (Zs [.mv 5 (ci 0)] [0,1,5] (.block 0 (.loop ([0,1,5], []) (.seq (Zs [mS 6 5, mS 7 0, nS 8 7, bS 9 .lss 6 8] [0,1,5,9] (cX 9 0))
(.seq (.block 1 (Zs [mS 12 0, mS 13 5, mS 14 1, xS 15 6 12 13, fS 16 15 0, fS 17 16 0, sS 1 17 14] [0,1,5] (Zs [mS 18 1, bC 19 .add 18 1, mS 1 19] [0,1,5] (Zs [mS 20 0, mS 21 5, mS 22 1, xS 23 6 20 21, fS 24 23 0, fS 25 24 1, sS 1 25 22] [0,1,5] (Zs [mS 26 1, bC 27 .add 26 1, mS 1 27] [0,1,5] (Zs [mS 28 0, mS 29 5, mS 30 1, xS 31 6 28 29, fS 32 31 0, fS 33 32 2, sS 1 33 30] [0,1,5] (Zs [mS 34 1, bC 35 .add 34 1, mS 1 35] [0,1,5] (Zs [mS 36 0, mS 37 5, mS 38 1, xS 39 6 36 37, fS 40 39 3, sS 1 40 38] [0,1,5] (Zs [mS 41 1, bC 42 .add 41 1, mS 1 42] [0,1,5] (Zs [mS 43 0, mS 44 5, mS 45 1, xS 46 6 43 44, fS 47 46 4, sS 1 47 45] [0,1,5] (Zs [mS 48 1, bC 49 .add 48 1, mS 1 49] [0,1,5] (Zs [mS 50 0, mS 51 5, mS 52 1, xS 53 6 50 51, fS 54 53 5, sS 1 54 52] [0,1,5] (pr [mS 55 1, bC 56 .add 55 1, mS 1 56] [0,1,5])))))))))))))
(pr [mS 10 5, bC 11 .add 10 1, mS 5 11] [0,1,5]))))))
(Zs [mS 57 1, mS 4 57] [4] .ret)))
theorem C93 (xs : List GFound) (k : Int) (hk : 0 ≤ k) (hN : k + (ctL GFound.ct xs : Nat) ≤ 4611686018427387904) : CtrI Tryz.prog N48 [oL 6 (xs.map GFound.enc), iI k] [some (6, (mkL GFound.mkd GFound.ct xs k).map GFound.enc)] [rI (k + (ctL GFound.ct xs : Nat))] := by
 refine K11 (M := M52) (m := 0) (n := 58) (res := [(.tmp 4, [false])]) hmix Tryz.func172 rfl (by kernel_rfl) rfl (by kernel_rfl) (by kernel_rfl) (Nat.le_of_ble_eq_true rfl) rfl rfl ?_; unfold M52
 intro hb
 have hl := Kw hb
 clear hb
 simp only [go_sem]
 refine K5 xs (fun i => [(1, vI (k + (ctL GFound.ct (xs.take i) : Nat))), (5, vI i)]) (fun i => [(0, ⟨1, .row true 6 ((mkL GFound.mkd GFound.ct (xs.take i) k).map GFound.enc ++ (xs.drop i).map GFound.enc)⟩)]) (fun _ => True) hl ?_
 simp only [go_sem]
 refine ⟨?_, trivial, ?_, ?_⟩
 ·simp only [go_sem, List.take_zero, List.drop_zero, K27, K1v]
  all_goals simp
 ·intro i x hx _ h0 h1 hw
  have hR := K2m (mk := GFound.mkd) (c := GFound.ct) (k := k) (f := GFound.enc) hx
  have hA := K2j (mk := GFound.mkd) (c := GFound.ct) (k := k) (f := GFound.enc) hx
  generalize hAe : (mkL GFound.mkd GFound.ct (xs.take i) k).map GFound.enc = A at hR hA
  generalize hBe : (xs.drop (i + 1)).map GFound.enc = B at hR hA
  obtain ⟨hg, hs, hl, hd⟩ := hA
  have hc := K10 (c := GFound.ct) (i + 1) (l := xs)
  rw [Kl hx] at hc
  have hK0 : 0 ≤ k + ((ctL GFound.ct (xs.take i) : Nat) : Int) := by omega
  have hK1 : k + ((ctL GFound.ct (xs.take i) : Nat) : Int) + (GFound.ct x : Nat) ≤ 4611686018427387904 := by omega
  generalize hK : k + ((ctL GFound.ct (xs.take i) : Nat) : Int) = K at hK0 hK1
  simp only [GFound.ct] at hK1
  simp only [go_sem, hw, hR, hg, hs, hl, h0, h1, waK (K := K + 1) (K' := K + 1) (by omega) (by omega) (by omega), waK (K := K + 1 + 1) (K' := K + 2) (by omega) (by omega) (by omega), waK (K := K + 2 + 1) (K' := K + 3) (by omega) (by omega) (by omega), waK (K := K + 3 + 1) (K' := K + 4) (by omega) (by omega) (by omega), waK (K := K + 4 + 1) (K' := K + 5) (by omega) (by omega) (by omega), waK (K := K + 5 + 1) (K' := K + 6) (by omega) (by omega) (by omega)]
  subst hK hAe hBe
  refine ⟨?_, K1s hx⟩
  rw [Kl hx]
  simp only [GFound.ct]
  omega
 ·intro _
  simp only [go_sem, List.take_length, List.drop_length, List.map_nil, List.append_nil, K9]
def GDisk.mks (x : GDisk) (k : Int) : GDisk := { x with Containers := mkL GContainer.mkd GContainer.ct x.Containers (k), Index := mkL GFound.mkd GFound.ct x.Index (k + (ctL GContainer.ct x.Containers : Nat)), Wanted := mkL GContainer.mkd GContainer.ct x.Wanted (k + (ctL GContainer.ct x.Containers : Nat) + (ctL GFound.ct x.Index : Nat)) }
def GDisk.cts (x : GDisk) : Nat := ctL GContainer.ct x.Containers + ctL GFound.ct x.Index + ctL GContainer.ct x.Wanted
theorem GDisk.cts_le (x : GDisk) : x.cts ≤ 16 * x.size := by
 simp only [GDisk.cts, GDisk.size]
 have hContainers := K3k (c := GContainer.ct) (s := GContainer.size) GContainer.ct_le x.Containers
 have hIndex := ctL_le' (c := GFound.ct) (fun y => by simp only [GFound.ct]; omega) x.Index
 have hWanted := K3k (c := GContainer.ct) (s := GContainer.size) GContainer.ct_le x.Wanted
 omega
@[go_sem] theorem GDisk.mks_len0 (x : GDisk) (k : Int) : ((x.mks k).Containers).length = x.Containers.length := K9
@[go_sem] theorem GDisk.mks_len1 (x : GDisk) (k : Int) : ((x.mks k).Index).length = x.Index.length := K9
@[go_sem] theorem GDisk.mks_len2 (x : GDisk) (k : Int) : ((x.mks k).Wanted).length = x.Wanted.length := K9
def M6s : MC :=
(Zs [.box 2 3 (.s 0), .mv 4 (ci 0)] [1,2] (Zs [fS 5 2 0, lF 6 1 5, mS 7 1, .callI 8 [] (.f N10) [.s 6, .s 7] [0] [], mS 1 8] [1,2] (Zs [fS 9 2 1, lF 10 1 9, mS 11 1, .callI 12 [] (.f N48) [.s 10, .s 11] [1] [], mS 1 12] [1,2] (Zs [fS 13 2 2, lF 14 1 13, mS 15 1, .callI 16 [] (.f N10) [.s 14, .s 15] [2] [], mS 1 16] [1] (Zs [mS 17 1, mS 4 17] [4] .ret)))))
theorem Ca0 (x : GDisk) (k : Int) (hk : 0 ≤ k) (hN : k + (x.cts : Nat) ≤ 4611686018427387904) : CtrI Tryz.prog N6c [oS x.enc, iI k] [some (4, (x.mks k).Containers.map GContainer.enc), some (6, (x.mks k).Index.map GFound.enc), some (4, (x.mks k).Wanted.map GContainer.enc)] [rI (k + (x.cts : Nat))] := by
 refine K11 (M := M6s) (m := 1) (n := 18) (res := [(.tmp 4, [false])]) hmix Tryz.func88 rfl (by kernel_rfl) rfl (by kernel_rfl) (by kernel_rfl) (Nat.le_of_ble_eq_true rfl) rfl rfl ?_; unfold M6s
 intro hb
 clear hb
 simp only [GDisk.cts] at hN ⊢
 simp only [go_sem]
 refine K8 (C1v x.Containers (k) (by omega) (by omega)) ?_
 simp only [go_sem]
 refine K8 (C93 x.Index (k + (ctL GContainer.ct x.Containers : Nat)) (by omega) (by omega)) ?_
 simp only [go_sem]
 refine K8 (C1v x.Wanted (k + (ctL GContainer.ct x.Containers : Nat) + (ctL GFound.ct x.Index : Nat)) (by omega) (by omega)) ?_
 simp only [go_sem]
 all_goals (try omega)
 repeat' (first | rfl | omega | refine And.intro ?_ ?_)
def GArchive.mks (x : GArchive) (k : Int) : GArchive := { x with Site := mkL GVersion.mkd GVersion.ct x.Site (k), Script := mkL GOp.mkd GOp.ct x.Script (k + (ctL GVersion.ct x.Site : Nat)), Disk := x.Disk.mks (k + (ctL GVersion.ct x.Site : Nat) + (ctL GOp.ct x.Script : Nat)), Exclusions := mkL GExclusion.mkd GExclusion.ct x.Exclusions (k + (ctL GVersion.ct x.Site : Nat) + (ctL GOp.ct x.Script : Nat) + (x.Disk.cts : Nat)), Libraries := mkL GLibrary.mkd GLibrary.ct x.Libraries (k + (ctL GVersion.ct x.Site : Nat) + (ctL GOp.ct x.Script : Nat) + (x.Disk.cts : Nat) + (ctL GExclusion.ct x.Exclusions : Nat)), Keys := mkL iMk iCt x.Keys (k + (ctL GVersion.ct x.Site : Nat) + (ctL GOp.ct x.Script : Nat) + (x.Disk.cts : Nat) + (ctL GExclusion.ct x.Exclusions : Nat) + (ctL GLibrary.ct x.Libraries : Nat)), Statements := mkL GStatement.mkd GStatement.ct x.Statements (k + (ctL GVersion.ct x.Site : Nat) + (ctL GOp.ct x.Script : Nat) + (x.Disk.cts : Nat) + (ctL GExclusion.ct x.Exclusions : Nat) + (ctL GLibrary.ct x.Libraries : Nat) + (ctL iCt x.Keys : Nat)) }
def GArchive.cts (x : GArchive) : Nat := ctL GVersion.ct x.Site + ctL GOp.ct x.Script + x.Disk.cts + ctL GExclusion.ct x.Exclusions + ctL GLibrary.ct x.Libraries + ctL iCt x.Keys + ctL GStatement.ct x.Statements
theorem GArchive.cts_le (x : GArchive) : x.cts ≤ 16 * x.size := by
 simp only [GArchive.cts, GArchive.size]
 have hSite := K3k (c := GVersion.ct) (s := GVersion.size) GVersion.ct_le x.Site
 have hScript := ctL_le' (c := GOp.ct) (fun y => by simp only [GOp.ct]; omega) x.Script
 have hDisk := GDisk.cts_le x.Disk
 have hExclusions := ctL_le' (c := GExclusion.ct) (fun y => by simp only [GExclusion.ct]; omega) x.Exclusions
 have hLibraries := K3k (c := GLibrary.ct) (s := GLibrary.size) GLibrary.ct_le x.Libraries
 have hKeys := ctL_le' (c := iCt) (fun y => by simp only [iCt]; omega) x.Keys
 have hStatements := ctL_le' (c := GStatement.ct) (fun y => by simp only [GStatement.ct]; omega) x.Statements
 omega
@[go_sem] theorem GArchive.mks_len0 (x : GArchive) (k : Int) : ((x.mks k).Site).length = x.Site.length := K9
@[go_sem] theorem GArchive.mks_len1 (x : GArchive) (k : Int) : ((x.mks k).Script).length = x.Script.length := K9
@[go_sem] theorem GArchive.mks_len2 (x : GArchive) (k : Int) : ((x.mks k).Disk.Containers).length = x.Disk.Containers.length := K9
@[go_sem] theorem GArchive.mks_len3 (x : GArchive) (k : Int) : ((x.mks k).Disk.Index).length = x.Disk.Index.length := K9
@[go_sem] theorem GArchive.mks_len4 (x : GArchive) (k : Int) : ((x.mks k).Disk.Wanted).length = x.Disk.Wanted.length := K9
@[go_sem] theorem GArchive.mks_len5 (x : GArchive) (k : Int) : ((x.mks k).Exclusions).length = x.Exclusions.length := K9
@[go_sem] theorem GArchive.mks_len6 (x : GArchive) (k : Int) : ((x.mks k).Libraries).length = x.Libraries.length := K9
@[go_sem] theorem GArchive.mks_len7 (x : GArchive) (k : Int) : ((x.mks k).Keys).length = x.Keys.length := K9
@[go_sem] theorem GArchive.mks_len8 (x : GArchive) (k : Int) : ((x.mks k).Statements).length = x.Statements.length := K9
def M3p : MC :=
(Zs [.box 2 9 (.s 0), .mv 4 (ci 0)] [1,2] (Zs [fS 5 2 0, lF 6 1 5, mS 7 1, .callI 8 [] (.f N2a) [.s 6, .s 7] [0] [], mS 1 8] [1,2] (Zs [fS 9 2 1, lF 10 1 9, mS 11 1, .callI 12 [] (.f N32) [.s 10, .s 11] [1] [], mS 1 12] [1,2] (Zs [fS 13 2 2, lT 14 3 13, mS 15 1, .callI 16 [] (.f N6c) [.s 14, .s 15] [2,3,4] [], mS 1 16] [1,2] (Zs [fS 17 2 5, lF 18 1 17, mS 19 1, .callI 20 [] (.f N1q) [.s 18, .s 19] [5] [], mS 1 20] [1,2] (Zs [fS 21 2 6, lF 22 1 21, mS 23 1, .callI 24 [] (.f N2b) [.s 22, .s 23] [6] [], mS 1 24] [1,2] (Zs [fS 25 2 7, lF 26 1 25, mS 27 1, .callI 28 [] (.f N1b) [.s 26, .s 27] [7] [], mS 1 28] [1,2] (Zs [fS 29 2 8, lF 30 1 29, mS 31 1, .callI 32 [] (.f N1r) [.s 30, .s 31] [8] [], mS 1 32] [1] (Zs [mS 33 1, mS 4 33] [4] .ret)))))))))
theorem C8k (x : GArchive) (k : Int) (hk : 0 ≤ k) (hN : k + (x.cts : Nat) ≤ 4611686018427387904) : CtrI Tryz.prog N35 [oS x.enc, iI k] [some (9, (x.mks k).Site.map GVersion.enc), some (4, (x.mks k).Script.map GOp.enc), some (4, (x.mks k).Disk.Containers.map GContainer.enc), some (6, (x.mks k).Disk.Index.map GFound.enc), some (4, (x.mks k).Disk.Wanted.map GContainer.enc), some (5, (x.mks k).Exclusions.map GExclusion.enc), some (4, (x.mks k).Libraries.map GLibrary.enc), some (1, (x.mks k).Keys.map encI), some (4, (x.mks k).Statements.map GStatement.enc)] [rI (k + (x.cts : Nat))] := by
 refine K11 (M := M3p) (m := 1) (n := 34) (res := [(.tmp 4, [false])]) hmix Tryz.func23 rfl (by kernel_rfl) rfl (by kernel_rfl) (by kernel_rfl) (Nat.le_of_ble_eq_true rfl) rfl rfl ?_; unfold M3p
 intro hb
 clear hb
 simp only [GArchive.cts] at hN ⊢
 simp only [go_sem]
 refine K8 (C81 x.Site (k) (by omega) (by omega)) ?_
 simp only [go_sem]
 refine K8 (C78 x.Script (k + (ctL GVersion.ct x.Site : Nat)) (by omega) (by omega)) ?_
 simp only [go_sem]
 refine K8 (Ca0 x.Disk (k + (ctL GVersion.ct x.Site : Nat) + (ctL GOp.ct x.Script : Nat)) (by omega) (by omega)) ?_
 simp only [go_sem]
 refine K8 (C79 x.Exclusions (k + (ctL GVersion.ct x.Site : Nat) + (ctL GOp.ct x.Script : Nat) + (x.Disk.cts : Nat)) (by omega) (by omega)) ?_
 simp only [go_sem]
 refine K8 (C83 x.Libraries (k + (ctL GVersion.ct x.Site : Nat) + (ctL GOp.ct x.Script : Nat) + (x.Disk.cts : Nat) + (ctL GExclusion.ct x.Exclusions : Nat)) (by omega) (by omega)) ?_
 simp only [go_sem]
 refine K8 (C1c x.Keys (k + (ctL GVersion.ct x.Site : Nat) + (ctL GOp.ct x.Script : Nat) + (x.Disk.cts : Nat) + (ctL GExclusion.ct x.Exclusions : Nat) + (ctL GLibrary.ct x.Libraries : Nat)) (by omega) (by omega)) ?_
 simp only [go_sem]
 refine K8 (C7a x.Statements (k + (ctL GVersion.ct x.Site : Nat) + (ctL GOp.ct x.Script : Nat) + (x.Disk.cts : Nat) + (ctL GExclusion.ct x.Exclusions : Nat) + (ctL GLibrary.ct x.Libraries : Nat) + (ctL iCt x.Keys : Nat)) (by omega) (by omega)) ?_
 simp only [go_sem]
 all_goals (try omega)
 repeat' (first | rfl | omega | refine And.intro ?_ ?_)
def GChange.mkd (x : GChange) (k : Int) : GChange := ⟨k, (k + 1)⟩
def GChange.ct (x : GChange) : Nat := 2
def GPlayed.mks (x : GPlayed) (k : Int) : GPlayed := { x with State := x.State.mks (k) }
def GPlayed.cts (x : GPlayed) : Nat := x.State.cts
theorem GPlayed.cts_le (x : GPlayed) : x.cts ≤ 16 * x.size := by
 simp only [GPlayed.cts, GPlayed.size]
 have hState := GState.cts_le x.State
 omega
@[go_sem] theorem GPlayed.mks_len0 (x : GPlayed) (k : Int) : ((x.mks k).State.Regs).length = x.State.Regs.length := K9
@[go_sem] theorem GPlayed.mks_len1 (x : GPlayed) (k : Int) : ((x.mks k).State.Slots).length = x.State.Slots.length := K9
@[go_sem] theorem GPlayed.mks_len2 (x : GPlayed) (k : Int) : ((x.mks k).State.Nodes).length = x.State.Nodes.length := K9
end Go.Proofs.YtgkeplbnnjogiaaGreatR
namespace Go.Proofs.YtgkeplbnnjogiaaGreatR
open Go Go.RowKit Go.Proofs
open Nat (reduceEqDiff reduceLT reduceLeDiff reduceAdd reduceMul)
open List (reduceReplicate)
def M1k : MC :=
(Zs [.nilo 2 0 1] [0] (.seq (.condN 3 4 (.s 0) (Zs [.nilo 2 0 1] [2] .ret) .skip)
(Zs [.lit 5 0 1 8 [], mS 6 0, .app 7 0 1 8 (.s 5) (.s 6), mS 2 7] [2] .ret)))
theorem C8l (xs : List Int) (hs : xs.length ≤ 1073741824) : Ctr Tryz.prog N1i [aL 1 (xs.map encI)] [rL 1 (xs.map encI)] := by
 refine cA M1k 1 8 [(.tmp 2, [true])] Tryz.func185 rfl rfl ?_; unfold M1k
 intro hb
 clear hb
 simp only [go_sem, ↓K2h (f := encI) (fun _ => rfl) xs]
 refine ⟨fun h => ?_, ?_⟩
 ·rw [h]
 ·simp only [roomB]
  first | done | omega | (refine ⟨?_, ?_⟩ <;> first | omega | simp)
end Go.Proofs.YtgkeplbnnjogiaaGreatR
namespace Go.Proofs.YtgkeplbnnjogiaaGreatR
open Go Go.RowKit Go.Proofs
open Nat (reduceEqDiff reduceLT reduceLeDiff reduceAdd reduceMul)
open List (reduceReplicate)
theorem tt {p : Prop} [Decidable p] (h : p) : true = decide p := (decide_eq_true h).symm
theorem K5p {α : Type} {p : α → Bool} {l : List α} {k : Nat} {x : α} (hx : l[k]? = some x) (h : (l.take k).any p = false) (hn : p x = false) : (l.take (k + 1)).any p = false := by
 rw [Ks hx, List.any_append, h]
 simp [hn]
theorem K8z {α : Type} {p : α → Bool} {l : List α} {k : Nat} {x : α} (hx : l[k]? = some x) (hn : p x = true) : l.any p = true := List.any_eq_true.2 ⟨x, K1y hx, hn⟩
def idxF {α : Type} (p : α → Bool) (l : List α) : Int := if l.any p then (l.takeWhile fun x => !p x).length else -1
theorem K7u {α : Type} {p : α → Bool} {l : List α} {k : Nat} {x : α} (hx : l[k]? = some x) (h : (l.take k).any p = false) (hn : p x = true) : idxF p l = k := by
 unfold idxF
 rw [K8z hx hn, if_pos rfl]
 congr 1
 have e : l = l.take k ++ x :: l.drop (k + 1) := K1t hx
 rw [e, List.takeWhile_append_of_pos]
 ·simp [hn]
  have := Ke hx
  omega
 ·intro a ha
  have := List.any_eq_false.1 h a ha
  simpa using this
theorem K7x {α : Type} {p : α → Bool} {l : List α} (h : l.any p = false) : idxF p l = -1 := by
 unfold idxF; rw [h]; rfl
theorem idxF_ge {α : Type} {p : α → Bool} {l : List α} : decide (idxF p l ≥ 0) = l.any p := by
 unfold idxF
 cases l.any p <;> simp
def idxO {α : Type} [DecidableEq α] (n : α) (l : List α) : Int := idxF (fun x => decide (n = x)) l
theorem idxO_ge {α : Type} [DecidableEq α] {n : α} {l : List α} : decide (idxO n l ≥ 0) = decide (n ∈ l) := by
 unfold idxO
 rw [idxF_ge]
 rw [Bool.eq_iff_iff]
 simp
def encS (s : ByteArray) : List T := [tS s]
attribute [go_sem] encS
abbrev aStr (s : ByteArray) : Bool × List T := (false, [tS s])
attribute [go_sem] aStr
def Me : MC :=
(Zs [.box 3 0 (.s 1), .mv 4 (ci 0)] [0,3] (.seq (Zs [mS 6 0, nS 7 6, .mv 8 (ci 0)] [0,3,7,8] (.block 0 (.loop ([0,3,7,8], []) (Zs [bS 9 .lss 8 7] [0,3,7,8,9] (.seq (cX 9 0)
(.seq (.block 1 (Zs [mS 10 8, mS 5 10] [0,3,5,7,8] (.seq (.dreg [Zc [12,13,14,15] (lT 11 3 3), Zc [11,13] (mS 12 0), Zc [11,12] (mS 13 5), Zd [11] [1,2] (xS 14 3 12 13), Zd [11] [1,2,3] (lT 15 3 14), Ze (.range 5) (.eqA 16 false [.i .i64, .i .i64, .i .i64] (.s 11) (.s 15))] [0,3,5,7,8,16])
(.cond (.s 16) (Zs [mS 17 5, mS 4 17] [4] .ret) .skip))))
(pr [bC 18 .add 8 1, mS 8 18] [0,3,7,8])))))))
(Zs [.mv 4 (.c (.int .i64 (-1)))] [4] .ret)))
theorem C6w (xs : List GAddress) (n : GAddress) : Ctr Tryz.prog Nd [aL 3 (xs.map GAddress.enc), aS (GAddress.enc n)] [rI (idxO n xs)] := by
 refine cA Me 1 19 [(.tmp 4, [false])] Tryz.func168 rfl rfl ?_; unfold Me
 intro hb
 simp only [bdA, bdL, bdT, Kj, roomB, and_true, List.length_map] at hb
 obtain ⟨⟨hl, -⟩, -⟩ := hb
 simp only [go_sem]
 refine K5 xs (fun k => [(8, vI k)]) (fun k => []) (fun k => (xs.take k).any (fun x => decide (n = x)) = false) hl ?_
 simp only [go_sem]
 refine ⟨?_, by simp, ?_, ?_⟩
 ·simp only [go_sem]
 ·intro k x hx h h0 h1 hw
  simp only [go_sem, K7 hx, h0, h1, hw, eqB]
  exact ⟨fun hn => (K7u hx h (decide_eq_true (by exact GAddress.eqv.2 (by simpa using hn)))).symm, fun hn => K5p hx h (decide_eq_false (by rintro rfl; simp at hn))⟩
 ·intro h
  simp only [go_sem]
  rw [List.take_length] at h
  exact (K7x h).symm
def Mc : MC :=
(Zs [.box 3 0 (.s 1), .mv 4 cF] [0,3] (Zs [mS 5 0, lT 6 3 3, .call 7 [] (.f Nd) [.s 5, .s 6], bC 8 .geq 7 0, mS 4 8] [4] .ret))
theorem C59 (xs : List GAddress) (n : GAddress) : Ctr Tryz.prog Na [aL 3 (xs.map GAddress.enc), aS (GAddress.enc n)] [rB (decide (n ∈ xs))] := by
 refine cA Mc 1 9 [(.tmp 4, [false])] Tryz.func81 rfl rfl ?_; unfold Mc
 intro hb
 clear hb
 simp only [go_sem]
 refine K0 (C6w xs n) ?_
 simp only [go_sem]
 intros
 exact idxO_ge
def M7 : MC :=
(Zs [.mv 4 (ci 0)] [0,1] (.seq (Zs [mS 6 0, nS 7 6, .mv 8 (ci 0)] [0,1,7,8] (.block 0 (.loop ([0,1,7,8], []) (Zs [bS 9 .lss 8 7] [0,1,7,8,9] (.seq (cX 9 0)
(.seq (.block 1 (Zs [mS 10 8, mS 5 10] [0,1,5,7,8] (Zs [mS 11 1, mS 12 0, mS 13 5, xS 14 5 12 13, lT 15 5 14, .call 16 [] (.s 11) [.s 15]] [0,1,5,7,8,16] (.cond (.s 16) (Zs [mS 17 5, mS 4 17] [4] .ret) .skip))))
(pr [bC 18 .add 8 1, mS 8 18] [0,1,7,8])))))))
(Zs [.mv 4 (.c (.int .i64 (-1)))] [4] .ret)))
theorem C33 (xs : List GExclusion) (f : FuncId) (cs : List T) (p : GExclusion → Bool) (hp : ∀ x, x ∈ xs → Ctr Tryz.prog f (aS (GExclusion.enc x) :: cs.map (fun t => (false, [t]))) [rB (p x)]) : Ctr Tryz.prog N6 [aL 5 (xs.map GExclusion.enc), (false, [.fn f cs])] [rI (idxF p xs)] := by
 refine cA M7 0 19 [(.tmp 4, [false])] Tryz.func375 rfl rfl ?_; unfold M7
 intro hb
 simp only [bdA, bdL, bdT, Kj, roomB, and_true, List.length_map] at hb
 obtain ⟨⟨hl, -⟩, -⟩ := hb
 simp only [go_sem]
 refine K5 xs (fun k => [(8, vI k)]) (fun k => []) (fun k => (xs.take k).any p = false) hl ?_
 simp only [go_sem]
 refine ⟨?_, by simp, ?_, ?_⟩
 ·simp only [go_sem]
 ·intro k x hx h h0 h1 hw
  simp only [go_sem, K7 hx, h0, h1]
  refine K0 (hp x (K1y hx)) ?_
  simp only [go_sem, hw]
  exact ⟨fun hn => (K7u hx h hn).symm, fun hn => K5p hx h hn⟩
 ·intro h
  simp only [go_sem]
  rw [List.take_length] at h
  rw [K7x h]
def M5 : MC :=
(Zs [.mv 4 cF] [0,1] (Zs [mS 5 0, mS 6 1, .call 7 [] (.f N6) [.s 5, .s 6], bC 8 .geq 7 0, mS 4 8] [4] .ret))
theorem C1y (xs : List GExclusion) (f : FuncId) (cs : List T) (p : GExclusion → Bool) (hp : ∀ x, x ∈ xs → Ctr Tryz.prog f (aS (GExclusion.enc x) :: cs.map (fun t => (false, [t]))) [rB (p x)]) : Ctr Tryz.prog N4 [aL 5 (xs.map GExclusion.enc), (false, [.fn f cs])] [rB (xs.any p)] := by
 refine cA M5 0 9 [(.tmp 4, [false])] Tryz.func277 rfl rfl ?_; unfold M5
 intro hb
 clear hb
 simp only [go_sem]
 refine K0 (C33 xs f cs p hp) ?_
 simp only [go_sem]
 intros
 exact idxF_ge
def Mj : MC :=
(Zs [.mv 4 cF] [0,1] (.seq (Zs [mS 6 0, nS 7 6, mS 8 1, nS 9 8, bS 10 .neq 7 9] [0,1,10] (.cond (.s 10) (Zs [.mv 4 cF] [4] .ret) .skip))
(.seq (Zs [mS 11 0, nS 12 11, .mv 13 (ci 0)] [0,1,12,13] (.block 0 (.loop ([0,1,12,13], []) (Zs [bS 14 .lss 13 12] [0,1,12,13,14] (.seq (cX 14 0)
(.seq (.block 1 (Zs [mS 15 13, mS 5 15] [0,1,5,12,13] (.seq (.dreg [Zc [17,20,21,22,23] (mS 16 0), Zc [16,20,21,22,23] (mS 17 5), Zd [20,21,22,23] [0,1] (xS 18 6 16 17), Zd [20,21,22,23] [0,1,2] (lT 19 6 18), Zc [16,17,18,19,21] (mS 20 1), Zc [16,17,18,19,20] (mS 21 5), Zd [16,17,18,19] [4,5] (xS 22 6 20 21), Zd [16,17,18,19] [4,5,6] (lT 23 6 22), Ze (.range 8) (.eqA 24 true [.i .i64, .i .i64, .i .i64, .i .i64, .i .i64, .i .i64] (.s 19) (.s 23))] [0,1,12,13,24])
(.cond (.s 24) (Zs [.mv 4 cF] [4] .ret) .skip))))
(pr [bC 25 .add 13 1, mS 13 25] [0,1,12,13])))))))
(Zs [.mv 4 cT] [4] .ret))))
theorem C7h (xs ys : List GFound) : Ctr Tryz.prog Ni [aL 6 (xs.map GFound.enc), aL 6 (ys.map GFound.enc)] [rB (decide (xs = ys))] := by
 refine cA Mj 0 26 [(.tmp 4, [false])] Tryz.func297 rfl rfl ?_; unfold Mj
 intro hb
 simp only [bdA, bdL, bdT, Kj, roomB, and_true, List.length_map] at hb
 obtain ⟨⟨hl, -⟩, ⟨hl2, -⟩⟩ := hb
 simp only [go_sem]
 refine ⟨fun h => K26 h, fun h => ?_⟩
 have hle : xs.length = ys.length := by omega
 refine K5 xs (fun k => [(13, vI k)]) (fun k => []) (fun k => xs.take k = ys.take k) hl ?_
 simp only [go_sem]
 refine ⟨?_, rfl, ?_, ?_⟩
 ·simp only [go_sem]
 ·intro k x hx he h0 h1 hw
  obtain ⟨y, hy⟩ := Ki (show k < ys.length by omega)
  have h2 : (k : Int) < ys.length := by omega
  simp only [go_sem, K7 hx, K7 hy, h0, h1, h2, hw, eqB]
  exact ⟨fun hn => K2q hx hy (by rintro rfl; simp at hn), fun hn => (Ku hx hy he).2 (by exact GFound.eqv.2 (by simpa using hn))⟩
 ·intro he
  simp only [go_sem]
  exact K29 he hle
end Go.Proofs.YtgkeplbnnjogiaaGreatR
namespace Go.Proofs.YtgkeplbnnjogiaaGreatR
open Go Go.RowKit Go.Proofs
open Nat (reduceEqDiff reduceLT reduceLeDiff reduceAdd reduceMul)
open List (reduceReplicate)
attribute [go_sem] eqB
def M9c : MC :=
(Zs [.mv 6 cF] [0,1,2] (.seq (.reg [Za (mS 7 0), Za (mS 8 1), Za (bS 9 .geq 7 8), Za (mS 10 9), Zb 10 true (mS 11 0), Zb 10 true (mS 12 2), Zb 10 true (bS 13 .leq 11 12), Za (.pick 14 (.s 10) (.s 13) cF), Za (mS 6 14)] [6])
.ret))
theorem C9d (x a b : Int) : Ctr Tryz.prog Nx [aI x, aI a, aI b] [rB (decide (a ≤ x ∧ x ≤ b))] := by
 refine cA M9c 0 15 [(.tmp 6, [false])] Tryz.func57 rfl rfl ?_; unfold M9c
 intro hb
 clear hb
 simp only [go_sem]
 exact ⟨fun h => by simp [h], fun h => by simp; omega⟩
def M7b : MC :=
(Zs [.mv 6 cF] [0,1,2] (.seq (.reg [Za (mS 7 1), Za (mS 8 0), Za (bS 9 .leq 7 8), Za (mS 10 9), Zb 10 true (mS 11 0), Zb 10 true (mS 12 2), Zb 10 true (bS 13 .leq 11 12), Za (.pick 14 (.s 10) (.s 13) cF), Za (mS 6 14)] [6])
.ret))
theorem C7c (x a b : Int) : Ctr Tryz.prog Ns [aI x, aI a, aI b] [rB (decide (a ≤ x ∧ x ≤ b))] := by
 refine cA M7b 0 15 [(.tmp 6, [false])] Tryz.func67 rfl rfl ?_; unfold M7b
 intro hb
 clear hb
 simp only [go_sem]
 exact ⟨fun h => by simp [h], fun h => by simp; omega⟩
end Go.Proofs.YtgkeplbnnjogiaaGreatR
namespace Go.Proofs.YtgkeplbnnjogiaaGreatR
open Go Go.RowKit Go.Proofs
open Nat (reduceEqDiff reduceLT reduceLeDiff reduceAdd reduceMul)
open List (reduceReplicate)
def M2y : MC :=
(Zs [.box 1 0 (.s 0), .alloc 2 1 [pz, .emp 1, pz, pz, pz]] [1,2] (Zs [fS 3 1 1, lF 4 1 3, .call 5 [2] (.f N1i) [.s 4], fS 6 1 1, sS 1 6 5] [1,2] (Zs [lT 7 5 1, sS 5 2 7] [2] .ret)))
theorem C84 (r : GResource) (hs : r.Body.length ≤ 1073741824) : Ctr Tryz.prog N2d [aS r.enc] [rS r.enc] := by
 refine cA M2y 3 8 [(.cell 2 true 5, [false, true, false, false, false])] Tryz.func218 rfl rfl ?_; unfold M2y
 intro hb
 clear hb
 simp only [go_sem]
 refine K0 (C8l r.Body hs) ?_
 simp only [go_sem]
 try intros
 try trivial
def M7t : MC :=
(Zs [.box 1 0 (.s 0), .alloc 2 1 [pz, .emp 1, pz, pz, pz]] [1,2] (.seq (.dreg [Zf [5,6,7,8,9,10] [2] (fS 3 1 0), Zg [5,6,7,8,9,10] [2] [0] (lF 4 1 3), { o := .lit 5 2 1 8 [], hs := [3,4,6,7,9,10], ws := [2] }, Zf [3,4,5,9,10] [2] (fS 6 1 1), Zg [3,4,5,9,10] [2] [3] (lF 7 1 6), { o := .app 8 2 1 8 (.s 5) (.s 7), hs := [3,4,9,10], ws := [2], bf := [2,3,4] }, Zf [3,4,5,6,7,8] [2] (fS 9 1 2), Zg [3,4,5,6,7,8] [2] [6] (lT 10 3 9), Ze (.range 8) (.build 11 [pz, .emp 1, pz, pz, pz] [(0, 1, .s 4), (1, 1, .s 8), (2, 3, .s 10)]), { o := sS 5 2 11, ws := [1,2], bf := (.range 9) }] [2])
.ret))
theorem Cad (r : GResource) (hs : r.Body.length ≤ 1073741824) : Ctr Tryz.prog N7m [aS r.enc] [rS r.enc] := by
 refine cA M7t 3 12 [(.cell 2 true 5, [false, true, false, false, false])] Tryz.func211 rfl rfl ?_; unfold M7t
 intro hb
 clear hb
 simp only [go_sem, ↓K2h (f := encI) (fun _ => rfl) r.Body]
 simp only [roomB]
 omega
def M2z : MC :=
(Zs [.nilo 2 0 9] [0] (Zs [.nilo 3 0 9] [0,3] (.seq (Zs [mS 6 0, nS 7 6, .mv 8 (ci 0)] [3,6,7,8] (.block 0 (.loop ([3,6,7,8], [1,2,3]) (Zs [bS 9 .lss 8 7] [3,6,7,8,9] (.seq (cX 9 0)
(.seq (.block 1 (Zs [xS 10 9 6 8, lT 11 9 10, .alloc 5 1 [pz, pz, pz, pz, pz, .emp 1, pz, pz, pz], sS 9 5 11] [3,5,6,7,8] (.dreg [Zf [13,14,15,16,17,18,19,20,21] [2,3] (mS 12 3), Zf [12,15,16,17,18,19] [2] (fS 13 5 0), Zg [12,15,16,17,18,19] [2] [1] (lT 14 3 13), Zf [12,13,14,17,18,19] [2] (fS 15 5 3), Zg [12,13,14,17,18,19] [2] [3] (lF 16 1 15), Zc [12,13,14,15,16] (fS 17 5 4), Zd [12,13,14,15,16] [5] (lT 18 5 17), { o := .call 19 [2] (.f N2d) [.s 18], hs := [12,13,14,15,16], ws := [2], bf := [5,6] }, Zd [12] [1,2,3,4,5,6,7] (.build 20 [pz, pz, pz, pz, pz, .emp 1, pz, pz, pz] [(0, 3, .s 14), (3, 1, .s 16), (4, 5, .s 19)]), { o := .lit 21 3 9 88 [.s 20], hs := [12], ws := [2,3], bf := [1,2,3,4,5,6,7,8] }, { o := .app 22 0 9 88 (.s 12) (.s 21), ws := [0,3], bf := (.range 10) }, Ze (.range 11) (mS 3 22)] [3,6,7,8])))
(pr [bC 23 .add 8 1, mS 8 23] [3,6,7,8])))))))
(Zs [mS 24 3, mS 2 24] [2] .ret))))
theorem Cw (xs : List GCapture) (hs : xs.length + (xs.map GCapture.size).sum ≤ 1073741824) : Ctr Tryz.prog N1a [aL 9 (xs.map GCapture.enc)] [rL 9 (xs.map GCapture.enc)] := by
 refine cA M2z 4 25 [(.tmp 2, [true])] Tryz.func212 rfl rfl ?_; unfold M2z
 intro hb
 clear hb
 simp only [go_sem]
 refine K5 xs (fun k => [(3, .val false [.ref 0 0 9 0 (xs.take k).length]), (8, vI k)]) (fun k => [(0, ⟨0, .row true 9 ((xs.take k).map GCapture.enc)⟩)]) (fun _ => True) (by simp only [roomB]; omega) ?_
 simp only [go_sem]
 refine ⟨?_, trivial, ?_, ?_⟩
 ·simp only [go_sem, List.take_zero]
 ·intro k x hx _ h0 h1 hw
  have hk : k < xs.length := by omega
  have hlt := List.length_take_le k xs
  have hx1 := K2e (f := GCapture.size) (K1y hx)
  simp only [go_sem, K7 hx, h0, h1]
  refine K0 (C84 x.Resource (by simp only [GCapture.size, GResource.size] at hx1; omega)) ?_
  simp only [go_sem, hw]
  simp only [roomB]
  exact ⟨by omega, by omega, fun _ => ⟨K9c hx, K8v hx⟩⟩
 ·intro _
  simp only [go_sem, List.take_length]
def M7d : MC :=
(Zs [.nilo 2 0 9] [0] (Zs [.lit 5 0 9 88 [], mS 3 5] [0,3] (.seq (Zs [.mv 4 (ci 0)] [0,3,4] (.block 0 (.loop ([0,3,4], [1,2]) (.seq (Zs [mS 6 4, mS 7 0, nS 8 7, bS 9 .lss 6 8] [0,3,4,9] (cX 9 0))
(.seq (.block 1 (.dreg [Zf [13,14,15,16,17,18,19,20,21,22,23,24,25,26,27,28,29,30] [1,2] (mS 12 3), Zf [12,14,18,19,20,21,22,23,24,25,26,27,28] [1] (mS 13 0), Zf [12,13,18,19,20,21,22,23,24,25,26,27,28] [1] (mS 14 4), Zg [12,18,19,20,21,22,23,24,25,26,27,28] [1] [1,2] (xS 15 9 13 14), Zg [12,18,19,20,21,22,23,24,25,26,27,28] [1] [1,2,3] (fS 16 15 0), Zg [12,18,19,20,21,22,23,24,25,26,27,28] [1] [1,2,3,4] (lT 17 3 16), Zf [12,13,14,15,16,17,19,23,24,25,26,27,28] [1] (mS 18 0), Zf [12,13,14,15,16,17,18,23,24,25,26,27,28] [1] (mS 19 4), Zg [12,13,14,15,16,17,23,24,25,26,27,28] [1] [6,7] (xS 20 9 18 19), Zg [12,13,14,15,16,17,23,24,25,26,27,28] [1] [6,7,8] (fS 21 20 3), Zg [12,13,14,15,16,17,23,24,25,26,27,28] [1] [6,7,8,9] (lF 22 1 21), Zc [12,13,14,15,16,17,18,19,20,21,22,24] (mS 23 0), Zc [12,13,14,15,16,17,18,19,20,21,22,23] (mS 24 4), Zd [12,13,14,15,16,17,18,19,20,21,22] [11,12] (xS 25 9 23 24), Zd [12,13,14,15,16,17,18,19,20,21,22] [11,12,13] (fS 26 25 4), Zd [12,13,14,15,16,17,18,19,20,21,22] [11,12,13,14] (lT 27 5 26), { o := .call 28 [1] (.f N7m) [.s 27], hs := [12,13,14,15,16,17,18,19,20,21,22], ws := [1], bf := [11,12,13,14,15] }, Zd [12] [1,2,3,4,5,6,7,8,9,10,11,12,13,14,15,16] (.build 29 [pz, pz, pz, pz, pz, .emp 1, pz, pz, pz] [(0, 3, .s 17), (3, 1, .s 22), (4, 5, .s 28)]), { o := .lit 30 2 9 88 [.s 29], hs := [12], ws := [1,2], bf := [1,2,3,4,5,6,7,8,9,10,11,12,13,14,15,16,17] }, { o := .app 31 0 9 88 (.s 12) (.s 30), ws := [0,2], bf := (.range 19) }, Ze (.range 20) (mS 3 31)] [0,3,4]))
(pr [mS 10 4, bC 11 .add 10 1, mS 4 11] [0,3,4]))))))
(Zs [mS 32 3, mS 2 32] [2] .ret))))
theorem C11 (xs : List GCapture) (hs : xs.length + (xs.map GCapture.size).sum ≤ 1073741824) : Ctr Tryz.prog N1g [aL 9 (xs.map GCapture.enc)] [rL 9 (xs.map GCapture.enc)] := by
 refine cA M7d 3 33 [(.tmp 2, [true])] Tryz.func166 rfl rfl ?_; unfold M7d
 intro hb
 clear hb
 simp only [go_sem]
 refine K5 xs (fun k => [(3, .val false [.ref 0 0 9 0 (xs.take k).length]), (4, vI k)]) (fun k => [(0, ⟨0, .row true 9 ((xs.take k).map GCapture.enc)⟩)]) (fun _ => True) (by simp only [roomB]; omega) ?_
 simp only [go_sem]
 refine ⟨?_, trivial, ?_, ?_⟩
 ·simp only [go_sem, List.take_zero]
 ·intro k x hx _ h0 h1 hw
  have hk : k < xs.length := by omega
  have hlt := List.length_take_le k xs
  have hx1 := K2e (f := GCapture.size) (K1y hx)
  simp only [go_sem, K7 hx, h0, h1]
  refine K0 (Cad x.Resource (by simp only [GCapture.size, GResource.size] at hx1; omega)) ?_
  simp only [go_sem, hw]
  simp only [roomB]
  exact ⟨by omega, by omega, fun _ => ⟨K9c hx, K8v hx⟩⟩
 ·intro _
  simp only [go_sem, List.take_length]
end Go.Proofs.YtgkeplbnnjogiaaGreatR
namespace Go.Proofs.YtgkeplbnnjogiaaGreatR
open Go Go.RowKit Go.Proofs
open Nat (reduceEqDiff reduceLT reduceLeDiff reduceAdd reduceMul)
open List (reduceReplicate)
def K3a (x : GExclusion) : Bool := decide ((1 ≤ x.Host ∧ x.Host ≤ 9) ∧ (-1 ≤ x.Path ∧ x.Path ≤ 99) ∧ (0 ≤ x.From ∧ x.From ≤ x.Until) ∧ x.Until ≤ 2000 ∧ (0 ≤ x.Asked ∧ x.Asked ≤ 2000))
def M3q : MC :=
(Zs [.box 1 0 (.s 0), .mv 2 cF] [1] (.seq (.reg [Za (fS 3 1 0), Za (lF 4 1 3), Za (.call 5 [] (.f Ns) [.s 4, .c (.int .i64 1), .c (.int .i64 9)]), Za (mS 6 5), Zb 6 true (fS 7 1 1), Zb 6 true (lF 8 1 7), Zb 6 true (.call 9 [] (.f Ns) [.s 8, .c (.int .i64 (-1)), .c (.int .i64 99)]), Za (.pick 10 (.s 6) (.s 9) cF), Za (mS 11 10), Zb 11 true (fS 12 1 2), Zb 11 true (lF 13 1 12), Zb 11 true (fS 14 1 3), Zb 11 true (lF 15 1 14), Zb 11 true (.call 16 [] (.f Ns) [.s 13, .c (.int .i64 0), .s 15]), Za (.pick 17 (.s 11) (.s 16) cF), Za (mS 18 17), Zb 18 true (fS 19 1 3), Zb 18 true (lF 20 1 19), Zb 18 true (bC 21 .leq 20 2000), Za (.pick 22 (.s 18) (.s 21) cF), Za (mS 23 22), Zb 23 true (fS 24 1 4), Zb 23 true (lF 25 1 24), Zb 23 true (.call 26 [] (.f Ns) [.s 25, .c (.int .i64 0), .c (.int .i64 2000)]), Za (.pick 27 (.s 23) (.s 26) cF), Za (mS 2 27)] [2])
.ret))
theorem C8m (x : GExclusion) : Ctr Tryz.prog N3g [aS x.enc] [rB (K3a x)] := by
 refine cA M3q 1 28 [(.tmp 2, [false])] Tryz.func420 rfl rfl ?_; unfold M3q
 intro hb
 clear hb
 simp only [go_sem]
 repeat' first
  | (refine And.intro ?_ ?_ <;> intro h)
  | (apply K0 (C7c _ _ _); simp only [go_sem])
 all_goals (unfold K3a; first | (symm; rw [decide_eq_false_iff_not]; omega) | (rw [Bool.eq_iff_iff]; simp only [decide_eq_true_eq]; omega))
def M3r : MC :=
(Zs [.box 1 0 (.s 0), .mv 2 cF] [1] (.seq (.reg [Za (fS 3 1 0), Za (lF 4 1 3), Za (.call 5 [] (.f Nx) [.s 4, .c (.int .i64 1), .c (.int .i64 9)]), Za (mS 6 5), Zb 6 true (fS 7 1 1), Zb 6 true (lF 8 1 7), Zb 6 true (.call 9 [] (.f Nx) [.s 8, .c (.int .i64 (-1)), .c (.int .i64 99)]), Za (.pick 10 (.s 6) (.s 9) cF), Za (mS 11 10), Zb 11 true (fS 12 1 2), Zb 11 true (lF 13 1 12), Zb 11 true (.call 14 [] (.f Nx) [.s 13, .c (.int .i64 0), .c (.int .i64 2000)]), Za (.pick 15 (.s 11) (.s 14) cF), Za (mS 16 15), Zb 16 true (fS 17 1 3), Zb 16 true (lF 18 1 17), Zb 16 true (fS 19 1 2), Zb 16 true (lF 20 1 19), Zb 16 true (.call 21 [] (.f Nx) [.s 18, .s 20, .c (.int .i64 2000)]), Za (.pick 22 (.s 16) (.s 21) cF), Za (mS 23 22), Zb 23 true (fS 24 1 4), Zb 23 true (lF 25 1 24), Zb 23 true (.call 26 [] (.f Nx) [.s 25, .c (.int .i64 0), .c (.int .i64 2000)]), Za (.pick 27 (.s 23) (.s 26) cF), Za (mS 2 27)] [2])
.ret))
theorem C8n (x : GExclusion) : Ctr Tryz.prog N3h [aS x.enc] [rB (K3a x)] := by
 refine cA M3r 1 28 [(.tmp 2, [false])] Tryz.func431 rfl rfl ?_; unfold M3r
 intro hb
 clear hb
 simp only [go_sem]
 repeat' first
  | (refine And.intro ?_ ?_ <;> intro h)
  | (apply K0 (C9d _ _ _); simp only [go_sem])
 all_goals (unfold K3a; first | (symm; rw [decide_eq_false_iff_not]; omega) | (rw [Bool.eq_iff_iff]; simp only [decide_eq_true_eq]; omega))
def hidesB (x : GExclusion) (c : GCapture) : Bool := K3a x && decide (c.Address.Host = x.Host ∧ (x.Path = -1 ∨ c.Address.Path = x.Path) ∧ x.From ≤ c.Tick ∧ c.Tick ≤ x.Until)
def K2i (x : GExclusion) (c : GCapture) (now : Int) : Bool := decide (x.Asked ≤ now) && hidesB x c
def M1l : MC :=
(Zs [.box 2 0 (.s 0), .box 3 1 (.s 1), .mv 4 cF] [2,3] (.seq (.reg [Za (lT 5 5 2), Za (.call 6 [] (.f N3g) [.s 5]), Za (mS 7 6), Zb 7 true (fS 8 3 0), Zb 7 true (fS 9 8 0), Zb 7 true (lF 10 1 9), Zb 7 true (fS 11 2 0), Zb 7 true (lF 12 1 11), Zb 7 true (bS 13 .eql 10 12), Za (.pick 14 (.s 7) (.s 13) cF), Za (mS 15 14), Zb 15 true (fS 16 2 1), Zb 15 true (lF 17 1 16), Zb 15 true (.bin 18 false .eql (.s 17) (.c (.int .i64 (-1)))), Zb 15 true (mS 19 18), Zb 19 false (fS 20 3 0), Zb 19 false (fS 21 20 1), Zb 19 false (lF 22 1 21), Zb 19 false (fS 23 2 1), Zb 19 false (lF 24 1 23), Zb 19 false (bS 25 .eql 22 24), Zb 15 true (.pick 26 (.s 19) cT (.s 25)), Za (.pick 27 (.s 15) (.s 26) cF), Za (mS 28 27), Zb 28 true (fS 29 3 3), Zb 28 true (lF 30 1 29), Zb 28 true (fS 31 2 2), Zb 28 true (lF 32 1 31), Zb 28 true (fS 33 2 3), Zb 28 true (lF 34 1 33), Zb 28 true (.call 35 [] (.f Ns) [.s 30, .s 32, .s 34]), Za (.pick 36 (.s 28) (.s 35) cF), Za (mS 4 36)] [4])
.ret))
theorem Caf (x : GExclusion) (c : GCapture) : Ctr Tryz.prog N1j [aS x.enc, aS c.enc] [rB (hidesB x c)] := by
 refine cA M1l 2 37 [(.tmp 4, [false])] Tryz.func376 rfl rfl ?_; unfold M1l
 intro hb
 clear hb
 simp only [go_sem]
 repeat' first
  | (refine And.intro ?_ ?_ <;> intro h)
  | (apply K0 (C8m _); simp only [go_sem])
  | (apply K0 (C7c _ _ _); simp only [go_sem])
 all_goals (unfold hidesB; first | (rw [‹K3a x = false›]; rfl) | (rw [‹K3a x = true›, Bool.true_and]; first | (symm; rw [decide_eq_false_iff_not]; omega) | (rw [Bool.eq_iff_iff]; simp only [decide_eq_true_eq]; omega)))
def M6t : MC :=
(Zs [.box 2 0 (.s 0), .box 3 1 (.s 1), .mv 4 cF] [2,3] (.seq (.reg [Za (lT 5 5 2), Za (.call 6 [] (.f N3h) [.s 5]), Za (mS 7 6), Zb 7 true (fS 8 2 0), Zb 7 true (lF 9 1 8), Zb 7 true (fS 10 3 0), Zb 7 true (fS 11 10 0), Zb 7 true (lF 12 1 11), Zb 7 true (bS 13 .eql 9 12), Za (.pick 14 (.s 7) (.s 13) cF), Za (mS 15 14), Zb 15 true (fS 16 2 1), Zb 15 true (lF 17 1 16), Zb 15 true (.bin 18 false .eql (.s 17) (.c (.int .i64 (-1)))), Zb 15 true (mS 19 18), Zb 19 false (fS 20 2 1), Zb 19 false (lF 21 1 20), Zb 19 false (fS 22 3 0), Zb 19 false (fS 23 22 1), Zb 19 false (lF 24 1 23), Zb 19 false (bS 25 .eql 21 24), Zb 15 true (.pick 26 (.s 19) cT (.s 25)), Za (.pick 27 (.s 15) (.s 26) cF), Za (mS 28 27), Zb 28 true (fS 29 3 3), Zb 28 true (lF 30 1 29), Zb 28 true (fS 31 2 2), Zb 28 true (lF 32 1 31), Zb 28 true (fS 33 2 3), Zb 28 true (lF 34 1 33), Zb 28 true (.call 35 [] (.f Nx) [.s 30, .s 32, .s 34]), Za (.pick 36 (.s 28) (.s 35) cF), Za (mS 4 36)] [4])
.ret))
theorem Ca1 (x : GExclusion) (c : GCapture) : Ctr Tryz.prog N6k [aS x.enc, aS c.enc] [rB (hidesB x c)] := by
 refine cA M6t 2 37 [(.tmp 4, [false])] Tryz.func419 rfl rfl ?_; unfold M6t
 intro hb
 clear hb
 simp only [go_sem]
 repeat' first
  | (refine And.intro ?_ ?_ <;> intro h)
  | (apply K0 (C8n _); simp only [go_sem])
  | (apply K0 (C9d _ _ _); simp only [go_sem])
 all_goals (unfold hidesB; first | (rw [‹K3a x = false›]; rfl) | (rw [‹K3a x = true›, Bool.true_and]; first | (symm; rw [decide_eq_false_iff_not]; omega) | (rw [Bool.eq_iff_iff]; simp only [decide_eq_true_eq]; omega)))
def M53 : MC :=
(Zs [.box 3 0 (.s 0), .box 4 1 (.s 1), .mv 6 cF] [2,3,4] (.seq (.reg [Za (mS 7 2), Za (fS 8 3 4), Za (lF 9 1 8), Za (bS 10 .geq 7 9), Za (mS 11 10), Zb 11 true (lT 12 5 3), Zb 11 true (lT 13 9 4), Zb 11 true (.call 14 [] (.f N1j) [.s 12, .s 13]), Za (.pick 15 (.s 11) (.s 14) cF), Za (mS 6 15)] [6])
.ret))
theorem C94 (x : GExclusion) (c : GCapture) (now : Int) : Ctr Tryz.prog N4e [aS x.enc, aS c.enc, aI now] [rB (K2i x c now)] := by
 refine cA M53 2 16 [(.tmp 6, [false])] Tryz.func279 rfl rfl ?_; unfold M53
 intro hb
 clear hb
 simp only [go_sem]
 repeat' first
  | (refine And.intro ?_ ?_ <;> intro h)
  | (apply K0 (Caf _ _); simp only [go_sem])
 all_goals (unfold K2i; first | (rw [‹hidesB x c = false›]; simp) | (simp; done) | (simp_all; done) | (intros; omega) | (simp_all; intros; omega))
def M54 : MC :=
(Zs [.box 3 0 (.s 0), .box 4 1 (.s 1), .mv 6 cF] [2,3,4] (.seq (.reg [Za (lT 7 5 3), Za (lT 8 9 4), Za (.call 9 [] (.f N6k) [.s 7, .s 8]), Za (mS 10 9), Zb 10 true (mS 11 2), Zb 10 true (fS 12 3 4), Zb 10 true (lF 13 1 12), Zb 10 true (bS 14 .geq 11 13), Za (.pick 15 (.s 10) (.s 14) cF), Za (mS 6 15)] [6])
.ret))
theorem C95 (x : GExclusion) (c : GCapture) (now : Int) : Ctr Tryz.prog N4k [aS x.enc, aS c.enc, aI now] [rB (K2i x c now)] := by
 refine cA M54 2 16 [(.tmp 6, [false])] Tryz.func374 rfl rfl ?_; unfold M54
 intro hb
 clear hb
 simp only [go_sem]
 repeat' first
  | (refine And.intro ?_ ?_ <;> intro h)
  | (apply K0 (Ca1 _ _); simp only [go_sem])
 all_goals (unfold K2i; first | (rw [‹hidesB x c = false›]; simp) | (simp; done) | (simp_all; done) | (intros; omega) | (simp_all; intros; omega))
theorem cut_one {α : Type} {f : α → List T} {xs : List α} {k : Nat} {x : α} (hx : xs[k]? = some x) : (if k = 0 ∧ (((k + 1 : Nat) : Int) - (k : Int)).toNat = xs.length then xs.map f else List.take (((k + 1 : Nat) : Int) - (k : Int)).toNat (List.drop k (xs.map f))) = [x].map f := by
 have e : (((k + 1 : Nat) : Int) - (k : Int)).toNat = 1 := by omega
 have hk := Ke hx
 rw [e]
 have hd : List.take 1 (List.drop k (xs.map f)) = [x].map f := by
  rw [← List.map_drop, K1h hx]; rfl
 split
 ·rename_i h
  rw [h.1] at hd
  rw [← hd, List.drop_zero, List.take_of_length_le (by rw [List.length_map, ← h.2]; exact Nat.le_refl _)]
 ·exact hd
def K2k (c : GCapture) (l : List GExclusion) (now : Int) : Bool := l.any fun x => K2i x c now
def visible (cs : List GCapture) (l : List GExclusion) (now : Int) : List GCapture := cs.filter fun c => !K2k c l now
theorem K36 {cs : List GCapture} {l : List GExclusion} {now : Int} {k : Nat} {c : GCapture} (h : cs[k]? = some c) : visible (cs.take (k + 1)) l now = if K2k c l now then visible (cs.take k) l now else visible (cs.take k) l now ++ [c] := by
 unfold visible
 rw [Ks h, List.filter_append]
 cases hh : K2k c l now <;> simp [hh]
theorem K3g (cs : List GCapture) (l : List GExclusion) (now : Int) : (visible cs l now).length ≤ cs.length := List.length_filter_le _ _
theorem K3o {α : Type} {p : α → Bool} {f : α → Nat} : ∀ l : List α, ((l.filter p).map f).sum ≤ (l.map f).sum
 | [] => by simp
 | x :: l => by
  have := K3o (p := p) (f := f) l
  rw [List.filter_cons]
  split <;> simp <;> omega
def M3s : MC :=
(Zs [.box 3 0 (.s 0), .mv 4 cF] [1,2,3] (Zs [lT 5 5 3, lT 6 9 1, lF 7 1 2, .call 8 [] (.f N4e) [.s 5, .s 6, .s 7], mS 4 8] [4] .ret))
theorem C8o (x : GExclusion) (c : GCapture) (now : Int) : Ctr Tryz.prog N3f [aS x.enc, (false, [.pb c.enc]), (false, [.pb [tI now]])] [rB (K2i x c now)] := by
 refine cA M3s 1 9 [(.tmp 4, [false])] Tryz.func278 rfl rfl ?_; unfold M3s
 intro hb
 clear hb
 simp only [go_sem]
 refine K0 (C94 _ _ _) ?_
 simp only [go_sem]
def M67 : MC :=
(Zs [.box 5 0 (.s 2), .nilo 6 1 9] [0,1,5] (Zs [.nilo 7 2 9] [0,1,5,7] (.seq (Zs [mS 10 0, nS 11 10, .mv 12 (ci 0)] [1,5,7,10,11,12] (.block 0 (.loop ([1,5,7,10,11,12], [1,3,4]) (Zs [bS 13 .lss 12 11] [1,5,7,10,11,12,13] (.seq (cX 13 0)
(.seq (.block 1 (Zs [xS 14 9 10 12, lT 15 9 14, .alloc 9 3 [pz, pz, pz, pz, pz, .emp 1, pz, pz, pz], sS 9 9 15] [1,5,7,9,10,11,12] (Zs [mS 16 1, .clos 17 N3f [9, 5], .call 18 [] (.f N4) [.s 16, .s 17], .un 19 .not (.s 18)] [1,5,7,9,10,11,12,19] (.cond (.s 19) (pr [mS 20 7, lT 21 9 9, .lit 22 4 9 88 [.s 21], .app 23 2 9 88 (.s 20) (.s 22), mS 7 23] [1,5,7,10,11,12]) .skip))))
(pr [bC 24 .add 12 1, mS 12 24] [1,5,7,10,11,12])))))))
(Zs [mS 25 7, .call 26 [1] (.f N1a) [.s 25], mS 6 26] [6] .ret))))
theorem C9p (cs : List GCapture) (l : List GExclusion) (now : Int) (hs : cs.length + (cs.map GCapture.size).sum ≤ 1073741824) : Ctr Tryz.prog N5n [aL 9 (cs.map GCapture.enc), aL 5 (l.map GExclusion.enc), aI now] [rL 9 ((visible cs l now).map GCapture.enc)] := by
 refine cA M67 5 27 [(.tmp 6, [true])] Tryz.func167 rfl rfl ?_; unfold M67
 intro hb
 clear hb
 simp only [go_sem]
 refine K5 cs (fun k => [(7, .val false [.ref 2 0 9 0 (visible (cs.take k) l now).length]), (12, vI k)]) (fun k => [(2, ⟨0, .row (visible (cs.take k) l now).isEmpty 9 ((visible (cs.take k) l now).map GCapture.enc)⟩)]) (fun _ => True) (by simp only [roomB]; omega) ?_
 simp only [go_sem]
 refine ⟨?_, trivial, ?_, ?_⟩
 ·simp only [go_sem, List.take_zero]
  exact ⟨rfl, rfl, rfl⟩
 ·intro k x hx _ h0 h1 hw
  have hk : k < cs.length := by omega
  have hlt := List.length_take_le k cs
  have hv := K3g (cs.take k) l now
  simp only [go_sem, K7 hx, h0, h1]
  refine K0 (C1y l _ [.pb x.enc, .pb [tI now]] (fun y => K2i y x now) fun y _ => C8o y x now) ?_
  simp only [go_sem, hw]
  refine ⟨fun h => ?_, fun h => ?_⟩
  ·have hx2 : K2k x l now = false := h
   simp only [roomB, K36 hx, hx2, Bool.false_eq_true, if_false]
   refine ⟨by omega, by omega, ?_, by simp, by simp, by simp [GCapture.enc]⟩
   cases visible (cs.take k) l now <;> simp
  ·have hx2 : K2k x l now = true := h
   simp only [K36 hx, hx2, if_true]
   first | trivial | exact ⟨rfl, rfl, rfl⟩ | (refine ⟨?_, ?_⟩ <;> rfl)
 ·intro _
  simp only [go_sem, List.take_length]
  refine K0 (Cw _ ?_) ?_
  ·have := K3g cs l now
   have := K3o (p := fun c => !K2k c l now) (f := GCapture.size) cs
   unfold visible at *
   omega
  simp only [go_sem]
def M68 : MC :=
(Zs [.box 3 0 (.s 0), .mv 6 cF] [1,2,3] (.seq (Zs [.mv 7 (ci 0)] [1,2,3,7] (.block 0 (.loop ([1,2,3,7], []) (.seq (Zs [mS 8 7, mS 9 1, nS 10 9, bS 11 .lss 8 10] [1,2,3,7,11] (cX 11 0))
(.seq (.block 1 (.seq (.dreg [Zc [15,18,19] (mS 14 1), Zc [14,18,19] (mS 15 7), Zd [18,19] [0,1] (xS 16 5 14 15), Zd [18,19] [0,1,2] (lT 17 5 16), Zc [14,15,16,17,19] (lT 18 9 3), Zc [14,15,16,17,18] (mS 19 2), Ze (.range 6) (.call 20 [] (.f N4k) [.s 17, .s 18, .s 19])] [1,2,3,7,20])
(.cond (.s 20) (Zs [.mv 6 cT] [6] .ret) .skip)))
(pr [mS 12 7, bC 13 .add 12 1, mS 7 13] [1,2,3,7]))))))
(Zs [.mv 6 cF] [6] .ret)))
theorem C9q (c : GCapture) (l : List GExclusion) (now : Int) : Ctr Tryz.prog N5o [aS c.enc, aL 5 (l.map GExclusion.enc), aI now] [rB (K2k c l now)] := by
 refine cA M68 1 21 [(.tmp 6, [false])] Tryz.func276 rfl rfl ?_; unfold M68
 intro hb
 simp only [bdA, bdL, bdT, Kj, Kr, roomB, and_true, List.length_map] at hb
 have hl := hb.2.1.1
 clear hb
 simp only [go_sem]
 refine K5 l (fun k => [(7, vI k)]) (fun k => []) (fun k => ((l.take k).any fun x => K2i x c now) = false) hl ?_
 simp only [go_sem]
 refine ⟨?_, by simp, ?_, ?_⟩
 ·simp only [go_sem]
 ·intro k x hx h h0 h1 hw
  simp only [go_sem, K7 hx, h0, h1]
  refine K0 (C95 _ _ _) ?_
  simp only [go_sem, hw]
  exact ⟨fun hn => (K8z hx hn).symm, fun hn => K5p hx h hn⟩
 ·intro h
  simp only [go_sem]
  rw [List.take_length] at h
  exact h.symm
def M69 : MC :=
(Zs [.nilo 6 0 9] [0,1,2] (Zs [.lit 9 0 9 88 [], mS 7 9] [0,1,2,7] (.seq (Zs [.mv 8 (ci 0)] [0,1,2,7,8] (.block 0 (.loop ([0,1,2,7,8], [1]) (.seq (Zs [mS 10 8, mS 11 0, nS 12 11, bS 13 .lss 10 12] [0,1,2,7,8,13] (cX 13 0))
(.seq (.block 1 (Zs [mS 16 0, mS 17 8, xS 18 9 16 17, lT 19 9 18, mS 20 1, mS 21 2, .call 22 [] (.f N5o) [.s 19, .s 20, .s 21], .un 23 .not (.s 22)] [0,1,2,7,8,23] (.cond (.s 23) (pr [mS 24 7, mS 25 0, mS 26 8, mS 27 8, bC 28 .add 27 1, .slc 29 9 (.s 25) (some (.s 26)) (some (.s 28)) none, .call 30 [1] (.f N1g) [.s 29], .app 31 0 9 88 (.s 24) (.s 30), mS 7 31] [0,1,2,7,8]) .skip)))
(pr [mS 14 8, bC 15 .add 14 1, mS 8 15] [0,1,2,7,8]))))))
(Zs [mS 32 7, mS 6 32] [6] .ret))))
theorem C9r (cs : List GCapture) (l : List GExclusion) (now : Int) (hs : cs.length + (cs.map GCapture.size).sum ≤ 1073741824) : Ctr Tryz.prog N5m [aL 9 (cs.map GCapture.enc), aL 5 (l.map GExclusion.enc), aI now] [rL 9 ((visible cs l now).map GCapture.enc)] := by
 refine cA M69 2 33 [(.tmp 6, [true])] Tryz.func165 rfl rfl ?_; unfold M69
 intro hb
 clear hb
 simp only [go_sem]
 refine K5 cs (fun k => [(7, .val false [.ref 0 0 9 0 (visible (cs.take k) l now).length]), (8, vI k)]) (fun k => [(0, ⟨0, .row true 9 ((visible (cs.take k) l now).map GCapture.enc)⟩)]) (fun _ => True) (by simp only [roomB]; omega) ?_
 simp only [go_sem]
 refine ⟨?_, trivial, ?_, ?_⟩
 ·simp only [go_sem, List.take_zero]
  exact ⟨rfl, rfl⟩
 ·intro k x hx _ h0 h1 hw
  have hk : k < cs.length := by omega
  have hlt := List.length_take_le k cs
  have hv := K3g (cs.take k) l now
  simp only [go_sem, K7 hx, h0, h1]
  refine K0 (C9q _ _ _) ?_
  simp only [go_sem, hw]
  refine ⟨fun h => ?_, fun h => ?_⟩
  ·rw [cut_one hx]
   refine ⟨by omega, ?_⟩
   refine K0 (C11 [x] ?_) ?_
   ·have hx1 := K2e (f := GCapture.size) (K1y hx)
    simp only [List.length_cons, List.length_nil, List.map_cons, List.map_nil, List.sum_cons, List.sum_nil]
    omega
   simp only [go_sem, hw]
   simp only [roomB, K36 hx, h, Bool.false_eq_true, if_false]
   exact ⟨by omega, fun _ => ⟨by simp, by simp [GCapture.enc]⟩⟩
  ·simp only [K36 hx, h, if_true]
   first | trivial | exact ⟨rfl, rfl⟩
 ·intro _
  simp only [go_sem, List.take_length]
end Go.Proofs.YtgkeplbnnjogiaaGreatR
namespace Go.Proofs.YtgkeplbnnjogiaaGreatR
open Go Go.RowKit Go.Proofs
open Nat (reduceEqDiff reduceLT reduceLeDiff reduceAdd reduceMul)
open List (reduceReplicate)
end Go.Proofs.YtgkeplbnnjogiaaGreatR
namespace Go.Proofs.YtgkeplbnnjogiaaGreatR
open Go Go.RowKit Go.Proofs
open Nat (reduceEqDiff reduceLT reduceLeDiff reduceAdd reduceMul)
open List (reduceReplicate)
end Go.Proofs.YtgkeplbnnjogiaaGreatR
namespace Go.Proofs.YtgkeplbnnjogiaaGreatR
open Go Go.RowKit Go.Proofs
open Nat (reduceEqDiff reduceLT reduceLeDiff reduceAdd reduceMul)
open List (reduceReplicate)
end Go.Proofs.YtgkeplbnnjogiaaGreatR
namespace Go.Proofs.YtgkeplbnnjogiaaGreatR
open Go Go.RowKit Go.Proofs
open Nat (reduceEqDiff reduceLT reduceLeDiff reduceAdd reduceMul)
open List (reduceReplicate)
end Go.Proofs.YtgkeplbnnjogiaaGreatR
namespace Go.Proofs.YtgkeplbnnjogiaaGreatR
open Go Go.RowKit Go.Proofs
open Nat (reduceEqDiff reduceLT reduceLeDiff reduceAdd reduceMul)
open List (reduceReplicate)
attribute [go_sem] eqB
def M7e : MC :=
(Zs [.mv 4 cF] [0,1] (.seq (Zs [mS 6 0, nS 7 6, mS 8 1, nS 9 8, bS 10 .neq 7 9] [0,1,10] (.cond (.s 10) (Zs [.mv 4 cF] [4] .ret) .skip))
(.seq (Zs [.mv 5 (ci 0)] [0,1,5] (.block 0 (.loop ([0,1,5], []) (.seq (Zs [mS 11 5, mS 12 0, nS 13 12, bS 14 .lss 11 13] [0,1,5,14] (cX 14 0))
(.seq (.block 1 (.seq (.dreg [Zc [18,21,22,23,24] (mS 17 0), Zc [17,21,22,23,24] (mS 18 5), Zd [21,22,23,24] [0,1] (xS 19 6 17 18), Zd [21,22,23,24] [0,1,2] (lT 20 6 19), Zc [17,18,19,20,22] (mS 21 1), Zc [17,18,19,20,21] (mS 22 5), Zd [17,18,19,20] [4,5] (xS 23 6 21 22), Zd [17,18,19,20] [4,5,6] (lT 24 6 23), Ze (.range 8) (.eqA 25 true [.i .i64, .i .i64, .i .i64, .i .i64, .i .i64, .i .i64] (.s 20) (.s 24))] [0,1,5,25])
(.cond (.s 25) (Zs [.mv 4 cF] [4] .ret) .skip)))
(pr [mS 15 5, bC 16 .add 15 1, mS 5 16] [0,1,5]))))))
(Zs [.mv 4 cT] [4] .ret))))
theorem Ca8 (xs ys : List GFound) : Ctr Tryz.prog N70 [aL 6 (xs.map GFound.enc), aL 6 (ys.map GFound.enc)] [rB (decide (xs = ys))] := by
 refine cA M7e 0 26 [(.tmp 4, [false])] Tryz.func292 rfl rfl ?_; unfold M7e
 intro hb
 simp only [bdA, bdL, bdT, Kj, roomB, and_true, List.length_map] at hb
 obtain ⟨⟨hl, -⟩, ⟨hl2, -⟩⟩ := hb
 simp only [go_sem]
 refine ⟨fun h => K26 h, fun h => ?_⟩
 have hle : xs.length = ys.length := by omega
 refine K5 xs (fun k => [(5, vI k)]) (fun k => []) (fun k => xs.take k = ys.take k) hl ?_
 simp only [go_sem]
 refine ⟨?_, rfl, ?_, ?_⟩
 ·simp only [go_sem]
 ·intro k x hx he h0 h1 hw
  obtain ⟨y, hy⟩ := Ki (show k < ys.length by omega)
  have h2 : (k : Int) < ys.length := by omega
  simp only [go_sem, K7 hx, K7 hy, h0, h1, h2, hw]
  exact ⟨fun hn => K2q hx hy (by rintro rfl; simp at hn), fun hn => (Ku hx hy he).2 (by exact GFound.eqv.2 (by simpa using hn))⟩
 ·intro he
  simp only [go_sem]
  exact K29 he hle
end Go.Proofs.YtgkeplbnnjogiaaGreatR
namespace Go.Proofs.YtgkeplbnnjogiaaGreatR
open Go Go.RowKit Go.Proofs
open Nat (reduceEqDiff reduceLT reduceLeDiff reduceAdd reduceMul)
open List (reduceReplicate)
def modP (v : Int) : Int := (IntKind.i64.wrap (v.tmod 2147483647 + 2147483647)).tmod 2147483647
def hstep (h v : Int) : Int := (IntKind.i64.wrap (IntKind.i64.wrap (IntKind.i64.wrap (h * 1000003) + modP v) + 13)).tmod 2147483647
end Go.Proofs.YtgkeplbnnjogiaaGreatR
namespace Go.Proofs.YtgkeplbnnjogiaaGreatR
open Go Go.RowKit Go.Proofs
open Nat (reduceEqDiff reduceLT reduceLeDiff reduceAdd reduceMul)
open List (reduceReplicate)
end Go.Proofs.YtgkeplbnnjogiaaGreatR
namespace Go.Proofs.YtgkeplbnnjogiaaGreatR
open Go Go.RowKit Go.Proofs
open Nat (reduceEqDiff reduceLT reduceLeDiff reduceAdd reduceMul)
open List (reduceReplicate)
end Go.Proofs.YtgkeplbnnjogiaaGreatR
namespace Go.Proofs.YtgkeplbnnjogiaaGreatR
namespace Srt
structure Swo {α : Type} (lt : α → α → Bool) : Prop where
 asy : ∀ x y, lt x y = true → lt y x = false
 neg : ∀ x y z, lt x z = true → lt x y = true ∨ lt y z = true
variable {α : Type} {lt : α → α → Bool}
theorem Swo.tr (h : Swo lt) {x y z : α} (h1 : lt x y = true) (h2 : lt y z = true) : lt x z = true := by
 rcases h.neg x z y h1 with k | k
 ·exact k
 ·rw [h.asy y z h2] at k; cases k
theorem Swo.ntr (h : Swo lt) {x y z : α} (h1 : lt x y = false) (h2 : lt y z = false) : lt x z = false := by
 cases k : lt x z
 ·rfl
 ·rcases h.neg x y z k with k | k <;> simp_all
theorem Swo.irr (h : Swo lt) (x : α) : lt x x = false := by
 cases k : lt x x
 ·rfl
 ·have := h.asy x x k; simp_all
theorem Swo.lf (h : Swo lt) {x y z : α} (h1 : lt x y = true) (h2 : lt z y = false) : lt x z = true := by
 rcases h.neg x z y h1 with k | k <;> simp_all
theorem Swo.fl (h : Swo lt) {x y z : α} (h1 : lt y x = false) (h2 : lt y z = true) : lt x z = true := by
 rcases h.neg y x z h2 with k | k <;> simp_all
variable (lt)
def ins (x : α) : List α → List α
 | [] => [x]
 | z :: zs => if lt x z then x :: z :: zs else z :: ins x zs
def mrg (A B : List α) : List α := B.foldl (fun acc x => ins lt x acc) A
def isort (l : List α) : List α := mrg lt [] l
def srt (l : List α) : Prop := l.Pairwise fun x y => lt y x = false
variable {lt}
theorem mem_ins {x y : α} : ∀ {l : List α}, y ∈ ins lt x l ↔ y = x ∨ y ∈ l
 | [] => by simp [ins]
 | z :: zs => by
  simp only [ins]
  split
  ·simp
  ·rw [List.mem_cons, mem_ins, List.mem_cons]
   constructor <;> rintro (h | h | h) <;> simp [h]
theorem len_ins {x : α} : ∀ {l : List α}, (ins lt x l).length = l.length + 1
 | [] => rfl
 | z :: zs => by
  simp only [ins]
  split
  ·rfl
  ·simp [len_ins]
theorem mrg_nil {A : List α} : mrg lt A [] = A := rfl
theorem K23 {A B : List α} {x : α} : mrg lt A (x :: B) = mrg lt (ins lt x A) B := rfl
theorem K2t {A B C : List α} : mrg lt A (B ++ C) = mrg lt (mrg lt A B) C := List.foldl_append
theorem mem_mrg {y : α} : ∀ {B A : List α}, y ∈ mrg lt A B ↔ y ∈ A ∨ y ∈ B
 | [], A => by simp [mrg_nil]
 | x :: B, A => by
  rw [K23, mem_mrg, mem_ins, List.mem_cons]
  exact ⟨fun h => h.elim (fun h => h.elim (fun h => .inr (.inl h)) .inl) (fun h => .inr (.inr h)), fun h => h.elim (fun h => .inl (.inr h)) (fun h => h.elim (fun h => .inl (.inl h)) .inr)⟩
theorem len_mrg : ∀ {B A : List α}, (mrg lt A B).length = A.length + B.length
 | [], A => rfl
 | x :: B, A => by
  rw [K23, len_mrg, len_ins, List.length_cons]; omega
theorem len_isort {l : List α} : (isort lt l).length = l.length := by
 unfold isort; rw [len_mrg]; simp
theorem K8y (h : Swo lt) {x y : α} (hxy : lt x y = true) : ∀ (A : List α), ins lt y (ins lt x A) = ins lt x (ins lt y A)
 | [] => by simp [ins, hxy, h.asy x y hxy]
 | z :: zs => by
  cases k1 : lt x z <;> cases k2 : lt y z
  ·simp [ins, k1, k2, K8y h hxy zs]
  ·rw [h.tr hxy k2] at k1; cases k1
  ·simp [ins, k1, k2, h.asy x y hxy]
  ·simp [ins, k1, k2, hxy, h.asy x y hxy]
theorem K9d (h : Swo lt) {x : α} : ∀ {s A : List α}, (∀ y ∈ s, lt x y = true) → mrg lt (ins lt x A) s = ins lt x (mrg lt A s)
 | [], A, _ => rfl
 | y :: s, A, hs => by
  rw [K23, K8y h (hs y (by simp)), K9d h (fun z hz => hs z (by simp [hz])), K23]
theorem K54 {x : α} {l : List α} : srt lt (x :: l) ↔ (∀ y ∈ l, lt y x = false) ∧ srt lt l := List.pairwise_cons
theorem srt_append {A B : List α} : srt lt (A ++ B) ↔ srt lt A ∧ srt lt B ∧ ∀ a ∈ A, ∀ b ∈ B, lt b a = false := List.pairwise_append
theorem srt_ins (h : Swo lt) {x : α} : ∀ {l : List α}, srt lt l → srt lt (ins lt x l)
 | [], _ => by simp [ins, srt]
 | z :: zs, hs => by
  obtain ⟨h1, h2⟩ := K54.1 hs
  simp only [ins]
  split
  ·rename_i k
   refine K54.2 ⟨fun y hy => ?_, hs⟩
   rcases List.mem_cons.1 hy with rfl | hy
   ·exact h.asy _ _ k
   ·exact h.ntr (h1 y hy) (h.asy _ _ k)
  ·rename_i k
   refine K54.2 ⟨fun y hy => ?_, srt_ins h h2⟩
   rcases mem_ins.1 hy with rfl | hy
   ·simpa using k
   ·exact h1 y hy
theorem srt_mrg (h : Swo lt) : ∀ {B A : List α}, srt lt A → srt lt (mrg lt A B)
 | [], A, hA => hA
 | x :: B, A, hA => srt_mrg h (B := B) (srt_ins h hA)
theorem srt_isort (h : Swo lt) (l : List α) : srt lt (isort lt l) := srt_mrg h List.Pairwise.nil
theorem K88 (h : Swo lt) {x : α} : ∀ {l : List α}, srt lt l → ∃ s t, l = s ++ t ∧ ins lt x l = s ++ x :: t ∧ ∀ y ∈ t, lt x y = true
 | [], _ => ⟨[], [], rfl, rfl, by simp⟩
 | z :: zs, hs => by
  obtain ⟨h1, h2⟩ := K54.1 hs
  cases k : lt x z
  ·obtain ⟨s, t, e, e2, h3⟩ := K88 h (x := x) h2
   exact ⟨z :: s, t, by simp [e], by simp [ins, k, e2], h3⟩
  ·refine ⟨[], z :: zs, rfl, by simp [ins, k], fun y hy => ?_⟩
   rcases List.mem_cons.1 hy with rfl | hy
   ·exact k
   ·exact h.lf k (h1 y hy)
theorem mrg_ins (h : Swo lt) {x : α} {A s : List α} (hs : srt lt s) : mrg lt A (ins lt x s) = ins lt x (mrg lt A s) := by
 obtain ⟨s1, s2, rfl, e, h2⟩ := K88 h (x := x) hs
 rw [e, K2t, K23, K9d h h2, K2t]
theorem isort_snoc {l : List α} {x : α} : isort lt (l ++ [x]) = ins lt x (isort lt l) := by
 unfold isort; rw [K2t]; rfl
theorem mrg_isort (h : Swo lt) {A : List α} (r : List α) : mrg lt A (isort lt r) = mrg lt A r := by
 suffices H : ∀ (n : Nat) (r : List α), r.length = n → mrg lt A (isort lt r) = mrg lt A r from H _ r rfl
 intro n
 induction n with
 | zero => intro r hr; obtain rfl := List.length_eq_zero_iff.1 hr; rfl
 | succ n ih =>
  intro r hr
  rcases List.eq_nil_or_concat r with rfl | ⟨s, x, rfl⟩
  ·rfl
  ·rw [List.concat_eq_append] at *
   rw [isort_snoc, mrg_ins h (srt_isort h s), ih s (by simpa using hr), K2t]; rfl
theorem K5n (h : Swo lt) (l r : List α) : isort lt (l ++ r) = mrg lt (isort lt l) (isort lt r) := by
 rw [mrg_isort h]; unfold isort; rw [K2t]
theorem K93 {b : α} {A2 : List α} (h : ∀ a ∈ A2.head?, lt b a = true) : ∀ (A1 : List α), ins lt b (A1 ++ A2) = ins lt b A1 ++ A2
 | [] => by
  cases A2 with
  | nil => rfl
  | cons z zs => simp [ins, h z (by simp)]
 | z :: zs => by
  simp only [List.cons_append, ins]
  split
  ·rfl
  ·rw [K93 h zs, List.cons_append]
theorem K5l {b : α} {A2 : List α} : ∀ {A1 : List α}, (∀ a ∈ A1, lt b a = false) → ins lt b (A1 ++ A2) = A1 ++ ins lt b A2
 | [], _ => rfl
 | z :: zs, h => by
  simp only [List.cons_append, ins, h z (by simp), K5l (A1 := zs) (fun a ha => h a (by simp [ha]))]
  rfl
theorem ins_mid {x : α} {s t : List α} (h1 : ∀ a ∈ s, lt x a = false) (h2 : ∀ a ∈ t.head?, lt x a = true) : ins lt x (s ++ t) = s ++ x :: t := by
 rw [K5l h1]
 cases t with
 | nil => rfl
 | cons z zs => simp [ins, h2 z (by simp)]
theorem K8j {A2 : List α} : ∀ {B A1 : List α}, (∀ b ∈ B, ∀ a ∈ A2.head?, lt b a = true) → mrg lt (A1 ++ A2) B = mrg lt A1 B ++ A2
 | [], _, _ => rfl
 | b :: B, A1, h => by
  rw [K23, K93 (h b (by simp)), K8j (fun b hb => h b (by simp [hb])), K23]
theorem K5r {A1 : List α} : ∀ {B A2 : List α}, (∀ b ∈ B, ∀ a ∈ A1, lt b a = false) → mrg lt (A1 ++ A2) B = A1 ++ mrg lt A2 B
 | [], _, _ => rfl
 | b :: B, A2, h => by
  rw [K23, K5l (h b (by simp)), K5r (fun b hb => h b (by simp [hb])), K23]
theorem mrg_nil_srt (h : Swo lt) {l : List α} (hs : srt lt l) : mrg lt [] l = l := by
 suffices H : ∀ (l A : List α), srt lt (A ++ l) → mrg lt A l = A ++ l from H l [] (by simpa using hs)
 intro l
 induction l with
 | nil => intro A _; simp [mrg_nil]
 | cons x l ih =>
  intro A hA
  have := srt_append.1 hA
  rw [K23, show ins lt x A = A ++ [x] from by
   have := ins_mid (lt := lt) (x := x) (s := A) (t := []) (fun a ha => (srt_append.1 hA).2.2 a ha x (by simp)) (by simp)
   simpa using this, ih (A ++ [x]) (by simpa using hA)]
  simp
theorem K82 {A1 A2 B1 B2 : List α} (h1 : ∀ b ∈ B1, ∀ a ∈ A2.head?, lt b a = true) (h2 : ∀ b ∈ B2, ∀ a ∈ A1, lt b a = false) (h3 : ∀ b ∈ B2, ∀ a ∈ B1, lt b a = false) : mrg lt (A1 ++ A2) (B1 ++ B2) = mrg lt A1 B1 ++ mrg lt A2 B2 := by
 rw [K2t, K8j h1, K5r]
 intro b hb a ha
 rcases mem_mrg.1 ha with k | k
 ·exact h2 b hb a k
 ·exact h3 b hb a k
def blk (lt : α → α → Bool) (s : Nat) (l : List α) : List α :=
 if h : s = 0 ∨ l.length ≤ s then isort lt l else isort lt (l.take s) ++ blk lt s (l.drop s)
termination_by l.length
decreasing_by
 simp only [List.length_drop]
 omega
end Srt
end Go.Proofs.YtgkeplbnnjogiaaGreatR
namespace Go.Proofs.YtgkeplbnnjogiaaGreatR
open Go Go.RowKit Go.Proofs
open Nat (reduceEqDiff reduceLT reduceLeDiff reduceAdd reduceMul)
open List (reduceReplicate)
abbrev fI (f : FuncId) : RV := ⟨false, [(false, .fn f [])]⟩
attribute [go_sem] fI
def two (A : List (List T)) (e : List T) (B : List (List T)) (e' : List T) (C : List (List T)) : List (List T) := A ++ e :: (B ++ e' :: C)
theorem K6r {A B C : List (List T)} {p q : Nat} (hp : A.length = p) (hq : p + 1 + B.length = q) :
  (∀ e e', (two A e B e' C)[p]? = some e) ∧ (∀ e e', (two A e B e' C)[q]? = some e') ∧
  (∀ e e' u, (two A e B e' C).set p u = two A u B e' C) ∧ (∀ e e' u, (two A e B e' C).set q u = two A e B u C) ∧
  (∀ e e', (two A e B e' C).length = A.length + B.length + C.length + 2) ∧
  (∀ e e', (two A e B e' C).getD p [] = e) ∧ (∀ e e', (two A e B e' C).getD q [] = e') := by
 subst hp hq
 have h1 : ∀ e e', (two A e B e' C)[A.length]? = some e := fun e e' => by simp [two]
 have h2 : ∀ e e', (two A e B e' C)[A.length + 1 + B.length]? = some e' := fun e e' => by
  unfold two
  rw [List.getElem?_append_right (by omega), show A.length + 1 + B.length - A.length = B.length + 1 by omega, List.getElem?_cons_succ, List.getElem?_append_right (by omega), Nat.sub_self]
  rfl
 refine ⟨h1, h2, fun e e' u => by simp [two], fun e e' u => ?_, fun e e' => by simp [two]; omega, fun e e' => by rw [List.getD_eq_getElem?_getD, h1]; rfl, fun e e' => by rw [List.getD_eq_getElem?_getD, h2]; rfl⟩
 unfold two
 rw [List.set_append_right _ _ (by omega), show A.length + 1 + B.length - A.length = B.length + 1 by omega, List.set_cons_succ, List.set_append_right _ _ (by omega), Nat.sub_self]
 rfl
def swp {α : Type} (P X M Y Q : List α) (i : Nat) : List α := (P ++ Y.take i) ++ (X.drop i ++ M ++ X.take i) ++ (Y.drop i ++ Q)
theorem swp_len {α : Type} {P X M Y Q : List α} {i : Nat} (h : X.length = Y.length) : (swp P X M Y Q i).length = (P ++ X ++ M ++ Y ++ Q).length := by
 simp [swp, List.length_take, List.length_drop]; omega
theorem swp_two {α : Type} {P X M Y Q : List α} {i : Nat} {x y : α} {f : α → List T} (hx : X[i]? = some x) (hy : Y[i]? = some y) :
  (swp P X M Y Q i).map f = two ((P ++ Y.take i).map f) (f x) ((X.drop (i + 1) ++ M ++ X.take i).map f) (f y) ((Y.drop (i + 1) ++ Q).map f) ∧
  (swp P X M Y Q (i + 1)).map f = two ((P ++ Y.take i).map f) (f y) ((X.drop (i + 1) ++ M ++ X.take i).map f) (f x) ((Y.drop (i + 1) ++ Q).map f) := by
 constructor
 ·simp [swp, two, K1h hx, K1h hy]
 ·simp [swp, two, Ks hx, Ks hy]
theorem wN {a b : Nat} (h : a + b ≤ 9223372036854775807) : IntKind.i64.wrap ((a : Int) + (b : Int)) = ((a + b : Nat) : Int) := by
 rw [wI (by omega) (by omega)]; omega
theorem wN1 {a : Nat} (h : a + 1 ≤ 9223372036854775807) : IntKind.i64.wrap ((a : Int) + 1) = ((a + 1 : Nat) : Int) := by
 rw [wI (by omega) (by omega)]; omega
theorem wS {a b : Nat} (h : b ≤ a) (h2 : a ≤ 9223372036854775807) : IntKind.i64.wrap ((a : Int) - (b : Int)) = ((a - b : Nat) : Int) := by
 rw [wI (by omega) (by omega)]; omega
theorem wS1 {a : Nat} (h : 1 ≤ a) (h2 : a ≤ 9223372036854775807) : IntKind.i64.wrap ((a : Int) - 1) = ((a - 1 : Nat) : Int) := by
 rw [wI (by omega) (by omega)]; omega
def Mk : MC :=
(Zs [.mv 10 (ci 0)] [0,1,2,3,10] (.block 0 (.loop ([0,1,2,3,10], []) (.seq (Zs [mS 11 10, mS 12 3, bS 13 .lss 11 12] [0,1,2,3,10,13] (cX 13 0))
(.seq (.block 1 (.dreg [Zc [17,18,19,20,21,22,23,24,25,26,27,28,29,30,31,32,33,34,35] (mS 16 0), Zc [16,18,20,21,22,23,24,25,26,27,28,29,30,31,32,33,34,35] (mS 17 1), Zc [16,17,20,21,22,23,24,25,26,27,28,29,30,31,32,33,34,35] (mS 18 10), Zd [16,20,21,22,23,24,25,26,27,28,29,30,31,32,33,34,35] [1,2] (bS 19 .add 17 18), Zf [16,17,18,19,21,22,23,24,25,26,27,28,29,30,31,32,33,34,35,36] [0] (mS 20 0), Zf [16,17,18,19,20,22,24,25,26,27,28,29,30,31,32,33,34,35,36] [0] (mS 21 2), Zf [16,17,18,19,20,21,24,25,26,27,28,29,30,31,32,33,34,35,36] [0] (mS 22 10), Zg [16,17,18,19,20,24,25,26,27,28,29,30,31,32,33,34,35,36] [0] [5,6] (bS 23 .add 21 22), Zc [16,17,18,19,20,21,22,23,25,26,27,30,31,32,33,34,35] (mS 24 0), Zc [16,17,18,19,20,21,22,23,24,26,30,31,32,33,34,35] (mS 25 2), Zc [16,17,18,19,20,21,22,23,24,25,30,31,32,33,34,35] (mS 26 10), Zd [16,17,18,19,20,21,22,23,24,30,31,32,33,34,35] [9,10] (bS 27 .add 25 26), Zd [16,17,18,19,20,21,22,23,30,31,32,33,34,35] [8,9,10,11] (xS 28 6 24 27), Zd [16,17,18,19,20,21,22,23,30,31,32,33,34,35] [8,9,10,11,12] (lT 29 6 28), Zc [16,17,18,19,20,21,22,23,24,25,26,27,28,29,31,32,33] (mS 30 0), Zc [16,17,18,19,20,21,22,23,24,25,26,27,28,29,30,32] (mS 31 1), Zc [16,17,18,19,20,21,22,23,24,25,26,27,28,29,30,31] (mS 32 10), Zd [16,17,18,19,20,21,22,23,24,25,26,27,28,29,30] [15,16] (bS 33 .add 31 32), Zd [16,17,18,19,20,21,22,23,24,25,26,27,28,29] [14,15,16,17] (xS 34 6 30 33), Zd [16,17,18,19,20,21,22,23,24,25,26,27,28,29] [14,15,16,17,18] (lT 35 6 34), Zd [20,21,22,23] [0,1,2,3,8,9,10,11,12,13,14,15,16,17,18,19] (xS 36 6 16 19), { o := sS 6 36 29, hs := [20,21,22,23], ws := [0], bf := [0,1,2,3,8,9,10,11,12,13,14,15,16,17,18,19,20] }, Ze (.range 22) (xS 37 6 20 23), { o := sS 6 37 35, ws := [0], bf := (.range 23) }] [0,1,2,3,10]))
(pr [mS 14 10, bC 15 .add 14 1, mS 10 15] [0,1,2,3,10]))))))
theorem Cm (P X M Y Q : List GFound) (f : FuncId) {a b n : Nat} (ha : P.length = a) (hb : (P ++ X ++ M).length = b) (hX : X.length = n) (hY : Y.length = n) : CtrI Tryz.prog N2 [oL 6 ((P ++ X ++ M ++ Y ++ Q).map GFound.enc), iI a, iI b, iI n, fI f] [some (6, (P ++ Y ++ M ++ X ++ Q).map GFound.enc)] [] := by
 have hL0 : (P ++ X ++ M ++ Y ++ Q).length = b + n + Q.length := by rw [List.length_append, List.length_append, hb, hY]
 have hL1 : (P ++ Y ++ M ++ X ++ Q).length = (P ++ X ++ M ++ Y ++ Q).length := by simp; omega
 have hb' : b = a + n + M.length := by rw [← hb]; simp; omega
 have hsw0 : swp P X M Y Q 0 = P ++ X ++ M ++ Y ++ Q := by simp [swp]
 have hswn : swp P X M Y Q n = P ++ Y ++ M ++ X ++ Q := by simp [swp, ← hX, List.take_of_length_le (show Y.length ≤ X.length by omega), List.drop_of_length_le (show Y.length ≤ X.length by omega)]
 refine K11 (M := Mk) (m := 0) (n := 38) (res := []) hmix Tryz.func434 rfl (by kernel_rfl) rfl (by kernel_rfl) (by kernel_rfl) (Nat.le_of_ble_eq_true rfl) rfl rfl ?_; unfold Mk
 intro hbd
 have hl := Kw hbd
 clear hbd
 simp only [roomB] at hl
 rw [← hsw0, ← hswn]
 rw [← hsw0, ← hswn] at hL1
 rw [← hsw0] at hl hL0
 subst hX
 generalize hN : (swp P X M Y Q 0).length = N at *
 simp only [go_sem, hN]
 refine K5 X (fun i => [(10, vI i)]) (fun i => [(0, ⟨1, .row true 6 ((swp P X M Y Q i).map GFound.enc)⟩)]) (fun _ => True) (by simp only [roomB]; omega) ?_
 simp only [go_sem]
 refine ⟨?_, trivial, ?_, ?_⟩
 ·simp only [go_sem]
 ·intro i x hx _ h0 h1 hw
  have hi := Ke hx
  obtain ⟨y, hy⟩ := Ki (show i < Y.length by omega)
  obtain ⟨e1, e2⟩ := swp_two (P := P) (M := M) (Q := Q) (f := GFound.enc) hx hy
  have hlen := swp_len (P := P) (X := X) (M := M) (Y := Y) (Q := Q) (i := i) hY.symm
  rw [e1, e2]
  generalize hAe : (P ++ Y.take i).map GFound.enc = A at e1 e2
  generalize hBe : (X.drop (i + 1) ++ M ++ X.take i).map GFound.enc = B at e1 e2
  generalize hCe : (Y.drop (i + 1) ++ Q).map GFound.enc = C at e1 e2
  have hA : A.length = a + i := by subst hAe; simp; omega
  have hB : (a + i) + 1 + B.length = b + i := by subst hBe; simp; omega
  have hC : C.length = Y.length - (i + 1) + Q.length := by subst hCe; simp
  obtain ⟨g1, g2, s1, s2, hL, d1, d2⟩ := K6r (C := C) hA hB
  have hL' : ∀ e e', (two A e B e' C).length = N := fun e e' => by rw [hL]; omega
  have k1 : (0 : Int) ≤ ((a + i : Nat) : Int) := by omega
  have k2 : ((a + i : Nat) : Int) < (N : Int) := by omega
  have k3 : (0 : Int) ≤ ((b + i : Nat) : Int) := by omega
  have k4 : ((b + i : Nat) : Int) < (N : Int) := by omega
  have k5 : ¬ b + i = a + i := by omega
  simp only [go_sem, g1, g2, s1, s2, hL', hw, h1, wN (a := a) (b := i) (by omega), wN (a := b) (b := i) (by omega), k1, k2, k3, k4]
 ·intro _
  simp only [go_sem]
def RotI (P X Y Q : List GFound) (m : Nat) (d : List GFound) (i j : Nat) : Prop :=
 ∃ C X' Y' D, d = P ++ C ++ X' ++ Y' ++ D ++ Q ∧ X'.length = i ∧ Y'.length = j ∧ P.length + C.length + i = m ∧ C ++ Y' ++ X' ++ D = Y ++ X ∧ 0 < i ∧ 0 < j
theorem RotI.gt {P X Y Q : List GFound} {m : Nat} {d : List GFound} {i j : Nat} (h : RotI P X Y Q m d i j) (hij : j < i) :
  ∃ P' X1 M Y' Q', d = P' ++ X1 ++ M ++ Y' ++ Q' ∧ P'.length = m - i ∧ (P' ++ X1 ++ M).length = m ∧ X1.length = j ∧ Y'.length = j ∧ RotI P X Y Q m (P' ++ Y' ++ M ++ X1 ++ Q') (i - j) j := by
 obtain ⟨C, X', Y', D, rfl, rfl, rfl, h3, h4, h5, h6⟩ := h
 obtain ⟨X1, X2, rfl, hX1⟩ : ∃ X1 X2, X' = X1 ++ X2 ∧ X1.length = Y'.length := ⟨X'.take Y'.length, X'.drop Y'.length, (List.take_append_drop _ _).symm, by simp; omega⟩
 simp only [List.length_append] at *
 exact ⟨P ++ C, X1, X2, Y', D ++ Q, by simp, by simp; omega, by simp; omega, hX1, rfl, C ++ Y', X2, X1, D, by simp, by omega, by omega, by simp; omega, by rw [← h4]; simp, by omega, by omega⟩
theorem RotI.le {P X Y Q : List GFound} {m : Nat} {d : List GFound} {i j : Nat} (h : RotI P X Y Q m d i j) (hij : i < j) :
  ∃ P' X' M Y2 Q', d = P' ++ X' ++ M ++ Y2 ++ Q' ∧ P'.length = m - i ∧ (P' ++ X' ++ M).length = m + j - i ∧ X'.length = i ∧ Y2.length = i ∧ RotI P X Y Q m (P' ++ Y2 ++ M ++ X' ++ Q') i (j - i) := by
 obtain ⟨C, X', Y', D, rfl, rfl, rfl, h3, h4, h5, h6⟩ := h
 obtain ⟨Y1, Y2, rfl, hY2⟩ : ∃ Y1 Y2, Y' = Y1 ++ Y2 ∧ Y2.length = X'.length := ⟨Y'.take (Y'.length - X'.length), Y'.drop (Y'.length - X'.length), (List.take_append_drop _ _).symm, by simp; omega⟩
 simp only [List.length_append] at *
 exact ⟨P ++ C, X', Y1, Y2, D ++ Q, by simp, by simp; omega, by simp; omega, rfl, hY2, C, Y2, Y1, X' ++ D, by simp, by omega, by omega, by omega, by rw [← h4]; simp, by omega, by omega⟩
theorem RotI.eq {P X Y Q : List GFound} {m : Nat} {d : List GFound} {i : Nat} (h : RotI P X Y Q m d i i) :
  ∃ P' X' Y' Q', d = P' ++ X' ++ [] ++ Y' ++ Q' ∧ P'.length = m - i ∧ (P' ++ X' ++ []).length = m ∧ X'.length = i ∧ Y'.length = i ∧ P' ++ Y' ++ [] ++ X' ++ Q' = P ++ Y ++ X ++ Q := by
 obtain ⟨C, X', Y', D, rfl, rfl, h2, h3, h4, h5, h6⟩ := h
 refine ⟨P ++ C, X', Y', D ++ Q, by simp, by simp; omega, by simp; omega, rfl, h2, ?_⟩
 have := congrArg (fun l => P ++ (l ++ Q)) h4
 simpa using this
theorem RotI.len {P X Y Q : List GFound} {m : Nat} {d : List GFound} {i j : Nat} (h : RotI P X Y Q m d i j) : d.length = (P ++ X ++ Y ++ Q).length ∧ i ≤ m ∧ m + j ≤ d.length ∧ 0 < i ∧ 0 < j := by
 obtain ⟨C, X', Y', D, rfl, rfl, rfl, h3, h4, h5, h6⟩ := h
 have := congrArg List.length h4
 simp at this ⊢
 omega
theorem RotI.start {P X Y Q : List GFound} {m i j : Nat} (hm : P.length + X.length = m) (hi : X.length = i) (hj : Y.length = j) (hX : 0 < X.length) (hY : 0 < Y.length) : RotI P X Y Q m (P ++ X ++ Y ++ Q) i j :=
 ⟨[], X, Y, [], by simp, hi, hj, by simp; omega, by simp, by omega, by omega⟩
def Mq : MC :=
(Zs [mS 12 2, mS 13 1, bS 14 .sub 12 13, mS 10 14] [0,2,3,4,10] (Zs [mS 15 3, mS 16 2, bS 17 .sub 15 16, mS 11 17] [0,2,4,10,11] (.seq (.block 0 (.loop ([0,2,4,10,11], []) (.seq (Zs [mS 18 10, mS 19 11, bS 20 .neq 18 19] [0,2,4,10,11,20] (cX 20 0))
(.block 1 (Zs [mS 21 10, mS 22 11, bS 23 .gtr 21 22] [0,2,4,10,11,23] (.cond (.s 23) (Zs [mS 24 0, mS 25 2, mS 26 10, bS 27 .sub 25 26, mS 28 2, mS 29 11, mS 30 4, .callI 31 [] (.f N2) [.s 24, .s 27, .s 28, .s 29, .s 30] [0] []] [0,2,4,10,11] (pr [mS 32 10, mS 33 11, bS 34 .sub 32 33, mS 10 34] [0,2,4,10,11])) (Zs [mS 35 0, mS 36 2, mS 37 10, bS 38 .sub 36 37, mS 39 2, mS 40 11, bS 41 .add 39 40, mS 42 10, bS 43 .sub 41 42, mS 44 10, mS 45 4, .callI 46 [] (.f N2) [.s 35, .s 38, .s 43, .s 44, .s 45] [0] []] [0,2,4,10,11] (pr [mS 47 11, mS 48 10, bS 49 .sub 47 48, mS 11 49] [0,2,4,10,11]))))))))
(pr [mS 50 0, mS 51 2, mS 52 10, bS 53 .sub 51 52, mS 54 2, mS 55 10, mS 56 4, .callI 57 [] (.f N2) [.s 50, .s 53, .s 54, .s 55, .s 56] [0] []] []))))
theorem C1 (P X Y Q : List GFound) (f : FuncId) {a m b : Nat} (ha : P.length = a) (hm : (P ++ X).length = m) (hb : (P ++ X ++ Y).length = b) (hX : 0 < X.length) (hY : 0 < Y.length) : CtrI Tryz.prog Np [oL 6 ((P ++ X ++ Y ++ Q).map GFound.enc), iI a, iI m, iI b, fI f] [some (6, (P ++ Y ++ X ++ Q).map GFound.enc)] [] := by
 refine K11 (M := Mq) (m := 0) (n := 58) (res := []) hmix Tryz.func432 rfl (by kernel_rfl) rfl (by kernel_rfl) (by kernel_rfl) (Nat.le_of_ble_eq_true rfl) rfl rfl ?_; unfold Mq
 intro hbd
 have hl := Kw hbd
 clear hbd
 have hN2 : (P ++ Y ++ X ++ Q).length = (P ++ X ++ Y ++ Q).length := by simp; omega
 have hm' : m = a + X.length := by rw [← hm, ← ha]; simp
 have hb' : b = m + Y.length := by rw [← hb, ← hm]; simp; omega
 have hbN : b ≤ (P ++ X ++ Y ++ Q).length := by rw [List.length_append, hb]; omega
 generalize hN : (P ++ X ++ Y ++ Q).length = N at *
 simp only [roomB] at hl
 simp only [go_sem, hN, wS (a := m) (b := a) (by omega) (by omega), wS (a := b) (b := m) (by omega) (by omega)]
 refine K1c (ι := List GFound × Nat × Nat) (fun s => [(10, vI s.2.1), (11, vI s.2.2)]) (fun s => [(0, ⟨1, .row true 6 (s.1.map GFound.enc)⟩)]) (fun s => RotI P X Y Q m s.1 s.2.1 s.2.2) (fun s => s.2.1 + s.2.2) (P ++ X ++ Y ++ Q, m - a, b - m) ?_
 simp only [go_sem]
 refine ⟨?_, RotI.start (by omega) (show X.length = m - a by omega) (show Y.length = b - m by omega) hX hY, ?_⟩
 ·simp only [go_sem]
 ·rintro ⟨d, i, j⟩ hI
  simp only at hI
  obtain ⟨hd, h1, h2, h3, h4⟩ := hI.len
  rw [hN] at hd
  simp only [go_sem, hd]
  refine ⟨fun hne => ⟨fun hgt => ?_, fun hle => ?_⟩, fun heq => ?_⟩
  ·obtain ⟨P', X1, M, Y', Q', rfl, k1, k2, k3, k4, hR⟩ := hI.gt (by omega)
   have hd2 := hR.len.1
   rw [hN] at hd2
   rw [wS h1 (by omega)]
   apply K8 (Cm P' X1 M Y' Q' f k1 k2 k3 k4)
   simp only [go_sem, wS (a := i) (b := j) (by omega) (by omega)]
   exact ⟨(_, i - j, j), ⟨⟨rfl, rfl⟩, rfl⟩, hR, by show i - j + j < i + j; omega⟩
  ·obtain ⟨P', X1, M, Y', Q', rfl, k1, k2, k3, k4, hR⟩ := hI.le (by omega)
   have hd2 := hR.len.1
   rw [hN] at hd2
   rw [wS h1 (by omega), wN (by omega), wS (a := m + j) (b := i) (by omega) (by omega)]
   apply K8 (Cm P' X1 M Y' Q' f k1 k2 k3 k4)
   simp only [go_sem, wS (a := j) (b := i) (by omega) (by omega)]
   exact ⟨(_, i, j - i), ⟨⟨rfl, rfl⟩, rfl⟩, hR, by show i + (j - i) < i + j; omega⟩
  ·obtain rfl : i = j := by omega
   obtain ⟨P', X1, Y', Q', rfl, k1, k2, k3, k4, hR⟩ := hI.eq
   rw [wS h1 (by omega)]
   apply K8 (Cm P' X1 [] Y' Q' f k1 k2 k3 k4)
   rw [hR]
   simp only [go_sem]
def ltc (c : GFound → GFound → Int) (x y : GFound) : Bool := decide (c x y < 0)
def InsI (lt : GFound → GFound → Bool) (P S R : List GFound) (x : GFound) (d : List GFound) (j : Nat) : Prop :=
 ∃ s1 s2, d = P ++ s1 ++ x :: s2 ++ R ∧ P.length + s1.length = j ∧ s1 ++ s2 = S ∧ ∀ y ∈ s2, lt x y = true
theorem InsI.len {lt : GFound → GFound → Bool} {P S R : List GFound} {x : GFound} {d : List GFound} {j : Nat} (h : InsI lt P S R x d j) : d.length = P.length + S.length + 1 + R.length ∧ P.length ≤ j ∧ j ≤ P.length + S.length := by
 obtain ⟨s1, s2, rfl, rfl, rfl, h⟩ := h
 simp; omega
theorem InsI.done {lt : GFound → GFound → Bool} (hw : Srt.Swo lt) {P S R : List GFound} {x : GFound} {d : List GFound} {j : Nat} (h : InsI lt P S R x d j) (hs : Srt.srt lt S) (hj : j = P.length ∨ ∀ z ∈ d[j - 1]?, lt x z = false) : d = P ++ Srt.ins lt x S ++ R := by
 obtain ⟨s1, s2, rfl, rfl, rfl, h⟩ := h
 rw [Srt.ins_mid]
 ·simp
 ·intro y hy
  rcases List.eq_nil_or_concat s1 with rfl | ⟨s, z, rfl⟩
  ·simp at hy
  ·rcases hj with hj | hj
   ·simp at hj
   ·rw [List.concat_eq_append] at *
    have hz : lt x z = false := hj z (by simp [])
    rcases List.mem_append.1 hy with k | k
    ·have := (Srt.srt_append.1 (Srt.srt_append.1 hs).1).2.2 y k z (by simp)
     exact hw.ntr hz this
    ·obtain rfl := List.mem_singleton.1 k
     exact hz
 ·intro y hy
  exact h y (List.mem_of_mem_head? hy)
theorem InsI.step {lt : GFound → GFound → Bool} {P S R : List GFound} {x : GFound} {d : List GFound} {j : Nat} (h : InsI lt P S R x d j) (hj : P.length < j) :
  ∃ A z C, d = A ++ z :: ([] ++ x :: C) ∧ A.length = j - 1 ∧ d[j - 1]? = some z ∧ (lt x z = true → InsI lt P S R x (A ++ x :: ([] ++ z :: C)) (j - 1)) := by
 obtain ⟨s1, s2, rfl, rfl, rfl, h⟩ := h
 rcases List.eq_nil_or_concat s1 with rfl | ⟨s, z, rfl⟩
 ·simp at hj
 ·rw [List.concat_eq_append] at *
  refine ⟨P ++ s, z, s2 ++ R, by simp, by simp, by simp [], fun hl => ⟨s, z :: s2, by simp, by simp, by simp, ?_⟩⟩
  intro y hy
  rcases List.mem_cons.1 hy with rfl | k
  ·exact hl
  ·exact h y k
def Mf : MC :=
(Zs [mS 10 1, bC 11 .add 10 1, mS 8 11] [0,1,2,3,8] (.block 0 (.loop ([0,1,2,3,8], []) (.seq (Zs [mS 12 8, mS 13 2, bS 14 .lss 12 13] [0,1,2,3,8,14] (cX 14 0))
(.seq (.block 1 (Zs [mS 17 8, mS 9 17] [0,1,2,3,8,9] (.block 2 (.loop ([0,1,2,3,8,9], []) (.seq (.seq (.dreg [Zc [19] (mS 18 9), Zc [18] (mS 19 1), Ze [0,1] (bS 20 .gtr 18 19), Ze [0,1,2] (mS 21 20), { o := mS 22 3, g := some (21, true), hs := [23,24,25,26,27,28,29,30,31], bf := (.range 4) }, { o := mS 23 0, g := some (21, true), hs := [22,24,27,28,29,30,31], bf := (.range 4) }, { o := mS 24 9, g := some (21, true), hs := [22,23,27,28,29,30,31], bf := (.range 4) }, { o := xS 25 6 23 24, g := some (21, true), hs := [22,27,28,29,30,31], bf := [0,1,2,3,5,6] }, { o := lT 26 6 25, g := some (21, true), hs := [22,27,28,29,30,31], bf := [0,1,2,3,5,6,7] }, { o := mS 27 0, g := some (21, true), hs := [22,23,24,25,26,28,29], bf := (.range 4) }, { o := mS 28 9, g := some (21, true), hs := [22,23,24,25,26,27], bf := (.range 4) }, { o := bC 29 .sub 28 1, g := some (21, true), hs := [22,23,24,25,26,27], bf := [0,1,2,3,10] }, { o := xS 30 6 27 29, g := some (21, true), hs := [22,23,24,25,26], bf := [0,1,2,3,9,10,11] }, { o := lT 31 6 30, g := some (21, true), hs := [22,23,24,25,26], bf := [0,1,2,3,9,10,11,12] }, { o := .call 32 [] (.s 22) [.s 26, .s 31], g := some (21, true), bf := (.range 14) }, { o := bC 33 .lss 32 0, g := some (21, true), bf := (.range 15) }, Ze (.range 16) (.pick 34 (.s 21) (.s 33) cF)] [0,1,2,3,8,9,34])
(cX 34 2))
(.seq (.block 3 (.dreg [Zc [38,39,40,41,42,43,44,45,46,47,48,49,50] (mS 37 0), Zc [37,39,40,41,42,43,44,45,46,47,48,49,50] (mS 38 9), Zf [37,38,40,41,42,43,44,45,46,47,48,49,50,51] [0] (mS 39 0), Zf [37,38,39,42,43,44,45,46,47,48,49,50,51] [0] (mS 40 9), Zg [37,38,39,42,43,44,45,46,47,48,49,50,51] [0] [3] (bC 41 .sub 40 1), Zc [37,38,39,40,41,43,44,47,48,49,50] (mS 42 0), Zc [37,38,39,40,41,42,47,48,49,50] (mS 43 9), Zd [37,38,39,40,41,42,47,48,49,50] [6] (bC 44 .sub 43 1), Zd [37,38,39,40,41,47,48,49,50] [5,6,7] (xS 45 6 42 44), Zd [37,38,39,40,41,47,48,49,50] [5,6,7,8] (lT 46 6 45), Zc [37,38,39,40,41,42,43,44,45,46,48] (mS 47 0), Zc [37,38,39,40,41,42,43,44,45,46,47] (mS 48 9), Zd [37,38,39,40,41,42,43,44,45,46] [10,11] (xS 49 6 47 48), Zd [37,38,39,40,41,42,43,44,45,46] [10,11,12] (lT 50 6 49), Zd [39,40,41] [0,1,5,6,7,8,9,10,11,12,13] (xS 51 6 37 38), { o := sS 6 51 46, hs := [39,40,41], ws := [0], bf := [0,1,5,6,7,8,9,10,11,12,13,14] }, Ze (.range 16) (xS 52 6 39 41), { o := sS 6 52 50, ws := [0], bf := (.range 17) }] [0,1,2,3,8,9]))
(pr [mS 35 9, bC 36 .sub 35 1, mS 9 36] [0,1,2,3,8,9])))))))
(pr [mS 15 8, bC 16 .add 15 1, mS 8 16] [0,1,2,3,8]))))))
theorem Cy (P X Q : List GFound) (f : FuncId) (c : GFound → GFound → Int) (hc : ∀ x y, Ctr Tryz.prog f [aS x.enc, aS y.enc] [rI (c x y)]) (hw : Srt.Swo (ltc c)) {a b : Nat} (ha : P.length = a) (hb : (P ++ X).length = b) : CtrI Tryz.prog N3 [oL 6 ((P ++ X ++ Q).map GFound.enc), iI a, iI b, fI f] [some (6, (P ++ Srt.isort (ltc c) X ++ Q).map GFound.enc)] [] := by
 have hlk : ∀ k, (P ++ Srt.isort (ltc c) (X.take k) ++ (X.drop k ++ Q)).length = (P ++ X ++ Q).length := fun k => by simp [Srt.len_isort]; omega
 refine K11 (M := Mf) (m := 0) (n := 53) (res := []) hmix Tryz.func422 rfl (by kernel_rfl) rfl (by kernel_rfl) (by kernel_rfl) (Nat.le_of_ble_eq_true rfl) rfl rfl ?_; unfold Mf
 intro hbd
 have hl := Kw hbd
 clear hbd
 have hb' : b = a + X.length := by rw [← hb, ← ha]; simp
 have hbN : b ≤ (P ++ X ++ Q).length := by rw [List.length_append, hb]; omega
 generalize hN : (P ++ X ++ Q).length = N at *
 simp only [roomB] at hl
 simp only [go_sem, hN, wN1 (a := a) (by omega)]
 refine K1c (fun k : Nat => [(8, vI ((a + k : Nat) : Int))]) (fun k => [(0, ⟨1, .row true 6 ((P ++ Srt.isort (ltc c) (X.take k) ++ (X.drop k ++ Q)).map GFound.enc)⟩)]) (fun k => 1 ≤ k ∧ (k ≤ X.length ∨ k = 1)) (fun k => X.length - k) 1 ?_
 simp only [go_sem]
 refine ⟨?_, ⟨by omega, by omega⟩, ?_⟩
 ·simp only [go_sem]
  cases X with
  | nil => simp [Srt.isort, Srt.mrg]
  | cons x X => simp [Srt.isort, Srt.mrg, Srt.ins]
 ·rintro k ⟨h1, h2⟩
  simp only [go_sem]
  refine ⟨fun hlt => ?_, fun hge => ?_⟩
  ·obtain ⟨x, hx⟩ := Ki (show k < X.length by omega)
   refine K1c (ι := List GFound × Nat) (fun s => [(9, vI s.2)]) (fun s => [(0, ⟨1, .row true 6 (s.1.map GFound.enc)⟩)]) (fun s => InsI (ltc c) P (Srt.isort (ltc c) (X.take k)) (X.drop (k + 1) ++ Q) x s.1 s.2) (fun s => s.2) (P ++ Srt.isort (ltc c) (X.take k) ++ (X.drop k ++ Q), a + k) ?_
   simp only [go_sem]
   refine ⟨?_, ⟨Srt.isort (ltc c) (X.take k), [], by simp [K1h hx], by simp [Srt.len_isort]; omega, by simp, by simp⟩, ?_⟩
   ·simp only [go_sem]
   ·rintro ⟨d, j⟩ hI
    simp only at hI
    obtain ⟨hd, h3, h4⟩ := hI.len
    have hdN : d.length = N := by
     have := hlk k
     simp [K1h hx] at this hd
     omega
    have hdone : (j = P.length ∨ ∀ z ∈ d[j - 1]?, ltc c x z = false) → d.map GFound.enc = (P ++ Srt.isort (ltc c) (X.take (k + 1)) ++ (X.drop (k + 1) ++ Q)).map GFound.enc := fun h => by
     rw [hI.done hw (Srt.srt_isort hw _) h, Ks hx, Srt.isort_snoc]
    by_cases hj : P.length < j
    ·obtain ⟨A, z, C, e, k1, k2, k3⟩ := hI.step hj
     have e' : d.map GFound.enc = two (A.map GFound.enc) z.enc [] x.enc (C.map GFound.enc) := by subst e; simp [two]
     have e2 : (A ++ x :: ([] ++ z :: C)).map GFound.enc = two (A.map GFound.enc) x.enc [] z.enc (C.map GFound.enc) := by simp [two]
     obtain ⟨g1, g2, s1, s2, hL, d1, d2⟩ := K6r (A := A.map GFound.enc) (B := []) (C := C.map GFound.enc) (p := j - 1) (q := j) (by simpa using k1) (by simp; omega)
     have hL' : ∀ u v, (two (A.map GFound.enc) u [] v (C.map GFound.enc)).length = N := fun u v => by
      rw [← hdN, hL, e]; simp; omega
     rw [e']
     have j0 : (j : Int) > (a : Int) := by omega
     have j1 : (0 : Int) ≤ (j : Int) := by omega
     have j2 : (j : Int) < (N : Int) := by omega
     have j3 : (0 : Int) ≤ ((j - 1 : Nat) : Int) := by omega
     have j4 : ((j - 1 : Nat) : Int) < (N : Int) := by omega
     simp only [go_sem, hL', g1, g2, j0, j1, j2, j3, j4, wS1 (a := j) (by omega) (by omega)]
     apply K0 (hc x z)
     simp only [go_sem, hL', g1, g2, s1, s2, j1, j2, j3, j4, wS1 (a := j) (by omega) (by omega), wN1 (a := a + k) (by omega)]
     intro _
     refine ⟨fun hn => ⟨(A ++ x :: ([] ++ z :: C), j - 1), ⟨rfl, e2.symm⟩, k3 (by simpa [ltc] using hn), by show j - 1 < j; omega⟩, fun hn => ?_⟩
     have hz : ltc c x z = false := by simpa [ltc] using hn
     have := hdone (.inr (by rw [k2]; intro y hy; obtain rfl := Option.some.inj hy; exact hz))
     rw [e'] at this
     exact ⟨k + 1, ⟨rfl, this⟩, ⟨by omega, by omega⟩, by omega⟩
    ·have j0 : ¬ (j : Int) > (a : Int) := by omega
     simp only [go_sem, j0, wN1 (a := a + k) (by omega)]
     have := hdone (.inl (by omega))
     exact ⟨k + 1, ⟨rfl, this⟩, ⟨by omega, by omega⟩, by omega⟩
  ·have hk : X.length ≤ k := by omega
   rw [List.take_of_length_le hk, List.drop_of_length_le hk, List.nil_append]
end Go.Proofs.YtgkeplbnnjogiaaGreatR
