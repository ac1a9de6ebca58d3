/- What the functions compute that the laws of StepWrite reach: contracts. Conditions stand in each theorem. -/
import Derived.Test.YtgkeplbnnjogiaaGreatProg
import Derived.KernelRfl
import Derived.Test.YtgkeplbnnjogiaaGreatRStepWritec
set_option linter.unusedVariables false
set_option linter.unusedSimpArgs false
namespace Go.Proofs.YtgkeplbnnjogiaaGreatR
open Go Go.RowKit
attribute [go_sem ↓] bk_bind K6d bk_ite K3i
def Za (o : MO) : MOp := { o := o }
def Zb (k : Nat) (b : Bool) (o : MO) : MOp := { o := o, g := some (k, b) }
def Zc (h : List Nat) (o : MO) : MOp := { o := o, hs := h }
def Zd (h b : List Nat) (o : MO) : MOp := { o := o, hs := h, bf := b }
def Ze (b : List Nat) (o : MO) : MOp := { o := o, bf := b }
def Zf (h g : List Nat) (o : MO) : MOp := { o := o, hs := h, ho := g }
def Zg (h g b : List Nat) (o : MO) : MOp := { o := o, hs := h, ho := g, bf := b }
def pz : SC := .pl (.sc (.int .i64 0))
def ci (n : Int) : Od := .c (.int .i64 n)
def cT : Od := .c (.bool true)
def cF : Od := .c (.bool false)
attribute [go_sem] Nat.reduceEqDiff Nat.reduceLT Nat.reduceLeDiff Nat.reduceAdd Nat.reduceMul reduceCtorEq List.reduceReplicate
attribute [go_sem ↓] reduceIte
attribute [go_sem] Za Zb Zc Zd Ze Zf Zg pz ci cT cF
def mS (d a : Nat) : MO := .mv d (.s a)
def lF (d k a : Nat) : MO := .load d false k (.s a)
def lT (d k a : Nat) : MO := .load d true k (.s a)
def fS (d a k : Nat) : MO := .fld d (.s a) k
def xS (d k a b : Nat) : MO := .idx d k (.s a) (.s b)
def nS (d a : Nat) : MO := .len d false (.s a)
def bS (d : Nat) (o : BinOp) (a b : Nat) : MO := .bin d false o (.s a) (.s b)
def bC (d : Nat) (o : BinOp) (a : Nat) (b : Int) : MO := .bin d false o (.s a) (.c (.int .i64 b))
def sS (k a b : Nat) : MO := .store k (.s a) (.s b)
def cX (a k : Nat) : MC := .cond (.s a) .skip (.exit k)
def Zs (l : List MO) (h : List Nat) (c : MC) : MC := .seq (pr l h) c
attribute [go_sem] mS lF lT fS xS nS bS bC sS cX Zs
open Nat (reduceEqDiff reduceLT reduceLeDiff reduceAdd reduceMul)
open List (reduceReplicate)
def encI (n : Int) : List T := [tI n]
def encB (b : Bool) : List T := [tB b]
theorem K37 {ts : List T} (h : IsT .int ts) : ∃ n, ts = encI n := h
theorem Kw {α : Type} {enc : α → List T} {ty : DT} (h : ∀ {ts}, IsT ty ts → ∃ x, ts = enc x) : ∀ {es : List (List T)}, (∀ x ∈ es, IsT ty x) → ∃ xs : List α, es = xs.map enc
 | [], _ => ⟨[], rfl⟩
 | e :: es, k => by
  obtain ⟨x, rfl⟩ := h (k e (by simp))
  obtain ⟨xs, hx⟩ := Kw h (es := es) fun y hy => k y (by simp [hy])
  subst hx
  exact ⟨x :: xs, rfl⟩
structure GAddress where
 Host : Int
 Path : Int
 Query : Int
 deriving DecidableEq
def GAddress.enc (x : GAddress) : List T := [tI x.Host, tI x.Path, tI x.Query]
def GAddress.dt : DT := .st (.fc .int (.fc .int (.fc .int .fn)))
theorem GAddress.of {ts : List T} (h : IsT GAddress.dt ts) : ∃ x : GAddress, ts = x.enc := by
 simp only [GAddress.dt, IsT] at h
 obtain ⟨_, _, rfl, ⟨v0, rfl⟩, _, _, rfl, ⟨v1, rfl⟩, _, _, rfl, ⟨v2, rfl⟩, rfl⟩ := h
 exact ⟨⟨v0, v1, v2⟩, rfl⟩
theorem GAddress.eqv {x y : GAddress} : x = y ↔ x.Host = y.Host ∧ x.Path = y.Path ∧ x.Query = y.Query := by
 constructor
 ·rintro rfl; simp
 ·intro h
  rcases x with ⟨aHost, aPath, aQuery⟩
  rcases y with ⟨bHost, bPath, bQuery⟩
  simp only at h
  obtain ⟨rfl, rfl, rfl⟩ := h
  rfl
structure GResource where
 Kind : Int
 Body : List Int
 To : GAddress
 deriving DecidableEq
def GResource.enc (x : GResource) : List T := [tI x.Kind, .sl 1 (x.Body.map encI), tI x.To.Host, tI x.To.Path, tI x.To.Query]
def GResource.dt : DT := .st (.fc .int (.fc (.sl .int) (.fc GAddress.dt .fn)))
theorem GResource.of {ts : List T} (h : IsT GResource.dt ts) : ∃ x : GResource, ts = x.enc := by
 simp only [GResource.dt, IsT] at h
 obtain ⟨_, _, rfl, ⟨v0, rfl⟩, _, _, rfl, ⟨l1, rfl, k1⟩, _, _, rfl, k2, rfl⟩ := h
 obtain ⟨v1, rfl⟩ := Kw K37 k1
 obtain ⟨v2, rfl⟩ := GAddress.of k2
 exact ⟨⟨v0, v1, v2⟩, rfl⟩
theorem GResource.eqv {x y : GResource} : x = y ↔ x.Kind = y.Kind ∧ x.Body = y.Body ∧ x.To.Host = y.To.Host ∧ x.To.Path = y.To.Path ∧ x.To.Query = y.To.Query := by
 constructor
 ·rintro rfl; simp
 ·intro h
  rcases x with ⟨aKind, aBody, ⟨aToHost, aToPath, aToQuery⟩⟩
  rcases y with ⟨bKind, bBody, ⟨bToHost, bToPath, bToQuery⟩⟩
  simp only at h
  obtain ⟨rfl, rfl, rfl, rfl, rfl⟩ := h
  rfl
def GResource.size (x : GResource) : Nat := (x.Body.length)
structure GPart where
 Digest : Int
 Resource : GResource
 Uses : Int
 deriving DecidableEq
def GPart.enc (x : GPart) : List T := [tI x.Digest, tI x.Resource.Kind, .sl 1 (x.Resource.Body.map encI), tI x.Resource.To.Host, tI x.Resource.To.Path, tI x.Resource.To.Query, tI x.Uses]
def GPart.dt : DT := .st (.fc .int (.fc GResource.dt (.fc .int .fn)))
theorem GPart.of {ts : List T} (h : IsT GPart.dt ts) : ∃ x : GPart, ts = x.enc := by
 simp only [GPart.dt, IsT] at h
 obtain ⟨_, _, rfl, ⟨v0, rfl⟩, _, _, rfl, k1, _, _, rfl, ⟨v2, rfl⟩, rfl⟩ := h
 obtain ⟨v1, rfl⟩ := GResource.of k1
 exact ⟨⟨v0, v1, v2⟩, rfl⟩
theorem GPart.eqv {x y : GPart} : x = y ↔ x.Digest = y.Digest ∧ x.Resource.Kind = y.Resource.Kind ∧ x.Resource.Body = y.Resource.Body ∧ x.Resource.To.Host = y.Resource.To.Host ∧ x.Resource.To.Path = y.Resource.To.Path ∧ x.Resource.To.Query = y.Resource.To.Query ∧ x.Uses = y.Uses := by
 constructor
 ·rintro rfl; simp
 ·intro h
  rcases x with ⟨aDigest, ⟨aResourceKind, aResourceBody, ⟨aResourceToHost, aResourceToPath, aResourceToQuery⟩⟩, aUses⟩
  rcases y with ⟨bDigest, ⟨bResourceKind, bResourceBody, ⟨bResourceToHost, bResourceToPath, bResourceToQuery⟩⟩, bUses⟩
  simp only at h
  obtain ⟨rfl, rfl, rfl, rfl, rfl, rfl, rfl⟩ := h
  rfl
def GPart.size (x : GPart) : Nat := (x.Resource.size)
structure GPiece where
 From : Int
 Count : Int
 New : List Int
 deriving DecidableEq
def GPiece.enc (x : GPiece) : List T := [tI x.From, tI x.Count, .sl 1 (x.New.map encI)]
def GPiece.dt : DT := .st (.fc .int (.fc .int (.fc (.sl .int) .fn)))
theorem GPiece.of {ts : List T} (h : IsT GPiece.dt ts) : ∃ x : GPiece, ts = x.enc := by
 simp only [GPiece.dt, IsT] at h
 obtain ⟨_, _, rfl, ⟨v0, rfl⟩, _, _, rfl, ⟨v1, rfl⟩, _, _, rfl, ⟨l2, rfl, k2⟩, rfl⟩ := h
 obtain ⟨v2, rfl⟩ := Kw K37 k2
 exact ⟨⟨v0, v1, v2⟩, rfl⟩
theorem GPiece.eqv {x y : GPiece} : x = y ↔ x.From = y.From ∧ x.Count = y.Count ∧ x.New = y.New := by
 constructor
 ·rintro rfl; simp
 ·intro h
  rcases x with ⟨aFrom, aCount, aNew⟩
  rcases y with ⟨bFrom, bCount, bNew⟩
  simp only at h
  obtain ⟨rfl, rfl, rfl⟩ := h
  rfl
def GPiece.size (x : GPiece) : Nat := (x.New.length)
structure GVersion where
 Address : GAddress
 From : Int
 Resource : GResource
 deriving DecidableEq
def GVersion.enc (x : GVersion) : List T := [tI x.Address.Host, tI x.Address.Path, tI x.Address.Query, tI x.From, tI x.Resource.Kind, .sl 1 (x.Resource.Body.map encI), tI x.Resource.To.Host, tI x.Resource.To.Path, tI x.Resource.To.Query]
def GVersion.dt : DT := .st (.fc GAddress.dt (.fc .int (.fc GResource.dt .fn)))
theorem GVersion.of {ts : List T} (h : IsT GVersion.dt ts) : ∃ x : GVersion, ts = x.enc := by
 simp only [GVersion.dt, IsT] at h
 obtain ⟨_, _, rfl, k0, _, _, rfl, ⟨v1, rfl⟩, _, _, rfl, k2, rfl⟩ := h
 obtain ⟨v0, rfl⟩ := GAddress.of k0
 obtain ⟨v2, rfl⟩ := GResource.of k2
 exact ⟨⟨v0, v1, v2⟩, rfl⟩
theorem GVersion.eqv {x y : GVersion} : x = y ↔ x.Address.Host = y.Address.Host ∧ x.Address.Path = y.Address.Path ∧ x.Address.Query = y.Address.Query ∧ x.From = y.From ∧ x.Resource.Kind = y.Resource.Kind ∧ x.Resource.Body = y.Resource.Body ∧ x.Resource.To.Host = y.Resource.To.Host ∧ x.Resource.To.Path = y.Resource.To.Path ∧ x.Resource.To.Query = y.Resource.To.Query := by
 constructor
 ·rintro rfl; simp
 ·intro h
  rcases x with ⟨⟨aAddressHost, aAddressPath, aAddressQuery⟩, aFrom, ⟨aResourceKind, aResourceBody, ⟨aResourceToHost, aResourceToPath, aResourceToQuery⟩⟩⟩
  rcases y with ⟨⟨bAddressHost, bAddressPath, bAddressQuery⟩, bFrom, ⟨bResourceKind, bResourceBody, ⟨bResourceToHost, bResourceToPath, bResourceToQuery⟩⟩⟩
  simp only at h
  obtain ⟨rfl, rfl, rfl, rfl, rfl, rfl, rfl, rfl, rfl⟩ := h
  rfl
def GVersion.size (x : GVersion) : Nat := (x.Resource.size)
structure GOp where
 Kind : Int
 A : Int
 B : Int
 C : Int
 deriving DecidableEq
def GOp.enc (x : GOp) : List T := [tI x.Kind, tI x.A, tI x.B, tI x.C]
def GOp.dt : DT := .st (.fc .int (.fc .int (.fc .int (.fc .int .fn))))
theorem GOp.of {ts : List T} (h : IsT GOp.dt ts) : ∃ x : GOp, ts = x.enc := by
 simp only [GOp.dt, IsT] at h
 obtain ⟨_, _, rfl, ⟨v0, rfl⟩, _, _, rfl, ⟨v1, rfl⟩, _, _, rfl, ⟨v2, rfl⟩, _, _, rfl, ⟨v3, rfl⟩, rfl⟩ := h
 exact ⟨⟨v0, v1, v2, v3⟩, rfl⟩
theorem GOp.eqv {x y : GOp} : x = y ↔ x.Kind = y.Kind ∧ x.A = y.A ∧ x.B = y.B ∧ x.C = y.C := by
 constructor
 ·rintro rfl; simp
 ·intro h
  rcases x with ⟨aKind, aA, aB, aC⟩
  rcases y with ⟨bKind, bA, bB, bC⟩
  simp only at h
  obtain ⟨rfl, rfl, rfl, rfl⟩ := h
  rfl
structure GState where
 Pc : Int
 Regs : List Int
 Slots : List Int
 Nodes : List Int
 deriving DecidableEq
def GState.enc (x : GState) : List T := [tI x.Pc, .sl 1 (x.Regs.map encI), .sl 1 (x.Slots.map encI), .sl 1 (x.Nodes.map encI)]
def GState.dt : DT := .st (.fc .int (.fc (.sl .int) (.fc (.sl .int) (.fc (.sl .int) .fn))))
theorem GState.of {ts : List T} (h : IsT GState.dt ts) : ∃ x : GState, ts = x.enc := by
 simp only [GState.dt, IsT] at h
 obtain ⟨_, _, rfl, ⟨v0, rfl⟩, _, _, rfl, ⟨l1, rfl, k1⟩, _, _, rfl, ⟨l2, rfl, k2⟩, _, _, rfl, ⟨l3, rfl, k3⟩, rfl⟩ := h
 obtain ⟨v1, rfl⟩ := Kw K37 k1
 obtain ⟨v2, rfl⟩ := Kw K37 k2
 obtain ⟨v3, rfl⟩ := Kw K37 k3
 exact ⟨⟨v0, v1, v2, v3⟩, rfl⟩
theorem GState.eqv {x y : GState} : x = y ↔ x.Pc = y.Pc ∧ x.Regs = y.Regs ∧ x.Slots = y.Slots ∧ x.Nodes = y.Nodes := by
 constructor
 ·rintro rfl; simp
 ·intro h
  rcases x with ⟨aPc, aRegs, aSlots, aNodes⟩
  rcases y with ⟨bPc, bRegs, bSlots, bNodes⟩
  simp only at h
  obtain ⟨rfl, rfl, rfl, rfl⟩ := h
  rfl
def GState.size (x : GState) : Nat := (x.Regs.length) + (x.Slots.length) + (x.Nodes.length)
structure GVisit where
 Site : List GVersion
 Tick : Int
 Seed : Int
 Inputs : List Int
 deriving DecidableEq
def GVisit.enc (x : GVisit) : List T := [.sl 9 (x.Site.map GVersion.enc), tI x.Tick, tI x.Seed, .sl 1 (x.Inputs.map encI)]
def GVisit.dt : DT := .st (.fc (.sl GVersion.dt) (.fc .int (.fc .int (.fc (.sl .int) .fn))))
theorem GVisit.of {ts : List T} (h : IsT GVisit.dt ts) : ∃ x : GVisit, ts = x.enc := by
 simp only [GVisit.dt, IsT] at h
 obtain ⟨_, _, rfl, ⟨l0, rfl, k0⟩, _, _, rfl, ⟨v1, rfl⟩, _, _, rfl, ⟨v2, rfl⟩, _, _, rfl, ⟨l3, rfl, k3⟩, rfl⟩ := h
 obtain ⟨v0, rfl⟩ := Kw GVersion.of k0
 obtain ⟨v3, rfl⟩ := Kw K37 k3
 exact ⟨⟨v0, v1, v2, v3⟩, rfl⟩
theorem GVisit.eqv {x y : GVisit} : x = y ↔ x.Site = y.Site ∧ x.Tick = y.Tick ∧ x.Seed = y.Seed ∧ x.Inputs = y.Inputs := by
 constructor
 ·rintro rfl; simp
 ·intro h
  rcases x with ⟨aSite, aTick, aSeed, aInputs⟩
  rcases y with ⟨bSite, bTick, bSeed, bInputs⟩
  simp only at h
  obtain ⟨rfl, rfl, rfl, rfl⟩ := h
  rfl
def GVisit.size (x : GVisit) : Nat := (x.Site.length + (x.Site.map GVersion.size).sum) + (x.Inputs.length)
structure GWant where
 Kind : Int
 Address : GAddress
 deriving DecidableEq
def GWant.enc (x : GWant) : List T := [tI x.Kind, tI x.Address.Host, tI x.Address.Path, tI x.Address.Query]
def GWant.dt : DT := .st (.fc .int (.fc GAddress.dt .fn))
theorem GWant.of {ts : List T} (h : IsT GWant.dt ts) : ∃ x : GWant, ts = x.enc := by
 simp only [GWant.dt, IsT] at h
 obtain ⟨_, _, rfl, ⟨v0, rfl⟩, _, _, rfl, k1, rfl⟩ := h
 obtain ⟨v1, rfl⟩ := GAddress.of k1
 exact ⟨⟨v0, v1⟩, rfl⟩
theorem GWant.eqv {x y : GWant} : x = y ↔ x.Kind = y.Kind ∧ x.Address.Host = y.Address.Host ∧ x.Address.Path = y.Address.Path ∧ x.Address.Query = y.Address.Query := by
 constructor
 ·rintro rfl; simp
 ·intro h
  rcases x with ⟨aKind, ⟨aAddressHost, aAddressPath, aAddressQuery⟩⟩
  rcases y with ⟨bKind, ⟨bAddressHost, bAddressPath, bAddressQuery⟩⟩
  simp only at h
  obtain ⟨rfl, rfl, rfl, rfl⟩ := h
  rfl
structure GEntry where
 Kind : Int
 Address : GAddress
 Value : Int
 deriving DecidableEq
def GEntry.enc (x : GEntry) : List T := [tI x.Kind, tI x.Address.Host, tI x.Address.Path, tI x.Address.Query, tI x.Value]
def GEntry.dt : DT := .st (.fc .int (.fc GAddress.dt (.fc .int .fn)))
theorem GEntry.of {ts : List T} (h : IsT GEntry.dt ts) : ∃ x : GEntry, ts = x.enc := by
 simp only [GEntry.dt, IsT] at h
 obtain ⟨_, _, rfl, ⟨v0, rfl⟩, _, _, rfl, k1, _, _, rfl, ⟨v2, rfl⟩, rfl⟩ := h
 obtain ⟨v1, rfl⟩ := GAddress.of k1
 exact ⟨⟨v0, v1, v2⟩, rfl⟩
theorem GEntry.eqv {x y : GEntry} : x = y ↔ x.Kind = y.Kind ∧ x.Address.Host = y.Address.Host ∧ x.Address.Path = y.Address.Path ∧ x.Address.Query = y.Address.Query ∧ x.Value = y.Value := by
 constructor
 ·rintro rfl; simp
 ·intro h
  rcases x with ⟨aKind, ⟨aAddressHost, aAddressPath, aAddressQuery⟩, aValue⟩
  rcases y with ⟨bKind, ⟨bAddressHost, bAddressPath, bAddressQuery⟩, bValue⟩
  simp only at h
  obtain ⟨rfl, rfl, rfl, rfl, rfl⟩ := h
  rfl
structure GCapture where
 Address : GAddress
 Tick : Int
 Resource : GResource
 deriving DecidableEq
def GCapture.enc (x : GCapture) : List T := [tI x.Address.Host, tI x.Address.Path, tI x.Address.Query, tI x.Tick, tI x.Resource.Kind, .sl 1 (x.Resource.Body.map encI), tI x.Resource.To.Host, tI x.Resource.To.Path, tI x.Resource.To.Query]
def GCapture.dt : DT := .st (.fc GAddress.dt (.fc .int (.fc GResource.dt .fn)))
theorem GCapture.of {ts : List T} (h : IsT GCapture.dt ts) : ∃ x : GCapture, ts = x.enc := by
 simp only [GCapture.dt, IsT] at h
 obtain ⟨_, _, rfl, k0, _, _, rfl, ⟨v1, rfl⟩, _, _, rfl, k2, rfl⟩ := h
 obtain ⟨v0, rfl⟩ := GAddress.of k0
 obtain ⟨v2, rfl⟩ := GResource.of k2
 exact ⟨⟨v0, v1, v2⟩, rfl⟩
theorem GCapture.eqv {x y : GCapture} : x = y ↔ x.Address.Host = y.Address.Host ∧ x.Address.Path = y.Address.Path ∧ x.Address.Query = y.Address.Query ∧ x.Tick = y.Tick ∧ x.Resource.Kind = y.Resource.Kind ∧ x.Resource.Body = y.Resource.Body ∧ x.Resource.To.Host = y.Resource.To.Host ∧ x.Resource.To.Path = y.Resource.To.Path ∧ x.Resource.To.Query = y.Resource.To.Query := by
 constructor
 ·rintro rfl; simp
 ·intro h
  rcases x with ⟨⟨aAddressHost, aAddressPath, aAddressQuery⟩, aTick, ⟨aResourceKind, aResourceBody, ⟨aResourceToHost, aResourceToPath, aResourceToQuery⟩⟩⟩
  rcases y with ⟨⟨bAddressHost, bAddressPath, bAddressQuery⟩, bTick, ⟨bResourceKind, bResourceBody, ⟨bResourceToHost, bResourceToPath, bResourceToQuery⟩⟩⟩
  simp only at h
  obtain ⟨rfl, rfl, rfl, rfl, rfl, rfl, rfl, rfl, rfl⟩ := h
  rfl
def GCapture.size (x : GCapture) : Nat := (x.Resource.size)
structure GChoice where
 Rule : Int
 At : Int
 deriving DecidableEq
def GChoice.enc (x : GChoice) : List T := [tI x.Rule, tI x.At]
def GChoice.dt : DT := .st (.fc .int (.fc .int .fn))
theorem GChoice.of {ts : List T} (h : IsT GChoice.dt ts) : ∃ x : GChoice, ts = x.enc := by
 simp only [GChoice.dt, IsT] at h
 obtain ⟨_, _, rfl, ⟨v0, rfl⟩, _, _, rfl, ⟨v1, rfl⟩, rfl⟩ := h
 exact ⟨⟨v0, v1⟩, rfl⟩
theorem GChoice.eqv {x y : GChoice} : x = y ↔ x.Rule = y.Rule ∧ x.At = y.At := by
 constructor
 ·rintro rfl; simp
 ·intro h
  rcases x with ⟨aRule, aAt⟩
  rcases y with ⟨bRule, bAt⟩
  simp only at h
  obtain ⟨rfl, rfl⟩ := h
  rfl
structure GWander where
 State : GState
 Choices : List GChoice
 Labels : List Int
 Missing : Int
 deriving DecidableEq
def GWander.enc (x : GWander) : List T := [tI x.State.Pc, .sl 1 (x.State.Regs.map encI), .sl 1 (x.State.Slots.map encI), .sl 1 (x.State.Nodes.map encI), .sl 2 (x.Choices.map GChoice.enc), .sl 1 (x.Labels.map encI), tI x.Missing]
def GWander.dt : DT := .st (.fc GState.dt (.fc (.sl GChoice.dt) (.fc (.sl .int) (.fc .int .fn))))
theorem GWander.of {ts : List T} (h : IsT GWander.dt ts) : ∃ x : GWander, ts = x.enc := by
 simp only [GWander.dt, IsT] at h
 obtain ⟨_, _, rfl, k0, _, _, rfl, ⟨l1, rfl, k1⟩, _, _, rfl, ⟨l2, rfl, k2⟩, _, _, rfl, ⟨v3, rfl⟩, rfl⟩ := h
 obtain ⟨v0, rfl⟩ := GState.of k0
 obtain ⟨v1, rfl⟩ := Kw GChoice.of k1
 obtain ⟨v2, rfl⟩ := Kw K37 k2
 exact ⟨⟨v0, v1, v2, v3⟩, rfl⟩
theorem GWander.eqv {x y : GWander} : x = y ↔ x.State.Pc = y.State.Pc ∧ x.State.Regs = y.State.Regs ∧ x.State.Slots = y.State.Slots ∧ x.State.Nodes = y.State.Nodes ∧ x.Choices = y.Choices ∧ x.Labels = y.Labels ∧ x.Missing = y.Missing := by
 constructor
 ·rintro rfl; simp
 ·intro h
  rcases x with ⟨⟨aStatePc, aStateRegs, aStateSlots, aStateNodes⟩, aChoices, aLabels, aMissing⟩
  rcases y with ⟨⟨bStatePc, bStateRegs, bStateSlots, bStateNodes⟩, bChoices, bLabels, bMissing⟩
  simp only at h
  obtain ⟨rfl, rfl, rfl, rfl, rfl, rfl, rfl⟩ := h
  rfl
def GWander.size (x : GWander) : Nat := (x.State.size) + (x.Choices.length) + (x.Labels.length)
structure GModel where
 Base : Int
 Step : Int
 Seen : Int
 Fits : Bool
 deriving DecidableEq
def GModel.enc (x : GModel) : List T := [tI x.Base, tI x.Step, tI x.Seen, tB x.Fits]
def GModel.dt : DT := .st (.fc .int (.fc .int (.fc .int (.fc .bool .fn))))
theorem GModel.of {ts : List T} (h : IsT GModel.dt ts) : ∃ x : GModel, ts = x.enc := by
 simp only [GModel.dt, IsT] at h
 obtain ⟨_, _, rfl, ⟨v0, rfl⟩, _, _, rfl, ⟨v1, rfl⟩, _, _, rfl, ⟨v2, rfl⟩, _, _, rfl, ⟨v3, rfl⟩, rfl⟩ := h
 exact ⟨⟨v0, v1, v2, v3⟩, rfl⟩
theorem GModel.eqv {x y : GModel} : x = y ↔ x.Base = y.Base ∧ x.Step = y.Step ∧ x.Seen = y.Seen ∧ x.Fits = y.Fits := by
 constructor
 ·rintro rfl; simp
 ·intro h
  rcases x with ⟨aBase, aStep, aSeen, aFits⟩
  rcases y with ⟨bBase, bStep, bSeen, bFits⟩
  simp only at h
  obtain ⟨rfl, rfl, rfl, rfl⟩ := h
  rfl
structure GShown where
 Tick : Int
 Address : GAddress
 deriving DecidableEq
def GShown.enc (x : GShown) : List T := [tI x.Tick, tI x.Address.Host, tI x.Address.Path, tI x.Address.Query]
def GShown.dt : DT := .st (.fc .int (.fc GAddress.dt .fn))
theorem GShown.of {ts : List T} (h : IsT GShown.dt ts) : ∃ x : GShown, ts = x.enc := by
 simp only [GShown.dt, IsT] at h
 obtain ⟨_, _, rfl, ⟨v0, rfl⟩, _, _, rfl, k1, rfl⟩ := h
 obtain ⟨v1, rfl⟩ := GAddress.of k1
 exact ⟨⟨v0, v1⟩, rfl⟩
theorem GShown.eqv {x y : GShown} : x = y ↔ x.Tick = y.Tick ∧ x.Address.Host = y.Address.Host ∧ x.Address.Path = y.Address.Path ∧ x.Address.Query = y.Address.Query := by
 constructor
 ·rintro rfl; simp
 ·intro h
  rcases x with ⟨aTick, ⟨aAddressHost, aAddressPath, aAddressQuery⟩⟩
  rcases y with ⟨bTick, ⟨bAddressHost, bAddressPath, bAddressQuery⟩⟩
  simp only at h
  obtain ⟨rfl, rfl, rfl, rfl⟩ := h
  rfl
structure GLeaf where
 Value : Int
 Salt : Int
 Hidden : Bool
 Seal : Int
 deriving DecidableEq
def GLeaf.enc (x : GLeaf) : List T := [tI x.Value, tI x.Salt, tB x.Hidden, tI x.Seal]
def GLeaf.dt : DT := .st (.fc .int (.fc .int (.fc .bool (.fc .int .fn))))
theorem GLeaf.of {ts : List T} (h : IsT GLeaf.dt ts) : ∃ x : GLeaf, ts = x.enc := by
 simp only [GLeaf.dt, IsT] at h
 obtain ⟨_, _, rfl, ⟨v0, rfl⟩, _, _, rfl, ⟨v1, rfl⟩, _, _, rfl, ⟨v2, rfl⟩, _, _, rfl, ⟨v3, rfl⟩, rfl⟩ := h
 exact ⟨⟨v0, v1, v2, v3⟩, rfl⟩
theorem GLeaf.eqv {x y : GLeaf} : x = y ↔ x.Value = y.Value ∧ x.Salt = y.Salt ∧ x.Hidden = y.Hidden ∧ x.Seal = y.Seal := by
 constructor
 ·rintro rfl; simp
 ·intro h
  rcases x with ⟨aValue, aSalt, aHidden, aSeal⟩
  rcases y with ⟨bValue, bSalt, bHidden, bSeal⟩
  simp only at h
  obtain ⟨rfl, rfl, rfl, rfl⟩ := h
  rfl
structure GEdition where
 Captures : List GCapture
 From : Int
 Until : Int
 Hidden : List GAddress
 deriving DecidableEq
def GEdition.enc (x : GEdition) : List T := [.sl 9 (x.Captures.map GCapture.enc), tI x.From, tI x.Until, .sl 3 (x.Hidden.map GAddress.enc)]
def GEdition.dt : DT := .st (.fc (.sl GCapture.dt) (.fc .int (.fc .int (.fc (.sl GAddress.dt) .fn))))
theorem GEdition.of {ts : List T} (h : IsT GEdition.dt ts) : ∃ x : GEdition, ts = x.enc := by
 simp only [GEdition.dt, IsT] at h
 obtain ⟨_, _, rfl, ⟨l0, rfl, k0⟩, _, _, rfl, ⟨v1, rfl⟩, _, _, rfl, ⟨v2, rfl⟩, _, _, rfl, ⟨l3, rfl, k3⟩, rfl⟩ := h
 obtain ⟨v0, rfl⟩ := Kw GCapture.of k0
 obtain ⟨v3, rfl⟩ := Kw GAddress.of k3
 exact ⟨⟨v0, v1, v2, v3⟩, rfl⟩
theorem GEdition.eqv {x y : GEdition} : x = y ↔ x.Captures = y.Captures ∧ x.From = y.From ∧ x.Until = y.Until ∧ x.Hidden = y.Hidden := by
 constructor
 ·rintro rfl; simp
 ·intro h
  rcases x with ⟨aCaptures, aFrom, aUntil, aHidden⟩
  rcases y with ⟨bCaptures, bFrom, bUntil, bHidden⟩
  simp only at h
  obtain ⟨rfl, rfl, rfl, rfl⟩ := h
  rfl
def GEdition.size (x : GEdition) : Nat := (x.Captures.length + (x.Captures.map GCapture.size).sum) + (x.Hidden.length)
structure GExclusion where
 Host : Int
 Path : Int
 From : Int
 Until : Int
 Asked : Int
 deriving DecidableEq
def GExclusion.enc (x : GExclusion) : List T := [tI x.Host, tI x.Path, tI x.From, tI x.Until, tI x.Asked]
def GExclusion.dt : DT := .st (.fc .int (.fc .int (.fc .int (.fc .int (.fc .int .fn)))))
theorem GExclusion.of {ts : List T} (h : IsT GExclusion.dt ts) : ∃ x : GExclusion, ts = x.enc := by
 simp only [GExclusion.dt, IsT] at h
 obtain ⟨_, _, rfl, ⟨v0, rfl⟩, _, _, rfl, ⟨v1, rfl⟩, _, _, rfl, ⟨v2, rfl⟩, _, _, rfl, ⟨v3, rfl⟩, _, _, rfl, ⟨v4, rfl⟩, rfl⟩ := h
 exact ⟨⟨v0, v1, v2, v3, v4⟩, rfl⟩
theorem GExclusion.eqv {x y : GExclusion} : x = y ↔ x.Host = y.Host ∧ x.Path = y.Path ∧ x.From = y.From ∧ x.Until = y.Until ∧ x.Asked = y.Asked := by
 constructor
 ·rintro rfl; simp
 ·intro h
  rcases x with ⟨aHost, aPath, aFrom, aUntil, aAsked⟩
  rcases y with ⟨bHost, bPath, bFrom, bUntil, bAsked⟩
  simp only at h
  obtain ⟨rfl, rfl, rfl, rfl, rfl⟩ := h
  rfl
structure GStatement where
 Witness : Int
 Digest : Int
 Tick : Int
 Seal : Int
 deriving DecidableEq
def GStatement.enc (x : GStatement) : List T := [tI x.Witness, tI x.Digest, tI x.Tick, tI x.Seal]
def GStatement.dt : DT := .st (.fc .int (.fc .int (.fc .int (.fc .int .fn))))
theorem GStatement.of {ts : List T} (h : IsT GStatement.dt ts) : ∃ x : GStatement, ts = x.enc := by
 simp only [GStatement.dt, IsT] at h
 obtain ⟨_, _, rfl, ⟨v0, rfl⟩, _, _, rfl, ⟨v1, rfl⟩, _, _, rfl, ⟨v2, rfl⟩, _, _, rfl, ⟨v3, rfl⟩, rfl⟩ := h
 exact ⟨⟨v0, v1, v2, v3⟩, rfl⟩
theorem GStatement.eqv {x y : GStatement} : x = y ↔ x.Witness = y.Witness ∧ x.Digest = y.Digest ∧ x.Tick = y.Tick ∧ x.Seal = y.Seal := by
 constructor
 ·rintro rfl; simp
 ·intro h
  rcases x with ⟨aWitness, aDigest, aTick, aSeal⟩
  rcases y with ⟨bWitness, bDigest, bTick, bSeal⟩
  simp only at h
  obtain ⟨rfl, rfl, rfl, rfl⟩ := h
  rfl
structure GLibrary where
 Id : Int
 Digests : List Int
 Up : Bool
 Lies : Bool
 deriving DecidableEq
def GLibrary.enc (x : GLibrary) : List T := [tI x.Id, .sl 1 (x.Digests.map encI), tB x.Up, tB x.Lies]
def GLibrary.dt : DT := .st (.fc .int (.fc (.sl .int) (.fc .bool (.fc .bool .fn))))
theorem GLibrary.of {ts : List T} (h : IsT GLibrary.dt ts) : ∃ x : GLibrary, ts = x.enc := by
 simp only [GLibrary.dt, IsT] at h
 obtain ⟨_, _, rfl, ⟨v0, rfl⟩, _, _, rfl, ⟨l1, rfl, k1⟩, _, _, rfl, ⟨v2, rfl⟩, _, _, rfl, ⟨v3, rfl⟩, rfl⟩ := h
 obtain ⟨v1, rfl⟩ := Kw K37 k1
 exact ⟨⟨v0, v1, v2, v3⟩, rfl⟩
theorem GLibrary.eqv {x y : GLibrary} : x = y ↔ x.Id = y.Id ∧ x.Digests = y.Digests ∧ x.Up = y.Up ∧ x.Lies = y.Lies := by
 constructor
 ·rintro rfl; simp
 ·intro h
  rcases x with ⟨aId, aDigests, aUp, aLies⟩
  rcases y with ⟨bId, bDigests, bUp, bLies⟩
  simp only at h
  obtain ⟨rfl, rfl, rfl, rfl⟩ := h
  rfl
def GLibrary.size (x : GLibrary) : Nat := (x.Digests.length)
structure GContainer where
 Script : List GOp
 Entries : List GEntry
 Captures : List GCapture
 Root : Int
 deriving DecidableEq
def GContainer.enc (x : GContainer) : List T := [.sl 4 (x.Script.map GOp.enc), .sl 5 (x.Entries.map GEntry.enc), .sl 9 (x.Captures.map GCapture.enc), tI x.Root]
def GContainer.dt : DT := .st (.fc (.sl GOp.dt) (.fc (.sl GEntry.dt) (.fc (.sl GCapture.dt) (.fc .int .fn))))
theorem GContainer.of {ts : List T} (h : IsT GContainer.dt ts) : ∃ x : GContainer, ts = x.enc := by
 simp only [GContainer.dt, IsT] at h
 obtain ⟨_, _, rfl, ⟨l0, rfl, k0⟩, _, _, rfl, ⟨l1, rfl, k1⟩, _, _, rfl, ⟨l2, rfl, k2⟩, _, _, rfl, ⟨v3, rfl⟩, rfl⟩ := h
 obtain ⟨v0, rfl⟩ := Kw GOp.of k0
 obtain ⟨v1, rfl⟩ := Kw GEntry.of k1
 obtain ⟨v2, rfl⟩ := Kw GCapture.of k2
 exact ⟨⟨v0, v1, v2, v3⟩, rfl⟩
theorem GContainer.eqv {x y : GContainer} : x = y ↔ x.Script = y.Script ∧ x.Entries = y.Entries ∧ x.Captures = y.Captures ∧ x.Root = y.Root := by
 constructor
 ·rintro rfl; simp
 ·intro h
  rcases x with ⟨aScript, aEntries, aCaptures, aRoot⟩
  rcases y with ⟨bScript, bEntries, bCaptures, bRoot⟩
  simp only at h
  obtain ⟨rfl, rfl, rfl, rfl⟩ := h
  rfl
def GContainer.size (x : GContainer) : Nat := (x.Script.length) + (x.Entries.length) + (x.Captures.length + (x.Captures.map GCapture.size).sum)
structure GFound where
 Address : GAddress
 Tick : Int
 Container : Int
 At : Int
 deriving DecidableEq
def GFound.enc (x : GFound) : List T := [tI x.Address.Host, tI x.Address.Path, tI x.Address.Query, tI x.Tick, tI x.Container, tI x.At]
def GFound.dt : DT := .st (.fc GAddress.dt (.fc .int (.fc .int (.fc .int .fn))))
theorem GFound.of {ts : List T} (h : IsT GFound.dt ts) : ∃ x : GFound, ts = x.enc := by
 simp only [GFound.dt, IsT] at h
 obtain ⟨_, _, rfl, k0, _, _, rfl, ⟨v1, rfl⟩, _, _, rfl, ⟨v2, rfl⟩, _, _, rfl, ⟨v3, rfl⟩, rfl⟩ := h
 obtain ⟨v0, rfl⟩ := GAddress.of k0
 exact ⟨⟨v0, v1, v2, v3⟩, rfl⟩
theorem GFound.eqv {x y : GFound} : x = y ↔ x.Address.Host = y.Address.Host ∧ x.Address.Path = y.Address.Path ∧ x.Address.Query = y.Address.Query ∧ x.Tick = y.Tick ∧ x.Container = y.Container ∧ x.At = y.At := by
 constructor
 ·rintro rfl; simp
 ·intro h
  rcases x with ⟨⟨aAddressHost, aAddressPath, aAddressQuery⟩, aTick, aContainer, aAt⟩
  rcases y with ⟨⟨bAddressHost, bAddressPath, bAddressQuery⟩, bTick, bContainer, bAt⟩
  simp only at h
  obtain ⟨rfl, rfl, rfl, rfl, rfl, rfl⟩ := h
  rfl
structure GDisk where
 Containers : List GContainer
 Index : List GFound
 Wanted : List GContainer
 deriving DecidableEq
def GDisk.enc (x : GDisk) : List T := [.sl 4 (x.Containers.map GContainer.enc), .sl 6 (x.Index.map GFound.enc), .sl 4 (x.Wanted.map GContainer.enc)]
def GDisk.dt : DT := .st (.fc (.sl GContainer.dt) (.fc (.sl GFound.dt) (.fc (.sl GContainer.dt) .fn)))
theorem GDisk.of {ts : List T} (h : IsT GDisk.dt ts) : ∃ x : GDisk, ts = x.enc := by
 simp only [GDisk.dt, IsT] at h
 obtain ⟨_, _, rfl, ⟨l0, rfl, k0⟩, _, _, rfl, ⟨l1, rfl, k1⟩, _, _, rfl, ⟨l2, rfl, k2⟩, rfl⟩ := h
 obtain ⟨v0, rfl⟩ := Kw GContainer.of k0
 obtain ⟨v1, rfl⟩ := Kw GFound.of k1
 obtain ⟨v2, rfl⟩ := Kw GContainer.of k2
 exact ⟨⟨v0, v1, v2⟩, rfl⟩
theorem GDisk.eqv {x y : GDisk} : x = y ↔ x.Containers = y.Containers ∧ x.Index = y.Index ∧ x.Wanted = y.Wanted := by
 constructor
 ·rintro rfl; simp
 ·intro h
  rcases x with ⟨aContainers, aIndex, aWanted⟩
  rcases y with ⟨bContainers, bIndex, bWanted⟩
  simp only at h
  obtain ⟨rfl, rfl, rfl⟩ := h
  rfl
def GDisk.size (x : GDisk) : Nat := (x.Containers.length + (x.Containers.map GContainer.size).sum) + (x.Index.length) + (x.Wanted.length + (x.Wanted.map GContainer.size).sum)
structure GArchive where
 Site : List GVersion
 Script : List GOp
 Disk : GDisk
 Exclusions : List GExclusion
 Libraries : List GLibrary
 Keys : List Int
 Statements : List GStatement
 Now : Int
 deriving DecidableEq
def GArchive.enc (x : GArchive) : List T := [.sl 9 (x.Site.map GVersion.enc), .sl 4 (x.Script.map GOp.enc), .sl 4 (x.Disk.Containers.map GContainer.enc), .sl 6 (x.Disk.Index.map GFound.enc), .sl 4 (x.Disk.Wanted.map GContainer.enc), .sl 5 (x.Exclusions.map GExclusion.enc), .sl 4 (x.Libraries.map GLibrary.enc), .sl 1 (x.Keys.map encI), .sl 4 (x.Statements.map GStatement.enc), tI x.Now]
def GArchive.dt : DT := .st (.fc (.sl GVersion.dt) (.fc (.sl GOp.dt) (.fc GDisk.dt (.fc (.sl GExclusion.dt) (.fc (.sl GLibrary.dt) (.fc (.sl .int) (.fc (.sl GStatement.dt) (.fc .int .fn))))))))
theorem GArchive.of {ts : List T} (h : IsT GArchive.dt ts) : ∃ x : GArchive, ts = x.enc := by
 simp only [GArchive.dt, IsT] at h
 obtain ⟨_, _, rfl, ⟨l0, rfl, k0⟩, _, _, rfl, ⟨l1, rfl, k1⟩, _, _, rfl, k2, _, _, rfl, ⟨l3, rfl, k3⟩, _, _, rfl, ⟨l4, rfl, k4⟩, _, _, rfl, ⟨l5, rfl, k5⟩, _, _, rfl, ⟨l6, rfl, k6⟩, _, _, rfl, ⟨v7, rfl⟩, rfl⟩ := h
 obtain ⟨v0, rfl⟩ := Kw GVersion.of k0
 obtain ⟨v1, rfl⟩ := Kw GOp.of k1
 obtain ⟨v2, rfl⟩ := GDisk.of k2
 obtain ⟨v3, rfl⟩ := Kw GExclusion.of k3
 obtain ⟨v4, rfl⟩ := Kw GLibrary.of k4
 obtain ⟨v5, rfl⟩ := Kw K37 k5
 obtain ⟨v6, rfl⟩ := Kw GStatement.of k6
 exact ⟨⟨v0, v1, v2, v3, v4, v5, v6, v7⟩, rfl⟩
theorem GArchive.eqv {x y : GArchive} : x = y ↔ x.Site = y.Site ∧ x.Script = y.Script ∧ x.Disk.Containers = y.Disk.Containers ∧ x.Disk.Index = y.Disk.Index ∧ x.Disk.Wanted = y.Disk.Wanted ∧ x.Exclusions = y.Exclusions ∧ x.Libraries = y.Libraries ∧ x.Keys = y.Keys ∧ x.Statements = y.Statements ∧ x.Now = y.Now := by
 constructor
 ·rintro rfl; simp
 ·intro h
  rcases x with ⟨aSite, aScript, ⟨aDiskContainers, aDiskIndex, aDiskWanted⟩, aExclusions, aLibraries, aKeys, aStatements, aNow⟩
  rcases y with ⟨bSite, bScript, ⟨bDiskContainers, bDiskIndex, bDiskWanted⟩, bExclusions, bLibraries, bKeys, bStatements, bNow⟩
  simp only at h
  obtain ⟨rfl, rfl, rfl, rfl, rfl, rfl, rfl, rfl, rfl, rfl⟩ := h
  rfl
def GArchive.size (x : GArchive) : Nat := (x.Site.length + (x.Site.map GVersion.size).sum) + (x.Script.length) + (x.Disk.size) + (x.Exclusions.length) + (x.Libraries.length + (x.Libraries.map GLibrary.size).sum) + (x.Keys.length) + (x.Statements.length)
structure GEvent where
 Kind : Int
 N : Int
 Inputs : List Int
 Version : GVersion
 Exclusion : GExclusion
 deriving DecidableEq
def GEvent.enc (x : GEvent) : List T := [tI x.Kind, tI x.N, .sl 1 (x.Inputs.map encI), tI x.Version.Address.Host, tI x.Version.Address.Path, tI x.Version.Address.Query, tI x.Version.From, tI x.Version.Resource.Kind, .sl 1 (x.Version.Resource.Body.map encI), tI x.Version.Resource.To.Host, tI x.Version.Resource.To.Path, tI x.Version.Resource.To.Query, tI x.Exclusion.Host, tI x.Exclusion.Path, tI x.Exclusion.From, tI x.Exclusion.Until, tI x.Exclusion.Asked]
def GEvent.dt : DT := .st (.fc .int (.fc .int (.fc (.sl .int) (.fc GVersion.dt (.fc GExclusion.dt .fn)))))
theorem GEvent.of {ts : List T} (h : IsT GEvent.dt ts) : ∃ x : GEvent, ts = x.enc := by
 simp only [GEvent.dt, IsT] at h
 obtain ⟨_, _, rfl, ⟨v0, rfl⟩, _, _, rfl, ⟨v1, rfl⟩, _, _, rfl, ⟨l2, rfl, k2⟩, _, _, rfl, k3, _, _, rfl, k4, rfl⟩ := h
 obtain ⟨v2, rfl⟩ := Kw K37 k2
 obtain ⟨v3, rfl⟩ := GVersion.of k3
 obtain ⟨v4, rfl⟩ := GExclusion.of k4
 exact ⟨⟨v0, v1, v2, v3, v4⟩, rfl⟩
theorem GEvent.eqv {x y : GEvent} : x = y ↔ x.Kind = y.Kind ∧ x.N = y.N ∧ x.Inputs = y.Inputs ∧ x.Version.Address.Host = y.Version.Address.Host ∧ x.Version.Address.Path = y.Version.Address.Path ∧ x.Version.Address.Query = y.Version.Address.Query ∧ x.Version.From = y.Version.From ∧ x.Version.Resource.Kind = y.Version.Resource.Kind ∧ x.Version.Resource.Body = y.Version.Resource.Body ∧ x.Version.Resource.To.Host = y.Version.Resource.To.Host ∧ x.Version.Resource.To.Path = y.Version.Resource.To.Path ∧ x.Version.Resource.To.Query = y.Version.Resource.To.Query ∧ x.Exclusion.Host = y.Exclusion.Host ∧ x.Exclusion.Path = y.Exclusion.Path ∧ x.Exclusion.From = y.Exclusion.From ∧ x.Exclusion.Until = y.Exclusion.Until ∧ x.Exclusion.Asked = y.Exclusion.Asked := by
 constructor
 ·rintro rfl; simp
 ·intro h
  rcases x with ⟨aKind, aN, aInputs, ⟨⟨aVersionAddressHost, aVersionAddressPath, aVersionAddressQuery⟩, aVersionFrom, ⟨aVersionResourceKind, aVersionResourceBody, ⟨aVersionResourceToHost, aVersionResourceToPath, aVersionResourceToQuery⟩⟩⟩, ⟨aExclusionHost, aExclusionPath, aExclusionFrom, aExclusionUntil, aExclusionAsked⟩⟩
  rcases y with ⟨bKind, bN, bInputs, ⟨⟨bVersionAddressHost, bVersionAddressPath, bVersionAddressQuery⟩, bVersionFrom, ⟨bVersionResourceKind, bVersionResourceBody, ⟨bVersionResourceToHost, bVersionResourceToPath, bVersionResourceToQuery⟩⟩⟩, ⟨bExclusionHost, bExclusionPath, bExclusionFrom, bExclusionUntil, bExclusionAsked⟩⟩
  simp only at h
  obtain ⟨rfl, rfl, rfl, rfl, rfl, rfl, rfl, rfl, rfl, rfl, rfl, rfl, rfl, rfl, rfl, rfl, rfl⟩ := h
  rfl
def GEvent.size (x : GEvent) : Nat := (x.Inputs.length) + (x.Version.size)
structure GChange where
 Tick : Int
 Digest : Int
 deriving DecidableEq
def GChange.enc (x : GChange) : List T := [tI x.Tick, tI x.Digest]
def GChange.dt : DT := .st (.fc .int (.fc .int .fn))
theorem GChange.of {ts : List T} (h : IsT GChange.dt ts) : ∃ x : GChange, ts = x.enc := by
 simp only [GChange.dt, IsT] at h
 obtain ⟨_, _, rfl, ⟨v0, rfl⟩, _, _, rfl, ⟨v1, rfl⟩, rfl⟩ := h
 exact ⟨⟨v0, v1⟩, rfl⟩
theorem GChange.eqv {x y : GChange} : x = y ↔ x.Tick = y.Tick ∧ x.Digest = y.Digest := by
 constructor
 ·rintro rfl; simp
 ·intro h
  rcases x with ⟨aTick, aDigest⟩
  rcases y with ⟨bTick, bDigest⟩
  simp only at h
  obtain ⟨rfl, rfl⟩ := h
  rfl
structure GPlayed where
 Code : Int
 At : Int
 State : GState
 deriving DecidableEq
def GPlayed.enc (x : GPlayed) : List T := [tI x.Code, tI x.At, tI x.State.Pc, .sl 1 (x.State.Regs.map encI), .sl 1 (x.State.Slots.map encI), .sl 1 (x.State.Nodes.map encI)]
def GPlayed.dt : DT := .st (.fc .int (.fc .int (.fc GState.dt .fn)))
theorem GPlayed.of {ts : List T} (h : IsT GPlayed.dt ts) : ∃ x : GPlayed, ts = x.enc := by
 simp only [GPlayed.dt, IsT] at h
 obtain ⟨_, _, rfl, ⟨v0, rfl⟩, _, _, rfl, ⟨v1, rfl⟩, _, _, rfl, k2, rfl⟩ := h
 obtain ⟨v2, rfl⟩ := GState.of k2
 exact ⟨⟨v0, v1, v2⟩, rfl⟩
theorem GPlayed.eqv {x y : GPlayed} : x = y ↔ x.Code = y.Code ∧ x.At = y.At ∧ x.State.Pc = y.State.Pc ∧ x.State.Regs = y.State.Regs ∧ x.State.Slots = y.State.Slots ∧ x.State.Nodes = y.State.Nodes := by
 constructor
 ·rintro rfl; simp
 ·intro h
  rcases x with ⟨aCode, aAt, ⟨aStatePc, aStateRegs, aStateSlots, aStateNodes⟩⟩
  rcases y with ⟨bCode, bAt, ⟨bStatePc, bStateRegs, bStateSlots, bStateNodes⟩⟩
  simp only at h
  obtain ⟨rfl, rfl, rfl, rfl, rfl, rfl⟩ := h
  rfl
def GPlayed.size (x : GPlayed) : Nat := (x.State.size)
attribute [go_sem] encI encB GAddress.enc GResource.enc GPart.enc GPiece.enc GVersion.enc GOp.enc GState.enc GVisit.enc GWant.enc GEntry.enc GCapture.enc GChoice.enc GWander.enc GModel.enc GShown.enc GLeaf.enc GEdition.enc GExclusion.enc GStatement.enc GLibrary.enc GContainer.enc GFound.enc GDisk.enc GArchive.enc GEvent.enc GChange.enc GPlayed.enc
end Go.Proofs.YtgkeplbnnjogiaaGreatR
namespace Go.Proofs.YtgkeplbnnjogiaaGreatR
open Go Go.RowKit
open Nat (reduceEqDiff reduceLT reduceLeDiff reduceAdd reduceMul)
open List (reduceReplicate)
def szr (n : Nat) (left : Int) : Int := if (n : Int) ≤ left then left - n else -1
theorem K5n {n : Nat} {left : Int} (_ : 0 ≤ left) : szr n left < 0 ↔ left < n := by unfold szr; split <;> omega
theorem K1u {n m : Nat} {left : Int} (_ : 0 ≤ left) (h1 : ¬ szr n left < 0) : 0 ≤ szr n left ∧ szr n left ≤ left ∧ szr (n + m) left = szr m (szr n left) := by
 unfold szr at *
 split at h1
 ·rename_i h2
  simp only [h2, if_true]
  refine ⟨by omega, by omega, ?_⟩
  split <;> split <;> omega
 ·omega
def own : List T → List (Bool × T)
 | [] => []
 | .sl k es :: l => (true, .sl k es) :: own l
 | t :: l => (false, t) :: own l
@[go_sem] theorem own_nil : own [] = [] := rfl
@[go_sem] theorem own_sl {k es l} : own (.sl k es :: l) = (true, .sl k es) :: own l := rfl
@[go_sem] theorem own_sc {v l} : own (.sc v :: l) = (false, .sc v) :: own l := rfl
abbrev rS (ts : List T) : RV := ⟨true, own ts⟩
abbrev rL (k : Nat) (es : List (List T)) : RV := ⟨false, [(true, .sl k es)]⟩
abbrev aS (ts : List T) : Bool × List T := (true, ts)
attribute [go_sem] rS rL aS
def filled {α : Type} (f : α → List T) (z : List T) (xs : List α) (k : Nat) : List (List T) := (xs.take k).map f ++ List.replicate (xs.length - k) z
section
variable {α : Type} {f : α → List T} {z : List T} {xs : List α} {k : Nat}
@[go_sem] theorem Kv (h : k ≤ xs.length) : (filled f z xs k).length = xs.length := by simp [filled]; omega
theorem K1i : filled f z xs 0 = List.replicate xs.length z := by simp [filled]
theorem K1q : filled f z xs xs.length = xs.map f := by simp [filled]
theorem Ku (h : k < xs.length) : (filled f z xs k)[k]? = some z := by
 unfold filled
 rw [List.getElem?_append_right (by simp; omega), List.getElem?_replicate, if_pos (by simp; omega)]
theorem K1p {x : α} (h : xs[k]? = some x) : (filled f z xs k).set k (f x) = filled f z xs (k + 1) := by
 have hk := Kr h
 unfold filled
 rw [List.set_append_right _ _ (by simp; omega), Kc h]
 have e : xs.length - k = (xs.length - (k + 1)) + 1 := by omega
 rw [e, List.replicate_succ]
 have e2 : k - (List.map f (List.take k xs)).length = 0 := by simp; omega
 rw [e2]
 simp
end
theorem K13 {n : Nat} {z : List T} : List.replicate (n : Int).toNat z = List.replicate n z := by simp
theorem K16 {α : Type} {xs ys : List α} {k : Nat} {x y : α} (hx : xs[k]? = some x) (hy : ys[k]? = some y) (h : xs.take k = ys.take k) : xs.take (k + 1) = ys.take (k + 1) ↔ x = y := by
 rw [Kc hx, Kc hy, h]
 simp
theorem K3c {α : Type} [DecidableEq α] {xs ys : List α} {k : Nat} {x y : α} (hx : xs[k]? = some x) (hy : ys[k]? = some y) (h : ¬ x = y) : false = decide (xs = ys) := by
 symm
 rw [decide_eq_false_iff_not]
 rintro rfl
 rw [hx] at hy
 exact h (Option.some.inj hy)
theorem K2n {α : Type} [DecidableEq α] {xs ys : List α} (h : ¬ (xs.length : Int) = ys.length) : false = decide (xs = ys) := by
 symm
 rw [decide_eq_false_iff_not]
 rintro rfl
 exact h rfl
theorem K2m {α : Type} [DecidableEq α] {xs ys : List α} (he : xs.take xs.length = ys.take xs.length) (hl : xs.length = ys.length) : true = decide (xs = ys) := by
 symm
 rw [decide_eq_true_iff]
 rw [List.take_length] at he
 rw [he, hl, List.take_length]
theorem szr_bad' {n N : Nat} {left : Int} (h0 : 0 ≤ left) (h : szr n left < 0) (hn : n ≤ N) : -1 = szr N left := by
 rw [K5n h0] at h
 unfold szr
 rw [if_neg (by omega)]
theorem szr_ok {n : Nat} {left : Int} (h : ¬ szr n left < 0) : (n : Int) ≤ left := by
 unfold szr at h
 split at h <;> omega
theorem K4q {α : Type} {f : α → Nat} {l : List α} {k : Nat} {x : α} (h : l[k]? = some x) : ((l.take (k + 1)).map f).sum = ((l.take k).map f).sum + f x := by
 rw [Kc h]; simp
theorem K2f {α : Type} {f : α → Nat} (l : List α) (k : Nat) : ((l.take k).map f).sum ≤ (l.map f).sum := by
 have h : (l.map f).sum = ((l.take k).map f).sum + ((l.drop k).map f).sum := by
  rw [← List.sum_append, ← List.map_append, List.take_append_drop]
 omega
theorem K14 {α : Type} {f : α → Nat} {l : List α} {x : α} (h : x ∈ l) : f x ≤ (l.map f).sum := by
 induction l with
 | nil => simp at h
 | cons y l ih =>
  rcases List.mem_cons.1 h with rfl | h
  ·simp
  ·have := ih h; simp; omega
theorem K2k {α : Type} {l : List α} {k : Nat} {x : α} (h : l[k]? = some x) : (l.take k).length + 1 = (l.take (k + 1)).length := by
 rw [Kc h]; simp
theorem K2j {α : Type} {f : α → List T} {l : List α} {k : Nat} {x : α} (h : l[k]? = some x) : (l.take k).map f ++ [f x] = (l.take (k + 1)).map f := by
 rw [Kc h]; simp
end Go.Proofs.YtgkeplbnnjogiaaGreatR
namespace Go.Proofs.YtgkeplbnnjogiaaGreatR
open Go Go.RowKit Go.Proofs
open Nat (reduceEqDiff reduceLT reduceLeDiff reduceAdd reduceMul)
open List (reduceReplicate)
theorem hmix : Tryz.prog.follows .mixedOrders = true := by kernel_rfl
theorem cA {f : FuncId} {fn : Func} {c : Code} {args : List (Bool × List T)} {rs : List RV} (M : MC) (m n : Nat) (res : List (MR × List Bool)) (hf : Tryz.prog.funcs[f]? = some fn) (hb : fn.body = some c) (hnt : fn.ntmps = n)
    (h : bdA args → wpC Tryz.prog M (kF res rs) (startS args n m)) (hname : (fn.name == "runtime.NumGoroutine") = false := by kernel_rfl) (hc : chkC Tryz.prog c M = true := by kernel_rfl) (hres : K1t Tryz.prog fn.results.toList (res.map (·.1)) = true := by kernel_rfl) (hn : args.length ≤ n := by exact Nat.le_of_ble_eq_true rfl) : Ctr Tryz.prog f args rs :=
  ctr_at hmix hf hb hname hnt hc hres hn h
abbrev Na3 : Nat := 6
abbrev N8u : Nat := 13
abbrev N1h : Nat := 15
abbrev N1i : Nat := 17
abbrev N2p : Nat := 23
abbrev N8v : Nat := 26
abbrev N3c : Nat := 27
abbrev N2q : Nat := 28
abbrev N36 : Nat := 37
abbrev N37 : Nat := 39
abbrev N2j : Nat := 43
abbrev N74 : Nat := 50
abbrev N8w : Nat := 51
abbrev Ncb : Nat := 52
abbrev N4b : Nat := 53
abbrev N75 : Nat := 54
abbrev N6w : Nat := 55
abbrev N4c : Nat := 56
abbrev N2 : Nat := 57
abbrev N76 : Nat := 59
abbrev N8x : Nat := 60
abbrev Ncc : Nat := 61
abbrev N4d : Nat := 62
abbrev N77 : Nat := 63
abbrev N4e : Nat := 64
abbrev N0 : Nat := 65
abbrev N5 : Nat := 67
abbrev N78 : Nat := 69
abbrev N8y : Nat := 70
abbrev Ncd : Nat := 71
abbrev N4f : Nat := 72
abbrev N79 : Nat := 73
abbrev N4g : Nat := 74
abbrev N3v : Nat := 79
abbrev N20 : Nat := 84
abbrev N1j : Nat := 85
abbrev N4h : Nat := 86
abbrev N5m : Nat := 87
abbrev Na5 : Nat := 88
abbrev N3f : Nat := 89
abbrev N4i : Nat := 90
abbrev N3g : Nat := 91
abbrev Nb3 : Nat := 92
abbrev N8z : Nat := 93
abbrev N5s : Nat := 94
abbrev Ndi : Nat := 95
abbrev N6x : Nat := 96
abbrev Ndj : Nat := 97
abbrev N5t : Nat := 98
abbrev N90 : Nat := 99
abbrev N5u : Nat := 100
abbrev N19 : Nat := 101
abbrev N7a : Nat := 102
abbrev N4j : Nat := 103
abbrev N5n : Nat := 104
abbrev Na6 : Nat := 105
abbrev N3h : Nat := 106
abbrev N4k : Nat := 107
abbrev N2k : Nat := 108
abbrev N3i : Nat := 109
abbrev N91 : Nat := 136
abbrev N2c : Nat := 137
abbrev Na7 : Nat := 138
abbrev N92 : Nat := 139
abbrev N93 : Nat := 141
abbrev Nf3 : Nat := 142
abbrev N2d : Nat := 143
abbrev Na8 : Nat := 144
abbrev N5v : Nat := 145
abbrev N94 : Nat := 146
abbrev N5w : Nat := 147
abbrev N9 : Nat := 148
abbrev N3j : Nat := 152
abbrev N3k : Nat := 153
abbrev N95 : Nat := 154
abbrev Nf4 : Nat := 155
abbrev N2e : Nat := 156
abbrev Na9 : Nat := 157
abbrev N5x : Nat := 158
abbrev N96 : Nat := 159
abbrev N5y : Nat := 160
abbrev Nfw : Nat := 162
abbrev Nfx : Nat := 163
abbrev Nb4 : Nat := 166
abbrev N1w : Nat := 171
abbrev N7b : Nat := 172
abbrev Nb5 : Nat := 173
abbrev N5o : Nat := 174
abbrev Nb6 : Nat := 175
abbrev Nce : Nat := 176
abbrev N2l : Nat := 177
abbrev N1u : Nat := 178
abbrev Naa : Nat := 179
abbrev Nab : Nat := 180
abbrev N8 : Nat := 181
abbrev N3w : Nat := 182
abbrev Nl : Nat := 183
abbrev N3x : Nat := 184
abbrev N3 : Nat := 185
abbrev Nm : Nat := 186
abbrev Ncf : Nat := 187
abbrev N2f : Nat := 188
abbrev N1v : Nat := 189
abbrev Nac : Nat := 190
abbrev N31 : Nat := 191
abbrev N2u : Nat := 192
abbrev N1x : Nat := 193
abbrev N7c : Nat := 194
abbrev Ncg : Nat := 211
abbrev N2g : Nat := 212
abbrev N4l : Nat := 218
abbrev N7d : Nat := 219
abbrev Nad : Nat := 223
abbrev N5z : Nat := 224
abbrev Nae : Nat := 236
abbrev N60 : Nat := 237
abbrev N21 : Nat := 248
abbrev N2r : Nat := 250
abbrev N5p : Nat := 251
abbrev Ndk : Nat := 255
abbrev N3y : Nat := 257
abbrev N61 : Nat := 259
abbrev N1y : Nat := 260
abbrev N7e : Nat := 263
abbrev N62 : Nat := 264
abbrev N1k : Nat := 266
abbrev N7f : Nat := 267
abbrev N63 : Nat := 268
abbrev Nb7 : Nat := 269
abbrev N64 : Nat := 274
abbrev Nb8 : Nat := 275
abbrev N7g : Nat := 290
abbrev N4m : Nat := 291
abbrev N5q : Nat := 292
abbrev N97 : Nat := 293
abbrev N98 : Nat := 294
abbrev N10 : Nat := 295
abbrev N2h : Nat := 296
abbrev Na : Nat := 297
abbrev Nj : Nat := 298
abbrev N4n : Nat := 299
abbrev N2x : Nat := 300
abbrev Nch : Nat := 301
abbrev N1n : Nat := 302
abbrev N7h : Nat := 303
abbrev N6y : Nat := 304
abbrev N7i : Nat := 307
abbrev N4o : Nat := 308
abbrev N7j : Nat := 310
abbrev N2a : Nat := 311
abbrev N4p : Nat := 312
abbrev N7k : Nat := 313
abbrev N2b : Nat := 314
abbrev N4q : Nat := 315
abbrev Ndl : Nat := 320
abbrev N22 : Nat := 321
abbrev Nf5 : Nat := 323
abbrev Ny : Nat := 327
abbrev N7l : Nat := 328
abbrev Nf6 : Nat := 329
abbrev Ng : Nat := 330
abbrev N3z : Nat := 331
abbrev N23 : Nat := 332
abbrev Nf7 : Nat := 334
abbrev N38 : Nat := 342
abbrev N7m : Nat := 343
abbrev N7n : Nat := 344
abbrev N65 : Nat := 345
abbrev N7o : Nat := 347
abbrev N66 : Nat := 352
abbrev Nb : Nat := 353
abbrev N39 : Nat := 354
abbrev N7p : Nat := 355
abbrev N7q : Nat := 357
abbrev Naf : Nat := 358
abbrev N7r : Nat := 359
abbrev Nag : Nat := 360
abbrev N7s : Nat := 361
abbrev Nah : Nat := 372
abbrev N7t : Nat := 373
abbrev N6z : Nat := 382
abbrev N1b : Nat := 383
abbrev N40 : Nat := 384
abbrev N2s : Nat := 385
abbrev N26 : Nat := 386
abbrev N8q : Nat := 387
abbrev Nb9 : Nat := 389
abbrev N8r : Nat := 390
abbrev N17 : Nat := 396
abbrev Nn : Nat := 397
abbrev N67 : Nat := 402
abbrev Ns : Nat := 407
abbrev N4r : Nat := 408
abbrev N99 : Nat := 409
abbrev Nba : Nat := 410
abbrev N9a : Nat := 411
abbrev Nbb : Nat := 417
abbrev N9b : Nat := 418
abbrev Nu : Nat := 422
abbrev N4 : Nat := 423
abbrev N1c : Nat := 424
abbrev Ni : Nat := 425
abbrev Nv : Nat := 429
abbrev N1d : Nat := 432
abbrev N27 : Nat := 433
abbrev N11 : Nat := 434
abbrev N1r : Nat := 435
def Y0 : MC :=
(Zs [.mv 4 (ci 0)] [0,1] (Zs [mS 5 1, mS 6 0, nS 7 6, bS 8 .sub 5 7, mS 1 8] [1] (.seq (Zs [mS 9 1, bC 10 .lss 9 0] [1,10] (.cond (.s 10) (Zs [.mv 4 (.c (.int .i64 (-1)))] [4] .ret) .skip))
(Zs [mS 11 1, mS 4 11] [4] .ret))))
attribute [go_sem] Y0
def Mci : MC := Y0
theorem C70 (xs : List Int) (left : Int) (h0 : 0 ≤ left) : Ctr Tryz.prog N6w [aL 1 (xs.map encI), aI left] [rI (szr xs.length left)] := by
 refine cA Mci 0 12 [(.tmp 4, [false])] Tryz.func55 rfl rfl ?_; unfold Mci
 intro hb
 simp only [bdA, bdL, bdT, bdR, Kb, Kk, Kz, K19, roomB, and_true, true_and, List.length_map] at hb
 obtain ⟨⟨hl, -⟩, hn⟩ := hb
 simp only [go_sem]
 rw [wI (by omega) (by omega)]
 unfold szr
 refine ⟨fun h => ?_, fun h => ?_⟩
 ·rw [if_neg (by omega)]
 ·rw [if_pos (by omega)]
def Mcj : MC :=
(Zs [.nilo 2 0 1] [0] (Zs [mS 5 0, nS 6 5, .mk 7 0 1 8 [.sc (.int .i64 0)] (.s 6), mS 3 7] [0,3] (.seq (Zs [.mv 4 (ci 0)] [0,3,4] (.block 0 (.loop ([0,3,4], []) (.seq (Zs [mS 8 4, mS 9 0, nS 10 9, bS 11 .lss 8 10] [0,3,4,11] (cX 11 0))
(.seq (.block 1 (pr [mS 14 3, mS 15 4, mS 16 0, mS 17 4, xS 18 1 16 17, lF 19 1 18, xS 20 1 14 15, sS 1 20 19] [0,3,4]))
(pr [mS 12 4, bC 13 .add 12 1, mS 4 13] [0,3,4]))))))
(Zs [mS 21 3, mS 2 21] [2] .ret))))
theorem C71 (xs : List Int) (hs : xs.length ≤ 1073741824) : Ctr Tryz.prog N36 [aL 1 (xs.map encI)] [rL 1 (xs.map encI)] := by
 refine cA Mcj 1 22 [(.tmp 2, [true])] Tryz.func37 rfl rfl ?_; unfold Mcj
 intro hb
 simp only [go_sem, K13]
 refine ⟨⟨by omega, by simp only [roomB]; omega⟩, ?_⟩
 refine K5 xs (fun k => [(4, vI k)]) (fun k => [(0, ⟨0, .row true 1 (filled encI [tI 0] xs k)⟩)]) (fun _ => True) (by simp only [roomB]; omega) ?_
 simp only [go_sem]
 refine ⟨?_, trivial, ?_, ?_⟩
 ·simp only [go_sem, K1i]
  all_goals rfl
 ·intro k x hx _ h0 h1 hw
  have h : k < xs.length := by omega
  simp only [go_sem, K6 hx, K6 (Ku h), Kv (Nat.le_of_lt h), h0, h1, hw]
  exact K1p hx
 ·intro _
  simp only [go_sem, K1q]
def Mck : MC :=
(Zs [.mv 4 cF] [0,1] (.seq (Zs [mS 6 0, nS 7 6, mS 8 1, nS 9 8, bS 10 .neq 7 9] [0,1,10] (.cond (.s 10) (Zs [.mv 4 cF] [4] .ret) .skip))
(.seq (Zs [.mv 5 (ci 0)] [0,1,5] (.block 0 (.loop ([0,1,5], []) (.seq (Zs [mS 11 5, mS 12 0, nS 13 12, bS 14 .lss 11 13] [0,1,5,14] (cX 14 0))
(.seq (.block 1 (.seq (.dreg [Zc [18,21,22,23,24] (mS 17 0), Zc [17,21,22,23,24] (mS 18 5), Zd [21,22,23,24] [0,1] (xS 19 1 17 18), Zd [21,22,23,24] [0,1,2] (lF 20 1 19), Zc [17,18,19,20,22] (mS 21 1), Zc [17,18,19,20,21] (mS 22 5), Zd [17,18,19,20] [4,5] (xS 23 1 21 22), Zd [17,18,19,20] [4,5,6] (lF 24 1 23), Ze (.range 8) (bS 25 .neq 20 24)] [0,1,5,25])
(.cond (.s 25) (Zs [.mv 4 cF] [4] .ret) .skip)))
(pr [mS 15 5, bC 16 .add 15 1, mS 5 16] [0,1,5]))))))
(Zs [.mv 4 cT] [4] .ret))))
theorem C72 (xs ys : List Int) : Ctr Tryz.prog N37 [aL 1 (xs.map encI), aL 1 (ys.map encI)] [rB (decide (xs = ys))] := by
 refine cA Mck 0 26 [(.tmp 4, [false])] Tryz.func39 rfl rfl ?_; unfold Mck
 intro hb
 simp only [bdA, bdL, bdT, bdR, Kb, Kk, Kz, K19, roomB, and_true, true_and, List.length_map] at hb
 obtain ⟨⟨hl, -⟩, ⟨hl2, -⟩⟩ := hb
 simp only [go_sem]
 refine ⟨fun h => K2n h, fun h => ?_⟩
 have hle : xs.length = ys.length := by omega
 refine K5 xs (fun k => [(5, vI k)]) (fun k => []) (fun k => xs.take k = ys.take k) hl ?_
 simp only [go_sem]
 refine ⟨?_, rfl, ?_, ?_⟩
 ·simp only [go_sem]
 ·intro k x hx he h0 h1 hw
  obtain ⟨y, hy⟩ := Kf (show k < ys.length by omega)
  have h2 : (k : Int) < ys.length := by omega
  simp only [go_sem, K6 hx, K6 hy, h0, h1, h2, hw]
  exact ⟨fun hn => K3c hx hy hn, fun hn => (K16 hx hy he).2 hn⟩
 ·intro he
  simp only [go_sem]
  exact K2m he hle
def M9c : MC :=
(Zs [.box 1 0 (.s 0), .alloc 2 1 [pz, pz, pz]] [1,2] (Zs [.alloc 3 2 [pz, pz, pz]] [1,2,3] (Zs [fS 4 1 0, lF 5 1 4, fS 6 3 0, sS 1 6 5] [1,2,3] (Zs [fS 7 1 1, lF 8 1 7, fS 9 3 1, sS 1 9 8] [1,2,3] (Zs [fS 10 1 2, lF 11 1 10, fS 12 3 2, sS 1 12 11] [2,3] (Zs [lT 13 3 3, sS 3 2 13] [2] .ret))))))
theorem C1l (x : GAddress) : Ctr Tryz.prog N1k [aS x.enc] [rS x.enc] := by
 refine cA M9c 3 14 [(.cell 2 true 3, [false, false, false])] Tryz.func266 rfl rfl ?_; unfold M9c
 intro hb
 simp only [go_sem]
def M9d : MC :=
(Zs [.box 2 0 (.s 0), .box 3 1 (.s 1), .mv 4 cF] [2,3] (.seq (Zs [fS 5 2 0, lF 6 1 5, fS 7 3 0, lF 8 1 7, bS 9 .neq 6 8] [2,3,9] (.cond (.s 9) (Zs [.mv 4 cF] [4] .ret) .skip))
(.seq (Zs [fS 10 2 1, lF 11 1 10, fS 12 3 1, lF 13 1 12, bS 14 .neq 11 13] [2,3,14] (.cond (.s 14) (Zs [.mv 4 cF] [4] .ret) .skip))
(.seq (Zs [fS 15 2 2, lF 16 1 15, fS 17 3 2, lF 18 1 17, bS 19 .neq 16 18] [19] (.cond (.s 19) (Zs [.mv 4 cF] [4] .ret) .skip))
(Zs [.mv 4 cT] [4] .ret)))))
theorem C1m (x y : GAddress) : Ctr Tryz.prog N1j [aS x.enc, aS y.enc] [rB (decide (x = y))] := by
 refine cA M9d 2 20 [(.tmp 4, [false])] Tryz.func85 rfl rfl ?_; unfold M9d
 intro hb
 clear hb
 simp only [go_sem]
 refine ⟨fun h => ?_, fun h_Host => ?_⟩
 ·symm
  rw [decide_eq_false_iff_not]
  rintro rfl
  exact h rfl
 refine ⟨fun h => ?_, fun h_Path => ?_⟩
 ·symm
  rw [decide_eq_false_iff_not]
  rintro rfl
  exact h rfl
 refine ⟨fun h => ?_, fun h_Query => ?_⟩
 ·symm
  rw [decide_eq_false_iff_not]
  rintro rfl
  exact h rfl
 cases x; cases y; simp_all
def Y1 : MC :=
(Zs [.box 2 0 (.s 0), .mv 4 (ci 0)] [1,2] (Zs [fS 5 2 1, lF 6 1 5, mS 7 1, .call 8 [] (.f N6w) [.s 6, .s 7], mS 1 8] [1] (.seq (Zs [mS 9 1, bC 10 .lss 9 0] [1,10] (.cond (.s 10) (Zs [.mv 4 (.c (.int .i64 (-1)))] [4] .ret) .skip))
(Zs [mS 11 1, mS 4 11] [4] .ret))))
attribute [go_sem] Y1
def M7u : MC := Y1
theorem C7v (x : GResource) (left : Int) (h0 : 0 ≤ left) : Ctr Tryz.prog N7e [aS x.enc, aI left] [rI (szr x.size left)] := by
 refine cA M7u 1 12 [(.tmp 4, [false])] Tryz.func263 rfl rfl ?_; unfold M7u
 intro hb
 simp only [go_sem]
 refine K0 (C70 x.Body left h0) ?_
 simp only [go_sem]
 intro _
 refine ⟨fun h => szr_bad' h0 h (by simp only [GResource.size]; omega), fun h1 => ?_⟩
 rfl
def M7w : MC :=
(Zs [.box 1 0 (.s 0), .alloc 2 1 [pz, .emp 1, pz, pz, pz]] [1,2] (Zs [.alloc 3 2 [pz, .emp 1, pz, pz, pz]] [1,2,3] (Zs [fS 4 1 0, lF 5 1 4, fS 6 3 0, sS 1 6 5] [1,2,3] (Zs [fS 7 1 1, lF 8 1 7, .call 9 [3] (.f N36) [.s 8], fS 10 3 1, sS 1 10 9] [1,2,3] (Zs [fS 11 1 2, lT 12 3 11, .call 13 [] (.f N1k) [.s 12], fS 14 3 2, sS 3 14 13] [2,3] (Zs [lT 15 5 3, sS 5 2 15] [2] .ret))))))
theorem C7x (x : GResource) (hs : x.size ≤ 1073741824) : Ctr Tryz.prog N7f [aS x.enc] [rS x.enc] := by
 refine cA M7w 4 16 [(.cell 2 true 5, [false, true, false, false, false])] Tryz.func267 rfl rfl ?_; unfold M7w
 intro hb
 simp only [GResource.size] at hs
 simp only [go_sem]
 refine K0 (C71 x.Body (by omega)) ?_
 simp only [go_sem]
 try intros
 refine K0 (C1l x.To) ?_
 simp only [go_sem]
 try intros
def M7y : MC :=
(Zs [.box 2 0 (.s 0), .box 3 1 (.s 1), .mv 4 cF] [2,3] (.seq (Zs [fS 5 2 0, lF 6 1 5, fS 7 3 0, lF 8 1 7, bS 9 .neq 6 8] [2,3,9] (.cond (.s 9) (Zs [.mv 4 cF] [4] .ret) .skip))
(.seq (Zs [fS 10 2 1, lF 11 1 10, fS 12 3 1, lF 13 1 12, .call 14 [] (.f N37) [.s 11, .s 13], .un 15 .not (.s 14)] [2,3,15] (.cond (.s 15) (Zs [.mv 4 cF] [4] .ret) .skip))
(.seq (Zs [fS 16 2 2, lT 17 3 16, fS 18 3 2, lT 19 3 18, .call 20 [] (.f N1j) [.s 17, .s 19], .un 21 .not (.s 20)] [21] (.cond (.s 21) (Zs [.mv 4 cF] [4] .ret) .skip))
(Zs [.mv 4 cT] [4] .ret)))))
theorem C7z (x y : GResource) : Ctr Tryz.prog N7d [aS x.enc, aS y.enc] [rB (decide (x = y))] := by
 refine cA M7y 2 22 [(.tmp 4, [false])] Tryz.func219 rfl rfl ?_; unfold M7y
 intro hb
 clear hb
 simp only [go_sem]
 refine ⟨fun h => ?_, fun h_Kind => ?_⟩
 ·symm
  rw [decide_eq_false_iff_not]
  rintro rfl
  exact h rfl
 refine K0 (C72 x.Body y.Body) ?_
 simp only [go_sem]
 refine ⟨fun h => ?_, fun h_Body => ?_⟩
 ·symm
  rw [decide_eq_false_iff_not]
  rintro rfl
  exact h rfl
 refine K0 (C1m x.To y.To) ?_
 simp only [go_sem]
 refine ⟨fun h => ?_, fun h_To => ?_⟩
 ·symm
  rw [decide_eq_false_iff_not]
  rintro rfl
  exact h rfl
 cases x; cases y; simp_all
def Y2 : MC :=
(Zs [.box 2 0 (.s 0), .mv 4 (ci 0)] [1,2] (Zs [fS 5 2 4, lT 6 5 5, mS 7 1, .call 8 [] (.f N7e) [.s 6, .s 7], mS 1 8] [1] (.seq (Zs [mS 9 1, bC 10 .lss 9 0] [1,10] (.cond (.s 10) (Zs [.mv 4 (.c (.int .i64 (-1)))] [4] .ret) .skip))
(Zs [mS 11 1, mS 4 11] [4] .ret))))
attribute [go_sem] Y2
def M9e : MC := Y2
theorem Cfg (x : GVersion) (left : Int) (h0 : 0 ≤ left) : Ctr Tryz.prog N91 [aS x.enc, aI left] [rI (szr x.size left)] := by
 refine cA M9e 1 12 [(.tmp 4, [false])] Tryz.func136 rfl rfl ?_; unfold M9e
 intro hb
 simp only [go_sem]
 refine K0 (C7v x.Resource left h0) ?_
 simp only [go_sem]
 intro _
 refine ⟨fun h => szr_bad' h0 h (by simp only [GVersion.size]; omega), fun h1 => ?_⟩
 rfl
def Y3 : MC :=
(Zs [.box 1 0 (.s 0), .alloc 2 1 [pz, pz, pz, pz, pz, .emp 1, pz, pz, pz]] [1,2] (Zs [.alloc 3 2 [pz, pz, pz, pz, pz, .emp 1, pz, pz, pz]] [1,2,3] (Zs [fS 4 1 0, lT 5 3 4, .call 6 [] (.f N1k) [.s 5], fS 7 3 0, sS 3 7 6] [1,2,3] (Zs [fS 8 1 3, lF 9 1 8, fS 10 3 3, sS 1 10 9] [1,2,3] (Zs [fS 11 1 4, lT 12 5 11, .call 13 [3] (.f N7f) [.s 12], fS 14 3 4, sS 5 14 13] [2,3] (Zs [lT 15 9 3, sS 9 2 15] [2] .ret))))))
attribute [go_sem] Y3
def M9f : MC := Y3
theorem Cfh (x : GVersion) (hs : x.size ≤ 1073741824) : Ctr Tryz.prog N93 [aS x.enc] [rS x.enc] := by
 refine cA M9f 4 16 [(.cell 2 true 9, [false, false, false, false, false, true, false, false, false])] Tryz.func141 rfl rfl ?_; unfold M9f
 intro hb
 simp only [GVersion.size] at hs
 simp only [go_sem]
 refine K0 (C1l x.Address) ?_
 simp only [go_sem]
 try intros
 refine K0 (C7x x.Resource (by omega)) ?_
 simp only [go_sem]
 try intros
def Y4 : MC :=
(Zs [.box 2 0 (.s 0), .box 3 1 (.s 1), .mv 4 cF] [2,3] (.seq (Zs [fS 5 2 0, lT 6 3 5, fS 7 3 0, lT 8 3 7, .call 9 [] (.f N1j) [.s 6, .s 8], .un 10 .not (.s 9)] [2,3,10] (.cond (.s 10) (Zs [.mv 4 cF] [4] .ret) .skip))
(.seq (Zs [fS 11 2 3, lF 12 1 11, fS 13 3 3, lF 14 1 13, bS 15 .neq 12 14] [2,3,15] (.cond (.s 15) (Zs [.mv 4 cF] [4] .ret) .skip))
(.seq (Zs [fS 16 2 4, lT 17 5 16, fS 18 3 4, lT 19 5 18, .call 20 [] (.f N7d) [.s 17, .s 19], .un 21 .not (.s 20)] [21] (.cond (.s 21) (Zs [.mv 4 cF] [4] .ret) .skip))
(Zs [.mv 4 cT] [4] .ret)))))
attribute [go_sem] Y4
def M9g : MC := Y4
theorem Cfi (x y : GVersion) : Ctr Tryz.prog N95 [aS x.enc, aS y.enc] [rB (decide (x = y))] := by
 refine cA M9g 2 22 [(.tmp 4, [false])] Tryz.func154 rfl rfl ?_; unfold M9g
 intro hb
 clear hb
 simp only [go_sem]
 refine K0 (C1m x.Address y.Address) ?_
 simp only [go_sem]
 refine ⟨fun h => ?_, fun h_Address => ?_⟩
 ·symm
  rw [decide_eq_false_iff_not]
  rintro rfl
  exact h rfl
 refine ⟨fun h => ?_, fun h_From => ?_⟩
 ·symm
  rw [decide_eq_false_iff_not]
  rintro rfl
  exact h rfl
 refine K0 (C7z x.Resource y.Resource) ?_
 simp only [go_sem]
 refine ⟨fun h => ?_, fun h_Resource => ?_⟩
 ·symm
  rw [decide_eq_false_iff_not]
  rintro rfl
  exact h rfl
 cases x; cases y; simp_all
def Y5 (v0 : Nat) (v1 : Nat) : MC :=
(Zs [.mv 4 (ci 0)] [0,1] (Zs [mS 6 1, mS 7 0, nS 8 7, bS 9 .sub 6 8, mS 1 9] [0,1] (.seq (Zs [mS 10 1, bC 11 .lss 10 0] [0,1,11] (.cond (.s 11) (Zs [.mv 4 (.c (.int .i64 (-1)))] [4] .ret) .skip))
(.seq (Zs [.mv 5 (ci 0)] [0,1,5] (.block 0 (.loop ([0,1,5], []) (.seq (Zs [mS 12 5, mS 13 0, nS 14 13, bS 15 .lss 12 14] [0,1,5,15] (cX 15 0))
(.seq (.block 1 (Zs [mS 18 0, mS 19 5, xS 20 v0 18 19, lT 21 v0 20, mS 22 1, .call 23 [] (.f v1) [.s 21, .s 22], mS 1 23] [0,1,5] (Zs [mS 24 1, bC 25 .lss 24 0] [0,1,5,25] (.cond (.s 25) (Zs [.mv 4 (.c (.int .i64 (-1)))] [4] .ret) .skip))))
(pr [mS 16 5, bC 17 .add 16 1, mS 5 17] [0,1,5]))))))
(Zs [mS 26 1, mS 4 26] [4] .ret)))))
attribute [go_sem] Y5
def M80 : MC := Y5 9 N91
theorem Cee (xs : List GVersion) (left : Int) (h0 : 0 ≤ left) : Ctr Tryz.prog N74 [aL 9 (xs.map GVersion.enc), aI left] [rI (szr (xs.length + (xs.map GVersion.size).sum) left)] := by
 refine cA M80 0 27 [(.tmp 4, [false])] Tryz.func50 rfl rfl ?_; unfold M80
 intro hb
 simp only [bdA, bdL, bdT, bdR, Kb, Kk, Kz, K19, roomB, and_true, true_and, List.length_map] at hb
 obtain ⟨⟨hl, -⟩, hn⟩ := hb
 simp only [go_sem]
 rw [wI (by omega) (by omega)]
 refine ⟨fun h => ?_, fun h => ?_⟩
 ·exact szr_bad' (n := xs.length) h0 ((K5n h0).2 (by omega)) (by omega)
 ·have hz : szr xs.length left = left - xs.length := by unfold szr; rw [if_pos (by omega)]
  rw [← hz] at h ⊢
  refine K5 xs (fun k => [(1, vI (szr (xs.length + ((xs.take k).map GVersion.size).sum) left)), (5, vI k)]) (fun k => []) (fun k => ¬ szr (xs.length + ((xs.take k).map GVersion.size).sum) left < 0) hl ?_
  simp only [go_sem]
  refine ⟨?_, by simpa using h, ?_, ?_⟩
  ·simp only [go_sem, List.take_zero, List.map_nil, List.sum_nil, Nat.add_zero]
   all_goals rfl
  ·intro k x hx hs hk0 h1 hw
   obtain ⟨a1, a2, a3⟩ := K1u (m := x.size) h0 hs
   rw [Nat.add_assoc, ← K4q hx] at a3
   simp only [go_sem, K6 hx, hk0, h1, hw]
   refine K0 (Cfg x _ a1) ?_
   rw [← a3]
   simp only [go_sem, hw]
   intro _
   refine ⟨fun hn => ?_, fun hn => hn⟩
   have := K2f (f := GVersion.size) xs (k + 1)
   exact szr_bad' h0 hn (by omega)
  ·intro _
   simp only [go_sem, List.take_length]
def Y6 (v0 : Nat) : MC :=
(Zs [.nilo 2 0 9] [0] (.seq (pr [mS 5 0, nS 6 5, .mk 7 0 9 88 [.sc (.int .i64 0), .sc (.int .i64 0), .sc (.int .i64 0), .sc (.int .i64 0), .sc (.int .i64 0), .sl 1 [], .sc (.int .i64 0), .sc (.int .i64 0), .sc (.int .i64 0)] (.s 6), mS 3 7] [0,3])
(.seq (Zs [.mv 4 (ci 0)] [0,3,4] (.block 0 (.loop ([0,3,4], [1]) (.seq (Zs [mS 8 4, mS 9 0, nS 10 9, bS 11 .lss 8 10] [0,3,4,11] (cX 11 0))
(.seq (.block 1 (pr [mS 14 3, mS 15 4, mS 16 0, mS 17 4, xS 18 9 16 17, lT 19 9 18, .call 20 [1] (.f v0) [.s 19], xS 21 9 14 15, sS 9 21 20] [0,3,4]))
(pr [mS 12 4, bC 13 .add 12 1, mS 4 13] [0,3,4]))))))
(Zs [mS 22 3, mS 2 22] [2] .ret))))
attribute [go_sem] Y6
def M81 : MC := Y6 N93
theorem Cef (xs : List GVersion) (hs : xs.length + (xs.map GVersion.size).sum ≤ 1073741824) : Ctr Tryz.prog N76 [aL 9 (xs.map GVersion.enc)] [rL 9 (xs.map GVersion.enc)] := by
 refine cA M81 2 23 [(.tmp 2, [true])] Tryz.func59 rfl rfl ?_; unfold M81
 intro hb
 simp only [go_sem, K13]
 refine ⟨⟨by omega, by simp only [roomB]; omega⟩, ?_⟩
 refine K5 xs (fun k => [(4, vI k)]) (fun k => [(0, ⟨0, .row true 9 (filled GVersion.enc [tI 0, tI 0, tI 0, tI 0, tI 0, .sl 1 [], tI 0, tI 0, tI 0] xs k)⟩)]) (fun _ => True) (by simp only [roomB]; omega) ?_
 simp only [go_sem]
 refine ⟨?_, trivial, ?_, ?_⟩
 ·simp only [go_sem, K1i]
  all_goals rfl
 ·intro k x hx _ h0 h1 hw
  have h : k < xs.length := by omega
  simp only [go_sem, K6 hx, K6 (Ku h), Kv (Nat.le_of_lt h), h0, h1, hw]
  have hx1 := K14 (f := GVersion.size) (Kx hx)
  refine K0 (Cfh x (by omega)) ?_
  simp only [go_sem, K6 hx, K6 (Ku h), Kv (Nat.le_of_lt h), h0, h1, hw]
  intros; exact K1p hx
 ·intro _
  simp only [go_sem, K1q]
def Y7 (v0 : Nat) (v1 : Nat) : MC :=
(Zs [.mv 4 cF] [0,1] (.seq (Zs [mS 6 0, nS 7 6, mS 8 1, nS 9 8, bS 10 .neq 7 9] [0,1,10] (.cond (.s 10) (Zs [.mv 4 cF] [4] .ret) .skip))
(.seq (Zs [.mv 5 (ci 0)] [0,1,5] (.block 0 (.loop ([0,1,5], []) (.seq (Zs [mS 11 5, mS 12 0, nS 13 12, bS 14 .lss 11 13] [0,1,5,14] (cX 14 0))
(.seq (.block 1 (.seq (.dreg [Zc [18,21,22,23,24] (mS 17 0), Zc [17,21,22,23,24] (mS 18 5), Zd [21,22,23,24] [0,1] (xS 19 v0 17 18), Zd [21,22,23,24] [0,1,2] (lT 20 v0 19), Zc [17,18,19,20,22] (mS 21 1), Zc [17,18,19,20,21] (mS 22 5), Zd [17,18,19,20] [4,5] (xS 23 v0 21 22), Zd [17,18,19,20] [4,5,6] (lT 24 v0 23), Ze (.range 8) (.call 25 [] (.f v1) [.s 20, .s 24]), Ze (.range 9) (.un 26 .not (.s 25))] [0,1,5,26])
(.cond (.s 26) (Zs [.mv 4 cF] [4] .ret) .skip)))
(pr [mS 15 5, bC 16 .add 15 1, mS 5 16] [0,1,5]))))))
(Zs [.mv 4 cT] [4] .ret))))
attribute [go_sem] Y7
def M82 : MC := Y7 9 N95
theorem Ceg (xs ys : List GVersion) : Ctr Tryz.prog N78 [aL 9 (xs.map GVersion.enc), aL 9 (ys.map GVersion.enc)] [rB (decide (xs = ys))] := by
 refine cA M82 0 27 [(.tmp 4, [false])] Tryz.func69 rfl rfl ?_; unfold M82
 intro hb
 simp only [bdA, bdL, bdT, bdR, Kb, Kk, Kz, K19, roomB, and_true, true_and, List.length_map] at hb
 obtain ⟨⟨hl, -⟩, ⟨hl2, -⟩⟩ := hb
 simp only [go_sem]
 refine ⟨fun h => K2n h, fun h => ?_⟩
 have hle : xs.length = ys.length := by omega
 refine K5 xs (fun k => [(5, vI k)]) (fun k => []) (fun k => xs.take k = ys.take k) hl ?_
 simp only [go_sem]
 refine ⟨?_, rfl, ?_, ?_⟩
 ·simp only [go_sem]
 ·intro k x hx he h0 h1 hw
  obtain ⟨y, hy⟩ := Kf (show k < ys.length by omega)
  have h2 : (k : Int) < ys.length := by omega
  simp only [go_sem, K6 hx, K6 hy, h0, h1, h2, hw]
  refine K0 (Cfi x y) ?_
  simp only [go_sem, hw]
  exact ⟨fun hn => K3c hx hy hn, fun hn => (K16 hx hy he).2 hn⟩
 ·intro he
  simp only [go_sem]
  exact K2m he hle
def Y8 : MC :=
(Zs [.box 1 0 (.s 0), .alloc 2 1 [pz, pz, pz, pz]] [1,2] (Zs [.alloc 3 2 [pz, pz, pz, pz]] [1,2,3] (Zs [fS 4 1 0, lF 5 1 4, fS 6 3 0, sS 1 6 5] [1,2,3] (Zs [fS 7 1 1, lF 8 1 7, fS 9 3 1, sS 1 9 8] [1,2,3] (Zs [fS 10 1 2, lF 11 1 10, fS 12 3 2, sS 1 12 11] [1,2,3] (Zs [fS 13 1 3, lF 14 1 13, fS 15 3 3, sS 1 15 14] [2,3] (Zs [lT 16 4 3, sS 4 2 16] [2] .ret)))))))
attribute [go_sem] Y8
def Mf8 : MC := Y8
theorem Cgw (x : GOp) : Ctr Tryz.prog Nf3 [aS x.enc] [rS x.enc] := by
 refine cA Mf8 3 17 [(.cell 2 true 4, [false, false, false, false])] Tryz.func142 rfl rfl ?_; unfold Mf8
 intro hb
 simp only [go_sem]
def Y9 : MC :=
(Zs [.box 2 0 (.s 0), .box 3 1 (.s 1), .mv 4 cF] [2,3] (.seq (Zs [fS 5 2 0, lF 6 1 5, fS 7 3 0, lF 8 1 7, bS 9 .neq 6 8] [2,3,9] (.cond (.s 9) (Zs [.mv 4 cF] [4] .ret) .skip))
(.seq (Zs [fS 10 2 1, lF 11 1 10, fS 12 3 1, lF 13 1 12, bS 14 .neq 11 13] [2,3,14] (.cond (.s 14) (Zs [.mv 4 cF] [4] .ret) .skip))
(.seq (Zs [fS 15 2 2, lF 16 1 15, fS 17 3 2, lF 18 1 17, bS 19 .neq 16 18] [2,3,19] (.cond (.s 19) (Zs [.mv 4 cF] [4] .ret) .skip))
(.seq (Zs [fS 20 2 3, lF 21 1 20, fS 22 3 3, lF 23 1 22, bS 24 .neq 21 23] [24] (.cond (.s 24) (Zs [.mv 4 cF] [4] .ret) .skip))
(Zs [.mv 4 cT] [4] .ret))))))
attribute [go_sem] Y9
def Mf9 : MC := Y9
theorem Cgx (x y : GOp) : Ctr Tryz.prog Nf4 [aS x.enc, aS y.enc] [rB (decide (x = y))] := by
 refine cA Mf9 2 25 [(.tmp 4, [false])] Tryz.func155 rfl rfl ?_; unfold Mf9
 intro hb
 clear hb
 simp only [go_sem]
 refine ⟨fun h => ?_, fun h_Kind => ?_⟩
 ·symm
  rw [decide_eq_false_iff_not]
  rintro rfl
  exact h rfl
 refine ⟨fun h => ?_, fun h_A => ?_⟩
 ·symm
  rw [decide_eq_false_iff_not]
  rintro rfl
  exact h rfl
 refine ⟨fun h => ?_, fun h_B => ?_⟩
 ·symm
  rw [decide_eq_false_iff_not]
  rintro rfl
  exact h rfl
 refine ⟨fun h => ?_, fun h_C => ?_⟩
 ·symm
  rw [decide_eq_false_iff_not]
  rintro rfl
  exact h rfl
 cases x; cases y; simp_all
def Mdm : MC := Y0
theorem Cdn (xs : List GOp) (left : Int) (h0 : 0 ≤ left) : Ctr Tryz.prog N8w [aL 4 (xs.map GOp.enc), aI left] [rI (szr xs.length left)] := by
 refine cA Mdm 0 12 [(.tmp 4, [false])] Tryz.func51 rfl rfl ?_; unfold Mdm
 intro hb
 simp only [bdA, bdL, bdT, bdR, Kb, Kk, Kz, K19, roomB, and_true, true_and, List.length_map] at hb
 obtain ⟨⟨hl, -⟩, hn⟩ := hb
 simp only [go_sem]
 rw [wI (by omega) (by omega)]
 unfold szr
 refine ⟨fun h => ?_, fun h => ?_⟩
 ·rw [if_neg (by omega)]
 ·rw [if_pos (by omega)]
def Y10 (v0 : Nat) : MC :=
(Zs [.nilo 2 0 4] [0] (Zs [mS 5 0, nS 6 5, .mk 7 0 4 32 [.sc (.int .i64 0), .sc (.int .i64 0), .sc (.int .i64 0), .sc (.int .i64 0)] (.s 6), mS 3 7] [0,3] (.seq (Zs [.mv 4 (ci 0)] [0,3,4] (.block 0 (.loop ([0,3,4], []) (.seq (Zs [mS 8 4, mS 9 0, nS 10 9, bS 11 .lss 8 10] [0,3,4,11] (cX 11 0))
(.seq (.block 1 (pr [mS 14 3, mS 15 4, mS 16 0, mS 17 4, xS 18 4 16 17, lT 19 4 18, .call 20 [] (.f v0) [.s 19], xS 21 4 14 15, sS 4 21 20] [0,3,4]))
(pr [mS 12 4, bC 13 .add 12 1, mS 4 13] [0,3,4]))))))
(Zs [mS 22 3, mS 2 22] [2] .ret))))
attribute [go_sem] Y10
def Mdo : MC := Y10 Nf3
theorem Cdp (xs : List GOp) (hs : xs.length ≤ 1073741824) : Ctr Tryz.prog N8x [aL 4 (xs.map GOp.enc)] [rL 4 (xs.map GOp.enc)] := by
 refine cA Mdo 1 23 [(.tmp 2, [true])] Tryz.func60 rfl rfl ?_; unfold Mdo
 intro hb
 simp only [go_sem, K13]
 refine ⟨⟨by omega, by simp only [roomB]; omega⟩, ?_⟩
 refine K5 xs (fun k => [(4, vI k)]) (fun k => [(0, ⟨0, .row true 4 (filled GOp.enc [tI 0, tI 0, tI 0, tI 0] xs k)⟩)]) (fun _ => True) (by simp only [roomB]; omega) ?_
 simp only [go_sem]
 refine ⟨?_, trivial, ?_, ?_⟩
 ·simp only [go_sem, K1i]
  all_goals rfl
 ·intro k x hx _ h0 h1 hw
  have h : k < xs.length := by omega
  simp only [go_sem, K6 hx, K6 (Ku h), Kv (Nat.le_of_lt h), h0, h1, hw]
  refine K0 (Cgw x) ?_
  simp only [go_sem, K6 hx, K6 (Ku h), Kv (Nat.le_of_lt h), h0, h1, hw]
  intros; exact K1p hx
 ·intro _
  simp only [go_sem, K1q]
def Mdq : MC := Y7 4 Nf4
theorem Cdr (xs ys : List GOp) : Ctr Tryz.prog N8y [aL 4 (xs.map GOp.enc), aL 4 (ys.map GOp.enc)] [rB (decide (xs = ys))] := by
 refine cA Mdq 0 27 [(.tmp 4, [false])] Tryz.func70 rfl rfl ?_; unfold Mdq
 intro hb
 simp only [bdA, bdL, bdT, bdR, Kb, Kk, Kz, K19, roomB, and_true, true_and, List.length_map] at hb
 obtain ⟨⟨hl, -⟩, ⟨hl2, -⟩⟩ := hb
 simp only [go_sem]
 refine ⟨fun h => K2n h, fun h => ?_⟩
 have hle : xs.length = ys.length := by omega
 refine K5 xs (fun k => [(5, vI k)]) (fun k => []) (fun k => xs.take k = ys.take k) hl ?_
 simp only [go_sem]
 refine ⟨?_, rfl, ?_, ?_⟩
 ·simp only [go_sem]
 ·intro k x hx he h0 h1 hw
  obtain ⟨y, hy⟩ := Kf (show k < ys.length by omega)
  have h2 : (k : Int) < ys.length := by omega
  simp only [go_sem, K6 hx, K6 hy, h0, h1, h2, hw]
  refine K0 (Cgx x y) ?_
  simp only [go_sem, hw]
  exact ⟨fun hn => K3c hx hy hn, fun hn => (K16 hx hy he).2 hn⟩
 ·intro he
  simp only [go_sem]
  exact K2m he hle
def Mbc : MC :=
(Zs [.box 1 0 (.s 0), .alloc 2 1 [pz, pz, pz, pz, pz]] [1,2] (Zs [.alloc 3 2 [pz, pz, pz, pz, pz]] [1,2,3] (Zs [fS 4 1 0, lF 5 1 4, fS 6 3 0, sS 1 6 5] [1,2,3] (Zs [fS 7 1 1, lT 8 3 7, .call 9 [] (.f N1k) [.s 8], fS 10 3 1, sS 3 10 9] [1,2,3] (Zs [fS 11 1 4, lF 12 1 11, fS 13 3 4, sS 1 13 12] [2,3] (Zs [lT 14 5 3, sS 5 2 14] [2] .ret))))))
theorem Cgd (x : GEntry) : Ctr Tryz.prog Nba [aS x.enc] [rS x.enc] := by
 refine cA Mbc 3 15 [(.cell 2 true 5, [false, false, false, false, false])] Tryz.func410 rfl rfl ?_; unfold Mbc
 intro hb
 simp only [go_sem]
 refine K0 (C1l x.Address) ?_
 simp only [go_sem]
 try intros
def Mbd : MC :=
(Zs [.box 2 0 (.s 0), .box 3 1 (.s 1), .mv 4 cF] [2,3] (.seq (Zs [fS 5 2 0, lF 6 1 5, fS 7 3 0, lF 8 1 7, bS 9 .neq 6 8] [2,3,9] (.cond (.s 9) (Zs [.mv 4 cF] [4] .ret) .skip))
(.seq (Zs [fS 10 2 1, lT 11 3 10, fS 12 3 1, lT 13 3 12, .call 14 [] (.f N1j) [.s 11, .s 13], .un 15 .not (.s 14)] [2,3,15] (.cond (.s 15) (Zs [.mv 4 cF] [4] .ret) .skip))
(.seq (Zs [fS 16 2 4, lF 17 1 16, fS 18 3 4, lF 19 1 18, bS 20 .neq 17 19] [20] (.cond (.s 20) (Zs [.mv 4 cF] [4] .ret) .skip))
(Zs [.mv 4 cT] [4] .ret)))))
theorem Cge (x y : GEntry) : Ctr Tryz.prog Nbb [aS x.enc, aS y.enc] [rB (decide (x = y))] := by
 refine cA Mbd 2 21 [(.tmp 4, [false])] Tryz.func417 rfl rfl ?_; unfold Mbd
 intro hb
 clear hb
 simp only [go_sem]
 refine ⟨fun h => ?_, fun h_Kind => ?_⟩
 ·symm
  rw [decide_eq_false_iff_not]
  rintro rfl
  exact h rfl
 refine K0 (C1m x.Address y.Address) ?_
 simp only [go_sem]
 refine ⟨fun h => ?_, fun h_Address => ?_⟩
 ·symm
  rw [decide_eq_false_iff_not]
  rintro rfl
  exact h rfl
 refine ⟨fun h => ?_, fun h_Value => ?_⟩
 ·symm
  rw [decide_eq_false_iff_not]
  rintro rfl
  exact h rfl
 cases x; cases y; simp_all
def Mai : MC := Y0
theorem Cfy (xs : List GEntry) (left : Int) (h0 : 0 ≤ left) : Ctr Tryz.prog Naf [aL 5 (xs.map GEntry.enc), aI left] [rI (szr xs.length left)] := by
 refine cA Mai 0 12 [(.tmp 4, [false])] Tryz.func358 rfl rfl ?_; unfold Mai
 intro hb
 simp only [bdA, bdL, bdT, bdR, Kb, Kk, Kz, K19, roomB, and_true, true_and, List.length_map] at hb
 obtain ⟨⟨hl, -⟩, hn⟩ := hb
 simp only [go_sem]
 rw [wI (by omega) (by omega)]
 unfold szr
 refine ⟨fun h => ?_, fun h => ?_⟩
 ·rw [if_neg (by omega)]
 ·rw [if_pos (by omega)]
def Y11 (v0 : Nat) : MC :=
(Zs [.nilo 2 0 5] [0] (Zs [mS 5 0, nS 6 5, .mk 7 0 5 40 [.sc (.int .i64 0), .sc (.int .i64 0), .sc (.int .i64 0), .sc (.int .i64 0), .sc (.int .i64 0)] (.s 6), mS 3 7] [0,3] (.seq (Zs [.mv 4 (ci 0)] [0,3,4] (.block 0 (.loop ([0,3,4], []) (.seq (Zs [mS 8 4, mS 9 0, nS 10 9, bS 11 .lss 8 10] [0,3,4,11] (cX 11 0))
(.seq (.block 1 (pr [mS 14 3, mS 15 4, mS 16 0, mS 17 4, xS 18 5 16 17, lT 19 5 18, .call 20 [] (.f v0) [.s 19], xS 21 5 14 15, sS 5 21 20] [0,3,4]))
(pr [mS 12 4, bC 13 .add 12 1, mS 4 13] [0,3,4]))))))
(Zs [mS 22 3, mS 2 22] [2] .ret))))
attribute [go_sem] Y11
def Maj : MC := Y11 Nba
theorem Cfz (xs : List GEntry) (hs : xs.length ≤ 1073741824) : Ctr Tryz.prog Nag [aL 5 (xs.map GEntry.enc)] [rL 5 (xs.map GEntry.enc)] := by
 refine cA Maj 1 23 [(.tmp 2, [true])] Tryz.func360 rfl rfl ?_; unfold Maj
 intro hb
 simp only [go_sem, K13]
 refine ⟨⟨by omega, by simp only [roomB]; omega⟩, ?_⟩
 refine K5 xs (fun k => [(4, vI k)]) (fun k => [(0, ⟨0, .row true 5 (filled GEntry.enc [tI 0, tI 0, tI 0, tI 0, tI 0] xs k)⟩)]) (fun _ => True) (by simp only [roomB]; omega) ?_
 simp only [go_sem]
 refine ⟨?_, trivial, ?_, ?_⟩
 ·simp only [go_sem, K1i]
  all_goals rfl
 ·intro k x hx _ h0 h1 hw
  have h : k < xs.length := by omega
  simp only [go_sem, K6 hx, K6 (Ku h), Kv (Nat.le_of_lt h), h0, h1, hw]
  refine K0 (Cgd x) ?_
  simp only [go_sem, K6 hx, K6 (Ku h), Kv (Nat.le_of_lt h), h0, h1, hw]
  intros; exact K1p hx
 ·intro _
  simp only [go_sem, K1q]
def Mak : MC := Y7 5 Nbb
theorem Cg0 (xs ys : List GEntry) : Ctr Tryz.prog Nah [aL 5 (xs.map GEntry.enc), aL 5 (ys.map GEntry.enc)] [rB (decide (xs = ys))] := by
 refine cA Mak 0 27 [(.tmp 4, [false])] Tryz.func372 rfl rfl ?_; unfold Mak
 intro hb
 simp only [bdA, bdL, bdT, bdR, Kb, Kk, Kz, K19, roomB, and_true, true_and, List.length_map] at hb
 obtain ⟨⟨hl, -⟩, ⟨hl2, -⟩⟩ := hb
 simp only [go_sem]
 refine ⟨fun h => K2n h, fun h => ?_⟩
 have hle : xs.length = ys.length := by omega
 refine K5 xs (fun k => [(5, vI k)]) (fun k => []) (fun k => xs.take k = ys.take k) hl ?_
 simp only [go_sem]
 refine ⟨?_, rfl, ?_, ?_⟩
 ·simp only [go_sem]
 ·intro k x hx he h0 h1 hw
  obtain ⟨y, hy⟩ := Kf (show k < ys.length by omega)
  have h2 : (k : Int) < ys.length := by omega
  simp only [go_sem, K6 hx, K6 hy, h0, h1, h2, hw]
  refine K0 (Cge x y) ?_
  simp only [go_sem, hw]
  exact ⟨fun hn => K3c hx hy hn, fun hn => (K16 hx hy he).2 hn⟩
 ·intro he
  simp only [go_sem]
  exact K2m he hle
def M9h : MC := Y2
theorem Cfj (x : GCapture) (left : Int) (h0 : 0 ≤ left) : Ctr Tryz.prog N99 [aS x.enc, aI left] [rI (szr x.size left)] := by
 refine cA M9h 1 12 [(.tmp 4, [false])] Tryz.func409 rfl rfl ?_; unfold M9h
 intro hb
 simp only [go_sem]
 refine K0 (C7v x.Resource left h0) ?_
 simp only [go_sem]
 intro _
 refine ⟨fun h => szr_bad' h0 h (by simp only [GCapture.size]; omega), fun h1 => ?_⟩
 rfl
def M9i : MC := Y3
theorem Cfk (x : GCapture) (hs : x.size ≤ 1073741824) : Ctr Tryz.prog N9a [aS x.enc] [rS x.enc] := by
 refine cA M9i 4 16 [(.cell 2 true 9, [false, false, false, false, false, true, false, false, false])] Tryz.func411 rfl rfl ?_; unfold M9i
 intro hb
 simp only [GCapture.size] at hs
 simp only [go_sem]
 refine K0 (C1l x.Address) ?_
 simp only [go_sem]
 try intros
 refine K0 (C7x x.Resource (by omega)) ?_
 simp only [go_sem]
 try intros
def M9j : MC := Y4
theorem Cfl (x y : GCapture) : Ctr Tryz.prog N9b [aS x.enc, aS y.enc] [rB (decide (x = y))] := by
 refine cA M9j 2 22 [(.tmp 4, [false])] Tryz.func418 rfl rfl ?_; unfold M9j
 intro hb
 clear hb
 simp only [go_sem]
 refine K0 (C1m x.Address y.Address) ?_
 simp only [go_sem]
 refine ⟨fun h => ?_, fun h_Address => ?_⟩
 ·symm
  rw [decide_eq_false_iff_not]
  rintro rfl
  exact h rfl
 refine ⟨fun h => ?_, fun h_Tick => ?_⟩
 ·symm
  rw [decide_eq_false_iff_not]
  rintro rfl
  exact h rfl
 refine K0 (C7z x.Resource y.Resource) ?_
 simp only [go_sem]
 refine ⟨fun h => ?_, fun h_Resource => ?_⟩
 ·symm
  rw [decide_eq_false_iff_not]
  rintro rfl
  exact h rfl
 cases x; cases y; simp_all
def M83 : MC := Y5 9 N99
theorem Ceh (xs : List GCapture) (left : Int) (h0 : 0 ≤ left) : Ctr Tryz.prog N7r [aL 9 (xs.map GCapture.enc), aI left] [rI (szr (xs.length + (xs.map GCapture.size).sum) left)] := by
 refine cA M83 0 27 [(.tmp 4, [false])] Tryz.func359 rfl rfl ?_; unfold M83
 intro hb
 simp only [bdA, bdL, bdT, bdR, Kb, Kk, Kz, K19, roomB, and_true, true_and, List.length_map] at hb
 obtain ⟨⟨hl, -⟩, hn⟩ := hb
 simp only [go_sem]
 rw [wI (by omega) (by omega)]
 refine ⟨fun h => ?_, fun h => ?_⟩
 ·exact szr_bad' (n := xs.length) h0 ((K5n h0).2 (by omega)) (by omega)
 ·have hz : szr xs.length left = left - xs.length := by unfold szr; rw [if_pos (by omega)]
  rw [← hz] at h ⊢
  refine K5 xs (fun k => [(1, vI (szr (xs.length + ((xs.take k).map GCapture.size).sum) left)), (5, vI k)]) (fun k => []) (fun k => ¬ szr (xs.length + ((xs.take k).map GCapture.size).sum) left < 0) hl ?_
  simp only [go_sem]
  refine ⟨?_, by simpa using h, ?_, ?_⟩
  ·simp only [go_sem, List.take_zero, List.map_nil, List.sum_nil, Nat.add_zero]
   all_goals rfl
  ·intro k x hx hs hk0 h1 hw
   obtain ⟨a1, a2, a3⟩ := K1u (m := x.size) h0 hs
   rw [Nat.add_assoc, ← K4q hx] at a3
   simp only [go_sem, K6 hx, hk0, h1, hw]
   refine K0 (Cfj x _ a1) ?_
   rw [← a3]
   simp only [go_sem, hw]
   intro _
   refine ⟨fun hn => ?_, fun hn => hn⟩
   have := K2f (f := GCapture.size) xs (k + 1)
   exact szr_bad' h0 hn (by omega)
  ·intro _
   simp only [go_sem, List.take_length]
def M84 : MC := Y6 N9a
theorem Cei (xs : List GCapture) (hs : xs.length + (xs.map GCapture.size).sum ≤ 1073741824) : Ctr Tryz.prog N7s [aL 9 (xs.map GCapture.enc)] [rL 9 (xs.map GCapture.enc)] := by
 refine cA M84 2 23 [(.tmp 2, [true])] Tryz.func361 rfl rfl ?_; unfold M84
 intro hb
 simp only [go_sem, K13]
 refine ⟨⟨by omega, by simp only [roomB]; omega⟩, ?_⟩
 refine K5 xs (fun k => [(4, vI k)]) (fun k => [(0, ⟨0, .row true 9 (filled GCapture.enc [tI 0, tI 0, tI 0, tI 0, tI 0, .sl 1 [], tI 0, tI 0, tI 0] xs k)⟩)]) (fun _ => True) (by simp only [roomB]; omega) ?_
 simp only [go_sem]
 refine ⟨?_, trivial, ?_, ?_⟩
 ·simp only [go_sem, K1i]
  all_goals rfl
 ·intro k x hx _ h0 h1 hw
  have h : k < xs.length := by omega
  simp only [go_sem, K6 hx, K6 (Ku h), Kv (Nat.le_of_lt h), h0, h1, hw]
  have hx1 := K14 (f := GCapture.size) (Kx hx)
  refine K0 (Cfk x (by omega)) ?_
  simp only [go_sem, K6 hx, K6 (Ku h), Kv (Nat.le_of_lt h), h0, h1, hw]
  intros; exact K1p hx
 ·intro _
  simp only [go_sem, K1q]
def M85 : MC := Y7 9 N9b
theorem Cej (xs ys : List GCapture) : Ctr Tryz.prog N7t [aL 9 (xs.map GCapture.enc), aL 9 (ys.map GCapture.enc)] [rB (decide (xs = ys))] := by
 refine cA M85 0 27 [(.tmp 4, [false])] Tryz.func373 rfl rfl ?_; unfold M85
 intro hb
 simp only [bdA, bdL, bdT, bdR, Kb, Kk, Kz, K19, roomB, and_true, true_and, List.length_map] at hb
 obtain ⟨⟨hl, -⟩, ⟨hl2, -⟩⟩ := hb
 simp only [go_sem]
 refine ⟨fun h => K2n h, fun h => ?_⟩
 have hle : xs.length = ys.length := by omega
 refine K5 xs (fun k => [(5, vI k)]) (fun k => []) (fun k => xs.take k = ys.take k) hl ?_
 simp only [go_sem]
 refine ⟨?_, rfl, ?_, ?_⟩
 ·simp only [go_sem]
 ·intro k x hx he h0 h1 hw
  obtain ⟨y, hy⟩ := Kf (show k < ys.length by omega)
  have h2 : (k : Int) < ys.length := by omega
  simp only [go_sem, K6 hx, K6 hy, h0, h1, h2, hw]
  refine K0 (Cfl x y) ?_
  simp only [go_sem, hw]
  exact ⟨fun hn => K3c hx hy hn, fun hn => (K16 hx hy he).2 hn⟩
 ·intro he
  simp only [go_sem]
  exact K2m he hle
def M68 : MC :=
(Zs [.box 1 0 (.s 0), .alloc 2 1 [pz, pz, pz, pz, pz]] [1,2] (Zs [.alloc 3 2 [pz, pz, pz, pz, pz]] [1,2,3] (Zs [fS 4 1 0, lF 5 1 4, fS 6 3 0, sS 1 6 5] [1,2,3] (Zs [fS 7 1 1, lF 8 1 7, fS 9 3 1, sS 1 9 8] [1,2,3] (Zs [fS 10 1 2, lF 11 1 10, fS 12 3 2, sS 1 12 11] [1,2,3] (Zs [fS 13 1 3, lF 14 1 13, fS 15 3 3, sS 1 15 14] [1,2,3] (Zs [fS 16 1 4, lF 17 1 16, fS 18 3 4, sS 1 18 17] [2,3] (Zs [lT 19 5 3, sS 5 2 19] [2] .ret))))))))
theorem Cds (x : GExclusion) : Ctr Tryz.prog N5v [aS x.enc] [rS x.enc] := by
 refine cA M68 3 20 [(.cell 2 true 5, [false, false, false, false, false])] Tryz.func145 rfl rfl ?_; unfold M68
 intro hb
 simp only [go_sem]
def M69 : MC :=
(Zs [.box 2 0 (.s 0), .box 3 1 (.s 1), .mv 4 cF] [2,3] (.seq (Zs [fS 5 2 0, lF 6 1 5, fS 7 3 0, lF 8 1 7, bS 9 .neq 6 8] [2,3,9] (.cond (.s 9) (Zs [.mv 4 cF] [4] .ret) .skip))
(.seq (Zs [fS 10 2 1, lF 11 1 10, fS 12 3 1, lF 13 1 12, bS 14 .neq 11 13] [2,3,14] (.cond (.s 14) (Zs [.mv 4 cF] [4] .ret) .skip))
(.seq (Zs [fS 15 2 2, lF 16 1 15, fS 17 3 2, lF 18 1 17, bS 19 .neq 16 18] [2,3,19] (.cond (.s 19) (Zs [.mv 4 cF] [4] .ret) .skip))
(.seq (Zs [fS 20 2 3, lF 21 1 20, fS 22 3 3, lF 23 1 22, bS 24 .neq 21 23] [2,3,24] (.cond (.s 24) (Zs [.mv 4 cF] [4] .ret) .skip))
(.seq (Zs [fS 25 2 4, lF 26 1 25, fS 27 3 4, lF 28 1 27, bS 29 .neq 26 28] [29] (.cond (.s 29) (Zs [.mv 4 cF] [4] .ret) .skip))
(Zs [.mv 4 cT] [4] .ret)))))))
theorem Cdt (x y : GExclusion) : Ctr Tryz.prog N5x [aS x.enc, aS y.enc] [rB (decide (x = y))] := by
 refine cA M69 2 30 [(.tmp 4, [false])] Tryz.func158 rfl rfl ?_; unfold M69
 intro hb
 clear hb
 simp only [go_sem]
 refine ⟨fun h => ?_, fun h_Host => ?_⟩
 ·symm
  rw [decide_eq_false_iff_not]
  rintro rfl
  exact h rfl
 refine ⟨fun h => ?_, fun h_Path => ?_⟩
 ·symm
  rw [decide_eq_false_iff_not]
  rintro rfl
  exact h rfl
 refine ⟨fun h => ?_, fun h_From => ?_⟩
 ·symm
  rw [decide_eq_false_iff_not]
  rintro rfl
  exact h rfl
 refine ⟨fun h => ?_, fun h_Until => ?_⟩
 ·symm
  rw [decide_eq_false_iff_not]
  rintro rfl
  exact h rfl
 refine ⟨fun h => ?_, fun h_Asked => ?_⟩
 ·symm
  rw [decide_eq_false_iff_not]
  rintro rfl
  exact h rfl
 cases x; cases y; simp_all
def M4s : MC := Y0
theorem Cd2 (xs : List GExclusion) (left : Int) (h0 : 0 ≤ left) : Ctr Tryz.prog N4b [aL 5 (xs.map GExclusion.enc), aI left] [rI (szr xs.length left)] := by
 refine cA M4s 0 12 [(.tmp 4, [false])] Tryz.func53 rfl rfl ?_; unfold M4s
 intro hb
 simp only [bdA, bdL, bdT, bdR, Kb, Kk, Kz, K19, roomB, and_true, true_and, List.length_map] at hb
 obtain ⟨⟨hl, -⟩, hn⟩ := hb
 simp only [go_sem]
 rw [wI (by omega) (by omega)]
 unfold szr
 refine ⟨fun h => ?_, fun h => ?_⟩
 ·rw [if_neg (by omega)]
 ·rw [if_pos (by omega)]
def M4t : MC := Y11 N5v
theorem Cd3 (xs : List GExclusion) (hs : xs.length ≤ 1073741824) : Ctr Tryz.prog N4d [aL 5 (xs.map GExclusion.enc)] [rL 5 (xs.map GExclusion.enc)] := by
 refine cA M4t 1 23 [(.tmp 2, [true])] Tryz.func62 rfl rfl ?_; unfold M4t
 intro hb
 simp only [go_sem, K13]
 refine ⟨⟨by omega, by simp only [roomB]; omega⟩, ?_⟩
 refine K5 xs (fun k => [(4, vI k)]) (fun k => [(0, ⟨0, .row true 5 (filled GExclusion.enc [tI 0, tI 0, tI 0, tI 0, tI 0] xs k)⟩)]) (fun _ => True) (by simp only [roomB]; omega) ?_
 simp only [go_sem]
 refine ⟨?_, trivial, ?_, ?_⟩
 ·simp only [go_sem, K1i]
  all_goals rfl
 ·intro k x hx _ h0 h1 hw
  have h : k < xs.length := by omega
  simp only [go_sem, K6 hx, K6 (Ku h), Kv (Nat.le_of_lt h), h0, h1, hw]
  refine K0 (Cds x) ?_
  simp only [go_sem, K6 hx, K6 (Ku h), Kv (Nat.le_of_lt h), h0, h1, hw]
  intros; exact K1p hx
 ·intro _
  simp only [go_sem, K1q]
def M4u : MC := Y7 5 N5x
theorem Cd4 (xs ys : List GExclusion) : Ctr Tryz.prog N4f [aL 5 (xs.map GExclusion.enc), aL 5 (ys.map GExclusion.enc)] [rB (decide (xs = ys))] := by
 refine cA M4u 0 27 [(.tmp 4, [false])] Tryz.func72 rfl rfl ?_; unfold M4u
 intro hb
 simp only [bdA, bdL, bdT, bdR, Kb, Kk, Kz, K19, roomB, and_true, true_and, List.length_map] at hb
 obtain ⟨⟨hl, -⟩, ⟨hl2, -⟩⟩ := hb
 simp only [go_sem]
 refine ⟨fun h => K2n h, fun h => ?_⟩
 have hle : xs.length = ys.length := by omega
 refine K5 xs (fun k => [(5, vI k)]) (fun k => []) (fun k => xs.take k = ys.take k) hl ?_
 simp only [go_sem]
 refine ⟨?_, rfl, ?_, ?_⟩
 ·simp only [go_sem]
 ·intro k x hx he h0 h1 hw
  obtain ⟨y, hy⟩ := Kf (show k < ys.length by omega)
  have h2 : (k : Int) < ys.length := by omega
  simp only [go_sem, K6 hx, K6 hy, h0, h1, h2, hw]
  refine K0 (Cdt x y) ?_
  simp only [go_sem, hw]
  exact ⟨fun hn => K3c hx hy hn, fun hn => (K16 hx hy he).2 hn⟩
 ·intro he
  simp only [go_sem]
  exact K2m he hle
def M6a : MC := Y8
theorem Cdu (x : GStatement) : Ctr Tryz.prog N5w [aS x.enc] [rS x.enc] := by
 refine cA M6a 3 17 [(.cell 2 true 4, [false, false, false, false])] Tryz.func147 rfl rfl ?_; unfold M6a
 intro hb
 simp only [go_sem]
def M6b : MC := Y9
theorem Cdv (x y : GStatement) : Ctr Tryz.prog N5y [aS x.enc, aS y.enc] [rB (decide (x = y))] := by
 refine cA M6b 2 25 [(.tmp 4, [false])] Tryz.func160 rfl rfl ?_; unfold M6b
 intro hb
 clear hb
 simp only [go_sem]
 refine ⟨fun h => ?_, fun h_Witness => ?_⟩
 ·symm
  rw [decide_eq_false_iff_not]
  rintro rfl
  exact h rfl
 refine ⟨fun h => ?_, fun h_Digest => ?_⟩
 ·symm
  rw [decide_eq_false_iff_not]
  rintro rfl
  exact h rfl
 refine ⟨fun h => ?_, fun h_Tick => ?_⟩
 ·symm
  rw [decide_eq_false_iff_not]
  rintro rfl
  exact h rfl
 refine ⟨fun h => ?_, fun h_Seal => ?_⟩
 ·symm
  rw [decide_eq_false_iff_not]
  rintro rfl
  exact h rfl
 cases x; cases y; simp_all
def M4v : MC := Y0
theorem Cd5 (xs : List GStatement) (left : Int) (h0 : 0 ≤ left) : Ctr Tryz.prog N4c [aL 4 (xs.map GStatement.enc), aI left] [rI (szr xs.length left)] := by
 refine cA M4v 0 12 [(.tmp 4, [false])] Tryz.func56 rfl rfl ?_; unfold M4v
 intro hb
 simp only [bdA, bdL, bdT, bdR, Kb, Kk, Kz, K19, roomB, and_true, true_and, List.length_map] at hb
 obtain ⟨⟨hl, -⟩, hn⟩ := hb
 simp only [go_sem]
 rw [wI (by omega) (by omega)]
 unfold szr
 refine ⟨fun h => ?_, fun h => ?_⟩
 ·rw [if_neg (by omega)]
 ·rw [if_pos (by omega)]
def M4w : MC := Y10 N5w
theorem Cd6 (xs : List GStatement) (hs : xs.length ≤ 1073741824) : Ctr Tryz.prog N4e [aL 4 (xs.map GStatement.enc)] [rL 4 (xs.map GStatement.enc)] := by
 refine cA M4w 1 23 [(.tmp 2, [true])] Tryz.func64 rfl rfl ?_; unfold M4w
 intro hb
 simp only [go_sem, K13]
 refine ⟨⟨by omega, by simp only [roomB]; omega⟩, ?_⟩
 refine K5 xs (fun k => [(4, vI k)]) (fun k => [(0, ⟨0, .row true 4 (filled GStatement.enc [tI 0, tI 0, tI 0, tI 0] xs k)⟩)]) (fun _ => True) (by simp only [roomB]; omega) ?_
 simp only [go_sem]
 refine ⟨?_, trivial, ?_, ?_⟩
 ·simp only [go_sem, K1i]
  all_goals rfl
 ·intro k x hx _ h0 h1 hw
  have h : k < xs.length := by omega
  simp only [go_sem, K6 hx, K6 (Ku h), Kv (Nat.le_of_lt h), h0, h1, hw]
  refine K0 (Cdu x) ?_
  simp only [go_sem, K6 hx, K6 (Ku h), Kv (Nat.le_of_lt h), h0, h1, hw]
  intros; exact K1p hx
 ·intro _
  simp only [go_sem, K1q]
def M4x : MC := Y7 4 N5y
theorem Cd7 (xs ys : List GStatement) : Ctr Tryz.prog N4g [aL 4 (xs.map GStatement.enc), aL 4 (ys.map GStatement.enc)] [rB (decide (xs = ys))] := by
 refine cA M4x 0 27 [(.tmp 4, [false])] Tryz.func74 rfl rfl ?_; unfold M4x
 intro hb
 simp only [bdA, bdL, bdT, bdR, Kb, Kk, Kz, K19, roomB, and_true, true_and, List.length_map] at hb
 obtain ⟨⟨hl, -⟩, ⟨hl2, -⟩⟩ := hb
 simp only [go_sem]
 refine ⟨fun h => K2n h, fun h => ?_⟩
 have hle : xs.length = ys.length := by omega
 refine K5 xs (fun k => [(5, vI k)]) (fun k => []) (fun k => xs.take k = ys.take k) hl ?_
 simp only [go_sem]
 refine ⟨?_, rfl, ?_, ?_⟩
 ·simp only [go_sem]
 ·intro k x hx he h0 h1 hw
  obtain ⟨y, hy⟩ := Kf (show k < ys.length by omega)
  have h2 : (k : Int) < ys.length := by omega
  simp only [go_sem, K6 hx, K6 hy, h0, h1, h2, hw]
  refine K0 (Cdv x y) ?_
  simp only [go_sem, hw]
  exact ⟨fun hn => K3c hx hy hn, fun hn => (K16 hx hy he).2 hn⟩
 ·intro he
  simp only [go_sem]
  exact K2m he hle
def M9k : MC := Y1
theorem Cfm (x : GLibrary) (left : Int) (h0 : 0 ≤ left) : Ctr Tryz.prog N92 [aS x.enc, aI left] [rI (szr x.size left)] := by
 refine cA M9k 1 12 [(.tmp 4, [false])] Tryz.func139 rfl rfl ?_; unfold M9k
 intro hb
 simp only [go_sem]
 refine K0 (C70 x.Digests left h0) ?_
 simp only [go_sem]
 intro _
 refine ⟨fun h => szr_bad' h0 h (by simp only [GLibrary.size]; omega), fun h1 => ?_⟩
 rfl
def M9l : MC :=
(Zs [.box 1 0 (.s 0), .alloc 2 1 [pz, .emp 1, .pl (.sc (.bool false)), .pl (.sc (.bool false))]] [1,2] (Zs [.alloc 3 2 [pz, .emp 1, .pl (.sc (.bool false)), .pl (.sc (.bool false))]] [1,2,3] (Zs [fS 4 1 0, lF 5 1 4, fS 6 3 0, sS 1 6 5] [1,2,3] (Zs [fS 7 1 1, lF 8 1 7, .call 9 [3] (.f N36) [.s 8], fS 10 3 1, sS 1 10 9] [1,2,3] (Zs [fS 11 1 2, lF 12 1 11, fS 13 3 2, sS 1 13 12] [1,2,3] (Zs [fS 14 1 3, lF 15 1 14, fS 16 3 3, sS 1 16 15] [2,3] (Zs [lT 17 4 3, sS 4 2 17] [2] .ret)))))))
theorem Cfn (x : GLibrary) (hs : x.size ≤ 1073741824) : Ctr Tryz.prog N94 [aS x.enc] [rS x.enc] := by
 refine cA M9l 4 18 [(.cell 2 true 4, [false, true, false, false])] Tryz.func146 rfl rfl ?_; unfold M9l
 intro hb
 simp only [GLibrary.size] at hs
 simp only [go_sem]
 refine K0 (C71 x.Digests (by omega)) ?_
 simp only [go_sem]
 try intros
def M9m : MC :=
(Zs [.box 2 0 (.s 0), .box 3 1 (.s 1), .mv 4 cF] [2,3] (.seq (Zs [fS 5 2 0, lF 6 1 5, fS 7 3 0, lF 8 1 7, bS 9 .neq 6 8] [2,3,9] (.cond (.s 9) (Zs [.mv 4 cF] [4] .ret) .skip))
(.seq (Zs [fS 10 2 1, lF 11 1 10, fS 12 3 1, lF 13 1 12, .call 14 [] (.f N37) [.s 11, .s 13], .un 15 .not (.s 14)] [2,3,15] (.cond (.s 15) (Zs [.mv 4 cF] [4] .ret) .skip))
(.seq (Zs [fS 16 2 2, lF 17 1 16, fS 18 3 2, lF 19 1 18, .bin 20 true .neq (.s 17) (.s 19)] [2,3,20] (.cond (.s 20) (Zs [.mv 4 cF] [4] .ret) .skip))
(.seq (Zs [fS 21 2 3, lF 22 1 21, fS 23 3 3, lF 24 1 23, .bin 25 true .neq (.s 22) (.s 24)] [25] (.cond (.s 25) (Zs [.mv 4 cF] [4] .ret) .skip))
(Zs [.mv 4 cT] [4] .ret))))))
theorem Cfo (x y : GLibrary) : Ctr Tryz.prog N96 [aS x.enc, aS y.enc] [rB (decide (x = y))] := by
 refine cA M9m 2 26 [(.tmp 4, [false])] Tryz.func159 rfl rfl ?_; unfold M9m
 intro hb
 clear hb
 simp only [go_sem]
 refine ⟨fun h => ?_, fun h_Id => ?_⟩
 ·symm
  rw [decide_eq_false_iff_not]
  rintro rfl
  exact h rfl
 refine K0 (C72 x.Digests y.Digests) ?_
 simp only [go_sem]
 refine ⟨fun h => ?_, fun h_Digests => ?_⟩
 ·symm
  rw [decide_eq_false_iff_not]
  rintro rfl
  exact h rfl
 refine ⟨fun h => ?_, fun h_Up => ?_⟩
 ·symm
  rw [decide_eq_false_iff_not]
  rintro rfl
  exact h rfl
 refine ⟨fun h => ?_, fun h_Lies => ?_⟩
 ·symm
  rw [decide_eq_false_iff_not]
  rintro rfl
  exact h rfl
 cases x; cases y; simp_all
def M86 : MC := Y5 4 N92
theorem Cek (xs : List GLibrary) (left : Int) (h0 : 0 ≤ left) : Ctr Tryz.prog N75 [aL 4 (xs.map GLibrary.enc), aI left] [rI (szr (xs.length + (xs.map GLibrary.size).sum) left)] := by
 refine cA M86 0 27 [(.tmp 4, [false])] Tryz.func54 rfl rfl ?_; unfold M86
 intro hb
 simp only [bdA, bdL, bdT, bdR, Kb, Kk, Kz, K19, roomB, and_true, true_and, List.length_map] at hb
 obtain ⟨⟨hl, -⟩, hn⟩ := hb
 simp only [go_sem]
 rw [wI (by omega) (by omega)]
 refine ⟨fun h => ?_, fun h => ?_⟩
 ·exact szr_bad' (n := xs.length) h0 ((K5n h0).2 (by omega)) (by omega)
 ·have hz : szr xs.length left = left - xs.length := by unfold szr; rw [if_pos (by omega)]
  rw [← hz] at h ⊢
  refine K5 xs (fun k => [(1, vI (szr (xs.length + ((xs.take k).map GLibrary.size).sum) left)), (5, vI k)]) (fun k => []) (fun k => ¬ szr (xs.length + ((xs.take k).map GLibrary.size).sum) left < 0) hl ?_
  simp only [go_sem]
  refine ⟨?_, by simpa using h, ?_, ?_⟩
  ·simp only [go_sem, List.take_zero, List.map_nil, List.sum_nil, Nat.add_zero]
   all_goals rfl
  ·intro k x hx hs hk0 h1 hw
   obtain ⟨a1, a2, a3⟩ := K1u (m := x.size) h0 hs
   rw [Nat.add_assoc, ← K4q hx] at a3
   simp only [go_sem, K6 hx, hk0, h1, hw]
   refine K0 (Cfm x _ a1) ?_
   rw [← a3]
   simp only [go_sem, hw]
   intro _
   refine ⟨fun hn => ?_, fun hn => hn⟩
   have := K2f (f := GLibrary.size) xs (k + 1)
   exact szr_bad' h0 hn (by omega)
  ·intro _
   simp only [go_sem, List.take_length]
def M87 : MC :=
(Zs [.nilo 2 0 4] [0] (.seq (pr [mS 5 0, nS 6 5, .mk 7 0 4 40 [.sc (.int .i64 0), .sl 1 [], .sc (.bool false), .sc (.bool false)] (.s 6), mS 3 7] [0,3])
(.seq (Zs [.mv 4 (ci 0)] [0,3,4] (.block 0 (.loop ([0,3,4], [1]) (.seq (Zs [mS 8 4, mS 9 0, nS 10 9, bS 11 .lss 8 10] [0,3,4,11] (cX 11 0))
(.seq (.block 1 (pr [mS 14 3, mS 15 4, mS 16 0, mS 17 4, xS 18 4 16 17, lT 19 4 18, .call 20 [1] (.f N94) [.s 19], xS 21 4 14 15, sS 4 21 20] [0,3,4]))
(pr [mS 12 4, bC 13 .add 12 1, mS 4 13] [0,3,4]))))))
(Zs [mS 22 3, mS 2 22] [2] .ret))))
theorem Cel (xs : List GLibrary) (hs : xs.length + (xs.map GLibrary.size).sum ≤ 1073741824) : Ctr Tryz.prog N77 [aL 4 (xs.map GLibrary.enc)] [rL 4 (xs.map GLibrary.enc)] := by
 refine cA M87 2 23 [(.tmp 2, [true])] Tryz.func63 rfl rfl ?_; unfold M87
 intro hb
 simp only [go_sem, K13]
 refine ⟨⟨by omega, by simp only [roomB]; omega⟩, ?_⟩
 refine K5 xs (fun k => [(4, vI k)]) (fun k => [(0, ⟨0, .row true 4 (filled GLibrary.enc [tI 0, .sl 1 [], tB false, tB false] xs k)⟩)]) (fun _ => True) (by simp only [roomB]; omega) ?_
 simp only [go_sem]
 refine ⟨?_, trivial, ?_, ?_⟩
 ·simp only [go_sem, K1i]
  all_goals rfl
 ·intro k x hx _ h0 h1 hw
  have h : k < xs.length := by omega
  simp only [go_sem, K6 hx, K6 (Ku h), Kv (Nat.le_of_lt h), h0, h1, hw]
  have hx1 := K14 (f := GLibrary.size) (Kx hx)
  refine K0 (Cfn x (by omega)) ?_
  simp only [go_sem, K6 hx, K6 (Ku h), Kv (Nat.le_of_lt h), h0, h1, hw]
  intros; exact K1p hx
 ·intro _
  simp only [go_sem, K1q]
def M88 : MC := Y7 4 N96
theorem Cem (xs ys : List GLibrary) : Ctr Tryz.prog N79 [aL 4 (xs.map GLibrary.enc), aL 4 (ys.map GLibrary.enc)] [rB (decide (xs = ys))] := by
 refine cA M88 0 27 [(.tmp 4, [false])] Tryz.func73 rfl rfl ?_; unfold M88
 intro hb
 simp only [bdA, bdL, bdT, bdR, Kb, Kk, Kz, K19, roomB, and_true, true_and, List.length_map] at hb
 obtain ⟨⟨hl, -⟩, ⟨hl2, -⟩⟩ := hb
 simp only [go_sem]
 refine ⟨fun h => K2n h, fun h => ?_⟩
 have hle : xs.length = ys.length := by omega
 refine K5 xs (fun k => [(5, vI k)]) (fun k => []) (fun k => xs.take k = ys.take k) hl ?_
 simp only [go_sem]
 refine ⟨?_, rfl, ?_, ?_⟩
 ·simp only [go_sem]
 ·intro k x hx he h0 h1 hw
  obtain ⟨y, hy⟩ := Kf (show k < ys.length by omega)
  have h2 : (k : Int) < ys.length := by omega
  simp only [go_sem, K6 hx, K6 hy, h0, h1, h2, hw]
  refine K0 (Cfo x y) ?_
  simp only [go_sem, hw]
  exact ⟨fun hn => K3c hx hy hn, fun hn => (K16 hx hy he).2 hn⟩
 ·intro he
  simp only [go_sem]
  exact K2m he hle
def Y12 (v0 : Nat) (v1 : Nat) (v2 : Nat) : MC :=
(Zs [.box 2 0 (.s 0), .mv 4 (ci 0)] [1,2] (Zs [fS 5 2 0, lF 6 1 5, mS 7 1, .call 8 [] (.f v0) [.s 6, .s 7], mS 1 8] [1,2] (.seq (Zs [mS 9 1, bC 10 .lss 9 0] [1,2,10] (.cond (.s 10) (Zs [.mv 4 (.c (.int .i64 (-1)))] [4] .ret) .skip))
(Zs [fS 11 2 1, lF 12 1 11, mS 13 1, .call 14 [] (.f v1) [.s 12, .s 13], mS 1 14] [1,2] (.seq (Zs [mS 15 1, bC 16 .lss 15 0] [1,2,16] (.cond (.s 16) (Zs [.mv 4 (.c (.int .i64 (-1)))] [4] .ret) .skip))
(Zs [fS 17 2 2, lF 18 1 17, mS 19 1, .call 20 [] (.f v2) [.s 18, .s 19], mS 1 20] [1] (.seq (Zs [mS 21 1, bC 22 .lss 21 0] [1,22] (.cond (.s 22) (Zs [.mv 4 (.c (.int .i64 (-1)))] [4] .ret) .skip))
(Zs [mS 23 1, mS 4 23] [4] .ret))))))))
attribute [go_sem] Y12
def M6c : MC := Y12 N8w Naf N7r
theorem Cdw (x : GContainer) (left : Int) (h0 : 0 ≤ left) : Ctr Tryz.prog N62 [aS x.enc, aI left] [rI (szr x.size left)] := by
 refine cA M6c 1 24 [(.tmp 4, [false])] Tryz.func264 rfl rfl ?_; unfold M6c
 intro hb
 simp only [go_sem]
 refine K0 (Cdn x.Script left h0) ?_
 simp only [go_sem]
 intro _
 refine ⟨fun h => szr_bad' h0 h (by simp only [GContainer.size]; omega), fun h1 => ?_⟩
 obtain ⟨a1, b1, e1⟩ := K1u (m := x.Entries.length) h0 h1
 refine K0 (Cfy x.Entries _ a1) ?_
 rw [← e1]
 simp only [go_sem]
 intro _
 refine ⟨fun h => szr_bad' h0 h (by simp only [GContainer.size]; omega), fun h2 => ?_⟩
 obtain ⟨a2, b2, e2⟩ := K1u (m := x.Captures.length + (x.Captures.map GCapture.size).sum) h0 h2
 refine K0 (Ceh x.Captures _ a2) ?_
 rw [← e2]
 simp only [go_sem]
 intro _
 refine ⟨fun h => szr_bad' h0 h (by simp only [GContainer.size]; omega), fun h3 => ?_⟩
 rfl
def M6d : MC :=
(Zs [.box 1 0 (.s 0), .alloc 2 1 [.emp 4, .emp 5, .emp 9, pz]] [1,2] (Zs [.alloc 3 2 [.emp 4, .emp 5, .emp 9, pz]] [1,2,3] (Zs [fS 4 1 0, lF 5 1 4, .call 6 [3] (.f N8x) [.s 5], fS 7 3 0, sS 1 7 6] [1,2,3] (Zs [fS 8 1 1, lF 9 1 8, .call 10 [4] (.f Nag) [.s 9], fS 11 3 1, sS 1 11 10] [1,2,3] (Zs [fS 12 1 2, lF 13 1 12, .call 14 [5] (.f N7s) [.s 13], fS 15 3 2, sS 1 15 14] [1,2,3] (Zs [fS 16 1 3, lF 17 1 16, fS 18 3 3, sS 1 18 17] [2,3] (Zs [lT 19 4 3, sS 4 2 19] [2] .ret)))))))
theorem Cdx (x : GContainer) (hs : x.size ≤ 1073741824) : Ctr Tryz.prog N63 [aS x.enc] [rS x.enc] := by
 refine cA M6d 6 20 [(.cell 2 true 4, [true, true, true, false])] Tryz.func268 rfl rfl ?_; unfold M6d
 intro hb
 simp only [GContainer.size] at hs
 simp only [go_sem]
 refine K0 (Cdp x.Script (by omega)) ?_
 simp only [go_sem]
 try intros
 refine K0 (Cfz x.Entries (by omega)) ?_
 simp only [go_sem]
 try intros
 refine K0 (Cei x.Captures (by omega)) ?_
 simp only [go_sem]
 try intros
def M6e : MC :=
(Zs [.box 2 0 (.s 0), .box 3 1 (.s 1), .mv 4 cF] [2,3] (.seq (Zs [fS 5 2 0, lF 6 1 5, fS 7 3 0, lF 8 1 7, .call 9 [] (.f N8y) [.s 6, .s 8], .un 10 .not (.s 9)] [2,3,10] (.cond (.s 10) (Zs [.mv 4 cF] [4] .ret) .skip))
(.seq (Zs [fS 11 2 1, lF 12 1 11, fS 13 3 1, lF 14 1 13, .call 15 [] (.f Nah) [.s 12, .s 14], .un 16 .not (.s 15)] [2,3,16] (.cond (.s 16) (Zs [.mv 4 cF] [4] .ret) .skip))
(.seq (Zs [fS 17 2 2, lF 18 1 17, fS 19 3 2, lF 20 1 19, .call 21 [] (.f N7t) [.s 18, .s 20], .un 22 .not (.s 21)] [2,3,22] (.cond (.s 22) (Zs [.mv 4 cF] [4] .ret) .skip))
(.seq (Zs [fS 23 2 3, lF 24 1 23, fS 25 3 3, lF 26 1 25, bS 27 .neq 24 26] [27] (.cond (.s 27) (Zs [.mv 4 cF] [4] .ret) .skip))
(Zs [.mv 4 cT] [4] .ret))))))
theorem Cdy (x y : GContainer) : Ctr Tryz.prog N64 [aS x.enc, aS y.enc] [rB (decide (x = y))] := by
 refine cA M6e 2 28 [(.tmp 4, [false])] Tryz.func274 rfl rfl ?_; unfold M6e
 intro hb
 clear hb
 simp only [go_sem]
 refine K0 (Cdr x.Script y.Script) ?_
 simp only [go_sem]
 refine ⟨fun h => ?_, fun h_Script => ?_⟩
 ·symm
  rw [decide_eq_false_iff_not]
  rintro rfl
  exact h rfl
 refine K0 (Cg0 x.Entries y.Entries) ?_
 simp only [go_sem]
 refine ⟨fun h => ?_, fun h_Entries => ?_⟩
 ·symm
  rw [decide_eq_false_iff_not]
  rintro rfl
  exact h rfl
 refine K0 (Cej x.Captures y.Captures) ?_
 simp only [go_sem]
 refine ⟨fun h => ?_, fun h_Captures => ?_⟩
 ·symm
  rw [decide_eq_false_iff_not]
  rintro rfl
  exact h rfl
 refine ⟨fun h => ?_, fun h_Root => ?_⟩
 ·symm
  rw [decide_eq_false_iff_not]
  rintro rfl
  exact h rfl
 cases x; cases y; simp_all
def M4y : MC := Y5 4 N62
theorem C4z (xs : List GContainer) (left : Int) (h0 : 0 ≤ left) : Ctr Tryz.prog N2c [aL 4 (xs.map GContainer.enc), aI left] [rI (szr (xs.length + (xs.map GContainer.size).sum) left)] := by
 refine cA M4y 0 27 [(.tmp 4, [false])] Tryz.func137 rfl rfl ?_; unfold M4y
 intro hb
 simp only [bdA, bdL, bdT, bdR, Kb, Kk, Kz, K19, roomB, and_true, true_and, List.length_map] at hb
 obtain ⟨⟨hl, -⟩, hn⟩ := hb
 simp only [go_sem]
 rw [wI (by omega) (by omega)]
 refine ⟨fun h => ?_, fun h => ?_⟩
 ·exact szr_bad' (n := xs.length) h0 ((K5n h0).2 (by omega)) (by omega)
 ·have hz : szr xs.length left = left - xs.length := by unfold szr; rw [if_pos (by omega)]
  rw [← hz] at h ⊢
  refine K5 xs (fun k => [(1, vI (szr (xs.length + ((xs.take k).map GContainer.size).sum) left)), (5, vI k)]) (fun k => []) (fun k => ¬ szr (xs.length + ((xs.take k).map GContainer.size).sum) left < 0) hl ?_
  simp only [go_sem]
  refine ⟨?_, by simpa using h, ?_, ?_⟩
  ·simp only [go_sem, List.take_zero, List.map_nil, List.sum_nil, Nat.add_zero]
   all_goals rfl
  ·intro k x hx hs hk0 h1 hw
   obtain ⟨a1, a2, a3⟩ := K1u (m := x.size) h0 hs
   rw [Nat.add_assoc, ← K4q hx] at a3
   simp only [go_sem, K6 hx, hk0, h1, hw]
   refine K0 (Cdw x _ a1) ?_
   rw [← a3]
   simp only [go_sem, hw]
   intro _
   refine ⟨fun hn => ?_, fun hn => hn⟩
   have := K2f (f := GContainer.size) xs (k + 1)
   exact szr_bad' h0 hn (by omega)
  ·intro _
   simp only [go_sem, List.take_length]
def M50 : MC :=
(Zs [.nilo 2 0 4] [0] (.seq (pr [mS 5 0, nS 6 5, .mk 7 0 4 80 [.sl 4 [], .sl 5 [], .sl 9 [], .sc (.int .i64 0)] (.s 6), mS 3 7] [0,3])
(.seq (Zs [.mv 4 (ci 0)] [0,3,4] (.block 0 (.loop ([0,3,4], [1,2,3]) (.seq (Zs [mS 8 4, mS 9 0, nS 10 9, bS 11 .lss 8 10] [0,3,4,11] (cX 11 0))
(.seq (.block 1 (pr [mS 14 3, mS 15 4, mS 16 0, mS 17 4, xS 18 4 16 17, lT 19 4 18, .call 20 [1, 2, 3] (.f N63) [.s 19], xS 21 4 14 15, sS 4 21 20] [0,3,4]))
(pr [mS 12 4, bC 13 .add 12 1, mS 4 13] [0,3,4]))))))
(Zs [mS 22 3, mS 2 22] [2] .ret))))
theorem C51 (xs : List GContainer) (hs : xs.length + (xs.map GContainer.size).sum ≤ 1073741824) : Ctr Tryz.prog N2d [aL 4 (xs.map GContainer.enc)] [rL 4 (xs.map GContainer.enc)] := by
 refine cA M50 4 23 [(.tmp 2, [true])] Tryz.func143 rfl rfl ?_; unfold M50
 intro hb
 simp only [go_sem, K13]
 refine ⟨⟨by omega, by simp only [roomB]; omega⟩, ?_⟩
 refine K5 xs (fun k => [(4, vI k)]) (fun k => [(0, ⟨0, .row true 4 (filled GContainer.enc [.sl 4 [], .sl 5 [], .sl 9 [], tI 0] xs k)⟩)]) (fun _ => True) (by simp only [roomB]; omega) ?_
 simp only [go_sem]
 refine ⟨?_, trivial, ?_, ?_⟩
 ·simp only [go_sem, K1i]
  all_goals rfl
 ·intro k x hx _ h0 h1 hw
  have h : k < xs.length := by omega
  simp only [go_sem, K6 hx, K6 (Ku h), Kv (Nat.le_of_lt h), h0, h1, hw]
  have hx1 := K14 (f := GContainer.size) (Kx hx)
  refine K0 (Cdx x (by omega)) ?_
  simp only [go_sem, K6 hx, K6 (Ku h), Kv (Nat.le_of_lt h), h0, h1, hw]
  intros; exact K1p hx
 ·intro _
  simp only [go_sem, K1q]
def M52 : MC := Y7 4 N64
theorem C53 (xs ys : List GContainer) : Ctr Tryz.prog N2e [aL 4 (xs.map GContainer.enc), aL 4 (ys.map GContainer.enc)] [rB (decide (xs = ys))] := by
 refine cA M52 0 27 [(.tmp 4, [false])] Tryz.func156 rfl rfl ?_; unfold M52
 intro hb
 simp only [bdA, bdL, bdT, bdR, Kb, Kk, Kz, K19, roomB, and_true, true_and, List.length_map] at hb
 obtain ⟨⟨hl, -⟩, ⟨hl2, -⟩⟩ := hb
 simp only [go_sem]
 refine ⟨fun h => K2n h, fun h => ?_⟩
 have hle : xs.length = ys.length := by omega
 refine K5 xs (fun k => [(5, vI k)]) (fun k => []) (fun k => xs.take k = ys.take k) hl ?_
 simp only [go_sem]
 refine ⟨?_, rfl, ?_, ?_⟩
 ·simp only [go_sem]
 ·intro k x hx he h0 h1 hw
  obtain ⟨y, hy⟩ := Kf (show k < ys.length by omega)
  have h2 : (k : Int) < ys.length := by omega
  simp only [go_sem, K6 hx, K6 hy, h0, h1, h2, hw]
  refine K0 (Cdy x y) ?_
  simp only [go_sem, hw]
  exact ⟨fun hn => K3c hx hy hn, fun hn => (K16 hx hy he).2 hn⟩
 ·intro he
  simp only [go_sem]
  exact K2m he hle
def Mbe : MC :=
(Zs [.box 1 0 (.s 0), .alloc 2 1 [pz, pz, pz, pz, pz, pz]] [1,2] (Zs [.alloc 3 2 [pz, pz, pz, pz, pz, pz]] [1,2,3] (Zs [fS 4 1 0, lT 5 3 4, .call 6 [] (.f N1k) [.s 5], fS 7 3 0, sS 3 7 6] [1,2,3] (Zs [fS 8 1 3, lF 9 1 8, fS 10 3 3, sS 1 10 9] [1,2,3] (Zs [fS 11 1 4, lF 12 1 11, fS 13 3 4, sS 1 13 12] [1,2,3] (Zs [fS 14 1 5, lF 15 1 14, fS 16 3 5, sS 1 16 15] [2,3] (Zs [lT 17 6 3, sS 6 2 17] [2] .ret)))))))
theorem Cgf (x : GFound) : Ctr Tryz.prog Nb7 [aS x.enc] [rS x.enc] := by
 refine cA Mbe 3 18 [(.cell 2 true 6, [false, false, false, false, false, false])] Tryz.func269 rfl rfl ?_; unfold Mbe
 intro hb
 simp only [go_sem]
 refine K0 (C1l x.Address) ?_
 simp only [go_sem]
 try intros
def Mbf : MC :=
(Zs [.box 2 0 (.s 0), .box 3 1 (.s 1), .mv 4 cF] [2,3] (.seq (Zs [fS 5 2 0, lT 6 3 5, fS 7 3 0, lT 8 3 7, .call 9 [] (.f N1j) [.s 6, .s 8], .un 10 .not (.s 9)] [2,3,10] (.cond (.s 10) (Zs [.mv 4 cF] [4] .ret) .skip))
(.seq (Zs [fS 11 2 3, lF 12 1 11, fS 13 3 3, lF 14 1 13, bS 15 .neq 12 14] [2,3,15] (.cond (.s 15) (Zs [.mv 4 cF] [4] .ret) .skip))
(.seq (Zs [fS 16 2 4, lF 17 1 16, fS 18 3 4, lF 19 1 18, bS 20 .neq 17 19] [2,3,20] (.cond (.s 20) (Zs [.mv 4 cF] [4] .ret) .skip))
(.seq (Zs [fS 21 2 5, lF 22 1 21, fS 23 3 5, lF 24 1 23, bS 25 .neq 22 24] [25] (.cond (.s 25) (Zs [.mv 4 cF] [4] .ret) .skip))
(Zs [.mv 4 cT] [4] .ret))))))
theorem Cgg (x y : GFound) : Ctr Tryz.prog Nb8 [aS x.enc, aS y.enc] [rB (decide (x = y))] := by
 refine cA Mbf 2 26 [(.tmp 4, [false])] Tryz.func275 rfl rfl ?_; unfold Mbf
 intro hb
 clear hb
 simp only [go_sem]
 refine K0 (C1m x.Address y.Address) ?_
 simp only [go_sem]
 refine ⟨fun h => ?_, fun h_Address => ?_⟩
 ·symm
  rw [decide_eq_false_iff_not]
  rintro rfl
  exact h rfl
 refine ⟨fun h => ?_, fun h_Tick => ?_⟩
 ·symm
  rw [decide_eq_false_iff_not]
  rintro rfl
  exact h rfl
 refine ⟨fun h => ?_, fun h_Container => ?_⟩
 ·symm
  rw [decide_eq_false_iff_not]
  rintro rfl
  exact h rfl
 refine ⟨fun h => ?_, fun h_At => ?_⟩
 ·symm
  rw [decide_eq_false_iff_not]
  rintro rfl
  exact h rfl
 cases x; cases y; simp_all
def Mal : MC := Y0
theorem Cg1 (xs : List GFound) (left : Int) (h0 : 0 ≤ left) : Ctr Tryz.prog Na7 [aL 6 (xs.map GFound.enc), aI left] [rI (szr xs.length left)] := by
 refine cA Mal 0 12 [(.tmp 4, [false])] Tryz.func138 rfl rfl ?_; unfold Mal
 intro hb
 simp only [bdA, bdL, bdT, bdR, Kb, Kk, Kz, K19, roomB, and_true, true_and, List.length_map] at hb
 obtain ⟨⟨hl, -⟩, hn⟩ := hb
 simp only [go_sem]
 rw [wI (by omega) (by omega)]
 unfold szr
 refine ⟨fun h => ?_, fun h => ?_⟩
 ·rw [if_neg (by omega)]
 ·rw [if_pos (by omega)]
def Mam : MC :=
(Zs [.nilo 2 0 6] [0] (Zs [mS 5 0, nS 6 5, .mk 7 0 6 48 [.sc (.int .i64 0), .sc (.int .i64 0), .sc (.int .i64 0), .sc (.int .i64 0), .sc (.int .i64 0), .sc (.int .i64 0)] (.s 6), mS 3 7] [0,3] (.seq (Zs [.mv 4 (ci 0)] [0,3,4] (.block 0 (.loop ([0,3,4], []) (.seq (Zs [mS 8 4, mS 9 0, nS 10 9, bS 11 .lss 8 10] [0,3,4,11] (cX 11 0))
(.seq (.block 1 (pr [mS 14 3, mS 15 4, mS 16 0, mS 17 4, xS 18 6 16 17, lT 19 6 18, .call 20 [] (.f Nb7) [.s 19], xS 21 6 14 15, sS 6 21 20] [0,3,4]))
(pr [mS 12 4, bC 13 .add 12 1, mS 4 13] [0,3,4]))))))
(Zs [mS 22 3, mS 2 22] [2] .ret))))
theorem Cg2 (xs : List GFound) (hs : xs.length ≤ 1073741824) : Ctr Tryz.prog Na8 [aL 6 (xs.map GFound.enc)] [rL 6 (xs.map GFound.enc)] := by
 refine cA Mam 1 23 [(.tmp 2, [true])] Tryz.func144 rfl rfl ?_; unfold Mam
 intro hb
 simp only [go_sem, K13]
 refine ⟨⟨by omega, by simp only [roomB]; omega⟩, ?_⟩
 refine K5 xs (fun k => [(4, vI k)]) (fun k => [(0, ⟨0, .row true 6 (filled GFound.enc [tI 0, tI 0, tI 0, tI 0, tI 0, tI 0] xs k)⟩)]) (fun _ => True) (by simp only [roomB]; omega) ?_
 simp only [go_sem]
 refine ⟨?_, trivial, ?_, ?_⟩
 ·simp only [go_sem, K1i]
  all_goals rfl
 ·intro k x hx _ h0 h1 hw
  have h : k < xs.length := by omega
  simp only [go_sem, K6 hx, K6 (Ku h), Kv (Nat.le_of_lt h), h0, h1, hw]
  refine K0 (Cgf x) ?_
  simp only [go_sem, K6 hx, K6 (Ku h), Kv (Nat.le_of_lt h), h0, h1, hw]
  intros; exact K1p hx
 ·intro _
  simp only [go_sem, K1q]
def Man : MC := Y7 6 Nb8
theorem Cg3 (xs ys : List GFound) : Ctr Tryz.prog Na9 [aL 6 (xs.map GFound.enc), aL 6 (ys.map GFound.enc)] [rB (decide (xs = ys))] := by
 refine cA Man 0 27 [(.tmp 4, [false])] Tryz.func157 rfl rfl ?_; unfold Man
 intro hb
 simp only [bdA, bdL, bdT, bdR, Kb, Kk, Kz, K19, roomB, and_true, true_and, List.length_map] at hb
 obtain ⟨⟨hl, -⟩, ⟨hl2, -⟩⟩ := hb
 simp only [go_sem]
 refine ⟨fun h => K2n h, fun h => ?_⟩
 have hle : xs.length = ys.length := by omega
 refine K5 xs (fun k => [(5, vI k)]) (fun k => []) (fun k => xs.take k = ys.take k) hl ?_
 simp only [go_sem]
 refine ⟨?_, rfl, ?_, ?_⟩
 ·simp only [go_sem]
 ·intro k x hx he h0 h1 hw
  obtain ⟨y, hy⟩ := Kf (show k < ys.length by omega)
  have h2 : (k : Int) < ys.length := by omega
  simp only [go_sem, K6 hx, K6 hy, h0, h1, h2, hw]
  refine K0 (Cgg x y) ?_
  simp only [go_sem, hw]
  exact ⟨fun hn => K3c hx hy hn, fun hn => (K16 hx hy he).2 hn⟩
 ·intro he
  simp only [go_sem]
  exact K2m he hle
def Mcl : MC := Y12 N2c Na7 N2c
theorem Cgn (x : GDisk) (left : Int) (h0 : 0 ≤ left) : Ctr Tryz.prog Ncb [aS x.enc, aI left] [rI (szr x.size left)] := by
 refine cA Mcl 1 24 [(.tmp 4, [false])] Tryz.func52 rfl rfl ?_; unfold Mcl
 intro hb
 simp only [go_sem]
 refine K0 (C4z x.Containers left h0) ?_
 simp only [go_sem]
 intro _
 refine ⟨fun h => szr_bad' h0 h (by simp only [GDisk.size]; omega), fun h1 => ?_⟩
 obtain ⟨a1, b1, e1⟩ := K1u (m := x.Index.length) h0 h1
 refine K0 (Cg1 x.Index _ a1) ?_
 rw [← e1]
 simp only [go_sem]
 intro _
 refine ⟨fun h => szr_bad' h0 h (by simp only [GDisk.size]; omega), fun h2 => ?_⟩
 obtain ⟨a2, b2, e2⟩ := K1u (m := x.Wanted.length + (x.Wanted.map GContainer.size).sum) h0 h2
 refine K0 (C4z x.Wanted _ a2) ?_
 rw [← e2]
 simp only [go_sem]
 intro _
 refine ⟨fun h => szr_bad' h0 h (by simp only [GDisk.size]; omega), fun h3 => ?_⟩
 rfl
def Mcm : MC :=
(Zs [.box 1 0 (.s 0), .alloc 2 1 [.emp 4, .emp 6, .emp 4]] [1,2] (Zs [.alloc 3 2 [.emp 4, .emp 6, .emp 4]] [1,2,3] (Zs [fS 4 1 0, lF 5 1 4, .call 6 [3] (.f N2d) [.s 5], fS 7 3 0, sS 1 7 6] [1,2,3] (Zs [fS 8 1 1, lF 9 1 8, .call 10 [4] (.f Na8) [.s 9], fS 11 3 1, sS 1 11 10] [1,2,3] (Zs [fS 12 1 2, lF 13 1 12, .call 14 [5] (.f N2d) [.s 13], fS 15 3 2, sS 1 15 14] [2,3] (Zs [lT 16 3 3, sS 3 2 16] [2] .ret))))))
theorem Cgo (x : GDisk) (hs : x.size ≤ 1073741824) : Ctr Tryz.prog Ncc [aS x.enc] [rS x.enc] := by
 refine cA Mcm 6 17 [(.cell 2 true 3, [true, true, true])] Tryz.func61 rfl rfl ?_; unfold Mcm
 intro hb
 simp only [GDisk.size] at hs
 simp only [go_sem]
 refine K0 (C51 x.Containers (by omega)) ?_
 simp only [go_sem]
 try intros
 refine K0 (Cg2 x.Index (by omega)) ?_
 simp only [go_sem]
 try intros
 refine K0 (C51 x.Wanted (by omega)) ?_
 simp only [go_sem]
 try intros
def Mcn : MC :=
(Zs [.box 2 0 (.s 0), .box 3 1 (.s 1), .mv 4 cF] [2,3] (.seq (Zs [fS 5 2 0, lF 6 1 5, fS 7 3 0, lF 8 1 7, .call 9 [] (.f N2e) [.s 6, .s 8], .un 10 .not (.s 9)] [2,3,10] (.cond (.s 10) (Zs [.mv 4 cF] [4] .ret) .skip))
(.seq (Zs [fS 11 2 1, lF 12 1 11, fS 13 3 1, lF 14 1 13, .call 15 [] (.f Na9) [.s 12, .s 14], .un 16 .not (.s 15)] [2,3,16] (.cond (.s 16) (Zs [.mv 4 cF] [4] .ret) .skip))
(.seq (Zs [fS 17 2 2, lF 18 1 17, fS 19 3 2, lF 20 1 19, .call 21 [] (.f N2e) [.s 18, .s 20], .un 22 .not (.s 21)] [22] (.cond (.s 22) (Zs [.mv 4 cF] [4] .ret) .skip))
(Zs [.mv 4 cT] [4] .ret)))))
theorem Cgp (x y : GDisk) : Ctr Tryz.prog Ncd [aS x.enc, aS y.enc] [rB (decide (x = y))] := by
 refine cA Mcn 2 23 [(.tmp 4, [false])] Tryz.func71 rfl rfl ?_; unfold Mcn
 intro hb
 clear hb
 simp only [go_sem]
 refine K0 (C53 x.Containers y.Containers) ?_
 simp only [go_sem]
 refine ⟨fun h => ?_, fun h_Containers => ?_⟩
 ·symm
  rw [decide_eq_false_iff_not]
  rintro rfl
  exact h rfl
 refine K0 (Cg3 x.Index y.Index) ?_
 simp only [go_sem]
 refine ⟨fun h => ?_, fun h_Index => ?_⟩
 ·symm
  rw [decide_eq_false_iff_not]
  rintro rfl
  exact h rfl
 refine K0 (C53 x.Wanted y.Wanted) ?_
 simp only [go_sem]
 refine ⟨fun h => ?_, fun h_Wanted => ?_⟩
 ·symm
  rw [decide_eq_false_iff_not]
  rintro rfl
  exact h rfl
 cases x; cases y; simp_all
def Y13 (v0 : Nat) (v1 : Nat) (v2 : Nat) (v3 : Nat) (v4 : Nat) (v5 : Nat) (v6 : Nat) : MC :=
(Zs [.box 2 0 (.s 0), .mv 4 (ci 0)] [1,2] (Zs [fS 5 2 0, lF 6 1 5, mS 7 1, .call 8 [] (.f v0) [.s 6, .s 7], mS 1 8] [1,2] (.seq (Zs [mS 9 1, bC 10 .lss 9 0] [1,2,10] (.cond (.s 10) (Zs [.mv 4 (.c (.int .i64 (-1)))] [4] .ret) .skip))
(Zs [fS 11 2 1, lF 12 1 11, mS 13 1, .call 14 [] (.f v1) [.s 12, .s 13], mS 1 14] [1,2] (.seq (Zs [mS 15 1, bC 16 .lss 15 0] [1,2,16] (.cond (.s 16) (Zs [.mv 4 (.c (.int .i64 (-1)))] [4] .ret) .skip))
(Zs [fS 17 2 2, lT 18 3 17, mS 19 1, .call 20 [] (.f v2) [.s 18, .s 19], mS 1 20] [1,2] (.seq (Zs [mS 21 1, bC 22 .lss 21 0] [1,2,22] (.cond (.s 22) (Zs [.mv 4 (.c (.int .i64 (-1)))] [4] .ret) .skip))
(Zs [fS 23 2 5, lF 24 1 23, mS 25 1, .call 26 [] (.f v3) [.s 24, .s 25], mS 1 26] [1,2] (.seq (Zs [mS 27 1, bC 28 .lss 27 0] [1,2,28] (.cond (.s 28) (Zs [.mv 4 (.c (.int .i64 (-1)))] [4] .ret) .skip))
(Zs [fS 29 2 6, lF 30 1 29, mS 31 1, .call 32 [] (.f v4) [.s 30, .s 31], mS 1 32] [1,2] (.seq (Zs [mS 33 1, bC 34 .lss 33 0] [1,2,34] (.cond (.s 34) (Zs [.mv 4 (.c (.int .i64 (-1)))] [4] .ret) .skip))
(Zs [fS 35 2 7, lF 36 1 35, mS 37 1, .call 38 [] (.f v5) [.s 36, .s 37], mS 1 38] [1,2] (.seq (Zs [mS 39 1, bC 40 .lss 39 0] [1,2,40] (.cond (.s 40) (Zs [.mv 4 (.c (.int .i64 (-1)))] [4] .ret) .skip))
(Zs [fS 41 2 8, lF 42 1 41, mS 43 1, .call 44 [] (.f v6) [.s 42, .s 43], mS 1 44] [1] (.seq (Zs [mS 45 1, bC 46 .lss 45 0] [1,46] (.cond (.s 46) (Zs [.mv 4 (.c (.int .i64 (-1)))] [4] .ret) .skip))
(Zs [mS 47 1, mS 4 47] [4] .ret))))))))))))))))
attribute [go_sem] Y13
def M9n : MC := Y13 N74 N8w Ncb N4b N75 N6w N4c
theorem Cfp (x : GArchive) (left : Int) (h0 : 0 ≤ left) : Ctr Tryz.prog N8u [aS x.enc, aI left] [rI (szr x.size left)] := by
 refine cA M9n 1 48 [(.tmp 4, [false])] Tryz.func13 rfl rfl ?_; unfold M9n
 intro hb
 simp only [go_sem]
 refine K0 (Cee x.Site left h0) ?_
 simp only [go_sem]
 intro _
 refine ⟨fun h => szr_bad' h0 h (by simp only [GArchive.size]; omega), fun h1 => ?_⟩
 obtain ⟨a1, b1, e1⟩ := K1u (m := x.Script.length) h0 h1
 refine K0 (Cdn x.Script _ a1) ?_
 rw [← e1]
 simp only [go_sem]
 intro _
 refine ⟨fun h => szr_bad' h0 h (by simp only [GArchive.size]; omega), fun h2 => ?_⟩
 obtain ⟨a2, b2, e2⟩ := K1u (m := x.Disk.size) h0 h2
 refine K0 (Cgn x.Disk _ a2) ?_
 rw [← e2]
 simp only [go_sem]
 intro _
 refine ⟨fun h => szr_bad' h0 h (by simp only [GArchive.size]; omega), fun h3 => ?_⟩
 obtain ⟨a3, b3, e3⟩ := K1u (m := x.Exclusions.length) h0 h3
 refine K0 (Cd2 x.Exclusions _ a3) ?_
 rw [← e3]
 simp only [go_sem]
 intro _
 refine ⟨fun h => szr_bad' h0 h (by simp only [GArchive.size]; omega), fun h4 => ?_⟩
 obtain ⟨a4, b4, e4⟩ := K1u (m := x.Libraries.length + (x.Libraries.map GLibrary.size).sum) h0 h4
 refine K0 (Cek x.Libraries _ a4) ?_
 rw [← e4]
 simp only [go_sem]
 intro _
 refine ⟨fun h => szr_bad' h0 h (by simp only [GArchive.size]; omega), fun h5 => ?_⟩
 obtain ⟨a5, b5, e5⟩ := K1u (m := x.Keys.length) h0 h5
 refine K0 (C70 x.Keys _ a5) ?_
 rw [← e5]
 simp only [go_sem]
 intro _
 refine ⟨fun h => szr_bad' h0 h (by simp only [GArchive.size]; omega), fun h6 => ?_⟩
 obtain ⟨a6, b6, e6⟩ := K1u (m := x.Statements.length) h0 h6
 refine K0 (Cd5 x.Statements _ a6) ?_
 rw [← e6]
 simp only [go_sem]
 intro _
 refine ⟨fun h => szr_bad' h0 h (by simp only [GArchive.size]; omega), fun h7 => ?_⟩
 rfl
def M9o : MC :=
(Zs [.box 1 0 (.s 0), .alloc 2 1 [.emp 9, .emp 4, .emp 4, .emp 6, .emp 4, .emp 5, .emp 4, .emp 1, .emp 4, pz]] [1,2] (Zs [.alloc 3 2 [.emp 9, .emp 4, .emp 4, .emp 6, .emp 4, .emp 5, .emp 4, .emp 1, .emp 4, pz]] [1,2,3] (Zs [fS 4 1 0, lF 5 1 4, .call 6 [3] (.f N76) [.s 5], fS 7 3 0, sS 1 7 6] [1,2,3] (Zs [fS 8 1 1, lF 9 1 8, .call 10 [4] (.f N8x) [.s 9], fS 11 3 1, sS 1 11 10] [1,2,3] (Zs [fS 12 1 2, lT 13 3 12, .call 14 [5, 6, 7] (.f Ncc) [.s 13], fS 15 3 2, sS 3 15 14] [1,2,3] (Zs [fS 16 1 5, lF 17 1 16, .call 18 [8] (.f N4d) [.s 17], fS 19 3 5, sS 1 19 18] [1,2,3] (Zs [fS 20 1 6, lF 21 1 20, .call 22 [9] (.f N77) [.s 21], fS 23 3 6, sS 1 23 22] [1,2,3] (Zs [fS 24 1 7, lF 25 1 24, .call 26 [10] (.f N36) [.s 25], fS 27 3 7, sS 1 27 26] [1,2,3] (Zs [fS 28 1 8, lF 29 1 28, .call 30 [11] (.f N4e) [.s 29], fS 31 3 8, sS 1 31 30] [1,2,3] (Zs [fS 32 1 9, lF 33 1 32, fS 34 3 9, sS 1 34 33] [2,3] (Zs [lT 35 10 3, sS 10 2 35] [2] .ret)))))))))))
theorem C24 (x : GArchive) (hs : x.size ≤ 1073741824) : Ctr Tryz.prog N1h [aS x.enc] [rS x.enc] := by
 refine cA M9o 12 36 [(.cell 2 true 10, [true, true, true, true, true, true, true, true, true, false])] Tryz.func15 rfl rfl ?_; unfold M9o
 intro hb
 simp only [GArchive.size] at hs
 simp only [go_sem]
 refine K0 (Cef x.Site (by omega)) ?_
 simp only [go_sem]
 try intros
 refine K0 (Cdp x.Script (by omega)) ?_
 simp only [go_sem]
 try intros
 refine K0 (Cgo x.Disk (by omega)) ?_
 simp only [go_sem]
 try intros
 refine K0 (Cd3 x.Exclusions (by omega)) ?_
 simp only [go_sem]
 try intros
 refine K0 (Cel x.Libraries (by omega)) ?_
 simp only [go_sem]
 try intros
 refine K0 (C71 x.Keys (by omega)) ?_
 simp only [go_sem]
 try intros
 refine K0 (Cd6 x.Statements (by omega)) ?_
 simp only [go_sem]
 try intros
def M9p : MC :=
(Zs [.box 2 0 (.s 0), .box 3 1 (.s 1), .mv 4 cF] [2,3] (.seq (Zs [fS 5 2 0, lF 6 1 5, fS 7 3 0, lF 8 1 7, .call 9 [] (.f N78) [.s 6, .s 8], .un 10 .not (.s 9)] [2,3,10] (.cond (.s 10) (Zs [.mv 4 cF] [4] .ret) .skip))
(.seq (Zs [fS 11 2 1, lF 12 1 11, fS 13 3 1, lF 14 1 13, .call 15 [] (.f N8y) [.s 12, .s 14], .un 16 .not (.s 15)] [2,3,16] (.cond (.s 16) (Zs [.mv 4 cF] [4] .ret) .skip))
(.seq (Zs [fS 17 2 2, lT 18 3 17, fS 19 3 2, lT 20 3 19, .call 21 [] (.f Ncd) [.s 18, .s 20], .un 22 .not (.s 21)] [2,3,22] (.cond (.s 22) (Zs [.mv 4 cF] [4] .ret) .skip))
(.seq (Zs [fS 23 2 5, lF 24 1 23, fS 25 3 5, lF 26 1 25, .call 27 [] (.f N4f) [.s 24, .s 26], .un 28 .not (.s 27)] [2,3,28] (.cond (.s 28) (Zs [.mv 4 cF] [4] .ret) .skip))
(.seq (Zs [fS 29 2 6, lF 30 1 29, fS 31 3 6, lF 32 1 31, .call 33 [] (.f N79) [.s 30, .s 32], .un 34 .not (.s 33)] [2,3,34] (.cond (.s 34) (Zs [.mv 4 cF] [4] .ret) .skip))
(.seq (Zs [fS 35 2 7, lF 36 1 35, fS 37 3 7, lF 38 1 37, .call 39 [] (.f N37) [.s 36, .s 38], .un 40 .not (.s 39)] [2,3,40] (.cond (.s 40) (Zs [.mv 4 cF] [4] .ret) .skip))
(.seq (Zs [fS 41 2 8, lF 42 1 41, fS 43 3 8, lF 44 1 43, .call 45 [] (.f N4g) [.s 42, .s 44], .un 46 .not (.s 45)] [2,3,46] (.cond (.s 46) (Zs [.mv 4 cF] [4] .ret) .skip))
(.seq (Zs [fS 47 2 9, lF 48 1 47, fS 49 3 9, lF 50 1 49, bS 51 .neq 48 50] [51] (.cond (.s 51) (Zs [.mv 4 cF] [4] .ret) .skip))
(Zs [.mv 4 cT] [4] .ret))))))))))
theorem C25 (x y : GArchive) : Ctr Tryz.prog N1i [aS x.enc, aS y.enc] [rB (decide (x = y))] := by
 refine cA M9p 2 52 [(.tmp 4, [false])] Tryz.func17 rfl rfl ?_; unfold M9p
 intro hb
 clear hb
 simp only [go_sem]
 refine K0 (Ceg x.Site y.Site) ?_
 simp only [go_sem]
 refine ⟨fun h => ?_, fun h_Site => ?_⟩
 ·symm
  rw [decide_eq_false_iff_not]
  rintro rfl
  exact h rfl
 refine K0 (Cdr x.Script y.Script) ?_
 simp only [go_sem]
 refine ⟨fun h => ?_, fun h_Script => ?_⟩
 ·symm
  rw [decide_eq_false_iff_not]
  rintro rfl
  exact h rfl
 refine K0 (Cgp x.Disk y.Disk) ?_
 simp only [go_sem]
 refine ⟨fun h => ?_, fun h_Disk => ?_⟩
 ·symm
  rw [decide_eq_false_iff_not]
  rintro rfl
  exact h rfl
 refine K0 (Cd4 x.Exclusions y.Exclusions) ?_
 simp only [go_sem]
 refine ⟨fun h => ?_, fun h_Exclusions => ?_⟩
 ·symm
  rw [decide_eq_false_iff_not]
  rintro rfl
  exact h rfl
 refine K0 (Cem x.Libraries y.Libraries) ?_
 simp only [go_sem]
 refine ⟨fun h => ?_, fun h_Libraries => ?_⟩
 ·symm
  rw [decide_eq_false_iff_not]
  rintro rfl
  exact h rfl
 refine K0 (C72 x.Keys y.Keys) ?_
 simp only [go_sem]
 refine ⟨fun h => ?_, fun h_Keys => ?_⟩
 ·symm
  rw [decide_eq_false_iff_not]
  rintro rfl
  exact h rfl
 refine K0 (Cd7 x.Statements y.Statements) ?_
 simp only [go_sem]
 refine ⟨fun h => ?_, fun h_Statements => ?_⟩
 ·symm
  rw [decide_eq_false_iff_not]
  rintro rfl
  exact h rfl
 refine ⟨fun h => ?_, fun h_Now => ?_⟩
 ·symm
  rw [decide_eq_false_iff_not]
  rintro rfl
  exact h rfl
 cases x; cases y; simp_all
end Go.Proofs.YtgkeplbnnjogiaaGreatR
namespace Go.Proofs.YtgkeplbnnjogiaaGreatR
open Go Go.RowKit Go.Proofs
open Nat (reduceEqDiff reduceLT reduceLeDiff reduceAdd reduceMul)
open List (reduceReplicate)
def mkL {α : Type} (mk : α → Int → α) (c : α → Nat) : List α → Int → List α
 | [], _ => []
 | x :: l, k => mk x k :: mkL mk c l (k + (c x : Nat))
def ctL {α : Type} (c : α → Nat) (l : List α) : Nat := (l.map c).sum
def iMk (_ : Int) (k : Int) : Int := k
def iCt (_ : Int) : Nat := 1
def bMk (_ : Bool) (k : Int) : Bool := k.tmod 3 == 0
section
variable {α : Type} {mk : α → Int → α} {c : α → Nat} {l : List α} {k : Int} {i : Nat} {x : α} {f : α → List T}
theorem K2p : mkL mk c [] k = [] := rfl
theorem K18 : ctL c [] = 0 := rfl
theorem Ke (h : l[i]? = some x) : ctL c (l.take (i + 1)) = ctL c (l.take i) + c x := K4q h
theorem Kq (i : Nat) : ctL c (l.take i) ≤ ctL c l := K2f l i
theorem K9 : ∀ {l : List α} {k : Int}, (mkL mk c l k).length = l.length
 | [], _ => rfl
 | x :: l, k => by simp [mkL, K9 (l := l)]
theorem K61 : ∀ {l m : List α} {k : Int}, mkL mk c (l ++ m) k = mkL mk c l k ++ mkL mk c m (k + (ctL c l : Nat))
 | [], m, k => by simp [mkL, ctL]
 | x :: l, m, k => by
  simp only [List.cons_append, mkL, K61 (l := l), ctL, List.map_cons, List.sum_cons]
  rw [show k + (c x : Nat) + (((l.map c).sum : Nat) : Int) = k + ((c x + (l.map c).sum : Nat) : Int) by omega]
theorem mkL_snoc (h : l[i]? = some x) : mkL mk c (l.take (i + 1)) k = mkL mk c (l.take i) k ++ [mk x (k + (ctL c (l.take i) : Nat))] := by
 rw [Kc h, K61]; rfl
theorem K2o (h : l[i]? = some x) : (mkL mk c l k)[i]? = some (mk x (k + (ctL c (l.take i) : Nat))) := by
 have hi := Kr h
 have e : mkL mk c l k = mkL mk c (l.take i) k ++ mkL mk c (l.drop i) (k + (ctL c (l.take i) : Nat)) := by
  rw [← K61, List.take_append_drop]
 rw [e, List.getElem?_append_right (by rw [K9]; simp; omega), K9, List.length_take, Nat.min_eq_left (Nat.le_of_lt hi), Nat.sub_self, Kn h]
 rfl
def mid (A : List (List T)) (e : List T) (B : List (List T)) : List (List T) := A ++ e :: B
theorem K38 (h : l[i]? = some x) : (mkL mk c (l.take i) k).map f ++ (l.drop i).map f = mid ((mkL mk c (l.take i) k).map f) (f x) ((l.drop (i + 1)).map f) := by
 rw [Kn h]; rfl
theorem K36 (h : l[i]? = some x) : (∀ e, (mid ((mkL mk c (l.take i) k).map f) e ((l.drop (i + 1)).map f))[i]? = some e) ∧
  (∀ e e', (mid ((mkL mk c (l.take i) k).map f) e ((l.drop (i + 1)).map f)).set i e' = mid ((mkL mk c (l.take i) k).map f) e' ((l.drop (i + 1)).map f)) ∧
  (∀ e, (mid ((mkL mk c (l.take i) k).map f) e ((l.drop (i + 1)).map f)).length = l.length) ∧
  (∀ e, (mid ((mkL mk c (l.take i) k).map f) e ((l.drop (i + 1)).map f)).getD i [] = e) := by
 have hi := Kr h
 have hl : ((mkL mk c (l.take i) k).map f).length = i := by rw [List.length_map, K9]; simp; omega
 generalize (mkL mk c (l.take i) k).map f = A at hl
 subst hl
 have h1 : ∀ e, (mid A e ((l.drop (A.length + 1)).map f))[A.length]? = some e := fun e => by simp [mid]
 refine ⟨h1, fun e e' => by simp [mid], fun e => by simp [mid]; omega, fun e => by rw [List.getD_eq_getElem?_getD, h1]; rfl⟩
theorem K2e (h : l[i]? = some x) : mid ((mkL mk c (l.take i) k).map f) (f (mk x (k + (ctL c (l.take i) : Nat)))) ((l.drop (i + 1)).map f) = (mkL mk c (l.take (i + 1)) k).map f ++ (l.drop (i + 1)).map f := by
 rw [mkL_snoc h]; simp [mid]
theorem Kt {sz : Nat} {es : List α} {rs : List RV} (h : bdVA (oL sz (es.map f) :: rs)) : es.length ≤ roomB := by
 simp only [bdVA, List.map_cons, bdL, bdT, List.length_map] at h
 exact h.1.1.1
theorem waK {K K' : Int} (h : K = K') (h1 : 0 ≤ K') (h2 : K' ≤ 9223372036854775807) : IntKind.i64.wrap K = K' := by
 subst h; rw [wI (by omega) (by omega)]
theorem K47 {s : α → Nat} (h : ∀ x, c x ≤ 16 * (1 + s x)) : ∀ l : List α, ctL c l ≤ 16 * (l.length + (l.map s).sum)
 | [] => by simp [ctL]
 | x :: l => by
  have h1 := h x
  have h2 := K47 h l
  simp only [ctL, List.map_cons, List.sum_cons, List.length_cons] at *
  omega
theorem ctL_le' (h : ∀ x, c x ≤ 16) : ∀ l : List α, ctL c l ≤ 16 * l.length
 | [] => by simp [ctL]
 | x :: l => by
  have h1 := h x
  have h2 := ctL_le' h l
  simp only [ctL, List.map_cons, List.sum_cons, List.length_cons] at *
  omega
end
abbrev oS (ts : List T) : RV := ⟨true, own ts⟩
attribute [go_sem] oS
theorem K5z : ¬ (3 : Int) = 0 := by decide
attribute [go_sem] K9
def Mao : MC :=
(Zs [.mv 4 (ci 0)] [0,1] (.seq (Zs [.mv 5 (ci 0)] [0,1,5] (.block 0 (.loop ([0,1,5], []) (.seq (Zs [mS 6 5, mS 7 0, nS 8 7, bS 9 .lss 6 8] [0,1,5,9] (cX 9 0))
(.seq (.block 1 (Zs [mS 12 0, mS 13 5, mS 14 1, xS 15 1 12 13, sS 1 15 14] [0,1,5] (pr [mS 16 1, bC 17 .add 16 1, mS 1 17] [0,1,5])))
(pr [mS 10 5, bC 11 .add 10 1, mS 5 11] [0,1,5]))))))
(Zs [mS 18 1, mS 4 18] [4] .ret)))
theorem C2m (xs : List Int) (k : Int) (hk : 0 ≤ k) (hN : k + (ctL iCt xs : Nat) ≤ 4611686018427387904) : CtrI Tryz.prog N2j [oL 1 (xs.map encI), iI k] [some (1, (mkL iMk iCt xs k).map encI)] [rI (k + (ctL iCt xs : Nat))] := by
 refine K10 (M := Mao) (m := 0) (n := 19) (res := [(.tmp 4, [false])]) hmix Tryz.func43 rfl (by kernel_rfl) rfl (by kernel_rfl) (by kernel_rfl) (Nat.le_of_ble_eq_true rfl) rfl rfl ?_; unfold Mao
 intro hb
 have hl := Kt hb
 clear hb
 simp only [go_sem]
 refine K5 xs (fun i => [(1, vI (k + (ctL iCt (xs.take i) : Nat))), (5, vI i)]) (fun i => [(0, ⟨1, .row true 1 ((mkL iMk iCt (xs.take i) k).map encI ++ (xs.drop i).map encI)⟩)]) (fun _ => True) hl ?_
 simp only [go_sem]
 refine ⟨?_, trivial, ?_, ?_⟩
 ·simp only [go_sem, List.take_zero, List.drop_zero, K2p, K18]
  all_goals simp
 ·intro i x hx _ h0 h1 hw
  have hR := K38 (mk := iMk) (c := iCt) (k := k) (f := encI) hx
  have hA := K36 (mk := iMk) (c := iCt) (k := k) (f := encI) hx
  generalize hAe : (mkL iMk iCt (xs.take i) k).map encI = A at hR hA
  generalize hBe : (xs.drop (i + 1)).map encI = B at hR hA
  obtain ⟨hg, hs, hl, hd⟩ := hA
  have hc := Kq (c := iCt) (i + 1) (l := xs)
  rw [Ke hx] at hc
  have hK0 : 0 ≤ k + ((ctL iCt (xs.take i) : Nat) : Int) := by omega
  have hK1 : k + ((ctL iCt (xs.take i) : Nat) : Int) + (iCt x : Nat) ≤ 4611686018427387904 := by omega
  generalize hK : k + ((ctL iCt (xs.take i) : Nat) : Int) = K at hK0 hK1
  simp only [iCt] at hK1
  simp only [go_sem, hw, hR, hg, hs, hl, h0, h1, waK (K := K + 1) (K' := K + 1) (by omega) (by omega) (by omega)]
  subst hK hAe hBe
  refine ⟨?_, K2e hx⟩
  rw [Ke hx]
  simp only [iCt]
  omega
 ·intro _
  simp only [go_sem, List.take_length, List.drop_length, List.map_nil, List.append_nil, K9]
def Map : MC :=
(Zs [.mv 4 (ci 0)] [0,1] (.seq (Zs [.mv 5 (ci 0)] [0,1,5] (.block 0 (.loop ([0,1,5], []) (.seq (Zs [mS 6 5, mS 7 0, nS 8 7, bS 9 .lss 6 8] [0,1,5,9] (cX 9 0))
(.seq (.block 1 (.seq (Zs [mS 12 0, mS 13 5, xS 14 1 12 13, lF 15 1 14, mS 16 1, bS 17 .neq 15 16] [0,1,5,17] (.cond (.s 17) (Zs [.mv 4 (.c (.int .i64 (-1)))] [4] .ret) .skip))
(pr [mS 18 1, bC 19 .add 18 1, mS 1 19] [0,1,5])))
(pr [mS 10 5, bC 11 .add 10 1, mS 5 11] [0,1,5]))))))
(Zs [mS 20 1, mS 4 20] [4] .ret)))
theorem C2n (xs : List Int) (k : Int) (hk : 0 ≤ k) (hN : k + (ctL iCt xs : Nat) ≤ 4611686018427387904) : Ctr Tryz.prog N2k [aL 1 ((mkL iMk iCt xs k).map encI), aI k] [rI (k + (ctL iCt xs : Nat))] := by
 refine cA Map 0 21 [(.tmp 4, [false])] Tryz.func108 rfl rfl ?_; unfold Map
 intro hb
 simp only [bdA, bdL, bdT, Kb, Kk, roomB, and_true, List.length_map] at hb
 have hl := hb.1.1
 rw [K9] at hl
 clear hb
 simp only [go_sem]
 refine K5 xs (fun i => [(1, vI (k + (ctL iCt (xs.take i) : Nat))), (5, vI i)]) (fun i => []) (fun _ => True) hl ?_
 simp only [go_sem]
 refine ⟨?_, trivial, ?_, ?_⟩
 ·simp only [go_sem, List.take_zero, K18]
  all_goals simp
 ·intro i x hx _ h0 h1 hw
  have hg := K2o (mk := iMk) (c := iCt) (k := k) hx
  have hc := Kq (c := iCt) (i + 1) (l := xs)
  rw [Ke hx] at hc
  have hK0 : 0 ≤ k + ((ctL iCt (xs.take i) : Nat) : Int) := by omega
  have hK1 : k + ((ctL iCt (xs.take i) : Nat) : Int) + (iCt x : Nat) ≤ 4611686018427387904 := by omega
  generalize hK : k + ((ctL iCt (xs.take i) : Nat) : Int) = K at hK0 hK1 hg
  simp only [iCt] at hK1
  simp only [go_sem, hw, K6 hg, h0, h1, K9, iMk, waK (K := K + 1) (K' := K + 1) (by omega) (by omega) (by omega)]
  rw [Ke hx]
  simp only [iCt]
  omega
 ·intro _
  simp only [go_sem, List.take_length, K9]
def GAddress.mkd (x : GAddress) (k : Int) : GAddress := ⟨k, (k + 1), (k + 2)⟩
def GAddress.ct (x : GAddress) : Nat := 3
def GResource.mkd (x : GResource) (k : Int) : GResource := ⟨k, (mkL iMk iCt x.Body (k + 1)), ⟨((k + 1) + (ctL iCt x.Body : Nat)), (((k + 1) + (ctL iCt x.Body : Nat)) + 1), (((k + 1) + (ctL iCt x.Body : Nat)) + 2)⟩⟩
def GResource.ct (x : GResource) : Nat := 4 + ctL iCt x.Body
theorem GResource.ct_le (x : GResource) : x.ct ≤ 16 * (1 + x.size) := by
 simp only [GResource.ct, GResource.size]
 have h0 := ctL_le' (c := iCt) (fun y => by simp only [iCt]; omega) x.Body
 omega
def GResource.mks (x : GResource) (k : Int) : GResource := { x with Body := mkL iMk iCt x.Body (k) }
def GResource.cts (x : GResource) : Nat := ctL iCt x.Body
theorem GResource.cts_le (x : GResource) : x.cts ≤ 16 * x.size := by
 simp only [GResource.cts, GResource.size]
 have hBody := ctL_le' (c := iCt) (fun y => by simp only [iCt]; omega) x.Body
 omega
@[go_sem] theorem GResource.mks_len0 (x : GResource) (k : Int) : ((x.mks k).Body).length = x.Body.length := K9
def GPart.mkd (x : GPart) (k : Int) : GPart := ⟨k, ⟨(k + 1), (mkL iMk iCt x.Resource.Body (k + 2)), ⟨((k + 2) + (ctL iCt x.Resource.Body : Nat)), (((k + 2) + (ctL iCt x.Resource.Body : Nat)) + 1), (((k + 2) + (ctL iCt x.Resource.Body : Nat)) + 2)⟩⟩, (((k + 2) + (ctL iCt x.Resource.Body : Nat)) + 3)⟩
def GPart.ct (x : GPart) : Nat := 6 + ctL iCt x.Resource.Body
theorem GPart.ct_le (x : GPart) : x.ct ≤ 16 * (1 + x.size) := by
 simp only [GPart.ct, GPart.size, GResource.size]
 have h0 := ctL_le' (c := iCt) (fun y => by simp only [iCt]; omega) x.Resource.Body
 omega
def GPart.mks (x : GPart) (k : Int) : GPart := { x with Resource := x.Resource.mks (k) }
def GPart.cts (x : GPart) : Nat := x.Resource.cts
theorem GPart.cts_le (x : GPart) : x.cts ≤ 16 * x.size := by
 simp only [GPart.cts, GPart.size]
 have hResource := GResource.cts_le x.Resource
 omega
@[go_sem] theorem GPart.mks_len0 (x : GPart) (k : Int) : ((x.mks k).Resource.Body).length = x.Resource.Body.length := K9
def GPiece.mkd (x : GPiece) (k : Int) : GPiece := ⟨k, (k + 1), (mkL iMk iCt x.New (k + 2))⟩
def GPiece.ct (x : GPiece) : Nat := 2 + ctL iCt x.New
theorem GPiece.ct_le (x : GPiece) : x.ct ≤ 16 * (1 + x.size) := by
 simp only [GPiece.ct, GPiece.size]
 have h0 := ctL_le' (c := iCt) (fun y => by simp only [iCt]; omega) x.New
 omega
def GPiece.mks (x : GPiece) (k : Int) : GPiece := { x with New := mkL iMk iCt x.New (k) }
def GPiece.cts (x : GPiece) : Nat := ctL iCt x.New
theorem GPiece.cts_le (x : GPiece) : x.cts ≤ 16 * x.size := by
 simp only [GPiece.cts, GPiece.size]
 have hNew := ctL_le' (c := iCt) (fun y => by simp only [iCt]; omega) x.New
 omega
@[go_sem] theorem GPiece.mks_len0 (x : GPiece) (k : Int) : ((x.mks k).New).length = x.New.length := K9
def GVersion.mkd (x : GVersion) (k : Int) : GVersion := ⟨⟨k, (k + 1), (k + 2)⟩, (k + 3), ⟨(k + 4), (mkL iMk iCt x.Resource.Body (k + 5)), ⟨((k + 5) + (ctL iCt x.Resource.Body : Nat)), (((k + 5) + (ctL iCt x.Resource.Body : Nat)) + 1), (((k + 5) + (ctL iCt x.Resource.Body : Nat)) + 2)⟩⟩⟩
def GVersion.ct (x : GVersion) : Nat := 8 + ctL iCt x.Resource.Body
theorem GVersion.ct_le (x : GVersion) : x.ct ≤ 16 * (1 + x.size) := by
 simp only [GVersion.ct, GVersion.size, GResource.size]
 have h0 := ctL_le' (c := iCt) (fun y => by simp only [iCt]; omega) x.Resource.Body
 omega
def Y14 : MC :=
(Zs [.mv 4 (ci 0)] [0,1] (.seq (Zs [.mv 5 (ci 0)] [0,1,5] (.block 0 (.loop ([0,1,5], [1]) (.seq (Zs [mS 6 5, mS 7 0, nS 8 7, bS 9 .lss 6 8] [0,1,5,9] (cX 9 0))
(.seq (.block 1 (Zs [mS 12 0, mS 13 5, mS 14 1, xS 15 9 12 13, fS 16 15 0, fS 17 16 0, sS 1 17 14] [0,1,5] (Zs [mS 18 1, bC 19 .add 18 1, mS 1 19] [0,1,5] (Zs [mS 20 0, mS 21 5, mS 22 1, xS 23 9 20 21, fS 24 23 0, fS 25 24 1, sS 1 25 22] [0,1,5] (Zs [mS 26 1, bC 27 .add 26 1, mS 1 27] [0,1,5] (Zs [mS 28 0, mS 29 5, mS 30 1, xS 31 9 28 29, fS 32 31 0, fS 33 32 2, sS 1 33 30] [0,1,5] (Zs [mS 34 1, bC 35 .add 34 1, mS 1 35] [0,1,5] (Zs [mS 36 0, mS 37 5, mS 38 1, xS 39 9 36 37, fS 40 39 3, sS 1 40 38] [0,1,5] (Zs [mS 41 1, bC 42 .add 41 1, mS 1 42] [0,1,5] (Zs [mS 43 0, mS 44 5, mS 45 1, xS 46 9 43 44, fS 47 46 4, fS 48 47 0, sS 1 48 45] [0,1,5] (Zs [mS 49 1, bC 50 .add 49 1, mS 1 50] [0,1,5] (Zs [mS 51 0, mS 52 5, xS 53 9 51 52, fS 54 53 4, fS 55 54 1, .loadT 56 1 (.s 55), mS 57 1, .callI 58 [] (.f N2j) [.s 56, .s 57] [1] [0], mS 1 58] [0,1,5] (Zs [mS 59 0, mS 60 5, mS 61 1, xS 62 9 59 60, fS 63 62 4, fS 64 63 2, fS 65 64 0, sS 1 65 61] [0,1,5] (Zs [mS 66 1, bC 67 .add 66 1, mS 1 67] [0,1,5] (Zs [mS 68 0, mS 69 5, mS 70 1, xS 71 9 68 69, fS 72 71 4, fS 73 72 2, fS 74 73 1, sS 1 74 70] [0,1,5] (Zs [mS 75 1, bC 76 .add 75 1, mS 1 76] [0,1,5] (Zs [mS 77 0, mS 78 5, mS 79 1, xS 80 9 77 78, fS 81 80 4, fS 82 81 2, fS 83 82 2, sS 1 83 79] [0,1,5] (pr [mS 84 1, bC 85 .add 84 1, mS 1 85] [0,1,5]))))))))))))))))))
(pr [mS 10 5, bC 11 .add 10 1, mS 5 11] [0,1,5]))))))
(Zs [mS 86 1, mS 4 86] [4] .ret)))
attribute [go_sem] Y14
def M54 : MC := Y14
theorem Cd8 (xs : List GVersion) (k : Int) (hk : 0 ≤ k) (hN : k + (ctL GVersion.ct xs : Nat) ≤ 4611686018427387904) : CtrI Tryz.prog N4h [oL 9 (xs.map GVersion.enc), iI k] [some (9, (mkL GVersion.mkd GVersion.ct xs k).map GVersion.enc)] [rI (k + (ctL GVersion.ct xs : Nat))] := by
 refine K10 (M := M54) (m := 1) (n := 87) (res := [(.tmp 4, [false])]) hmix Tryz.func86 rfl (by kernel_rfl) rfl (by kernel_rfl) (by kernel_rfl) (Nat.le_of_ble_eq_true rfl) rfl rfl ?_; unfold M54
 intro hb
 have hl := Kt hb
 clear hb
 simp only [go_sem]
 refine K5 xs (fun i => [(1, vI (k + (ctL GVersion.ct (xs.take i) : Nat))), (5, vI i)]) (fun i => [(0, ⟨1, .row true 9 ((mkL GVersion.mkd GVersion.ct (xs.take i) k).map GVersion.enc ++ (xs.drop i).map GVersion.enc)⟩)]) (fun _ => True) hl ?_
 simp only [go_sem]
 refine ⟨?_, trivial, ?_, ?_⟩
 ·simp only [go_sem, List.take_zero, List.drop_zero, K2p, K18]
  all_goals simp
 ·intro i x hx _ h0 h1 hw
  have hR := K38 (mk := GVersion.mkd) (c := GVersion.ct) (k := k) (f := GVersion.enc) hx
  have hA := K36 (mk := GVersion.mkd) (c := GVersion.ct) (k := k) (f := GVersion.enc) hx
  generalize hAe : (mkL GVersion.mkd GVersion.ct (xs.take i) k).map GVersion.enc = A at hR hA
  generalize hBe : (xs.drop (i + 1)).map GVersion.enc = B at hR hA
  obtain ⟨hg, hs, hl, hd⟩ := hA
  have hc := Kq (c := GVersion.ct) (i + 1) (l := xs)
  rw [Ke hx] at hc
  have hK0 : 0 ≤ k + ((ctL GVersion.ct (xs.take i) : Nat) : Int) := by omega
  have hK1 : k + ((ctL GVersion.ct (xs.take i) : Nat) : Int) + (GVersion.ct x : Nat) ≤ 4611686018427387904 := by omega
  generalize hK : k + ((ctL GVersion.ct (xs.take i) : Nat) : Int) = K at hK0 hK1
  simp only [GVersion.ct] at hK1
  simp only [go_sem, hR, hg, hs, hl, h0, h1, waK (K := K + 1) (K' := K + 1) (by omega) (by omega) (by omega), waK (K := K + 1 + 1) (K' := K + 2) (by omega) (by omega) (by omega), waK (K := K + 2 + 1) (K' := K + 3) (by omega) (by omega) (by omega), waK (K := K + 3 + 1) (K' := K + 4) (by omega) (by omega) (by omega), waK (K := K + 4 + 1) (K' := K + 5) (by omega) (by omega) (by omega)]
  refine K7 (C2m x.Resource.Body (K + 5) (by omega) (by omega)) ?_
  have hK1 : 0 ≤ K + 5 + (ctL iCt x.Resource.Body : Nat) := by omega
  generalize eK1 : K + 5 + ((ctL iCt x.Resource.Body : Nat) : Int) = K1 at hK1
  simp only [go_sem, hw, hg, hs, hl, hd, h0, h1, waK (K := K1 + 1) (K' := K1 + 1) (by omega) (by omega) (by omega), waK (K := K1 + 1 + 1) (K' := K1 + 2) (by omega) (by omega) (by omega), waK (K := K1 + 2 + 1) (K' := K1 + 3) (by omega) (by omega) (by omega)]
  subst eK1
  subst hK hAe hBe
  refine ⟨?_, K2e hx⟩
  rw [Ke hx]
  simp only [GVersion.ct]
  omega
 ·intro _
  simp only [go_sem, List.take_length, List.drop_length, List.map_nil, List.append_nil, K9]
def Y15 : MC :=
(Zs [.mv 4 (ci 0)] [0,1] (.seq (Zs [.mv 5 (ci 0)] [0,1,5] (.block 0 (.loop ([0,1,5], []) (.seq (Zs [mS 6 5, mS 7 0, nS 8 7, bS 9 .lss 6 8] [0,1,5,9] (cX 9 0))
(.seq (.block 1 (.seq (Zs [mS 12 0, mS 13 5, xS 14 9 12 13, fS 15 14 0, fS 16 15 0, lF 17 1 16, mS 18 1, bS 19 .neq 17 18] [0,1,5,19] (.cond (.s 19) (Zs [.mv 4 (.c (.int .i64 (-1)))] [4] .ret) .skip))
(Zs [mS 20 1, bC 21 .add 20 1, mS 1 21] [0,1,5] (.seq (Zs [mS 22 0, mS 23 5, xS 24 9 22 23, fS 25 24 0, fS 26 25 1, lF 27 1 26, mS 28 1, bS 29 .neq 27 28] [0,1,5,29] (.cond (.s 29) (Zs [.mv 4 (.c (.int .i64 (-1)))] [4] .ret) .skip))
(Zs [mS 30 1, bC 31 .add 30 1, mS 1 31] [0,1,5] (.seq (Zs [mS 32 0, mS 33 5, xS 34 9 32 33, fS 35 34 0, fS 36 35 2, lF 37 1 36, mS 38 1, bS 39 .neq 37 38] [0,1,5,39] (.cond (.s 39) (Zs [.mv 4 (.c (.int .i64 (-1)))] [4] .ret) .skip))
(Zs [mS 40 1, bC 41 .add 40 1, mS 1 41] [0,1,5] (.seq (Zs [mS 42 0, mS 43 5, xS 44 9 42 43, fS 45 44 3, lF 46 1 45, mS 47 1, bS 48 .neq 46 47] [0,1,5,48] (.cond (.s 48) (Zs [.mv 4 (.c (.int .i64 (-1)))] [4] .ret) .skip))
(Zs [mS 49 1, bC 50 .add 49 1, mS 1 50] [0,1,5] (.seq (Zs [mS 51 0, mS 52 5, xS 53 9 51 52, fS 54 53 4, fS 55 54 0, lF 56 1 55, mS 57 1, bS 58 .neq 56 57] [0,1,5,58] (.cond (.s 58) (Zs [.mv 4 (.c (.int .i64 (-1)))] [4] .ret) .skip))
(Zs [mS 59 1, bC 60 .add 59 1, mS 1 60] [0,1,5] (Zs [mS 61 0, mS 62 5, xS 63 9 61 62, fS 64 63 4, fS 65 64 1, lF 66 1 65, mS 67 1, .call 68 [] (.f N2k) [.s 66, .s 67], mS 1 68] [0,1,5] (.seq (Zs [mS 69 1, bC 70 .lss 69 0] [0,1,5,70] (.cond (.s 70) (Zs [.mv 4 (.c (.int .i64 (-1)))] [4] .ret) .skip))
(.seq (Zs [mS 71 0, mS 72 5, xS 73 9 71 72, fS 74 73 4, fS 75 74 2, fS 76 75 0, lF 77 1 76, mS 78 1, bS 79 .neq 77 78] [0,1,5,79] (.cond (.s 79) (Zs [.mv 4 (.c (.int .i64 (-1)))] [4] .ret) .skip))
(Zs [mS 80 1, bC 81 .add 80 1, mS 1 81] [0,1,5] (.seq (Zs [mS 82 0, mS 83 5, xS 84 9 82 83, fS 85 84 4, fS 86 85 2, fS 87 86 1, lF 88 1 87, mS 89 1, bS 90 .neq 88 89] [0,1,5,90] (.cond (.s 90) (Zs [.mv 4 (.c (.int .i64 (-1)))] [4] .ret) .skip))
(Zs [mS 91 1, bC 92 .add 91 1, mS 1 92] [0,1,5] (.seq (Zs [mS 93 0, mS 94 5, xS 95 9 93 94, fS 96 95 4, fS 97 96 2, fS 98 97 2, lF 99 1 98, mS 100 1, bS 101 .neq 99 100] [0,1,5,101] (.cond (.s 101) (Zs [.mv 4 (.c (.int .i64 (-1)))] [4] .ret) .skip))
(pr [mS 102 1, bC 103 .add 102 1, mS 1 103] [0,1,5])))))))))))))))))))
(pr [mS 10 5, bC 11 .add 10 1, mS 5 11] [0,1,5]))))))
(Zs [mS 104 1, mS 4 104] [4] .ret)))
attribute [go_sem] Y15
def M55 : MC := Y15
theorem Cd9 (xs : List GVersion) (k : Int) (hk : 0 ≤ k) (hN : k + (ctL GVersion.ct xs : Nat) ≤ 4611686018427387904) : Ctr Tryz.prog N4j [aL 9 ((mkL GVersion.mkd GVersion.ct xs k).map GVersion.enc), aI k] [rI (k + (ctL GVersion.ct xs : Nat))] := by
 refine cA M55 0 105 [(.tmp 4, [false])] Tryz.func103 rfl rfl ?_; unfold M55
 intro hb
 simp only [bdA, bdL, bdT, Kb, Kk, roomB, and_true, List.length_map] at hb
 have hl := hb.1.1
 rw [K9] at hl
 clear hb
 simp only [go_sem]
 refine K5 xs (fun i => [(1, vI (k + (ctL GVersion.ct (xs.take i) : Nat))), (5, vI i)]) (fun i => []) (fun _ => True) hl ?_
 simp only [go_sem]
 refine ⟨?_, trivial, ?_, ?_⟩
 ·simp only [go_sem, List.take_zero, K18]
  all_goals simp
 ·intro i x hx _ h0 h1 hw
  have hg := K2o (mk := GVersion.mkd) (c := GVersion.ct) (k := k) hx
  have hc := Kq (c := GVersion.ct) (i + 1) (l := xs)
  rw [Ke hx] at hc
  have hK0 : 0 ≤ k + ((ctL GVersion.ct (xs.take i) : Nat) : Int) := by omega
  have hK1 : k + ((ctL GVersion.ct (xs.take i) : Nat) : Int) + (GVersion.ct x : Nat) ≤ 4611686018427387904 := by omega
  generalize hK : k + ((ctL GVersion.ct (xs.take i) : Nat) : Int) = K at hK0 hK1 hg
  simp only [GVersion.ct] at hK1
  try simp only [go_sem, K6 hg, h0, h1, K9, GVersion.mkd, waK (K := K + 1) (K' := K + 1) (by omega) (by omega) (by omega), waK (K := K + 1 + 1) (K' := K + 2) (by omega) (by omega) (by omega), waK (K := K + 2 + 1) (K' := K + 3) (by omega) (by omega) (by omega), waK (K := K + 3 + 1) (K' := K + 4) (by omega) (by omega) (by omega), waK (K := K + 4 + 1) (K' := K + 5) (by omega) (by omega) (by omega)]
  refine K0 (C2n x.Resource.Body (K + 5) (by omega) (by omega)) ?_
  have hK1 : 0 ≤ K + 5 + (ctL iCt x.Resource.Body : Nat) := by omega
  generalize eK1 : K + 5 + ((ctL iCt x.Resource.Body : Nat) : Int) = K1 at hK1
  have nK1 : ¬ K1 < 0 := by omega
  simp only [go_sem, hw, K6 hg, h0, h1, K9, GVersion.mkd, nK1, eK1]
  intro _
  simp only [go_sem, waK (K := K1 + 1) (K' := K1 + 1) (by omega) (by omega) (by omega), waK (K := K1 + 1 + 1) (K' := K1 + 2) (by omega) (by omega) (by omega), waK (K := K1 + 2 + 1) (K' := K1 + 3) (by omega) (by omega) (by omega)]
  subst eK1
  rw [Ke hx]
  simp only [GVersion.ct]
  omega
 ·intro _
  simp only [go_sem, List.take_length, K9]
def GVersion.mks (x : GVersion) (k : Int) : GVersion := { x with Resource := x.Resource.mks (k) }
def GVersion.cts (x : GVersion) : Nat := x.Resource.cts
theorem GVersion.cts_le (x : GVersion) : x.cts ≤ 16 * x.size := by
 simp only [GVersion.cts, GVersion.size]
 have hResource := GResource.cts_le x.Resource
 omega
@[go_sem] theorem GVersion.mks_len0 (x : GVersion) (k : Int) : ((x.mks k).Resource.Body).length = x.Resource.Body.length := K9
def GOp.mkd (x : GOp) (k : Int) : GOp := ⟨k, (k + 1), (k + 2), (k + 3)⟩
def GOp.ct (x : GOp) : Nat := 4
def Y16 : MC :=
(Zs [.mv 4 (ci 0)] [0,1] (.seq (Zs [.mv 5 (ci 0)] [0,1,5] (.block 0 (.loop ([0,1,5], []) (.seq (Zs [mS 6 5, mS 7 0, nS 8 7, bS 9 .lss 6 8] [0,1,5,9] (cX 9 0))
(.seq (.block 1 (Zs [mS 12 0, mS 13 5, mS 14 1, xS 15 4 12 13, fS 16 15 0, sS 1 16 14] [0,1,5] (Zs [mS 17 1, bC 18 .add 17 1, mS 1 18] [0,1,5] (Zs [mS 19 0, mS 20 5, mS 21 1, xS 22 4 19 20, fS 23 22 1, sS 1 23 21] [0,1,5] (Zs [mS 24 1, bC 25 .add 24 1, mS 1 25] [0,1,5] (Zs [mS 26 0, mS 27 5, mS 28 1, xS 29 4 26 27, fS 30 29 2, sS 1 30 28] [0,1,5] (Zs [mS 31 1, bC 32 .add 31 1, mS 1 32] [0,1,5] (Zs [mS 33 0, mS 34 5, mS 35 1, xS 36 4 33 34, fS 37 36 3, sS 1 37 35] [0,1,5] (pr [mS 38 1, bC 39 .add 38 1, mS 1 39] [0,1,5])))))))))
(pr [mS 10 5, bC 11 .add 10 1, mS 5 11] [0,1,5]))))))
(Zs [mS 40 1, mS 4 40] [4] .ret)))
attribute [go_sem] Y16
def Mbg : MC := Y16
theorem Cbh (xs : List GOp) (k : Int) (hk : 0 ≤ k) (hN : k + (ctL GOp.ct xs : Nat) ≤ 4611686018427387904) : CtrI Tryz.prog N5m [oL 4 (xs.map GOp.enc), iI k] [some (4, (mkL GOp.mkd GOp.ct xs k).map GOp.enc)] [rI (k + (ctL GOp.ct xs : Nat))] := by
 refine K10 (M := Mbg) (m := 0) (n := 41) (res := [(.tmp 4, [false])]) hmix Tryz.func87 rfl (by kernel_rfl) rfl (by kernel_rfl) (by kernel_rfl) (Nat.le_of_ble_eq_true rfl) rfl rfl ?_; unfold Mbg
 intro hb
 have hl := Kt hb
 clear hb
 simp only [go_sem]
 refine K5 xs (fun i => [(1, vI (k + (ctL GOp.ct (xs.take i) : Nat))), (5, vI i)]) (fun i => [(0, ⟨1, .row true 4 ((mkL GOp.mkd GOp.ct (xs.take i) k).map GOp.enc ++ (xs.drop i).map GOp.enc)⟩)]) (fun _ => True) hl ?_
 simp only [go_sem]
 refine ⟨?_, trivial, ?_, ?_⟩
 ·simp only [go_sem, List.take_zero, List.drop_zero, K2p, K18]
  all_goals simp
 ·intro i x hx _ h0 h1 hw
  have hR := K38 (mk := GOp.mkd) (c := GOp.ct) (k := k) (f := GOp.enc) hx
  have hA := K36 (mk := GOp.mkd) (c := GOp.ct) (k := k) (f := GOp.enc) hx
  generalize hAe : (mkL GOp.mkd GOp.ct (xs.take i) k).map GOp.enc = A at hR hA
  generalize hBe : (xs.drop (i + 1)).map GOp.enc = B at hR hA
  obtain ⟨hg, hs, hl, hd⟩ := hA
  have hc := Kq (c := GOp.ct) (i + 1) (l := xs)
  rw [Ke hx] at hc
  have hK0 : 0 ≤ k + ((ctL GOp.ct (xs.take i) : Nat) : Int) := by omega
  have hK1 : k + ((ctL GOp.ct (xs.take i) : Nat) : Int) + (GOp.ct x : Nat) ≤ 4611686018427387904 := by omega
  generalize hK : k + ((ctL GOp.ct (xs.take i) : Nat) : Int) = K at hK0 hK1
  simp only [GOp.ct] at hK1
  simp only [go_sem, hw, hR, hg, hs, hl, h0, h1, waK (K := K + 1) (K' := K + 1) (by omega) (by omega) (by omega), waK (K := K + 1 + 1) (K' := K + 2) (by omega) (by omega) (by omega), waK (K := K + 2 + 1) (K' := K + 3) (by omega) (by omega) (by omega), waK (K := K + 3 + 1) (K' := K + 4) (by omega) (by omega) (by omega)]
  subst hK hAe hBe
  refine ⟨?_, K2e hx⟩
  rw [Ke hx]
  simp only [GOp.ct]
  omega
 ·intro _
  simp only [go_sem, List.take_length, List.drop_length, List.map_nil, List.append_nil, K9]
def Y17 : MC :=
(Zs [.mv 4 (ci 0)] [0,1] (.seq (Zs [.mv 5 (ci 0)] [0,1,5] (.block 0 (.loop ([0,1,5], []) (.seq (Zs [mS 6 5, mS 7 0, nS 8 7, bS 9 .lss 6 8] [0,1,5,9] (cX 9 0))
(.seq (.block 1 (.seq (Zs [mS 12 0, mS 13 5, xS 14 4 12 13, fS 15 14 0, lF 16 1 15, mS 17 1, bS 18 .neq 16 17] [0,1,5,18] (.cond (.s 18) (Zs [.mv 4 (.c (.int .i64 (-1)))] [4] .ret) .skip))
(Zs [mS 19 1, bC 20 .add 19 1, mS 1 20] [0,1,5] (.seq (Zs [mS 21 0, mS 22 5, xS 23 4 21 22, fS 24 23 1, lF 25 1 24, mS 26 1, bS 27 .neq 25 26] [0,1,5,27] (.cond (.s 27) (Zs [.mv 4 (.c (.int .i64 (-1)))] [4] .ret) .skip))
(Zs [mS 28 1, bC 29 .add 28 1, mS 1 29] [0,1,5] (.seq (Zs [mS 30 0, mS 31 5, xS 32 4 30 31, fS 33 32 2, lF 34 1 33, mS 35 1, bS 36 .neq 34 35] [0,1,5,36] (.cond (.s 36) (Zs [.mv 4 (.c (.int .i64 (-1)))] [4] .ret) .skip))
(Zs [mS 37 1, bC 38 .add 37 1, mS 1 38] [0,1,5] (.seq (Zs [mS 39 0, mS 40 5, xS 41 4 39 40, fS 42 41 3, lF 43 1 42, mS 44 1, bS 45 .neq 43 44] [0,1,5,45] (.cond (.s 45) (Zs [.mv 4 (.c (.int .i64 (-1)))] [4] .ret) .skip))
(pr [mS 46 1, bC 47 .add 46 1, mS 1 47] [0,1,5])))))))))
(pr [mS 10 5, bC 11 .add 10 1, mS 5 11] [0,1,5]))))))
(Zs [mS 48 1, mS 4 48] [4] .ret)))
attribute [go_sem] Y17
def Mbi : MC := Y17
theorem Cbj (xs : List GOp) (k : Int) (hk : 0 ≤ k) (hN : k + (ctL GOp.ct xs : Nat) ≤ 4611686018427387904) : Ctr Tryz.prog N5n [aL 4 ((mkL GOp.mkd GOp.ct xs k).map GOp.enc), aI k] [rI (k + (ctL GOp.ct xs : Nat))] := by
 refine cA Mbi 0 49 [(.tmp 4, [false])] Tryz.func104 rfl rfl ?_; unfold Mbi
 intro hb
 simp only [bdA, bdL, bdT, Kb, Kk, roomB, and_true, List.length_map] at hb
 have hl := hb.1.1
 rw [K9] at hl
 clear hb
 simp only [go_sem]
 refine K5 xs (fun i => [(1, vI (k + (ctL GOp.ct (xs.take i) : Nat))), (5, vI i)]) (fun i => []) (fun _ => True) hl ?_
 simp only [go_sem]
 refine ⟨?_, trivial, ?_, ?_⟩
 ·simp only [go_sem, List.take_zero, K18]
  all_goals simp
 ·intro i x hx _ h0 h1 hw
  have hg := K2o (mk := GOp.mkd) (c := GOp.ct) (k := k) hx
  have hc := Kq (c := GOp.ct) (i + 1) (l := xs)
  rw [Ke hx] at hc
  have hK0 : 0 ≤ k + ((ctL GOp.ct (xs.take i) : Nat) : Int) := by omega
  have hK1 : k + ((ctL GOp.ct (xs.take i) : Nat) : Int) + (GOp.ct x : Nat) ≤ 4611686018427387904 := by omega
  generalize hK : k + ((ctL GOp.ct (xs.take i) : Nat) : Int) = K at hK0 hK1 hg
  simp only [GOp.ct] at hK1
  simp only [go_sem, hw, K6 hg, h0, h1, K9, GOp.mkd, waK (K := K + 1) (K' := K + 1) (by omega) (by omega) (by omega), waK (K := K + 1 + 1) (K' := K + 2) (by omega) (by omega) (by omega), waK (K := K + 2 + 1) (K' := K + 3) (by omega) (by omega) (by omega), waK (K := K + 3 + 1) (K' := K + 4) (by omega) (by omega) (by omega)]
  rw [Ke hx]
  simp only [GOp.ct]
  omega
 ·intro _
  simp only [go_sem, List.take_length, K9]
def GState.mkd (x : GState) (k : Int) : GState := ⟨k, (mkL iMk iCt x.Regs (k + 1)), (mkL iMk iCt x.Slots ((k + 1) + (ctL iCt x.Regs : Nat))), (mkL iMk iCt x.Nodes (((k + 1) + (ctL iCt x.Regs : Nat)) + (ctL iCt x.Slots : Nat)))⟩
def GState.ct (x : GState) : Nat := 1 + ctL iCt x.Regs + ctL iCt x.Slots + ctL iCt x.Nodes
theorem GState.ct_le (x : GState) : x.ct ≤ 16 * (1 + x.size) := by
 simp only [GState.ct, GState.size]
 have h0 := ctL_le' (c := iCt) (fun y => by simp only [iCt]; omega) x.Regs
 have h1 := ctL_le' (c := iCt) (fun y => by simp only [iCt]; omega) x.Slots
 have h2 := ctL_le' (c := iCt) (fun y => by simp only [iCt]; omega) x.Nodes
 omega
def GState.mks (x : GState) (k : Int) : GState := { x with Regs := mkL iMk iCt x.Regs (k), Slots := mkL iMk iCt x.Slots (k + (ctL iCt x.Regs : Nat)), Nodes := mkL iMk iCt x.Nodes (k + (ctL iCt x.Regs : Nat) + (ctL iCt x.Slots : Nat)) }
def GState.cts (x : GState) : Nat := ctL iCt x.Regs + ctL iCt x.Slots + ctL iCt x.Nodes
theorem GState.cts_le (x : GState) : x.cts ≤ 16 * x.size := by
 simp only [GState.cts, GState.size]
 have hRegs := ctL_le' (c := iCt) (fun y => by simp only [iCt]; omega) x.Regs
 have hSlots := ctL_le' (c := iCt) (fun y => by simp only [iCt]; omega) x.Slots
 have hNodes := ctL_le' (c := iCt) (fun y => by simp only [iCt]; omega) x.Nodes
 omega
@[go_sem] theorem GState.mks_len0 (x : GState) (k : Int) : ((x.mks k).Regs).length = x.Regs.length := K9
@[go_sem] theorem GState.mks_len1 (x : GState) (k : Int) : ((x.mks k).Slots).length = x.Slots.length := K9
@[go_sem] theorem GState.mks_len2 (x : GState) (k : Int) : ((x.mks k).Nodes).length = x.Nodes.length := K9
def GWant.mkd (x : GWant) (k : Int) : GWant := ⟨k, ⟨(k + 1), (k + 2), (k + 3)⟩⟩
def GWant.ct (x : GWant) : Nat := 4
def GEntry.mkd (x : GEntry) (k : Int) : GEntry := ⟨k, ⟨(k + 1), (k + 2), (k + 3)⟩, (k + 4)⟩
def GEntry.ct (x : GEntry) : Nat := 5
def M89 : MC :=
(Zs [.mv 4 (ci 0)] [0,1] (.seq (Zs [.mv 5 (ci 0)] [0,1,5] (.block 0 (.loop ([0,1,5], []) (.seq (Zs [mS 6 5, mS 7 0, nS 8 7, bS 9 .lss 6 8] [0,1,5,9] (cX 9 0))
(.seq (.block 1 (Zs [mS 12 0, mS 13 5, mS 14 1, xS 15 5 12 13, fS 16 15 0, sS 1 16 14] [0,1,5] (Zs [mS 17 1, bC 18 .add 17 1, mS 1 18] [0,1,5] (Zs [mS 19 0, mS 20 5, mS 21 1, xS 22 5 19 20, fS 23 22 1, fS 24 23 0, sS 1 24 21] [0,1,5] (Zs [mS 25 1, bC 26 .add 25 1, mS 1 26] [0,1,5] (Zs [mS 27 0, mS 28 5, mS 29 1, xS 30 5 27 28, fS 31 30 1, fS 32 31 1, sS 1 32 29] [0,1,5] (Zs [mS 33 1, bC 34 .add 33 1, mS 1 34] [0,1,5] (Zs [mS 35 0, mS 36 5, mS 37 1, xS 38 5 35 36, fS 39 38 1, fS 40 39 2, sS 1 40 37] [0,1,5] (Zs [mS 41 1, bC 42 .add 41 1, mS 1 42] [0,1,5] (Zs [mS 43 0, mS 44 5, mS 45 1, xS 46 5 43 44, fS 47 46 4, sS 1 47 45] [0,1,5] (pr [mS 48 1, bC 49 .add 48 1, mS 1 49] [0,1,5])))))))))))
(pr [mS 10 5, bC 11 .add 10 1, mS 5 11] [0,1,5]))))))
(Zs [mS 50 1, mS 4 50] [4] .ret)))
theorem Cen (xs : List GEntry) (k : Int) (hk : 0 ≤ k) (hN : k + (ctL GEntry.ct xs : Nat) ≤ 4611686018427387904) : CtrI Tryz.prog N7g [oL 5 (xs.map GEntry.enc), iI k] [some (5, (mkL GEntry.mkd GEntry.ct xs k).map GEntry.enc)] [rI (k + (ctL GEntry.ct xs : Nat))] := by
 refine K10 (M := M89) (m := 0) (n := 51) (res := [(.tmp 4, [false])]) hmix Tryz.func290 rfl (by kernel_rfl) rfl (by kernel_rfl) (by kernel_rfl) (Nat.le_of_ble_eq_true rfl) rfl rfl ?_; unfold M89
 intro hb
 have hl := Kt hb
 clear hb
 simp only [go_sem]
 refine K5 xs (fun i => [(1, vI (k + (ctL GEntry.ct (xs.take i) : Nat))), (5, vI i)]) (fun i => [(0, ⟨1, .row true 5 ((mkL GEntry.mkd GEntry.ct (xs.take i) k).map GEntry.enc ++ (xs.drop i).map GEntry.enc)⟩)]) (fun _ => True) hl ?_
 simp only [go_sem]
 refine ⟨?_, trivial, ?_, ?_⟩
 ·simp only [go_sem, List.take_zero, List.drop_zero, K2p, K18]
  all_goals simp
 ·intro i x hx _ h0 h1 hw
  have hR := K38 (mk := GEntry.mkd) (c := GEntry.ct) (k := k) (f := GEntry.enc) hx
  have hA := K36 (mk := GEntry.mkd) (c := GEntry.ct) (k := k) (f := GEntry.enc) hx
  generalize hAe : (mkL GEntry.mkd GEntry.ct (xs.take i) k).map GEntry.enc = A at hR hA
  generalize hBe : (xs.drop (i + 1)).map GEntry.enc = B at hR hA
  obtain ⟨hg, hs, hl, hd⟩ := hA
  have hc := Kq (c := GEntry.ct) (i + 1) (l := xs)
  rw [Ke hx] at hc
  have hK0 : 0 ≤ k + ((ctL GEntry.ct (xs.take i) : Nat) : Int) := by omega
  have hK1 : k + ((ctL GEntry.ct (xs.take i) : Nat) : Int) + (GEntry.ct x : Nat) ≤ 4611686018427387904 := by omega
  generalize hK : k + ((ctL GEntry.ct (xs.take i) : Nat) : Int) = K at hK0 hK1
  simp only [GEntry.ct] at hK1
  simp only [go_sem, hw, hR, hg, hs, hl, h0, h1, waK (K := K + 1) (K' := K + 1) (by omega) (by omega) (by omega), waK (K := K + 1 + 1) (K' := K + 2) (by omega) (by omega) (by omega), waK (K := K + 2 + 1) (K' := K + 3) (by omega) (by omega) (by omega), waK (K := K + 3 + 1) (K' := K + 4) (by omega) (by omega) (by omega), waK (K := K + 4 + 1) (K' := K + 5) (by omega) (by omega) (by omega)]
  subst hK hAe hBe
  refine ⟨?_, K2e hx⟩
  rw [Ke hx]
  simp only [GEntry.ct]
  omega
 ·intro _
  simp only [go_sem, List.take_length, List.drop_length, List.map_nil, List.append_nil, K9]
def M8a : MC :=
(Zs [.mv 4 (ci 0)] [0,1] (.seq (Zs [.mv 5 (ci 0)] [0,1,5] (.block 0 (.loop ([0,1,5], []) (.seq (Zs [mS 6 5, mS 7 0, nS 8 7, bS 9 .lss 6 8] [0,1,5,9] (cX 9 0))
(.seq (.block 1 (.seq (Zs [mS 12 0, mS 13 5, xS 14 5 12 13, fS 15 14 0, lF 16 1 15, mS 17 1, bS 18 .neq 16 17] [0,1,5,18] (.cond (.s 18) (Zs [.mv 4 (.c (.int .i64 (-1)))] [4] .ret) .skip))
(Zs [mS 19 1, bC 20 .add 19 1, mS 1 20] [0,1,5] (.seq (Zs [mS 21 0, mS 22 5, xS 23 5 21 22, fS 24 23 1, fS 25 24 0, lF 26 1 25, mS 27 1, bS 28 .neq 26 27] [0,1,5,28] (.cond (.s 28) (Zs [.mv 4 (.c (.int .i64 (-1)))] [4] .ret) .skip))
(Zs [mS 29 1, bC 30 .add 29 1, mS 1 30] [0,1,5] (.seq (Zs [mS 31 0, mS 32 5, xS 33 5 31 32, fS 34 33 1, fS 35 34 1, lF 36 1 35, mS 37 1, bS 38 .neq 36 37] [0,1,5,38] (.cond (.s 38) (Zs [.mv 4 (.c (.int .i64 (-1)))] [4] .ret) .skip))
(Zs [mS 39 1, bC 40 .add 39 1, mS 1 40] [0,1,5] (.seq (Zs [mS 41 0, mS 42 5, xS 43 5 41 42, fS 44 43 1, fS 45 44 2, lF 46 1 45, mS 47 1, bS 48 .neq 46 47] [0,1,5,48] (.cond (.s 48) (Zs [.mv 4 (.c (.int .i64 (-1)))] [4] .ret) .skip))
(Zs [mS 49 1, bC 50 .add 49 1, mS 1 50] [0,1,5] (.seq (Zs [mS 51 0, mS 52 5, xS 53 5 51 52, fS 54 53 4, lF 55 1 54, mS 56 1, bS 57 .neq 55 56] [0,1,5,57] (.cond (.s 57) (Zs [.mv 4 (.c (.int .i64 (-1)))] [4] .ret) .skip))
(pr [mS 58 1, bC 59 .add 58 1, mS 1 59] [0,1,5])))))))))))
(pr [mS 10 5, bC 11 .add 10 1, mS 5 11] [0,1,5]))))))
(Zs [mS 60 1, mS 4 60] [4] .ret)))
theorem Ceo (xs : List GEntry) (k : Int) (hk : 0 ≤ k) (hN : k + (ctL GEntry.ct xs : Nat) ≤ 4611686018427387904) : Ctr Tryz.prog N7i [aL 5 ((mkL GEntry.mkd GEntry.ct xs k).map GEntry.enc), aI k] [rI (k + (ctL GEntry.ct xs : Nat))] := by
 refine cA M8a 0 61 [(.tmp 4, [false])] Tryz.func307 rfl rfl ?_; unfold M8a
 intro hb
 simp only [bdA, bdL, bdT, Kb, Kk, roomB, and_true, List.length_map] at hb
 have hl := hb.1.1
 rw [K9] at hl
 clear hb
 simp only [go_sem]
 refine K5 xs (fun i => [(1, vI (k + (ctL GEntry.ct (xs.take i) : Nat))), (5, vI i)]) (fun i => []) (fun _ => True) hl ?_
 simp only [go_sem]
 refine ⟨?_, trivial, ?_, ?_⟩
 ·simp only [go_sem, List.take_zero, K18]
  all_goals simp
 ·intro i x hx _ h0 h1 hw
  have hg := K2o (mk := GEntry.mkd) (c := GEntry.ct) (k := k) hx
  have hc := Kq (c := GEntry.ct) (i + 1) (l := xs)
  rw [Ke hx] at hc
  have hK0 : 0 ≤ k + ((ctL GEntry.ct (xs.take i) : Nat) : Int) := by omega
  have hK1 : k + ((ctL GEntry.ct (xs.take i) : Nat) : Int) + (GEntry.ct x : Nat) ≤ 4611686018427387904 := by omega
  generalize hK : k + ((ctL GEntry.ct (xs.take i) : Nat) : Int) = K at hK0 hK1 hg
  simp only [GEntry.ct] at hK1
  simp only [go_sem, hw, K6 hg, h0, h1, K9, GEntry.mkd, waK (K := K + 1) (K' := K + 1) (by omega) (by omega) (by omega), waK (K := K + 1 + 1) (K' := K + 2) (by omega) (by omega) (by omega), waK (K := K + 2 + 1) (K' := K + 3) (by omega) (by omega) (by omega), waK (K := K + 3 + 1) (K' := K + 4) (by omega) (by omega) (by omega), waK (K := K + 4 + 1) (K' := K + 5) (by omega) (by omega) (by omega)]
  rw [Ke hx]
  simp only [GEntry.ct]
  omega
 ·intro _
  simp only [go_sem, List.take_length, K9]
def GCapture.mkd (x : GCapture) (k : Int) : GCapture := ⟨⟨k, (k + 1), (k + 2)⟩, (k + 3), ⟨(k + 4), (mkL iMk iCt x.Resource.Body (k + 5)), ⟨((k + 5) + (ctL iCt x.Resource.Body : Nat)), (((k + 5) + (ctL iCt x.Resource.Body : Nat)) + 1), (((k + 5) + (ctL iCt x.Resource.Body : Nat)) + 2)⟩⟩⟩
def GCapture.ct (x : GCapture) : Nat := 8 + ctL iCt x.Resource.Body
theorem GCapture.ct_le (x : GCapture) : x.ct ≤ 16 * (1 + x.size) := by
 simp only [GCapture.ct, GCapture.size, GResource.size]
 have h0 := ctL_le' (c := iCt) (fun y => by simp only [iCt]; omega) x.Resource.Body
 omega
def M56 : MC := Y14
theorem Cda (xs : List GCapture) (k : Int) (hk : 0 ≤ k) (hN : k + (ctL GCapture.ct xs : Nat) ≤ 4611686018427387904) : CtrI Tryz.prog N4m [oL 9 (xs.map GCapture.enc), iI k] [some (9, (mkL GCapture.mkd GCapture.ct xs k).map GCapture.enc)] [rI (k + (ctL GCapture.ct xs : Nat))] := by
 refine K10 (M := M56) (m := 1) (n := 87) (res := [(.tmp 4, [false])]) hmix Tryz.func291 rfl (by kernel_rfl) rfl (by kernel_rfl) (by kernel_rfl) (Nat.le_of_ble_eq_true rfl) rfl rfl ?_; unfold M56
 intro hb
 have hl := Kt hb
 clear hb
 simp only [go_sem]
 refine K5 xs (fun i => [(1, vI (k + (ctL GCapture.ct (xs.take i) : Nat))), (5, vI i)]) (fun i => [(0, ⟨1, .row true 9 ((mkL GCapture.mkd GCapture.ct (xs.take i) k).map GCapture.enc ++ (xs.drop i).map GCapture.enc)⟩)]) (fun _ => True) hl ?_
 simp only [go_sem]
 refine ⟨?_, trivial, ?_, ?_⟩
 ·simp only [go_sem, List.take_zero, List.drop_zero, K2p, K18]
  all_goals simp
 ·intro i x hx _ h0 h1 hw
  have hR := K38 (mk := GCapture.mkd) (c := GCapture.ct) (k := k) (f := GCapture.enc) hx
  have hA := K36 (mk := GCapture.mkd) (c := GCapture.ct) (k := k) (f := GCapture.enc) hx
  generalize hAe : (mkL GCapture.mkd GCapture.ct (xs.take i) k).map GCapture.enc = A at hR hA
  generalize hBe : (xs.drop (i + 1)).map GCapture.enc = B at hR hA
  obtain ⟨hg, hs, hl, hd⟩ := hA
  have hc := Kq (c := GCapture.ct) (i + 1) (l := xs)
  rw [Ke hx] at hc
  have hK0 : 0 ≤ k + ((ctL GCapture.ct (xs.take i) : Nat) : Int) := by omega
  have hK1 : k + ((ctL GCapture.ct (xs.take i) : Nat) : Int) + (GCapture.ct x : Nat) ≤ 4611686018427387904 := by omega
  generalize hK : k + ((ctL GCapture.ct (xs.take i) : Nat) : Int) = K at hK0 hK1
  simp only [GCapture.ct] at hK1
  simp only [go_sem, hR, hg, hs, hl, h0, h1, waK (K := K + 1) (K' := K + 1) (by omega) (by omega) (by omega), waK (K := K + 1 + 1) (K' := K + 2) (by omega) (by omega) (by omega), waK (K := K + 2 + 1) (K' := K + 3) (by omega) (by omega) (by omega), waK (K := K + 3 + 1) (K' := K + 4) (by omega) (by omega) (by omega), waK (K := K + 4 + 1) (K' := K + 5) (by omega) (by omega) (by omega)]
  refine K7 (C2m x.Resource.Body (K + 5) (by omega) (by omega)) ?_
  have hK1 : 0 ≤ K + 5 + (ctL iCt x.Resource.Body : Nat) := by omega
  generalize eK1 : K + 5 + ((ctL iCt x.Resource.Body : Nat) : Int) = K1 at hK1
  simp only [go_sem, hw, hg, hs, hl, hd, h0, h1, waK (K := K1 + 1) (K' := K1 + 1) (by omega) (by omega) (by omega), waK (K := K1 + 1 + 1) (K' := K1 + 2) (by omega) (by omega) (by omega), waK (K := K1 + 2 + 1) (K' := K1 + 3) (by omega) (by omega) (by omega)]
  subst eK1
  subst hK hAe hBe
  refine ⟨?_, K2e hx⟩
  rw [Ke hx]
  simp only [GCapture.ct]
  omega
 ·intro _
  simp only [go_sem, List.take_length, List.drop_length, List.map_nil, List.append_nil, K9]
def M57 : MC := Y15
theorem Cdb (xs : List GCapture) (k : Int) (hk : 0 ≤ k) (hN : k + (ctL GCapture.ct xs : Nat) ≤ 4611686018427387904) : Ctr Tryz.prog N4o [aL 9 ((mkL GCapture.mkd GCapture.ct xs k).map GCapture.enc), aI k] [rI (k + (ctL GCapture.ct xs : Nat))] := by
 refine cA M57 0 105 [(.tmp 4, [false])] Tryz.func308 rfl rfl ?_; unfold M57
 intro hb
 simp only [bdA, bdL, bdT, Kb, Kk, roomB, and_true, List.length_map] at hb
 have hl := hb.1.1
 rw [K9] at hl
 clear hb
 simp only [go_sem]
 refine K5 xs (fun i => [(1, vI (k + (ctL GCapture.ct (xs.take i) : Nat))), (5, vI i)]) (fun i => []) (fun _ => True) hl ?_
 simp only [go_sem]
 refine ⟨?_, trivial, ?_, ?_⟩
 ·simp only [go_sem, List.take_zero, K18]
  all_goals simp
 ·intro i x hx _ h0 h1 hw
  have hg := K2o (mk := GCapture.mkd) (c := GCapture.ct) (k := k) hx
  have hc := Kq (c := GCapture.ct) (i + 1) (l := xs)
  rw [Ke hx] at hc
  have hK0 : 0 ≤ k + ((ctL GCapture.ct (xs.take i) : Nat) : Int) := by omega
  have hK1 : k + ((ctL GCapture.ct (xs.take i) : Nat) : Int) + (GCapture.ct x : Nat) ≤ 4611686018427387904 := by omega
  generalize hK : k + ((ctL GCapture.ct (xs.take i) : Nat) : Int) = K at hK0 hK1 hg
  simp only [GCapture.ct] at hK1
  try simp only [go_sem, K6 hg, h0, h1, K9, GCapture.mkd, waK (K := K + 1) (K' := K + 1) (by omega) (by omega) (by omega), waK (K := K + 1 + 1) (K' := K + 2) (by omega) (by omega) (by omega), waK (K := K + 2 + 1) (K' := K + 3) (by omega) (by omega) (by omega), waK (K := K + 3 + 1) (K' := K + 4) (by omega) (by omega) (by omega), waK (K := K + 4 + 1) (K' := K + 5) (by omega) (by omega) (by omega)]
  refine K0 (C2n x.Resource.Body (K + 5) (by omega) (by omega)) ?_
  have hK1 : 0 ≤ K + 5 + (ctL iCt x.Resource.Body : Nat) := by omega
  generalize eK1 : K + 5 + ((ctL iCt x.Resource.Body : Nat) : Int) = K1 at hK1
  have nK1 : ¬ K1 < 0 := by omega
  simp only [go_sem, hw, K6 hg, h0, h1, K9, GCapture.mkd, nK1, eK1]
  intro _
  simp only [go_sem, waK (K := K1 + 1) (K' := K1 + 1) (by omega) (by omega) (by omega), waK (K := K1 + 1 + 1) (K' := K1 + 2) (by omega) (by omega) (by omega), waK (K := K1 + 2 + 1) (K' := K1 + 3) (by omega) (by omega) (by omega)]
  subst eK1
  rw [Ke hx]
  simp only [GCapture.ct]
  omega
 ·intro _
  simp only [go_sem, List.take_length, K9]
def GCapture.mks (x : GCapture) (k : Int) : GCapture := { x with Resource := x.Resource.mks (k) }
def GCapture.cts (x : GCapture) : Nat := x.Resource.cts
theorem GCapture.cts_le (x : GCapture) : x.cts ≤ 16 * x.size := by
 simp only [GCapture.cts, GCapture.size]
 have hResource := GResource.cts_le x.Resource
 omega
@[go_sem] theorem GCapture.mks_len0 (x : GCapture) (k : Int) : ((x.mks k).Resource.Body).length = x.Resource.Body.length := K9
def GChoice.mkd (x : GChoice) (k : Int) : GChoice := ⟨k, (k + 1)⟩
def GChoice.ct (x : GChoice) : Nat := 2
def GWander.mks (x : GWander) (k : Int) : GWander := { x with State := x.State.mks (k), Choices := mkL GChoice.mkd GChoice.ct x.Choices (k + (x.State.cts : Nat)), Labels := mkL iMk iCt x.Labels (k + (x.State.cts : Nat) + (ctL GChoice.ct x.Choices : Nat)) }
def GWander.cts (x : GWander) : Nat := x.State.cts + ctL GChoice.ct x.Choices + ctL iCt x.Labels
theorem GWander.cts_le (x : GWander) : x.cts ≤ 16 * x.size := by
 simp only [GWander.cts, GWander.size]
 have hState := GState.cts_le x.State
 have hChoices := ctL_le' (c := GChoice.ct) (fun y => by simp only [GChoice.ct]; omega) x.Choices
 have hLabels := ctL_le' (c := iCt) (fun y => by simp only [iCt]; omega) x.Labels
 omega
@[go_sem] theorem GWander.mks_len0 (x : GWander) (k : Int) : ((x.mks k).State.Regs).length = x.State.Regs.length := K9
@[go_sem] theorem GWander.mks_len1 (x : GWander) (k : Int) : ((x.mks k).State.Slots).length = x.State.Slots.length := K9
@[go_sem] theorem GWander.mks_len2 (x : GWander) (k : Int) : ((x.mks k).State.Nodes).length = x.State.Nodes.length := K9
@[go_sem] theorem GWander.mks_len3 (x : GWander) (k : Int) : ((x.mks k).Choices).length = x.Choices.length := K9
@[go_sem] theorem GWander.mks_len4 (x : GWander) (k : Int) : ((x.mks k).Labels).length = x.Labels.length := K9
def GModel.mkd (x : GModel) (k : Int) : GModel := ⟨k, (k + 1), (k + 2), (bMk x.Fits (k + 3))⟩
def GModel.ct (x : GModel) : Nat := 4
def GShown.mkd (x : GShown) (k : Int) : GShown := ⟨k, ⟨(k + 1), (k + 2), (k + 3)⟩⟩
def GShown.ct (x : GShown) : Nat := 4
def GLeaf.mkd (x : GLeaf) (k : Int) : GLeaf := ⟨k, (k + 1), (bMk x.Hidden (k + 2)), (k + 3)⟩
def GLeaf.ct (x : GLeaf) : Nat := 4
def GEdition.mks (x : GEdition) (k : Int) : GEdition := { x with Captures := mkL GCapture.mkd GCapture.ct x.Captures (k), Hidden := mkL GAddress.mkd GAddress.ct x.Hidden (k + (ctL GCapture.ct x.Captures : Nat)) }
def GEdition.cts (x : GEdition) : Nat := ctL GCapture.ct x.Captures + ctL GAddress.ct x.Hidden
theorem GEdition.cts_le (x : GEdition) : x.cts ≤ 16 * x.size := by
 simp only [GEdition.cts, GEdition.size]
 have hCaptures := K47 (c := GCapture.ct) (s := GCapture.size) GCapture.ct_le x.Captures
 have hHidden := ctL_le' (c := GAddress.ct) (fun y => by simp only [GAddress.ct]; omega) x.Hidden
 omega
@[go_sem] theorem GEdition.mks_len0 (x : GEdition) (k : Int) : ((x.mks k).Captures).length = x.Captures.length := K9
@[go_sem] theorem GEdition.mks_len1 (x : GEdition) (k : Int) : ((x.mks k).Hidden).length = x.Hidden.length := K9
def GExclusion.mkd (x : GExclusion) (k : Int) : GExclusion := ⟨k, (k + 1), (k + 2), (k + 3), (k + 4)⟩
def GExclusion.ct (x : GExclusion) : Nat := 5
def M3l : MC :=
(Zs [.mv 4 (ci 0)] [0,1] (.seq (Zs [.mv 5 (ci 0)] [0,1,5] (.block 0 (.loop ([0,1,5], []) (.seq (Zs [mS 6 5, mS 7 0, nS 8 7, bS 9 .lss 6 8] [0,1,5,9] (cX 9 0))
(.seq (.block 1 (Zs [mS 12 0, mS 13 5, mS 14 1, xS 15 5 12 13, fS 16 15 0, sS 1 16 14] [0,1,5] (Zs [mS 17 1, bC 18 .add 17 1, mS 1 18] [0,1,5] (Zs [mS 19 0, mS 20 5, mS 21 1, xS 22 5 19 20, fS 23 22 1, sS 1 23 21] [0,1,5] (Zs [mS 24 1, bC 25 .add 24 1, mS 1 25] [0,1,5] (Zs [mS 26 0, mS 27 5, mS 28 1, xS 29 5 26 27, fS 30 29 2, sS 1 30 28] [0,1,5] (Zs [mS 31 1, bC 32 .add 31 1, mS 1 32] [0,1,5] (Zs [mS 33 0, mS 34 5, mS 35 1, xS 36 5 33 34, fS 37 36 3, sS 1 37 35] [0,1,5] (Zs [mS 38 1, bC 39 .add 38 1, mS 1 39] [0,1,5] (Zs [mS 40 0, mS 41 5, mS 42 1, xS 43 5 40 41, fS 44 43 4, sS 1 44 42] [0,1,5] (pr [mS 45 1, bC 46 .add 45 1, mS 1 46] [0,1,5])))))))))))
(pr [mS 10 5, bC 11 .add 10 1, mS 5 11] [0,1,5]))))))
(Zs [mS 47 1, mS 4 47] [4] .ret)))
theorem Cbk (xs : List GExclusion) (k : Int) (hk : 0 ≤ k) (hN : k + (ctL GExclusion.ct xs : Nat) ≤ 4611686018427387904) : CtrI Tryz.prog N3f [oL 5 (xs.map GExclusion.enc), iI k] [some (5, (mkL GExclusion.mkd GExclusion.ct xs k).map GExclusion.enc)] [rI (k + (ctL GExclusion.ct xs : Nat))] := by
 refine K10 (M := M3l) (m := 0) (n := 48) (res := [(.tmp 4, [false])]) hmix Tryz.func89 rfl (by kernel_rfl) rfl (by kernel_rfl) (by kernel_rfl) (Nat.le_of_ble_eq_true rfl) rfl rfl ?_; unfold M3l
 intro hb
 have hl := Kt hb
 clear hb
 simp only [go_sem]
 refine K5 xs (fun i => [(1, vI (k + (ctL GExclusion.ct (xs.take i) : Nat))), (5, vI i)]) (fun i => [(0, ⟨1, .row true 5 ((mkL GExclusion.mkd GExclusion.ct (xs.take i) k).map GExclusion.enc ++ (xs.drop i).map GExclusion.enc)⟩)]) (fun _ => True) hl ?_
 simp only [go_sem]
 refine ⟨?_, trivial, ?_, ?_⟩
 ·simp only [go_sem, List.take_zero, List.drop_zero, K2p, K18]
  all_goals simp
 ·intro i x hx _ h0 h1 hw
  have hR := K38 (mk := GExclusion.mkd) (c := GExclusion.ct) (k := k) (f := GExclusion.enc) hx
  have hA := K36 (mk := GExclusion.mkd) (c := GExclusion.ct) (k := k) (f := GExclusion.enc) hx
  generalize hAe : (mkL GExclusion.mkd GExclusion.ct (xs.take i) k).map GExclusion.enc = A at hR hA
  generalize hBe : (xs.drop (i + 1)).map GExclusion.enc = B at hR hA
  obtain ⟨hg, hs, hl, hd⟩ := hA
  have hc := Kq (c := GExclusion.ct) (i + 1) (l := xs)
  rw [Ke hx] at hc
  have hK0 : 0 ≤ k + ((ctL GExclusion.ct (xs.take i) : Nat) : Int) := by omega
  have hK1 : k + ((ctL GExclusion.ct (xs.take i) : Nat) : Int) + (GExclusion.ct x : Nat) ≤ 4611686018427387904 := by omega
  generalize hK : k + ((ctL GExclusion.ct (xs.take i) : Nat) : Int) = K at hK0 hK1
  simp only [GExclusion.ct] at hK1
  simp only [go_sem, hw, hR, hg, hs, hl, h0, h1, waK (K := K + 1) (K' := K + 1) (by omega) (by omega) (by omega), waK (K := K + 1 + 1) (K' := K + 2) (by omega) (by omega) (by omega), waK (K := K + 2 + 1) (K' := K + 3) (by omega) (by omega) (by omega), waK (K := K + 3 + 1) (K' := K + 4) (by omega) (by omega) (by omega), waK (K := K + 4 + 1) (K' := K + 5) (by omega) (by omega) (by omega)]
  subst hK hAe hBe
  refine ⟨?_, K2e hx⟩
  rw [Ke hx]
  simp only [GExclusion.ct]
  omega
 ·intro _
  simp only [go_sem, List.take_length, List.drop_length, List.map_nil, List.append_nil, K9]
def M3m : MC :=
(Zs [.mv 4 (ci 0)] [0,1] (.seq (Zs [.mv 5 (ci 0)] [0,1,5] (.block 0 (.loop ([0,1,5], []) (.seq (Zs [mS 6 5, mS 7 0, nS 8 7, bS 9 .lss 6 8] [0,1,5,9] (cX 9 0))
(.seq (.block 1 (.seq (Zs [mS 12 0, mS 13 5, xS 14 5 12 13, fS 15 14 0, lF 16 1 15, mS 17 1, bS 18 .neq 16 17] [0,1,5,18] (.cond (.s 18) (Zs [.mv 4 (.c (.int .i64 (-1)))] [4] .ret) .skip))
(Zs [mS 19 1, bC 20 .add 19 1, mS 1 20] [0,1,5] (.seq (Zs [mS 21 0, mS 22 5, xS 23 5 21 22, fS 24 23 1, lF 25 1 24, mS 26 1, bS 27 .neq 25 26] [0,1,5,27] (.cond (.s 27) (Zs [.mv 4 (.c (.int .i64 (-1)))] [4] .ret) .skip))
(Zs [mS 28 1, bC 29 .add 28 1, mS 1 29] [0,1,5] (.seq (Zs [mS 30 0, mS 31 5, xS 32 5 30 31, fS 33 32 2, lF 34 1 33, mS 35 1, bS 36 .neq 34 35] [0,1,5,36] (.cond (.s 36) (Zs [.mv 4 (.c (.int .i64 (-1)))] [4] .ret) .skip))
(Zs [mS 37 1, bC 38 .add 37 1, mS 1 38] [0,1,5] (.seq (Zs [mS 39 0, mS 40 5, xS 41 5 39 40, fS 42 41 3, lF 43 1 42, mS 44 1, bS 45 .neq 43 44] [0,1,5,45] (.cond (.s 45) (Zs [.mv 4 (.c (.int .i64 (-1)))] [4] .ret) .skip))
(Zs [mS 46 1, bC 47 .add 46 1, mS 1 47] [0,1,5] (.seq (Zs [mS 48 0, mS 49 5, xS 50 5 48 49, fS 51 50 4, lF 52 1 51, mS 53 1, bS 54 .neq 52 53] [0,1,5,54] (.cond (.s 54) (Zs [.mv 4 (.c (.int .i64 (-1)))] [4] .ret) .skip))
(pr [mS 55 1, bC 56 .add 55 1, mS 1 56] [0,1,5])))))))))))
(pr [mS 10 5, bC 11 .add 10 1, mS 5 11] [0,1,5]))))))
(Zs [mS 57 1, mS 4 57] [4] .ret)))
theorem Cbl (xs : List GExclusion) (k : Int) (hk : 0 ≤ k) (hN : k + (ctL GExclusion.ct xs : Nat) ≤ 4611686018427387904) : Ctr Tryz.prog N3h [aL 5 ((mkL GExclusion.mkd GExclusion.ct xs k).map GExclusion.enc), aI k] [rI (k + (ctL GExclusion.ct xs : Nat))] := by
 refine cA M3m 0 58 [(.tmp 4, [false])] Tryz.func106 rfl rfl ?_; unfold M3m
 intro hb
 simp only [bdA, bdL, bdT, Kb, Kk, roomB, and_true, List.length_map] at hb
 have hl := hb.1.1
 rw [K9] at hl
 clear hb
 simp only [go_sem]
 refine K5 xs (fun i => [(1, vI (k + (ctL GExclusion.ct (xs.take i) : Nat))), (5, vI i)]) (fun i => []) (fun _ => True) hl ?_
 simp only [go_sem]
 refine ⟨?_, trivial, ?_, ?_⟩
 ·simp only [go_sem, List.take_zero, K18]
  all_goals simp
 ·intro i x hx _ h0 h1 hw
  have hg := K2o (mk := GExclusion.mkd) (c := GExclusion.ct) (k := k) hx
  have hc := Kq (c := GExclusion.ct) (i + 1) (l := xs)
  rw [Ke hx] at hc
  have hK0 : 0 ≤ k + ((ctL GExclusion.ct (xs.take i) : Nat) : Int) := by omega
  have hK1 : k + ((ctL GExclusion.ct (xs.take i) : Nat) : Int) + (GExclusion.ct x : Nat) ≤ 4611686018427387904 := by omega
  generalize hK : k + ((ctL GExclusion.ct (xs.take i) : Nat) : Int) = K at hK0 hK1 hg
  simp only [GExclusion.ct] at hK1
  simp only [go_sem, hw, K6 hg, h0, h1, K9, GExclusion.mkd, waK (K := K + 1) (K' := K + 1) (by omega) (by omega) (by omega), waK (K := K + 1 + 1) (K' := K + 2) (by omega) (by omega) (by omega), waK (K := K + 2 + 1) (K' := K + 3) (by omega) (by omega) (by omega), waK (K := K + 3 + 1) (K' := K + 4) (by omega) (by omega) (by omega), waK (K := K + 4 + 1) (K' := K + 5) (by omega) (by omega) (by omega)]
  rw [Ke hx]
  simp only [GExclusion.ct]
  omega
 ·intro _
  simp only [go_sem, List.take_length, K9]
def GStatement.mkd (x : GStatement) (k : Int) : GStatement := ⟨k, (k + 1), (k + 2), (k + 3)⟩
def GStatement.ct (x : GStatement) : Nat := 4
def M3n : MC := Y16
theorem Cbm (xs : List GStatement) (k : Int) (hk : 0 ≤ k) (hN : k + (ctL GStatement.ct xs : Nat) ≤ 4611686018427387904) : CtrI Tryz.prog N3g [oL 4 (xs.map GStatement.enc), iI k] [some (4, (mkL GStatement.mkd GStatement.ct xs k).map GStatement.enc)] [rI (k + (ctL GStatement.ct xs : Nat))] := by
 refine K10 (M := M3n) (m := 0) (n := 41) (res := [(.tmp 4, [false])]) hmix Tryz.func91 rfl (by kernel_rfl) rfl (by kernel_rfl) (by kernel_rfl) (Nat.le_of_ble_eq_true rfl) rfl rfl ?_; unfold M3n
 intro hb
 have hl := Kt hb
 clear hb
 simp only [go_sem]
 refine K5 xs (fun i => [(1, vI (k + (ctL GStatement.ct (xs.take i) : Nat))), (5, vI i)]) (fun i => [(0, ⟨1, .row true 4 ((mkL GStatement.mkd GStatement.ct (xs.take i) k).map GStatement.enc ++ (xs.drop i).map GStatement.enc)⟩)]) (fun _ => True) hl ?_
 simp only [go_sem]
 refine ⟨?_, trivial, ?_, ?_⟩
 ·simp only [go_sem, List.take_zero, List.drop_zero, K2p, K18]
  all_goals simp
 ·intro i x hx _ h0 h1 hw
  have hR := K38 (mk := GStatement.mkd) (c := GStatement.ct) (k := k) (f := GStatement.enc) hx
  have hA := K36 (mk := GStatement.mkd) (c := GStatement.ct) (k := k) (f := GStatement.enc) hx
  generalize hAe : (mkL GStatement.mkd GStatement.ct (xs.take i) k).map GStatement.enc = A at hR hA
  generalize hBe : (xs.drop (i + 1)).map GStatement.enc = B at hR hA
  obtain ⟨hg, hs, hl, hd⟩ := hA
  have hc := Kq (c := GStatement.ct) (i + 1) (l := xs)
  rw [Ke hx] at hc
  have hK0 : 0 ≤ k + ((ctL GStatement.ct (xs.take i) : Nat) : Int) := by omega
  have hK1 : k + ((ctL GStatement.ct (xs.take i) : Nat) : Int) + (GStatement.ct x : Nat) ≤ 4611686018427387904 := by omega
  generalize hK : k + ((ctL GStatement.ct (xs.take i) : Nat) : Int) = K at hK0 hK1
  simp only [GStatement.ct] at hK1
  simp only [go_sem, hw, hR, hg, hs, hl, h0, h1, waK (K := K + 1) (K' := K + 1) (by omega) (by omega) (by omega), waK (K := K + 1 + 1) (K' := K + 2) (by omega) (by omega) (by omega), waK (K := K + 2 + 1) (K' := K + 3) (by omega) (by omega) (by omega), waK (K := K + 3 + 1) (K' := K + 4) (by omega) (by omega) (by omega)]
  subst hK hAe hBe
  refine ⟨?_, K2e hx⟩
  rw [Ke hx]
  simp only [GStatement.ct]
  omega
 ·intro _
  simp only [go_sem, List.take_length, List.drop_length, List.map_nil, List.append_nil, K9]
def M3o : MC := Y17
theorem Cbn (xs : List GStatement) (k : Int) (hk : 0 ≤ k) (hN : k + (ctL GStatement.ct xs : Nat) ≤ 4611686018427387904) : Ctr Tryz.prog N3i [aL 4 ((mkL GStatement.mkd GStatement.ct xs k).map GStatement.enc), aI k] [rI (k + (ctL GStatement.ct xs : Nat))] := by
 refine cA M3o 0 49 [(.tmp 4, [false])] Tryz.func109 rfl rfl ?_; unfold M3o
 intro hb
 simp only [bdA, bdL, bdT, Kb, Kk, roomB, and_true, List.length_map] at hb
 have hl := hb.1.1
 rw [K9] at hl
 clear hb
 simp only [go_sem]
 refine K5 xs (fun i => [(1, vI (k + (ctL GStatement.ct (xs.take i) : Nat))), (5, vI i)]) (fun i => []) (fun _ => True) hl ?_
 simp only [go_sem]
 refine ⟨?_, trivial, ?_, ?_⟩
 ·simp only [go_sem, List.take_zero, K18]
  all_goals simp
 ·intro i x hx _ h0 h1 hw
  have hg := K2o (mk := GStatement.mkd) (c := GStatement.ct) (k := k) hx
  have hc := Kq (c := GStatement.ct) (i + 1) (l := xs)
  rw [Ke hx] at hc
  have hK0 : 0 ≤ k + ((ctL GStatement.ct (xs.take i) : Nat) : Int) := by omega
  have hK1 : k + ((ctL GStatement.ct (xs.take i) : Nat) : Int) + (GStatement.ct x : Nat) ≤ 4611686018427387904 := by omega
  generalize hK : k + ((ctL GStatement.ct (xs.take i) : Nat) : Int) = K at hK0 hK1 hg
  simp only [GStatement.ct] at hK1
  simp only [go_sem, hw, K6 hg, h0, h1, K9, GStatement.mkd, waK (K := K + 1) (K' := K + 1) (by omega) (by omega) (by omega), waK (K := K + 1 + 1) (K' := K + 2) (by omega) (by omega) (by omega), waK (K := K + 2 + 1) (K' := K + 3) (by omega) (by omega) (by omega), waK (K := K + 3 + 1) (K' := K + 4) (by omega) (by omega) (by omega)]
  rw [Ke hx]
  simp only [GStatement.ct]
  omega
 ·intro _
  simp only [go_sem, List.take_length, K9]
def GLibrary.mkd (x : GLibrary) (k : Int) : GLibrary := ⟨k, (mkL iMk iCt x.Digests (k + 1)), (bMk x.Up ((k + 1) + (ctL iCt x.Digests : Nat))), (bMk x.Lies (((k + 1) + (ctL iCt x.Digests : Nat)) + 1))⟩
def GLibrary.ct (x : GLibrary) : Nat := 3 + ctL iCt x.Digests
theorem GLibrary.ct_le (x : GLibrary) : x.ct ≤ 16 * (1 + x.size) := by
 simp only [GLibrary.ct, GLibrary.size]
 have h0 := ctL_le' (c := iCt) (fun y => by simp only [iCt]; omega) x.Digests
 omega
def M58 : MC :=
(Zs [.mv 4 (ci 0)] [0,1] (.seq (Zs [.mv 5 (ci 0)] [0,1,5] (.block 0 (.loop ([0,1,5], [1]) (.seq (Zs [mS 6 5, mS 7 0, nS 8 7, bS 9 .lss 6 8] [0,1,5,9] (cX 9 0))
(.seq (.block 1 (Zs [mS 12 0, mS 13 5, mS 14 1, xS 15 4 12 13, fS 16 15 0, sS 1 16 14] [0,1,5] (Zs [mS 17 1, bC 18 .add 17 1, mS 1 18] [0,1,5] (Zs [mS 19 0, mS 20 5, xS 21 4 19 20, fS 22 21 1, .loadT 23 1 (.s 22), mS 24 1, .callI 25 [] (.f N2j) [.s 23, .s 24] [1] [0], mS 1 25] [0,1,5] (Zs [mS 26 0, mS 27 5, mS 28 1, bC 29 .rem 28 3, bC 30 .eql 29 0, xS 31 4 26 27, fS 32 31 2, sS 1 32 30] [0,1,5] (Zs [mS 33 1, bC 34 .add 33 1, mS 1 34] [0,1,5] (Zs [mS 35 0, mS 36 5, mS 37 1, bC 38 .rem 37 3, bC 39 .eql 38 0, xS 40 4 35 36, fS 41 40 3, sS 1 41 39] [0,1,5] (pr [mS 42 1, bC 43 .add 42 1, mS 1 43] [0,1,5]))))))))
(pr [mS 10 5, bC 11 .add 10 1, mS 5 11] [0,1,5]))))))
(Zs [mS 44 1, mS 4 44] [4] .ret)))
theorem Cdc (xs : List GLibrary) (k : Int) (hk : 0 ≤ k) (hN : k + (ctL GLibrary.ct xs : Nat) ≤ 4611686018427387904) : CtrI Tryz.prog N4i [oL 4 (xs.map GLibrary.enc), iI k] [some (4, (mkL GLibrary.mkd GLibrary.ct xs k).map GLibrary.enc)] [rI (k + (ctL GLibrary.ct xs : Nat))] := by
 refine K10 (M := M58) (m := 1) (n := 45) (res := [(.tmp 4, [false])]) hmix Tryz.func90 rfl (by kernel_rfl) rfl (by kernel_rfl) (by kernel_rfl) (Nat.le_of_ble_eq_true rfl) rfl rfl ?_; unfold M58
 intro hb
 have hl := Kt hb
 clear hb
 simp only [go_sem]
 refine K5 xs (fun i => [(1, vI (k + (ctL GLibrary.ct (xs.take i) : Nat))), (5, vI i)]) (fun i => [(0, ⟨1, .row true 4 ((mkL GLibrary.mkd GLibrary.ct (xs.take i) k).map GLibrary.enc ++ (xs.drop i).map GLibrary.enc)⟩)]) (fun _ => True) hl ?_
 simp only [go_sem]
 refine ⟨?_, trivial, ?_, ?_⟩
 ·simp only [go_sem, List.take_zero, List.drop_zero, K2p, K18]
  all_goals simp
 ·intro i x hx _ h0 h1 hw
  have hR := K38 (mk := GLibrary.mkd) (c := GLibrary.ct) (k := k) (f := GLibrary.enc) hx
  have hA := K36 (mk := GLibrary.mkd) (c := GLibrary.ct) (k := k) (f := GLibrary.enc) hx
  generalize hAe : (mkL GLibrary.mkd GLibrary.ct (xs.take i) k).map GLibrary.enc = A at hR hA
  generalize hBe : (xs.drop (i + 1)).map GLibrary.enc = B at hR hA
  obtain ⟨hg, hs, hl, hd⟩ := hA
  have hc := Kq (c := GLibrary.ct) (i + 1) (l := xs)
  rw [Ke hx] at hc
  have hK0 : 0 ≤ k + ((ctL GLibrary.ct (xs.take i) : Nat) : Int) := by omega
  have hK1 : k + ((ctL GLibrary.ct (xs.take i) : Nat) : Int) + (GLibrary.ct x : Nat) ≤ 4611686018427387904 := by omega
  generalize hK : k + ((ctL GLibrary.ct (xs.take i) : Nat) : Int) = K at hK0 hK1
  simp only [GLibrary.ct] at hK1
  simp only [go_sem, hR, hg, hs, hl, h0, h1, waK (K := K + 1) (K' := K + 1) (by omega) (by omega) (by omega)]
  refine K7 (C2m x.Digests (K + 1) (by omega) (by omega)) ?_
  have hK1 : 0 ≤ K + 1 + (ctL iCt x.Digests : Nat) := by omega
  generalize eK1 : K + 1 + ((ctL iCt x.Digests : Nat) : Int) = K1 at hK1
  simp only [go_sem, hw, hg, hs, hl, hd, h0, h1, K5z, waK (K := K1 + 1) (K' := K1 + 1) (by omega) (by omega) (by omega), waK (K := K1 + 1 + 1) (K' := K1 + 2) (by omega) (by omega) (by omega)]
  subst eK1
  subst hK hAe hBe
  refine ⟨?_, K2e hx⟩
  rw [Ke hx]
  simp only [GLibrary.ct]
  omega
 ·intro _
  simp only [go_sem, List.take_length, List.drop_length, List.map_nil, List.append_nil, K9]
def M59 : MC :=
(Zs [.mv 4 (ci 0)] [0,1] (.seq (Zs [.mv 5 (ci 0)] [0,1,5] (.block 0 (.loop ([0,1,5], []) (.seq (Zs [mS 6 5, mS 7 0, nS 8 7, bS 9 .lss 6 8] [0,1,5,9] (cX 9 0))
(.seq (.block 1 (.seq (Zs [mS 12 0, mS 13 5, xS 14 4 12 13, fS 15 14 0, lF 16 1 15, mS 17 1, bS 18 .neq 16 17] [0,1,5,18] (.cond (.s 18) (Zs [.mv 4 (.c (.int .i64 (-1)))] [4] .ret) .skip))
(Zs [mS 19 1, bC 20 .add 19 1, mS 1 20] [0,1,5] (Zs [mS 21 0, mS 22 5, xS 23 4 21 22, fS 24 23 1, lF 25 1 24, mS 26 1, .call 27 [] (.f N2k) [.s 25, .s 26], mS 1 27] [0,1,5] (.seq (Zs [mS 28 1, bC 29 .lss 28 0] [0,1,5,29] (.cond (.s 29) (Zs [.mv 4 (.c (.int .i64 (-1)))] [4] .ret) .skip))
(.seq (Zs [mS 30 0, mS 31 5, xS 32 4 30 31, fS 33 32 2, lF 34 1 33, mS 35 1, bC 36 .rem 35 3, bC 37 .eql 36 0, .bin 38 true .neq (.s 34) (.s 37)] [0,1,5,38] (.cond (.s 38) (Zs [.mv 4 (.c (.int .i64 (-1)))] [4] .ret) .skip))
(Zs [mS 39 1, bC 40 .add 39 1, mS 1 40] [0,1,5] (.seq (Zs [mS 41 0, mS 42 5, xS 43 4 41 42, fS 44 43 3, lF 45 1 44, mS 46 1, bC 47 .rem 46 3, bC 48 .eql 47 0, .bin 49 true .neq (.s 45) (.s 48)] [0,1,5,49] (.cond (.s 49) (Zs [.mv 4 (.c (.int .i64 (-1)))] [4] .ret) .skip))
(pr [mS 50 1, bC 51 .add 50 1, mS 1 51] [0,1,5])))))))))
(pr [mS 10 5, bC 11 .add 10 1, mS 5 11] [0,1,5]))))))
(Zs [mS 52 1, mS 4 52] [4] .ret)))
theorem Cdd (xs : List GLibrary) (k : Int) (hk : 0 ≤ k) (hN : k + (ctL GLibrary.ct xs : Nat) ≤ 4611686018427387904) : Ctr Tryz.prog N4k [aL 4 ((mkL GLibrary.mkd GLibrary.ct xs k).map GLibrary.enc), aI k] [rI (k + (ctL GLibrary.ct xs : Nat))] := by
 refine cA M59 0 53 [(.tmp 4, [false])] Tryz.func107 rfl rfl ?_; unfold M59
 intro hb
 simp only [bdA, bdL, bdT, Kb, Kk, roomB, and_true, List.length_map] at hb
 have hl := hb.1.1
 rw [K9] at hl
 clear hb
 simp only [go_sem]
 refine K5 xs (fun i => [(1, vI (k + (ctL GLibrary.ct (xs.take i) : Nat))), (5, vI i)]) (fun i => []) (fun _ => True) hl ?_
 simp only [go_sem]
 refine ⟨?_, trivial, ?_, ?_⟩
 ·simp only [go_sem, List.take_zero, K18]
  all_goals simp
 ·intro i x hx _ h0 h1 hw
  have hg := K2o (mk := GLibrary.mkd) (c := GLibrary.ct) (k := k) hx
  have hc := Kq (c := GLibrary.ct) (i + 1) (l := xs)
  rw [Ke hx] at hc
  have hK0 : 0 ≤ k + ((ctL GLibrary.ct (xs.take i) : Nat) : Int) := by omega
  have hK1 : k + ((ctL GLibrary.ct (xs.take i) : Nat) : Int) + (GLibrary.ct x : Nat) ≤ 4611686018427387904 := by omega
  generalize hK : k + ((ctL GLibrary.ct (xs.take i) : Nat) : Int) = K at hK0 hK1 hg
  simp only [GLibrary.ct] at hK1
  try simp only [go_sem, K6 hg, h0, h1, K9, GLibrary.mkd, bMk, waK (K := K + 1) (K' := K + 1) (by omega) (by omega) (by omega)]
  refine K0 (C2n x.Digests (K + 1) (by omega) (by omega)) ?_
  have hK1 : 0 ≤ K + 1 + (ctL iCt x.Digests : Nat) := by omega
  generalize eK1 : K + 1 + ((ctL iCt x.Digests : Nat) : Int) = K1 at hK1
  have nK1 : ¬ K1 < 0 := by omega
  simp only [go_sem, hw, K6 hg, h0, h1, K9, GLibrary.mkd, K5z, bMk, nK1, eK1]
  intro _
  simp only [go_sem, waK (K := K1 + 1) (K' := K1 + 1) (by omega) (by omega) (by omega), waK (K := K1 + 1 + 1) (K' := K1 + 2) (by omega) (by omega) (by omega)]
  subst eK1
  rw [Ke hx]
  simp only [GLibrary.ct]
  omega
 ·intro _
  simp only [go_sem, List.take_length, K9]
def GLibrary.mks (x : GLibrary) (k : Int) : GLibrary := { x with Digests := mkL iMk iCt x.Digests (k) }
def GLibrary.cts (x : GLibrary) : Nat := ctL iCt x.Digests
theorem GLibrary.cts_le (x : GLibrary) : x.cts ≤ 16 * x.size := by
 simp only [GLibrary.cts, GLibrary.size]
 have hDigests := ctL_le' (c := iCt) (fun y => by simp only [iCt]; omega) x.Digests
 omega
@[go_sem] theorem GLibrary.mks_len0 (x : GLibrary) (k : Int) : ((x.mks k).Digests).length = x.Digests.length := K9
def GContainer.mkd (x : GContainer) (k : Int) : GContainer := ⟨(mkL GOp.mkd GOp.ct x.Script k), (mkL GEntry.mkd GEntry.ct x.Entries (k + (ctL GOp.ct x.Script : Nat))), (mkL GCapture.mkd GCapture.ct x.Captures ((k + (ctL GOp.ct x.Script : Nat)) + (ctL GEntry.ct x.Entries : Nat))), (((k + (ctL GOp.ct x.Script : Nat)) + (ctL GEntry.ct x.Entries : Nat)) + (ctL GCapture.ct x.Captures : Nat))⟩
def GContainer.ct (x : GContainer) : Nat := 1 + ctL GOp.ct x.Script + ctL GEntry.ct x.Entries + ctL GCapture.ct x.Captures
theorem GContainer.ct_le (x : GContainer) : x.ct ≤ 16 * (1 + x.size) := by
 simp only [GContainer.ct, GContainer.size]
 have h0 := ctL_le' (c := GOp.ct) (fun y => by simp only [GOp.ct]; omega) x.Script
 have h1 := ctL_le' (c := GEntry.ct) (fun y => by simp only [GEntry.ct]; omega) x.Entries
 have h2 := K47 (c := GCapture.ct) (s := GCapture.size) GCapture.ct_le x.Captures
 omega
def M3p : MC :=
(Zs [.mv 4 (ci 0)] [0,1] (.seq (Zs [.mv 5 (ci 0)] [0,1,5] (.block 0 (.loop ([0,1,5], [1,2,3]) (.seq (Zs [mS 6 5, mS 7 0, nS 8 7, bS 9 .lss 6 8] [0,1,5,9] (cX 9 0))
(.seq (.block 1 (Zs [mS 12 0, mS 13 5, xS 14 4 12 13, fS 15 14 0, .loadT 16 1 (.s 15), mS 17 1, .callI 18 [] (.f N5m) [.s 16, .s 17] [1] [0], mS 1 18] [0,1,5] (Zs [mS 19 0, mS 20 5, xS 21 4 19 20, fS 22 21 1, .loadT 23 2 (.s 22), mS 24 1, .callI 25 [] (.f N7g) [.s 23, .s 24] [2] [0], mS 1 25] [0,1,5] (Zs [mS 26 0, mS 27 5, xS 28 4 26 27, fS 29 28 2, .loadT 30 3 (.s 29), mS 31 1, .callI 32 [] (.f N4m) [.s 30, .s 31] [3] [0], mS 1 32] [0,1,5] (Zs [mS 33 0, mS 34 5, mS 35 1, xS 36 4 33 34, fS 37 36 3, sS 1 37 35] [0,1,5] (pr [mS 38 1, bC 39 .add 38 1, mS 1 39] [0,1,5]))))))
(pr [mS 10 5, bC 11 .add 10 1, mS 5 11] [0,1,5]))))))
(Zs [mS 40 1, mS 4 40] [4] .ret)))
theorem C3q (xs : List GContainer) (k : Int) (hk : 0 ≤ k) (hN : k + (ctL GContainer.ct xs : Nat) ≤ 4611686018427387904) : CtrI Tryz.prog N1w [oL 4 (xs.map GContainer.enc), iI k] [some (4, (mkL GContainer.mkd GContainer.ct xs k).map GContainer.enc)] [rI (k + (ctL GContainer.ct xs : Nat))] := by
 refine K10 (M := M3p) (m := 3) (n := 41) (res := [(.tmp 4, [false])]) hmix Tryz.func171 rfl (by kernel_rfl) rfl (by kernel_rfl) (by kernel_rfl) (Nat.le_of_ble_eq_true rfl) rfl rfl ?_; unfold M3p
 intro hb
 have hl := Kt hb
 clear hb
 simp only [go_sem]
 refine K5 xs (fun i => [(1, vI (k + (ctL GContainer.ct (xs.take i) : Nat))), (5, vI i)]) (fun i => [(0, ⟨1, .row true 4 ((mkL GContainer.mkd GContainer.ct (xs.take i) k).map GContainer.enc ++ (xs.drop i).map GContainer.enc)⟩)]) (fun _ => True) hl ?_
 simp only [go_sem]
 refine ⟨?_, trivial, ?_, ?_⟩
 ·simp only [go_sem, List.take_zero, List.drop_zero, K2p, K18]
  all_goals simp
 ·intro i x hx _ h0 h1 hw
  have hR := K38 (mk := GContainer.mkd) (c := GContainer.ct) (k := k) (f := GContainer.enc) hx
  have hA := K36 (mk := GContainer.mkd) (c := GContainer.ct) (k := k) (f := GContainer.enc) hx
  generalize hAe : (mkL GContainer.mkd GContainer.ct (xs.take i) k).map GContainer.enc = A at hR hA
  generalize hBe : (xs.drop (i + 1)).map GContainer.enc = B at hR hA
  obtain ⟨hg, hs, hl, hd⟩ := hA
  have hc := Kq (c := GContainer.ct) (i + 1) (l := xs)
  rw [Ke hx] at hc
  have hK0 : 0 ≤ k + ((ctL GContainer.ct (xs.take i) : Nat) : Int) := by omega
  have hK1 : k + ((ctL GContainer.ct (xs.take i) : Nat) : Int) + (GContainer.ct x : Nat) ≤ 4611686018427387904 := by omega
  generalize hK : k + ((ctL GContainer.ct (xs.take i) : Nat) : Int) = K at hK0 hK1
  simp only [GContainer.ct] at hK1
  simp only [go_sem, hR, hg, hl, h0, h1]
  refine K7 (Cbh x.Script K (by omega) (by omega)) ?_
  have hK1 : 0 ≤ K + (ctL GOp.ct x.Script : Nat) := by omega
  generalize eK1 : K + ((ctL GOp.ct x.Script : Nat) : Int) = K1 at hK1
  simp only [go_sem, hg, hs, hl, hd, h0, h1]
  refine K7 (Cen x.Entries K1 (by omega) (by omega)) ?_
  have hK2 : 0 ≤ K1 + (ctL GEntry.ct x.Entries : Nat) := by omega
  generalize eK2 : K1 + ((ctL GEntry.ct x.Entries : Nat) : Int) = K2 at hK2
  simp only [go_sem, hg, hs, hl, hd, h0, h1]
  refine K7 (Cda x.Captures K2 (by omega) (by omega)) ?_
  have hK3 : 0 ≤ K2 + (ctL GCapture.ct x.Captures : Nat) := by omega
  generalize eK3 : K2 + ((ctL GCapture.ct x.Captures : Nat) : Int) = K3 at hK3
  simp only [go_sem, hw, hg, hs, hl, hd, h0, h1, waK (K := K3 + 1) (K' := K3 + 1) (by omega) (by omega) (by omega)]
  subst eK3
  subst eK2
  subst eK1
  subst hK hAe hBe
  refine ⟨?_, K2e hx⟩
  rw [Ke hx]
  simp only [GContainer.ct]
  omega
 ·intro _
  simp only [go_sem, List.take_length, List.drop_length, List.map_nil, List.append_nil, K9]
def M3r : MC :=
(Zs [.mv 4 (ci 0)] [0,1] (.seq (Zs [.mv 5 (ci 0)] [0,1,5] (.block 0 (.loop ([0,1,5], []) (.seq (Zs [mS 6 5, mS 7 0, nS 8 7, bS 9 .lss 6 8] [0,1,5,9] (cX 9 0))
(.seq (.block 1 (Zs [mS 12 0, mS 13 5, xS 14 4 12 13, fS 15 14 0, lF 16 1 15, mS 17 1, .call 18 [] (.f N5n) [.s 16, .s 17], mS 1 18] [0,1,5] (.seq (Zs [mS 19 1, bC 20 .lss 19 0] [0,1,5,20] (.cond (.s 20) (Zs [.mv 4 (.c (.int .i64 (-1)))] [4] .ret) .skip))
(Zs [mS 21 0, mS 22 5, xS 23 4 21 22, fS 24 23 1, lF 25 1 24, mS 26 1, .call 27 [] (.f N7i) [.s 25, .s 26], mS 1 27] [0,1,5] (.seq (Zs [mS 28 1, bC 29 .lss 28 0] [0,1,5,29] (.cond (.s 29) (Zs [.mv 4 (.c (.int .i64 (-1)))] [4] .ret) .skip))
(Zs [mS 30 0, mS 31 5, xS 32 4 30 31, fS 33 32 2, lF 34 1 33, mS 35 1, .call 36 [] (.f N4o) [.s 34, .s 35], mS 1 36] [0,1,5] (.seq (Zs [mS 37 1, bC 38 .lss 37 0] [0,1,5,38] (.cond (.s 38) (Zs [.mv 4 (.c (.int .i64 (-1)))] [4] .ret) .skip))
(.seq (Zs [mS 39 0, mS 40 5, xS 41 4 39 40, fS 42 41 3, lF 43 1 42, mS 44 1, bS 45 .neq 43 44] [0,1,5,45] (.cond (.s 45) (Zs [.mv 4 (.c (.int .i64 (-1)))] [4] .ret) .skip))
(pr [mS 46 1, bC 47 .add 46 1, mS 1 47] [0,1,5])))))))))
(pr [mS 10 5, bC 11 .add 10 1, mS 5 11] [0,1,5]))))))
(Zs [mS 48 1, mS 4 48] [4] .ret)))
theorem C3s (xs : List GContainer) (k : Int) (hk : 0 ≤ k) (hN : k + (ctL GContainer.ct xs : Nat) ≤ 4611686018427387904) : Ctr Tryz.prog N1x [aL 4 ((mkL GContainer.mkd GContainer.ct xs k).map GContainer.enc), aI k] [rI (k + (ctL GContainer.ct xs : Nat))] := by
 refine cA M3r 0 49 [(.tmp 4, [false])] Tryz.func193 rfl rfl ?_; unfold M3r
 intro hb
 simp only [bdA, bdL, bdT, Kb, Kk, roomB, and_true, List.length_map] at hb
 have hl := hb.1.1
 rw [K9] at hl
 clear hb
 simp only [go_sem]
 refine K5 xs (fun i => [(1, vI (k + (ctL GContainer.ct (xs.take i) : Nat))), (5, vI i)]) (fun i => []) (fun _ => True) hl ?_
 simp only [go_sem]
 refine ⟨?_, trivial, ?_, ?_⟩
 ·simp only [go_sem, List.take_zero, K18]
  all_goals simp
 ·intro i x hx _ h0 h1 hw
  have hg := K2o (mk := GContainer.mkd) (c := GContainer.ct) (k := k) hx
  have hc := Kq (c := GContainer.ct) (i + 1) (l := xs)
  rw [Ke hx] at hc
  have hK0 : 0 ≤ k + ((ctL GContainer.ct (xs.take i) : Nat) : Int) := by omega
  have hK1 : k + ((ctL GContainer.ct (xs.take i) : Nat) : Int) + (GContainer.ct x : Nat) ≤ 4611686018427387904 := by omega
  generalize hK : k + ((ctL GContainer.ct (xs.take i) : Nat) : Int) = K at hK0 hK1 hg
  simp only [GContainer.ct] at hK1
  try simp only [go_sem, K6 hg, h0, h1, K9, GContainer.mkd]
  refine K0 (Cbj x.Script K (by omega) (by omega)) ?_
  have hK1 : 0 ≤ K + (ctL GOp.ct x.Script : Nat) := by omega
  generalize eK1 : K + ((ctL GOp.ct x.Script : Nat) : Int) = K1 at hK1
  have nK1 : ¬ K1 < 0 := by omega
  simp only [go_sem, K6 hg, h0, h1, K9, GContainer.mkd, nK1, eK1]
  intro _
  try simp only [go_sem, hw, K6 hg, h0, h1, K9, hK, GContainer.mkd, bne_self_eq_false, beq_self_eq_true, K5z, bMk, nK1, eK1, waK (K := K1) (K' := K1) rfl (by omega) (by omega), waK (K := K1 + 1) (K' := K1 + 1) (by omega) (by omega) (by omega)]
  refine K0 (Ceo x.Entries K1 (by omega) (by omega)) ?_
  have hK2 : 0 ≤ K1 + (ctL GEntry.ct x.Entries : Nat) := by omega
  generalize eK2 : K1 + ((ctL GEntry.ct x.Entries : Nat) : Int) = K2 at hK2
  have nK2 : ¬ K2 < 0 := by omega
  simp only [go_sem, K6 hg, h0, h1, K9, GContainer.mkd, eK1, nK2, eK2]
  intro _
  try simp only [go_sem, hw, K6 hg, h0, h1, K9, hK, GContainer.mkd, bne_self_eq_false, beq_self_eq_true, K5z, bMk, nK1, eK1, nK2, eK2, waK (K := K2) (K' := K2) rfl (by omega) (by omega), waK (K := K2 + 1) (K' := K2 + 1) (by omega) (by omega) (by omega)]
  refine K0 (Cdb x.Captures K2 (by omega) (by omega)) ?_
  have hK3 : 0 ≤ K2 + (ctL GCapture.ct x.Captures : Nat) := by omega
  generalize eK3 : K2 + ((ctL GCapture.ct x.Captures : Nat) : Int) = K3 at hK3
  have nK3 : ¬ K3 < 0 := by omega
  simp only [go_sem, hw, K6 hg, h0, h1, K9, GContainer.mkd, eK1, eK2, nK3, eK3]
  intro _
  simp only [go_sem, waK (K := K3 + 1) (K' := K3 + 1) (by omega) (by omega) (by omega)]
  subst eK3
  subst eK2
  subst eK1
  rw [Ke hx]
  simp only [GContainer.ct]
  omega
 ·intro _
  simp only [go_sem, List.take_length, K9]
def GContainer.mks (x : GContainer) (k : Int) : GContainer := { x with Script := mkL GOp.mkd GOp.ct x.Script (k), Entries := mkL GEntry.mkd GEntry.ct x.Entries (k + (ctL GOp.ct x.Script : Nat)), Captures := mkL GCapture.mkd GCapture.ct x.Captures (k + (ctL GOp.ct x.Script : Nat) + (ctL GEntry.ct x.Entries : Nat)) }
def GContainer.cts (x : GContainer) : Nat := ctL GOp.ct x.Script + ctL GEntry.ct x.Entries + ctL GCapture.ct x.Captures
theorem GContainer.cts_le (x : GContainer) : x.cts ≤ 16 * x.size := by
 simp only [GContainer.cts, GContainer.size]
 have hScript := ctL_le' (c := GOp.ct) (fun y => by simp only [GOp.ct]; omega) x.Script
 have hEntries := ctL_le' (c := GEntry.ct) (fun y => by simp only [GEntry.ct]; omega) x.Entries
 have hCaptures := K47 (c := GCapture.ct) (s := GCapture.size) GCapture.ct_le x.Captures
 omega
@[go_sem] theorem GContainer.mks_len0 (x : GContainer) (k : Int) : ((x.mks k).Script).length = x.Script.length := K9
@[go_sem] theorem GContainer.mks_len1 (x : GContainer) (k : Int) : ((x.mks k).Entries).length = x.Entries.length := K9
@[go_sem] theorem GContainer.mks_len2 (x : GContainer) (k : Int) : ((x.mks k).Captures).length = x.Captures.length := K9
def GFound.mkd (x : GFound) (k : Int) : GFound := ⟨⟨k, (k + 1), (k + 2)⟩, (k + 3), (k + 4), (k + 5)⟩
def GFound.ct (x : GFound) : Nat := 6
def M8b : MC :=
(Zs [.mv 4 (ci 0)] [0,1] (.seq (Zs [.mv 5 (ci 0)] [0,1,5] (.block 0 (.loop ([0,1,5], []) (.seq (Zs [mS 6 5, mS 7 0, nS 8 7, bS 9 .lss 6 8] [0,1,5,9] (cX 9 0))
(.seq (.block 1 (Zs [mS 12 0, mS 13 5, mS 14 1, xS 15 6 12 13, fS 16 15 0, fS 17 16 0, sS 1 17 14] [0,1,5] (Zs [mS 18 1, bC 19 .add 18 1, mS 1 19] [0,1,5] (Zs [mS 20 0, mS 21 5, mS 22 1, xS 23 6 20 21, fS 24 23 0, fS 25 24 1, sS 1 25 22] [0,1,5] (Zs [mS 26 1, bC 27 .add 26 1, mS 1 27] [0,1,5] (Zs [mS 28 0, mS 29 5, mS 30 1, xS 31 6 28 29, fS 32 31 0, fS 33 32 2, sS 1 33 30] [0,1,5] (Zs [mS 34 1, bC 35 .add 34 1, mS 1 35] [0,1,5] (Zs [mS 36 0, mS 37 5, mS 38 1, xS 39 6 36 37, fS 40 39 3, sS 1 40 38] [0,1,5] (Zs [mS 41 1, bC 42 .add 41 1, mS 1 42] [0,1,5] (Zs [mS 43 0, mS 44 5, mS 45 1, xS 46 6 43 44, fS 47 46 4, sS 1 47 45] [0,1,5] (Zs [mS 48 1, bC 49 .add 48 1, mS 1 49] [0,1,5] (Zs [mS 50 0, mS 51 5, mS 52 1, xS 53 6 50 51, fS 54 53 5, sS 1 54 52] [0,1,5] (pr [mS 55 1, bC 56 .add 55 1, mS 1 56] [0,1,5])))))))))))))
(pr [mS 10 5, bC 11 .add 10 1, mS 5 11] [0,1,5]))))))
(Zs [mS 57 1, mS 4 57] [4] .ret)))
theorem Cep (xs : List GFound) (k : Int) (hk : 0 ≤ k) (hN : k + (ctL GFound.ct xs : Nat) ≤ 4611686018427387904) : CtrI Tryz.prog N7b [oL 6 (xs.map GFound.enc), iI k] [some (6, (mkL GFound.mkd GFound.ct xs k).map GFound.enc)] [rI (k + (ctL GFound.ct xs : Nat))] := by
 refine K10 (M := M8b) (m := 0) (n := 58) (res := [(.tmp 4, [false])]) hmix Tryz.func172 rfl (by kernel_rfl) rfl (by kernel_rfl) (by kernel_rfl) (Nat.le_of_ble_eq_true rfl) rfl rfl ?_; unfold M8b
 intro hb
 have hl := Kt hb
 clear hb
 simp only [go_sem]
 refine K5 xs (fun i => [(1, vI (k + (ctL GFound.ct (xs.take i) : Nat))), (5, vI i)]) (fun i => [(0, ⟨1, .row true 6 ((mkL GFound.mkd GFound.ct (xs.take i) k).map GFound.enc ++ (xs.drop i).map GFound.enc)⟩)]) (fun _ => True) hl ?_
 simp only [go_sem]
 refine ⟨?_, trivial, ?_, ?_⟩
 ·simp only [go_sem, List.take_zero, List.drop_zero, K2p, K18]
  all_goals simp
 ·intro i x hx _ h0 h1 hw
  have hR := K38 (mk := GFound.mkd) (c := GFound.ct) (k := k) (f := GFound.enc) hx
  have hA := K36 (mk := GFound.mkd) (c := GFound.ct) (k := k) (f := GFound.enc) hx
  generalize hAe : (mkL GFound.mkd GFound.ct (xs.take i) k).map GFound.enc = A at hR hA
  generalize hBe : (xs.drop (i + 1)).map GFound.enc = B at hR hA
  obtain ⟨hg, hs, hl, hd⟩ := hA
  have hc := Kq (c := GFound.ct) (i + 1) (l := xs)
  rw [Ke hx] at hc
  have hK0 : 0 ≤ k + ((ctL GFound.ct (xs.take i) : Nat) : Int) := by omega
  have hK1 : k + ((ctL GFound.ct (xs.take i) : Nat) : Int) + (GFound.ct x : Nat) ≤ 4611686018427387904 := by omega
  generalize hK : k + ((ctL GFound.ct (xs.take i) : Nat) : Int) = K at hK0 hK1
  simp only [GFound.ct] at hK1
  simp only [go_sem, hw, hR, hg, hs, hl, h0, h1, waK (K := K + 1) (K' := K + 1) (by omega) (by omega) (by omega), waK (K := K + 1 + 1) (K' := K + 2) (by omega) (by omega) (by omega), waK (K := K + 2 + 1) (K' := K + 3) (by omega) (by omega) (by omega), waK (K := K + 3 + 1) (K' := K + 4) (by omega) (by omega) (by omega), waK (K := K + 4 + 1) (K' := K + 5) (by omega) (by omega) (by omega), waK (K := K + 5 + 1) (K' := K + 6) (by omega) (by omega) (by omega)]
  subst hK hAe hBe
  refine ⟨?_, K2e hx⟩
  rw [Ke hx]
  simp only [GFound.ct]
  omega
 ·intro _
  simp only [go_sem, List.take_length, List.drop_length, List.map_nil, List.append_nil, K9]
def M8c : MC :=
(Zs [.mv 4 (ci 0)] [0,1] (.seq (Zs [.mv 5 (ci 0)] [0,1,5] (.block 0 (.loop ([0,1,5], []) (.seq (Zs [mS 6 5, mS 7 0, nS 8 7, bS 9 .lss 6 8] [0,1,5,9] (cX 9 0))
(.seq (.block 1 (.seq (Zs [mS 12 0, mS 13 5, xS 14 6 12 13, fS 15 14 0, fS 16 15 0, lF 17 1 16, mS 18 1, bS 19 .neq 17 18] [0,1,5,19] (.cond (.s 19) (Zs [.mv 4 (.c (.int .i64 (-1)))] [4] .ret) .skip))
(Zs [mS 20 1, bC 21 .add 20 1, mS 1 21] [0,1,5] (.seq (Zs [mS 22 0, mS 23 5, xS 24 6 22 23, fS 25 24 0, fS 26 25 1, lF 27 1 26, mS 28 1, bS 29 .neq 27 28] [0,1,5,29] (.cond (.s 29) (Zs [.mv 4 (.c (.int .i64 (-1)))] [4] .ret) .skip))
(Zs [mS 30 1, bC 31 .add 30 1, mS 1 31] [0,1,5] (.seq (Zs [mS 32 0, mS 33 5, xS 34 6 32 33, fS 35 34 0, fS 36 35 2, lF 37 1 36, mS 38 1, bS 39 .neq 37 38] [0,1,5,39] (.cond (.s 39) (Zs [.mv 4 (.c (.int .i64 (-1)))] [4] .ret) .skip))
(Zs [mS 40 1, bC 41 .add 40 1, mS 1 41] [0,1,5] (.seq (Zs [mS 42 0, mS 43 5, xS 44 6 42 43, fS 45 44 3, lF 46 1 45, mS 47 1, bS 48 .neq 46 47] [0,1,5,48] (.cond (.s 48) (Zs [.mv 4 (.c (.int .i64 (-1)))] [4] .ret) .skip))
(Zs [mS 49 1, bC 50 .add 49 1, mS 1 50] [0,1,5] (.seq (Zs [mS 51 0, mS 52 5, xS 53 6 51 52, fS 54 53 4, lF 55 1 54, mS 56 1, bS 57 .neq 55 56] [0,1,5,57] (.cond (.s 57) (Zs [.mv 4 (.c (.int .i64 (-1)))] [4] .ret) .skip))
(Zs [mS 58 1, bC 59 .add 58 1, mS 1 59] [0,1,5] (.seq (Zs [mS 60 0, mS 61 5, xS 62 6 60 61, fS 63 62 5, lF 64 1 63, mS 65 1, bS 66 .neq 64 65] [0,1,5,66] (.cond (.s 66) (Zs [.mv 4 (.c (.int .i64 (-1)))] [4] .ret) .skip))
(pr [mS 67 1, bC 68 .add 67 1, mS 1 68] [0,1,5])))))))))))))
(pr [mS 10 5, bC 11 .add 10 1, mS 5 11] [0,1,5]))))))
(Zs [mS 69 1, mS 4 69] [4] .ret)))
theorem Ceq (xs : List GFound) (k : Int) (hk : 0 ≤ k) (hN : k + (ctL GFound.ct xs : Nat) ≤ 4611686018427387904) : Ctr Tryz.prog N7c [aL 6 ((mkL GFound.mkd GFound.ct xs k).map GFound.enc), aI k] [rI (k + (ctL GFound.ct xs : Nat))] := by
 refine cA M8c 0 70 [(.tmp 4, [false])] Tryz.func194 rfl rfl ?_; unfold M8c
 intro hb
 simp only [bdA, bdL, bdT, Kb, Kk, roomB, and_true, List.length_map] at hb
 have hl := hb.1.1
 rw [K9] at hl
 clear hb
 simp only [go_sem]
 refine K5 xs (fun i => [(1, vI (k + (ctL GFound.ct (xs.take i) : Nat))), (5, vI i)]) (fun i => []) (fun _ => True) hl ?_
 simp only [go_sem]
 refine ⟨?_, trivial, ?_, ?_⟩
 ·simp only [go_sem, List.take_zero, K18]
  all_goals simp
 ·intro i x hx _ h0 h1 hw
  have hg := K2o (mk := GFound.mkd) (c := GFound.ct) (k := k) hx
  have hc := Kq (c := GFound.ct) (i + 1) (l := xs)
  rw [Ke hx] at hc
  have hK0 : 0 ≤ k + ((ctL GFound.ct (xs.take i) : Nat) : Int) := by omega
  have hK1 : k + ((ctL GFound.ct (xs.take i) : Nat) : Int) + (GFound.ct x : Nat) ≤ 4611686018427387904 := by omega
  generalize hK : k + ((ctL GFound.ct (xs.take i) : Nat) : Int) = K at hK0 hK1 hg
  simp only [GFound.ct] at hK1
  simp only [go_sem, hw, K6 hg, h0, h1, K9, GFound.mkd, waK (K := K + 1) (K' := K + 1) (by omega) (by omega) (by omega), waK (K := K + 1 + 1) (K' := K + 2) (by omega) (by omega) (by omega), waK (K := K + 2 + 1) (K' := K + 3) (by omega) (by omega) (by omega), waK (K := K + 3 + 1) (K' := K + 4) (by omega) (by omega) (by omega), waK (K := K + 4 + 1) (K' := K + 5) (by omega) (by omega) (by omega), waK (K := K + 5 + 1) (K' := K + 6) (by omega) (by omega) (by omega)]
  rw [Ke hx]
  simp only [GFound.ct]
  omega
 ·intro _
  simp only [go_sem, List.take_length, K9]
def GDisk.mks (x : GDisk) (k : Int) : GDisk := { x with Containers := mkL GContainer.mkd GContainer.ct x.Containers (k), Index := mkL GFound.mkd GFound.ct x.Index (k + (ctL GContainer.ct x.Containers : Nat)), Wanted := mkL GContainer.mkd GContainer.ct x.Wanted (k + (ctL GContainer.ct x.Containers : Nat) + (ctL GFound.ct x.Index : Nat)) }
def GDisk.cts (x : GDisk) : Nat := ctL GContainer.ct x.Containers + ctL GFound.ct x.Index + ctL GContainer.ct x.Wanted
theorem GDisk.cts_le (x : GDisk) : x.cts ≤ 16 * x.size := by
 simp only [GDisk.cts, GDisk.size]
 have hContainers := K47 (c := GContainer.ct) (s := GContainer.size) GContainer.ct_le x.Containers
 have hIndex := ctL_le' (c := GFound.ct) (fun y => by simp only [GFound.ct]; omega) x.Index
 have hWanted := K47 (c := GContainer.ct) (s := GContainer.size) GContainer.ct_le x.Wanted
 omega
@[go_sem] theorem GDisk.mks_len0 (x : GDisk) (k : Int) : ((x.mks k).Containers).length = x.Containers.length := K9
@[go_sem] theorem GDisk.mks_len1 (x : GDisk) (k : Int) : ((x.mks k).Index).length = x.Index.length := K9
@[go_sem] theorem GDisk.mks_len2 (x : GDisk) (k : Int) : ((x.mks k).Wanted).length = x.Wanted.length := K9
def Maq : MC :=
(Zs [.box 2 3 (.s 0), .mv 4 (ci 0)] [1,2] (Zs [fS 5 2 0, lF 6 1 5, mS 7 1, .callI 8 [] (.f N1w) [.s 6, .s 7] [0] [], mS 1 8] [1,2] (Zs [fS 9 2 1, lF 10 1 9, mS 11 1, .callI 12 [] (.f N7b) [.s 10, .s 11] [1] [], mS 1 12] [1,2] (Zs [fS 13 2 2, lF 14 1 13, mS 15 1, .callI 16 [] (.f N1w) [.s 14, .s 15] [2] [], mS 1 16] [1] (Zs [mS 17 1, mS 4 17] [4] .ret)))))
theorem Cg4 (x : GDisk) (k : Int) (hk : 0 ≤ k) (hN : k + (x.cts : Nat) ≤ 4611686018427387904) : CtrI Tryz.prog Na5 [oS x.enc, iI k] [some (4, (x.mks k).Containers.map GContainer.enc), some (6, (x.mks k).Index.map GFound.enc), some (4, (x.mks k).Wanted.map GContainer.enc)] [rI (k + (x.cts : Nat))] := by
 refine K10 (M := Maq) (m := 1) (n := 18) (res := [(.tmp 4, [false])]) hmix Tryz.func88 rfl (by kernel_rfl) rfl (by kernel_rfl) (by kernel_rfl) (Nat.le_of_ble_eq_true rfl) rfl rfl ?_; unfold Maq
 intro hb
 clear hb
 simp only [GDisk.cts] at hN ⊢
 simp only [go_sem]
 refine K7 (C3q x.Containers (k) (by omega) (by omega)) ?_
 simp only [go_sem]
 refine K7 (Cep x.Index (k + (ctL GContainer.ct x.Containers : Nat)) (by omega) (by omega)) ?_
 simp only [go_sem]
 refine K7 (C3q x.Wanted (k + (ctL GContainer.ct x.Containers : Nat) + (ctL GFound.ct x.Index : Nat)) (by omega) (by omega)) ?_
 simp only [go_sem]
 all_goals (try omega)
 repeat' (first | rfl | omega | refine And.intro ?_ ?_)
def Mar : MC := Y12 N1x N7c N1x
theorem Cg5 (x : GDisk) (k : Int) (hk : 0 ≤ k) (hN : k + (x.cts : Nat) ≤ 4611686018427387904) : Ctr Tryz.prog Na6 [aS (x.mks k).enc, aI k] [rI (k + (x.cts : Nat))] := by
 refine cA Mar 1 24 [(.tmp 4, [false])] Tryz.func105 rfl rfl ?_; unfold Mar
 intro hb
 clear hb
 simp only [GDisk.cts] at hN ⊢
 simp only [go_sem]
 refine K0 (C3s x.Containers (k) (by omega) (by omega)) ?_
 have n1 : ¬ k + (ctL GContainer.ct x.Containers : Nat) < 0 := by omega
 simp only [go_sem, n1]
 try intro _
 refine K0 (Ceq x.Index (k + (ctL GContainer.ct x.Containers : Nat)) (by omega) (by omega)) ?_
 have n2 : ¬ k + (ctL GContainer.ct x.Containers : Nat) + (ctL GFound.ct x.Index : Nat) < 0 := by omega
 simp only [go_sem, n2]
 try intro _
 refine K0 (C3s x.Wanted (k + (ctL GContainer.ct x.Containers : Nat) + (ctL GFound.ct x.Index : Nat)) (by omega) (by omega)) ?_
 have n3 : ¬ k + (ctL GContainer.ct x.Containers : Nat) + (ctL GFound.ct x.Index : Nat) + (ctL GContainer.ct x.Wanted : Nat) < 0 := by omega
 simp only [go_sem, n3]
 try intro _
 all_goals (try omega)
 all_goals (try simp only [n1, n2, n3])
def GArchive.mks (x : GArchive) (k : Int) : GArchive := { x with Site := mkL GVersion.mkd GVersion.ct x.Site (k), Script := mkL GOp.mkd GOp.ct x.Script (k + (ctL GVersion.ct x.Site : Nat)), Disk := x.Disk.mks (k + (ctL GVersion.ct x.Site : Nat) + (ctL GOp.ct x.Script : Nat)), Exclusions := mkL GExclusion.mkd GExclusion.ct x.Exclusions (k + (ctL GVersion.ct x.Site : Nat) + (ctL GOp.ct x.Script : Nat) + (x.Disk.cts : Nat)), Libraries := mkL GLibrary.mkd GLibrary.ct x.Libraries (k + (ctL GVersion.ct x.Site : Nat) + (ctL GOp.ct x.Script : Nat) + (x.Disk.cts : Nat) + (ctL GExclusion.ct x.Exclusions : Nat)), Keys := mkL iMk iCt x.Keys (k + (ctL GVersion.ct x.Site : Nat) + (ctL GOp.ct x.Script : Nat) + (x.Disk.cts : Nat) + (ctL GExclusion.ct x.Exclusions : Nat) + (ctL GLibrary.ct x.Libraries : Nat)), Statements := mkL GStatement.mkd GStatement.ct x.Statements (k + (ctL GVersion.ct x.Site : Nat) + (ctL GOp.ct x.Script : Nat) + (x.Disk.cts : Nat) + (ctL GExclusion.ct x.Exclusions : Nat) + (ctL GLibrary.ct x.Libraries : Nat) + (ctL iCt x.Keys : Nat)) }
def GArchive.cts (x : GArchive) : Nat := ctL GVersion.ct x.Site + ctL GOp.ct x.Script + x.Disk.cts + ctL GExclusion.ct x.Exclusions + ctL GLibrary.ct x.Libraries + ctL iCt x.Keys + ctL GStatement.ct x.Statements
theorem GArchive.cts_le (x : GArchive) : x.cts ≤ 16 * x.size := by
 simp only [GArchive.cts, GArchive.size]
 have hSite := K47 (c := GVersion.ct) (s := GVersion.size) GVersion.ct_le x.Site
 have hScript := ctL_le' (c := GOp.ct) (fun y => by simp only [GOp.ct]; omega) x.Script
 have hDisk := GDisk.cts_le x.Disk
 have hExclusions := ctL_le' (c := GExclusion.ct) (fun y => by simp only [GExclusion.ct]; omega) x.Exclusions
 have hLibraries := K47 (c := GLibrary.ct) (s := GLibrary.size) GLibrary.ct_le x.Libraries
 have hKeys := ctL_le' (c := iCt) (fun y => by simp only [iCt]; omega) x.Keys
 have hStatements := ctL_le' (c := GStatement.ct) (fun y => by simp only [GStatement.ct]; omega) x.Statements
 omega
@[go_sem] theorem GArchive.mks_len0 (x : GArchive) (k : Int) : ((x.mks k).Site).length = x.Site.length := K9
@[go_sem] theorem GArchive.mks_len1 (x : GArchive) (k : Int) : ((x.mks k).Script).length = x.Script.length := K9
@[go_sem] theorem GArchive.mks_len2 (x : GArchive) (k : Int) : ((x.mks k).Disk.Containers).length = x.Disk.Containers.length := K9
@[go_sem] theorem GArchive.mks_len3 (x : GArchive) (k : Int) : ((x.mks k).Disk.Index).length = x.Disk.Index.length := K9
@[go_sem] theorem GArchive.mks_len4 (x : GArchive) (k : Int) : ((x.mks k).Disk.Wanted).length = x.Disk.Wanted.length := K9
@[go_sem] theorem GArchive.mks_len5 (x : GArchive) (k : Int) : ((x.mks k).Exclusions).length = x.Exclusions.length := K9
@[go_sem] theorem GArchive.mks_len6 (x : GArchive) (k : Int) : ((x.mks k).Libraries).length = x.Libraries.length := K9
@[go_sem] theorem GArchive.mks_len7 (x : GArchive) (k : Int) : ((x.mks k).Keys).length = x.Keys.length := K9
@[go_sem] theorem GArchive.mks_len8 (x : GArchive) (k : Int) : ((x.mks k).Statements).length = x.Statements.length := K9
def M6f : MC :=
(Zs [.box 2 9 (.s 0), .mv 4 (ci 0)] [1,2] (Zs [fS 5 2 0, lF 6 1 5, mS 7 1, .callI 8 [] (.f N4h) [.s 6, .s 7] [0] [], mS 1 8] [1,2] (Zs [fS 9 2 1, lF 10 1 9, mS 11 1, .callI 12 [] (.f N5m) [.s 10, .s 11] [1] [], mS 1 12] [1,2] (Zs [fS 13 2 2, lT 14 3 13, mS 15 1, .callI 16 [] (.f Na5) [.s 14, .s 15] [2,3,4] [], mS 1 16] [1,2] (Zs [fS 17 2 5, lF 18 1 17, mS 19 1, .callI 20 [] (.f N3f) [.s 18, .s 19] [5] [], mS 1 20] [1,2] (Zs [fS 21 2 6, lF 22 1 21, mS 23 1, .callI 24 [] (.f N4i) [.s 22, .s 23] [6] [], mS 1 24] [1,2] (Zs [fS 25 2 7, lF 26 1 25, mS 27 1, .callI 28 [] (.f N2j) [.s 26, .s 27] [7] [], mS 1 28] [1,2] (Zs [fS 29 2 8, lF 30 1 29, mS 31 1, .callI 32 [] (.f N3g) [.s 30, .s 31] [8] [], mS 1 32] [1] (Zs [mS 33 1, mS 4 33] [4] .ret)))))))))
theorem C6g (x : GArchive) (k : Int) (hk : 0 ≤ k) (hN : k + (x.cts : Nat) ≤ 4611686018427387904) : CtrI Tryz.prog N2p [oS x.enc, iI k] [some (9, (x.mks k).Site.map GVersion.enc), some (4, (x.mks k).Script.map GOp.enc), some (4, (x.mks k).Disk.Containers.map GContainer.enc), some (6, (x.mks k).Disk.Index.map GFound.enc), some (4, (x.mks k).Disk.Wanted.map GContainer.enc), some (5, (x.mks k).Exclusions.map GExclusion.enc), some (4, (x.mks k).Libraries.map GLibrary.enc), some (1, (x.mks k).Keys.map encI), some (4, (x.mks k).Statements.map GStatement.enc)] [rI (k + (x.cts : Nat))] := by
 refine K10 (M := M6f) (m := 1) (n := 34) (res := [(.tmp 4, [false])]) hmix Tryz.func23 rfl (by kernel_rfl) rfl (by kernel_rfl) (by kernel_rfl) (Nat.le_of_ble_eq_true rfl) rfl rfl ?_; unfold M6f
 intro hb
 clear hb
 simp only [GArchive.cts] at hN ⊢
 simp only [go_sem]
 refine K7 (Cd8 x.Site (k) (by omega) (by omega)) ?_
 simp only [go_sem]
 refine K7 (Cbh x.Script (k + (ctL GVersion.ct x.Site : Nat)) (by omega) (by omega)) ?_
 simp only [go_sem]
 refine K7 (Cg4 x.Disk (k + (ctL GVersion.ct x.Site : Nat) + (ctL GOp.ct x.Script : Nat)) (by omega) (by omega)) ?_
 simp only [go_sem]
 refine K7 (Cbk x.Exclusions (k + (ctL GVersion.ct x.Site : Nat) + (ctL GOp.ct x.Script : Nat) + (x.Disk.cts : Nat)) (by omega) (by omega)) ?_
 simp only [go_sem]
 refine K7 (Cdc x.Libraries (k + (ctL GVersion.ct x.Site : Nat) + (ctL GOp.ct x.Script : Nat) + (x.Disk.cts : Nat) + (ctL GExclusion.ct x.Exclusions : Nat)) (by omega) (by omega)) ?_
 simp only [go_sem]
 refine K7 (C2m x.Keys (k + (ctL GVersion.ct x.Site : Nat) + (ctL GOp.ct x.Script : Nat) + (x.Disk.cts : Nat) + (ctL GExclusion.ct x.Exclusions : Nat) + (ctL GLibrary.ct x.Libraries : Nat)) (by omega) (by omega)) ?_
 simp only [go_sem]
 refine K7 (Cbm x.Statements (k + (ctL GVersion.ct x.Site : Nat) + (ctL GOp.ct x.Script : Nat) + (x.Disk.cts : Nat) + (ctL GExclusion.ct x.Exclusions : Nat) + (ctL GLibrary.ct x.Libraries : Nat) + (ctL iCt x.Keys : Nat)) (by omega) (by omega)) ?_
 simp only [go_sem]
 all_goals (try omega)
 repeat' (first | rfl | omega | refine And.intro ?_ ?_)
def M6h : MC := Y13 N4j N5n Na6 N3h N4k N2k N3i
theorem C6i (x : GArchive) (k : Int) (hk : 0 ≤ k) (hN : k + (x.cts : Nat) ≤ 4611686018427387904) : Ctr Tryz.prog N2q [aS (x.mks k).enc, aI k] [rI (k + (x.cts : Nat))] := by
 refine cA M6h 1 48 [(.tmp 4, [false])] Tryz.func28 rfl rfl ?_; unfold M6h
 intro hb
 clear hb
 simp only [GArchive.cts] at hN ⊢
 simp only [go_sem]
 refine K0 (Cd9 x.Site (k) (by omega) (by omega)) ?_
 have n1 : ¬ k + (ctL GVersion.ct x.Site : Nat) < 0 := by omega
 simp only [go_sem, n1]
 try intro _
 refine K0 (Cbj x.Script (k + (ctL GVersion.ct x.Site : Nat)) (by omega) (by omega)) ?_
 have n2 : ¬ k + (ctL GVersion.ct x.Site : Nat) + (ctL GOp.ct x.Script : Nat) < 0 := by omega
 simp only [go_sem, n2]
 try intro _
 refine K0 (Cg5 x.Disk (k + (ctL GVersion.ct x.Site : Nat) + (ctL GOp.ct x.Script : Nat)) (by omega) (by omega)) ?_
 have n3 : ¬ k + (ctL GVersion.ct x.Site : Nat) + (ctL GOp.ct x.Script : Nat) + (x.Disk.cts : Nat) < 0 := by omega
 simp only [go_sem, n3]
 try intro _
 refine K0 (Cbl x.Exclusions (k + (ctL GVersion.ct x.Site : Nat) + (ctL GOp.ct x.Script : Nat) + (x.Disk.cts : Nat)) (by omega) (by omega)) ?_
 have n4 : ¬ k + (ctL GVersion.ct x.Site : Nat) + (ctL GOp.ct x.Script : Nat) + (x.Disk.cts : Nat) + (ctL GExclusion.ct x.Exclusions : Nat) < 0 := by omega
 simp only [go_sem, n4]
 try intro _
 refine K0 (Cdd x.Libraries (k + (ctL GVersion.ct x.Site : Nat) + (ctL GOp.ct x.Script : Nat) + (x.Disk.cts : Nat) + (ctL GExclusion.ct x.Exclusions : Nat)) (by omega) (by omega)) ?_
 have n5 : ¬ k + (ctL GVersion.ct x.Site : Nat) + (ctL GOp.ct x.Script : Nat) + (x.Disk.cts : Nat) + (ctL GExclusion.ct x.Exclusions : Nat) + (ctL GLibrary.ct x.Libraries : Nat) < 0 := by omega
 simp only [go_sem, n5]
 try intro _
 refine K0 (C2n x.Keys (k + (ctL GVersion.ct x.Site : Nat) + (ctL GOp.ct x.Script : Nat) + (x.Disk.cts : Nat) + (ctL GExclusion.ct x.Exclusions : Nat) + (ctL GLibrary.ct x.Libraries : Nat)) (by omega) (by omega)) ?_
 have n6 : ¬ k + (ctL GVersion.ct x.Site : Nat) + (ctL GOp.ct x.Script : Nat) + (x.Disk.cts : Nat) + (ctL GExclusion.ct x.Exclusions : Nat) + (ctL GLibrary.ct x.Libraries : Nat) + (ctL iCt x.Keys : Nat) < 0 := by omega
 simp only [go_sem, n6]
 try intro _
 refine K0 (Cbn x.Statements (k + (ctL GVersion.ct x.Site : Nat) + (ctL GOp.ct x.Script : Nat) + (x.Disk.cts : Nat) + (ctL GExclusion.ct x.Exclusions : Nat) + (ctL GLibrary.ct x.Libraries : Nat) + (ctL iCt x.Keys : Nat)) (by omega) (by omega)) ?_
 have n7 : ¬ k + (ctL GVersion.ct x.Site : Nat) + (ctL GOp.ct x.Script : Nat) + (x.Disk.cts : Nat) + (ctL GExclusion.ct x.Exclusions : Nat) + (ctL GLibrary.ct x.Libraries : Nat) + (ctL iCt x.Keys : Nat) + (ctL GStatement.ct x.Statements : Nat) < 0 := by omega
 simp only [go_sem, n7]
 try intro _
 all_goals (try omega)
 all_goals (try simp only [n1, n2, n3, n4, n5, n6, n7])
def GChange.mkd (x : GChange) (k : Int) : GChange := ⟨k, (k + 1)⟩
def GChange.ct (x : GChange) : Nat := 2
def GPlayed.mks (x : GPlayed) (k : Int) : GPlayed := { x with State := x.State.mks (k) }
def GPlayed.cts (x : GPlayed) : Nat := x.State.cts
theorem GPlayed.cts_le (x : GPlayed) : x.cts ≤ 16 * x.size := by
 simp only [GPlayed.cts, GPlayed.size]
 have hState := GState.cts_le x.State
 omega
@[go_sem] theorem GPlayed.mks_len0 (x : GPlayed) (k : Int) : ((x.mks k).State.Regs).length = x.State.Regs.length := K9
@[go_sem] theorem GPlayed.mks_len1 (x : GPlayed) (k : Int) : ((x.mks k).State.Slots).length = x.State.Slots.length := K9
@[go_sem] theorem GPlayed.mks_len2 (x : GPlayed) (k : Int) : ((x.mks k).State.Nodes).length = x.State.Nodes.length := K9
end Go.Proofs.YtgkeplbnnjogiaaGreatR
namespace Go.Proofs.YtgkeplbnnjogiaaGreatR
open Go Go.RowKit Go.Proofs
open Nat (reduceEqDiff reduceLT reduceLeDiff reduceAdd reduceMul)
open List (reduceReplicate)
def Y18 (v0 : Nat) (v1 : Nat) : MC :=
(Zs [.nilo 2 0 v0] [0] (.seq (.condN 3 4 (.s 0) (Zs [.nilo 2 0 v0] [2] .ret) .skip)
(Zs [.lit 5 0 v0 v1 [], mS 6 0, .app 7 0 v0 v1 (.s 5) (.s 6), mS 2 7] [2] .ret)))
attribute [go_sem] Y18
def M32 : MC := Y18 1 8
theorem Cc (xs : List Int) (hs : xs.length ≤ 1073741824) : Ctr Tryz.prog N3 [aL 1 (xs.map encI)] [rL 1 (xs.map encI)] := by
 refine cA M32 1 8 [(.tmp 2, [true])] Tryz.func185 rfl rfl ?_; unfold M32
 intro hb
 clear hb
 simp only [go_sem, ↓Km (f := encI) (fun _ => rfl) xs]
 refine ⟨fun h => ?_, ?_⟩
 ·rw [h]
 ·simp only [roomB]
  first | done | omega | (refine ⟨?_, ?_⟩ <;> first | omega | simp)
def M1q : MC := Y18 4 32
theorem C2y (xs : List GOp) (hs : xs.length ≤ 1073741824) : Ctr Tryz.prog N8 [aL 4 (xs.map GOp.enc)] [rL 4 (xs.map GOp.enc)] := by
 refine cA M1q 1 8 [(.tmp 2, [true])] Tryz.func181 rfl rfl ?_; unfold M1q
 intro hb
 clear hb
 simp only [go_sem, ↓Km (f := GOp.enc) (fun _ => rfl) xs]
 refine ⟨fun h => ?_, ?_⟩
 ·rw [h]
 ·simp only [roomB]
  first | done | omega | (refine ⟨?_, ?_⟩ <;> first | omega | simp)
def M12 : MC := Y18 5 40
theorem C41 (xs : List GEntry) (hs : xs.length ≤ 1073741824) : Ctr Tryz.prog Nb [aL 5 (xs.map GEntry.enc)] [rL 5 (xs.map GEntry.enc)] := by
 refine cA M12 1 8 [(.tmp 2, [true])] Tryz.func353 rfl rfl ?_; unfold M12
 intro hb
 clear hb
 simp only [go_sem, ↓Km (f := GEntry.enc) (fun _ => rfl) xs]
 refine ⟨fun h => ?_, ?_⟩
 ·rw [h]
 ·simp only [roomB]
  first | done | omega | (refine ⟨?_, ?_⟩ <;> first | omega | simp)
def Mo : MC := Y18 5 40
theorem C9q (xs : List GExclusion) (hs : xs.length ≤ 1073741824) : Ctr Tryz.prog Nl [aL 5 (xs.map GExclusion.enc)] [rL 5 (xs.map GExclusion.enc)] := by
 refine cA Mo 1 8 [(.tmp 2, [true])] Tryz.func183 rfl rfl ?_; unfold Mo
 intro hb
 clear hb
 simp only [go_sem, ↓Km (f := GExclusion.enc) (fun _ => rfl) xs]
 refine ⟨fun h => ?_, ?_⟩
 ·rw [h]
 ·simp only [roomB]
  first | done | omega | (refine ⟨?_, ?_⟩ <;> first | omega | simp)
def Mp : MC := Y18 4 32
theorem C9r (xs : List GStatement) (hs : xs.length ≤ 1073741824) : Ctr Tryz.prog Nm [aL 4 (xs.map GStatement.enc)] [rL 4 (xs.map GStatement.enc)] := by
 refine cA Mp 1 8 [(.tmp 2, [true])] Tryz.func186 rfl rfl ?_; unfold Mp
 intro hb
 clear hb
 simp only [go_sem, ↓Km (f := GStatement.enc) (fun _ => rfl) xs]
 refine ⟨fun h => ?_, ?_⟩
 ·rw [h]
 ·simp only [roomB]
  first | done | omega | (refine ⟨?_, ?_⟩ <;> first | omega | simp)
def M13 : MC := Y18 6 48
theorem Cc3 (xs : List GFound) (hs : xs.length ≤ 1073741824) : Ctr Tryz.prog N10 [aL 6 (xs.map GFound.enc)] [rL 6 (xs.map GFound.enc)] := by
 refine cA M13 1 8 [(.tmp 2, [true])] Tryz.func295 rfl rfl ?_; unfold M13
 intro hb
 clear hb
 simp only [go_sem, ↓Km (f := GFound.enc) (fun _ => rfl) xs]
 refine ⟨fun h => ?_, ?_⟩
 ·rw [h]
 ·simp only [roomB]
  first | done | omega | (refine ⟨?_, ?_⟩ <;> first | omega | simp)
end Go.Proofs.YtgkeplbnnjogiaaGreatR
namespace Go.Proofs.YtgkeplbnnjogiaaGreatR
open Go Go.RowKit Go.Proofs
open Nat (reduceEqDiff reduceLT reduceLeDiff reduceAdd reduceMul)
open List (reduceReplicate)
theorem tt {p : Prop} [Decidable p] (h : p) : true = decide p := (decide_eq_true h).symm
theorem K3y {α : Type} {p : α → Bool} {l : List α} {k : Nat} {x : α} (hx : l[k]? = some x) (h : (l.take k).any p = false) (hn : p x = false) : (l.take (k + 1)).any p = false := by
 rw [Kc hx, List.any_append, h]
 simp [hn]
theorem any_here {α : Type} {p : α → Bool} {l : List α} {k : Nat} {x : α} (hx : l[k]? = some x) (hn : p x = true) : l.any p = true := List.any_eq_true.2 ⟨x, Kx hx, hn⟩
def idxF {α : Type} (p : α → Bool) (l : List α) : Int := if l.any p then (l.takeWhile fun x => !p x).length else -1
theorem K43 {α : Type} {p : α → Bool} {l : List α} {k : Nat} {x : α} (hx : l[k]? = some x) (h : (l.take k).any p = false) (hn : p x = true) : idxF p l = k := by
 unfold idxF
 rw [any_here hx hn, if_pos rfl]
 congr 1
 have e : l = l.take k ++ x :: l.drop (k + 1) := K26 hx
 rw [e, List.takeWhile_append_of_pos]
 ·simp [hn]
  have := Kr hx
  omega
 ·intro a ha
  have := List.any_eq_false.1 h a ha
  simpa using this
theorem K44 {α : Type} {p : α → Bool} {l : List α} (h : l.any p = false) : idxF p l = -1 := by
 unfold idxF; rw [h]; rfl
theorem K5q {α : Type} {p : α → Bool} {l : List α} : decide (idxF p l ≥ 0) = l.any p := by
 unfold idxF
 cases l.any p <;> simp
def idxO {α : Type} [DecidableEq α] (n : α) (l : List α) : Int := idxF (fun x => decide (n = x)) l
theorem idxO_ge {α : Type} [DecidableEq α] {n : α} {l : List α} : decide (idxO n l ≥ 0) = decide (n ∈ l) := by
 unfold idxO
 rw [K5q]
 rw [Bool.eq_iff_iff]
 simp
def M33 : MC :=
(Zs [.mv 4 (ci 0)] [0,1] (.seq (Zs [mS 6 0, nS 7 6, .mv 8 (ci 0)] [0,1,7,8] (.block 0 (.loop ([0,1,7,8], []) (Zs [bS 9 .lss 8 7] [0,1,7,8,9] (.seq (cX 9 0)
(.seq (.block 1 (Zs [mS 10 8, mS 5 10] [0,1,5,7,8] (Zs [mS 11 1, mS 12 0, mS 13 5, xS 14 1 12 13, lF 15 1 14, bS 16 .eql 11 15] [0,1,5,7,8,16] (.cond (.s 16) (Zs [mS 17 5, mS 4 17] [4] .ret) .skip))))
(pr [bC 18 .add 8 1, mS 8 18] [0,1,7,8])))))))
(Zs [.mv 4 (.c (.int .i64 (-1)))] [4] .ret)))
theorem Cdz (xs : List Int) (n : Int) : Ctr Tryz.prog N31 [aL 1 (xs.map encI), aI n] [rI (idxO n xs)] := by
 refine cA M33 0 19 [(.tmp 4, [false])] Tryz.func191 rfl rfl ?_; unfold M33
 intro hb
 simp only [bdA, bdL, bdT, Kb, Kk, roomB, and_true, List.length_map] at hb
 obtain ⟨⟨hl, -⟩, -⟩ := hb
 simp only [go_sem]
 refine K5 xs (fun k => [(8, vI k)]) (fun k => []) (fun k => (xs.take k).any (fun x => decide (n = x)) = false) hl ?_
 simp only [go_sem]
 refine ⟨?_, by simp, ?_, ?_⟩
 ·simp only [go_sem]
 ·intro k x hx h h0 h1 hw
  simp only [go_sem, K6 hx, h0, h1, hw]
  exact ⟨fun hn => (K43 hx h (decide_eq_true (by simpa using hn))).symm, fun hn => K3y hx h (decide_eq_false (by simpa using hn))⟩
 ·intro h
  simp only [go_sem]
  rw [List.take_length] at h
  exact (K44 h).symm
def Y19 (v0 : Nat) : MC :=
(Zs [.mv 4 cF] [0,1] (Zs [mS 5 0, mS 6 1, .call 7 [] (.f v0) [.s 5, .s 6], bC 8 .geq 7 0, mS 4 8] [4] .ret))
attribute [go_sem] Y19
def M2o : MC := Y19 N31
theorem Cbo (xs : List Int) (n : Int) : Ctr Tryz.prog N19 [aL 1 (xs.map encI), aI n] [rB (decide (n ∈ xs))] := by
 refine cA M2o 0 9 [(.tmp 4, [false])] Tryz.func101 rfl rfl ?_; unfold M2o
 intro hb
 clear hb
 simp only [go_sem]
 refine K0 (Cdz xs n) ?_
 simp only [go_sem]
 intros
 exact idxO_ge
def encS (s : ByteArray) : List T := [tS s]
attribute [go_sem] encS
abbrev aStr (s : ByteArray) : Bool × List T := (false, [tS s])
attribute [go_sem] aStr
def Y20 (v0 : Nat) : MC :=
(Zs [.mv 4 (ci 0)] [0,1] (.seq (Zs [mS 6 0, nS 7 6, .mv 8 (ci 0)] [0,1,7,8] (.block 0 (.loop ([0,1,7,8], []) (Zs [bS 9 .lss 8 7] [0,1,7,8,9] (.seq (cX 9 0)
(.seq (.block 1 (Zs [mS 10 8, mS 5 10] [0,1,5,7,8] (Zs [mS 11 1, mS 12 0, mS 13 5, xS 14 v0 12 13, lT 15 v0 14, .call 16 [] (.s 11) [.s 15]] [0,1,5,7,8,16] (.cond (.s 16) (Zs [mS 17 5, mS 4 17] [4] .ret) .skip))))
(pr [bC 18 .add 8 1, mS 8 18] [0,1,7,8])))))))
(Zs [.mv 4 (.c (.int .i64 (-1)))] [4] .ret)))
attribute [go_sem] Y20
def M18 : MC := Y20 4
theorem Cbp (xs : List GOp) (f : FuncId) (cs : List T) (p : GOp → Bool) (hp : ∀ x, x ∈ xs → Ctr Tryz.prog f (aS (GOp.enc x) :: cs.map (fun t => (false, [t]))) [rB (p x)]) : Ctr Tryz.prog N17 [aL 4 (xs.map GOp.enc), (false, [.fn f cs])] [rI (idxF p xs)] := by
 refine cA M18 0 19 [(.tmp 4, [false])] Tryz.func396 rfl rfl ?_; unfold M18
 intro hb
 simp only [bdA, bdL, bdT, Kb, roomB, and_true, List.length_map] at hb
 obtain ⟨⟨hl, -⟩, -⟩ := hb
 simp only [go_sem]
 refine K5 xs (fun k => [(8, vI k)]) (fun k => []) (fun k => (xs.take k).any p = false) hl ?_
 simp only [go_sem]
 refine ⟨?_, by simp, ?_, ?_⟩
 ·simp only [go_sem]
 ·intro k x hx h h0 h1 hw
  simp only [go_sem, K6 hx, h0, h1]
  refine K0 (hp x (Kx hx)) ?_
  simp only [go_sem, hw]
  exact ⟨fun hn => (K43 hx h hn).symm, fun hn => K3y hx h hn⟩
 ·intro h
  simp only [go_sem]
  rw [List.take_length] at h
  rw [K44 h]
def Mz : MC := Y19 N17
theorem C9s (xs : List GOp) (f : FuncId) (cs : List T) (p : GOp → Bool) (hp : ∀ x, x ∈ xs → Ctr Tryz.prog f (aS (GOp.enc x) :: cs.map (fun t => (false, [t]))) [rB (p x)]) : Ctr Tryz.prog Ny [aL 4 (xs.map GOp.enc), (false, [.fn f cs])] [rB (xs.any p)] := by
 refine cA Mz 0 9 [(.tmp 4, [false])] Tryz.func327 rfl rfl ?_; unfold Mz
 intro hb
 clear hb
 simp only [go_sem]
 refine K0 (Cbp xs f cs p hp) ?_
 simp only [go_sem]
 intros
 exact K5q
def Mw : MC := Y20 5
theorem C9t (xs : List GEntry) (f : FuncId) (cs : List T) (p : GEntry → Bool) (hp : ∀ x, x ∈ xs → Ctr Tryz.prog f (aS (GEntry.enc x) :: cs.map (fun t => (false, [t]))) [rB (p x)]) : Ctr Tryz.prog Nv [aL 5 (xs.map GEntry.enc), (false, [.fn f cs])] [rI (idxF p xs)] := by
 refine cA Mw 0 19 [(.tmp 4, [false])] Tryz.func429 rfl rfl ?_; unfold Mw
 intro hb
 simp only [bdA, bdL, bdT, Kb, roomB, and_true, List.length_map] at hb
 obtain ⟨⟨hl, -⟩, -⟩ := hb
 simp only [go_sem]
 refine K5 xs (fun k => [(8, vI k)]) (fun k => []) (fun k => (xs.take k).any p = false) hl ?_
 simp only [go_sem]
 refine ⟨?_, by simp, ?_, ?_⟩
 ·simp only [go_sem]
 ·intro k x hx h h0 h1 hw
  simp only [go_sem, K6 hx, h0, h1]
  refine K0 (hp x (Kx hx)) ?_
  simp only [go_sem, hw]
  exact ⟨fun hn => (K43 hx h hn).symm, fun hn => K3y hx h hn⟩
 ·intro h
  simp only [go_sem]
  rw [List.take_length] at h
  rw [K44 h]
def Mt : MC := Y19 Nv
theorem C6j (xs : List GEntry) (f : FuncId) (cs : List T) (p : GEntry → Bool) (hp : ∀ x, x ∈ xs → Ctr Tryz.prog f (aS (GEntry.enc x) :: cs.map (fun t => (false, [t]))) [rB (p x)]) : Ctr Tryz.prog Ns [aL 5 (xs.map GEntry.enc), (false, [.fn f cs])] [rB (xs.any p)] := by
 refine cA Mt 0 9 [(.tmp 4, [false])] Tryz.func407 rfl rfl ?_; unfold Mt
 intro hb
 clear hb
 simp only [go_sem]
 refine K0 (C9t xs f cs p hp) ?_
 simp only [go_sem]
 intros
 exact K5q
def Mq : MC := Y20 9
theorem C73 (xs : List GCapture) (f : FuncId) (cs : List T) (p : GCapture → Bool) (hp : ∀ x, x ∈ xs → Ctr Tryz.prog f (aS (GCapture.enc x) :: cs.map (fun t => (false, [t]))) [rB (p x)]) : Ctr Tryz.prog Nn [aL 9 (xs.map GCapture.enc), (false, [.fn f cs])] [rI (idxF p xs)] := by
 refine cA Mq 0 19 [(.tmp 4, [false])] Tryz.func397 rfl rfl ?_; unfold Mq
 intro hb
 simp only [bdA, bdL, bdT, Kb, roomB, and_true, List.length_map] at hb
 obtain ⟨⟨hl, -⟩, -⟩ := hb
 simp only [go_sem]
 refine K5 xs (fun k => [(8, vI k)]) (fun k => []) (fun k => (xs.take k).any p = false) hl ?_
 simp only [go_sem]
 refine ⟨?_, by simp, ?_, ?_⟩
 ·simp only [go_sem]
 ·intro k x hx h h0 h1 hw
  simp only [go_sem, K6 hx, h0, h1]
  refine K0 (hp x (Kx hx)) ?_
  simp only [go_sem, hw]
  exact ⟨fun hn => (K43 hx h hn).symm, fun hn => K3y hx h hn⟩
 ·intro h
  simp only [go_sem]
  rw [List.take_length] at h
  rw [K44 h]
def Mh : MC := Y19 Nn
theorem C4a (xs : List GCapture) (f : FuncId) (cs : List T) (p : GCapture → Bool) (hp : ∀ x, x ∈ xs → Ctr Tryz.prog f (aS (GCapture.enc x) :: cs.map (fun t => (false, [t]))) [rB (p x)]) : Ctr Tryz.prog Ng [aL 9 (xs.map GCapture.enc), (false, [.fn f cs])] [rB (xs.any p)] := by
 refine cA Mh 0 9 [(.tmp 4, [false])] Tryz.func330 rfl rfl ?_; unfold Mh
 intro hb
 clear hb
 simp only [go_sem]
 refine K0 (C73 xs f cs p hp) ?_
 simp only [go_sem]
 intros
 exact K5q
def Me : MC := Y20 4
theorem C5r (xs : List GContainer) (f : FuncId) (cs : List T) (p : GContainer → Bool) (hp : ∀ x, x ∈ xs → Ctr Tryz.prog f (aS (GContainer.enc x) :: cs.map (fun t => (false, [t]))) [rB (p x)]) : Ctr Tryz.prog N9 [aL 4 (xs.map GContainer.enc), (false, [.fn f cs])] [rI (idxF p xs)] := by
 refine cA Me 0 19 [(.tmp 4, [false])] Tryz.func148 rfl rfl ?_; unfold Me
 intro hb
 simp only [bdA, bdL, bdT, Kb, roomB, and_true, List.length_map] at hb
 obtain ⟨⟨hl, -⟩, -⟩ := hb
 simp only [go_sem]
 refine K5 xs (fun k => [(8, vI k)]) (fun k => []) (fun k => (xs.take k).any p = false) hl ?_
 simp only [go_sem]
 refine ⟨?_, by simp, ?_, ?_⟩
 ·simp only [go_sem]
 ·intro k x hx h h0 h1 hw
  simp only [go_sem, K6 hx, h0, h1]
  refine K0 (hp x (Kx hx)) ?_
  simp only [go_sem, hw]
  exact ⟨fun hn => (K43 hx h hn).symm, fun hn => K3y hx h hn⟩
 ·intro h
  simp only [go_sem]
  rw [List.take_length] at h
  rw [K44 h]
def M7 : MC := Y19 N9
theorem C1o (xs : List GContainer) (f : FuncId) (cs : List T) (p : GContainer → Bool) (hp : ∀ x, x ∈ xs → Ctr Tryz.prog f (aS (GContainer.enc x) :: cs.map (fun t => (false, [t]))) [rB (p x)]) : Ctr Tryz.prog N0 [aL 4 (xs.map GContainer.enc), (false, [.fn f cs])] [rB (xs.any p)] := by
 refine cA M7 0 9 [(.tmp 4, [false])] Tryz.func65 rfl rfl ?_; unfold M7
 intro hb
 clear hb
 simp only [go_sem]
 refine K0 (C5r xs f cs p hp) ?_
 simp only [go_sem]
 intros
 exact K5q
def M14 : MC :=
(Zs [.mv 4 cF] [0,1] (.seq (Zs [mS 6 0, nS 7 6, mS 8 1, nS 9 8, bS 10 .neq 7 9] [0,1,10] (.cond (.s 10) (Zs [.mv 4 cF] [4] .ret) .skip))
(.seq (Zs [mS 11 0, nS 12 11, .mv 13 (ci 0)] [0,1,12,13] (.block 0 (.loop ([0,1,12,13], []) (Zs [bS 14 .lss 13 12] [0,1,12,13,14] (.seq (cX 14 0)
(.seq (.block 1 (Zs [mS 15 13, mS 5 15] [0,1,5,12,13] (.seq (.dreg [Zc [17,20,21,22,23] (mS 16 0), Zc [16,20,21,22,23] (mS 17 5), Zd [20,21,22,23] [0,1] (xS 18 6 16 17), Zd [20,21,22,23] [0,1,2] (lT 19 6 18), Zc [16,17,18,19,21] (mS 20 1), Zc [16,17,18,19,20] (mS 21 5), Zd [16,17,18,19] [4,5] (xS 22 6 20 21), Zd [16,17,18,19] [4,5,6] (lT 23 6 22), Ze (.range 8) (.eqA 24 true [.i .i64, .i .i64, .i .i64, .i .i64, .i .i64, .i .i64] (.s 19) (.s 23))] [0,1,12,13,24])
(.cond (.s 24) (Zs [.mv 4 cF] [4] .ret) .skip))))
(pr [bC 25 .add 13 1, mS 13 25] [0,1,12,13])))))))
(Zs [.mv 4 cT] [4] .ret))))
theorem C42 (xs ys : List GFound) : Ctr Tryz.prog Na [aL 6 (xs.map GFound.enc), aL 6 (ys.map GFound.enc)] [rB (decide (xs = ys))] := by
 refine cA M14 0 26 [(.tmp 4, [false])] Tryz.func297 rfl rfl ?_; unfold M14
 intro hb
 simp only [bdA, bdL, bdT, Kb, roomB, and_true, List.length_map] at hb
 obtain ⟨⟨hl, -⟩, ⟨hl2, -⟩⟩ := hb
 simp only [go_sem]
 refine ⟨fun h => K2n h, fun h => ?_⟩
 have hle : xs.length = ys.length := by omega
 refine K5 xs (fun k => [(13, vI k)]) (fun k => []) (fun k => xs.take k = ys.take k) hl ?_
 simp only [go_sem]
 refine ⟨?_, rfl, ?_, ?_⟩
 ·simp only [go_sem]
 ·intro k x hx he h0 h1 hw
  obtain ⟨y, hy⟩ := Kf (show k < ys.length by omega)
  have h2 : (k : Int) < ys.length := by omega
  simp only [go_sem, K6 hx, K6 hy, h0, h1, h2, hw, eqB]
  exact ⟨fun hn => K3c hx hy (by rintro rfl; simp at hn), fun hn => (K16 hx hy he).2 (by exact GFound.eqv.2 (by simpa using hn))⟩
 ·intro he
  simp only [go_sem]
  exact K2m he hle
end Go.Proofs.YtgkeplbnnjogiaaGreatR
namespace Go.Proofs.YtgkeplbnnjogiaaGreatR
open Go Go.RowKit Go.Proofs
open Nat (reduceEqDiff reduceLT reduceLeDiff reduceAdd reduceMul)
open List (reduceReplicate)
attribute [go_sem] eqB
def Mfa : MC :=
(Zs [.mv 6 cF] [0,1,2] (.seq (.reg [Za (mS 7 0), Za (mS 8 1), Za (bS 9 .geq 7 8), Za (mS 10 9), Zb 10 true (mS 11 0), Zb 10 true (mS 12 2), Zb 10 true (bS 13 .leq 11 12), Za (.pick 14 (.s 10) (.s 13) cF), Za (mS 6 14)] [6])
.ret))
theorem Cr (x a b : Int) : Ctr Tryz.prog N2 [aI x, aI a, aI b] [rB (decide (a ≤ x ∧ x ≤ b))] := by
 refine cA Mfa 0 15 [(.tmp 6, [false])] Tryz.func57 rfl rfl ?_; unfold Mfa
 intro hb
 clear hb
 simp only [go_sem]
 exact ⟨fun h => by simp [h], fun h => by simp; omega⟩
def Mgm : MC :=
(Zs [.mv 4 cF] [0,1] (.seq (.reg [Za (mS 5 0), Za (bC 6 .geq 5 0), Za (mS 7 6), Zb 7 true (mS 8 0), Zb 7 true (mS 9 1), Zb 7 true (bS 10 .lss 8 9), Za (.pick 11 (.s 7) (.s 10) cF), Za (mS 4 11)] [4])
.ret))
theorem Ch8 (x n : Int) : Ctr Tryz.prog N3k [aI x, aI n] [rB (decide (0 ≤ x ∧ x < n))] := by
 refine cA Mgm 0 12 [(.tmp 4, [false])] Tryz.func153 rfl rfl ?_; unfold Mgm
 intro hb
 clear hb
 simp only [go_sem]
 exact ⟨fun h => by simp [h], fun h => by simp; omega⟩
def Mbq : MC :=
(Zs [.mv 6 cF] [0,1,2] (.seq (.reg [Za (mS 7 1), Za (mS 8 0), Za (bS 9 .leq 7 8), Za (mS 10 9), Zb 10 true (mS 11 0), Zb 10 true (mS 12 2), Zb 10 true (bS 13 .leq 11 12), Za (.pick 14 (.s 10) (.s 13) cF), Za (mS 6 14)] [6])
.ret))
theorem C6 (x a b : Int) : Ctr Tryz.prog N5 [aI x, aI a, aI b] [rB (decide (a ≤ x ∧ x ≤ b))] := by
 refine cA Mbq 0 15 [(.tmp 6, [false])] Tryz.func67 rfl rfl ?_; unfold Mbq
 intro hb
 clear hb
 simp only [go_sem]
 exact ⟨fun h => by simp [h], fun h => by simp; omega⟩
def allIn (l : List Int) (a b : Int) : Bool := l.all fun x => decide (a ≤ x ∧ x ≤ b)
theorem K3d {α : Type} {p : α → Bool} {l : List α} {k : Nat} {x : α} (hx : l[k]? = some x) (h : (l.take k).all p = true) (hn : p x = true) : (l.take (k + 1)).all p = true := by
 rw [Kc hx, List.all_append, h]; simp [hn]
theorem K8p {α : Type} {p : α → Bool} {l : List α} {k : Nat} {x : α} (hx : l[k]? = some x) (hn : p x = false) : false = l.all p := by
 symm; rw [List.all_eq_false]; exact ⟨x, Kx hx, by simp [hn]⟩
def Me0 : MC :=
(Zs [.mv 6 cF] [0,1,2] (.seq (Zs [mS 9 0, nS 10 9, .mv 11 (ci 0)] [1,2,9,10,11] (.block 0 (.loop ([1,2,9,10,11], []) (Zs [bS 12 .lss 11 10] [1,2,9,10,11,12] (.seq (cX 12 0)
(.seq (.block 1 (Zs [xS 13 1 9 11, lF 14 1 13, mS 8 14] [1,2,8,9,10,11] (Zs [mS 15 8, mS 16 1, mS 17 2, .call 18 [] (.f N5) [.s 15, .s 16, .s 17], .un 19 .not (.s 18)] [1,2,9,10,11,19] (.cond (.s 19) (Zs [.mv 6 cF] [6] .ret) .skip))))
(pr [bC 20 .add 11 1, mS 11 20] [1,2,9,10,11])))))))
(Zs [.mv 6 cT] [6] .ret)))
theorem Ce1 (l : List Int) (a b : Int) : Ctr Tryz.prog Ndk [aL 1 (l.map encI), aI a, aI b] [rB (allIn l a b)] := by
 refine cA Me0 0 21 [(.tmp 6, [false])] Tryz.func255 rfl rfl ?_; unfold Me0
 intro hb
 simp only [bdA, bdL, bdT, Kb, Kk, roomB, and_true, List.length_map] at hb
 obtain ⟨⟨hl, -⟩, -⟩ := hb
 simp only [go_sem]
 refine K5 l (fun k => [(11, vI k)]) (fun k => []) (fun k => ((l.take k).all fun x => decide (a ≤ x ∧ x ≤ b)) = true) hl ?_
 simp only [go_sem]
 refine ⟨?_, by simp, ?_, ?_⟩
 ·simp only [go_sem]
 ·intro k x hx h h0 h1 hw
  simp only [go_sem, K6 hx, h0, h1]
  refine K0 (C6 _ _ _) ?_
  simp only [go_sem, hw]
  exact ⟨fun hn => K8p hx (by simpa using hn), fun hn => K3d hx h (by simpa using hn)⟩
 ·intro h
  simp only [go_sem]
  rw [List.take_length] at h
  exact h.symm
def Mbr : MC :=
(Zs [.mv 2 cF] [0] (.seq (Zs [.mv 3 (ci 0)] [0,3] (.block 0 (.loop ([0,3], []) (.seq (Zs [mS 4 3, mS 5 0, nS 6 5, bS 7 .lss 4 6] [0,3,7] (cX 7 0))
(.seq (.block 1 (Zs [mS 10 0, mS 11 3, xS 12 1 10 11, lF 13 1 12, .call 14 [] (.f N2) [.s 13, .c (.int .i64 0), .c (.int .i64 255)], .un 15 .not (.s 14)] [0,3,15] (.cond (.s 15) (Zs [.mv 2 cF] [2] .ret) .skip)))
(pr [mS 8 3, bC 9 .add 8 1, mS 3 9] [0,3]))))))
(Zs [.mv 2 cT] [2] .ret)))
theorem Cgh (l : List Int) : Ctr Tryz.prog Nb9 [aL 1 (l.map encI)] [rB (allIn l 0 255)] := by
 refine cA Mbr 0 16 [(.tmp 2, [false])] Tryz.func389 rfl rfl ?_; unfold Mbr
 intro hb
 simp only [bdA, bdL, bdT, Kb, roomB, and_true, List.length_map] at hb
 obtain ⟨hl, -⟩ := hb
 simp only [go_sem]
 refine K5 l (fun k => [(3, vI k)]) (fun k => []) (fun k => ((l.take k).all fun x => decide (0 ≤ x ∧ x ≤ 255)) = true) hl ?_
 simp only [go_sem]
 refine ⟨?_, by simp, ?_, ?_⟩
 ·simp only [go_sem]
 ·intro k x hx h h0 h1 hw
  simp only [go_sem, K6 hx, h0, h1]
  refine K0 (Cr _ _ _) ?_
  simp only [go_sem, hw]
  exact ⟨fun hn => K8p hx (by simpa using hn), fun hn => K3d hx h (by simpa using hn)⟩
 ·intro h
  simp only [go_sem]
  rw [List.take_length] at h
  exact h.symm
def K2z (a : GAddress) : Bool := decide (1 ≤ a.Host ∧ a.Host ≤ 9) && (decide (0 ≤ a.Path ∧ a.Path ≤ 99) && decide (0 ≤ a.Query ∧ a.Query ≤ 99))
def Y21 (v0 : Nat) : MC :=
(Zs [.box 1 0 (.s 0), .mv 2 cF] [1] (.seq (.reg [Za (fS 3 1 0), Za (lF 4 1 3), Za (.call 5 [] (.f v0) [.s 4, .c (.int .i64 1), .c (.int .i64 9)]), Za (mS 6 5), Zb 6 true (fS 7 1 1), Zb 6 true (lF 8 1 7), Zb 6 true (.call 9 [] (.f v0) [.s 8, .c (.int .i64 0), .c (.int .i64 99)]), Za (.pick 10 (.s 6) (.s 9) cF), Za (mS 11 10), Zb 11 true (fS 12 1 2), Zb 11 true (lF 13 1 12), Zb 11 true (.call 14 [] (.f v0) [.s 13, .c (.int .i64 0), .c (.int .i64 99)]), Za (.pick 15 (.s 11) (.s 14) cF), Za (mS 2 15)] [2])
.ret))
attribute [go_sem] Y21
def M9u : MC := Y21 N5
theorem C3d (a : GAddress) : Ctr Tryz.prog N23 [aS a.enc] [rB (K2z a)] := by
 refine cA M9u 1 16 [(.tmp 2, [false])] Tryz.func332 rfl rfl ?_; unfold M9u
 intro hb
 clear hb
 simp only [go_sem]
 refine K0 (C6 _ _ _) ?_
 simp only [go_sem]
 refine ⟨fun h => ?_, fun h => by unfold K2z; rw [decide_eq_false h]; rfl⟩
 refine K0 (C6 _ _ _) ?_
 simp only [go_sem]
 refine ⟨fun h2 => ?_, fun h2 => by unfold K2z; rw [decide_eq_false h2]; simp⟩
 refine K0 (C6 _ _ _) ?_
 simp only [go_sem]
 unfold K2z; rw [decide_eq_true h, decide_eq_true h2]; rfl
def M9v : MC := Y21 N2
theorem C3e (a : GAddress) : Ctr Tryz.prog N22 [aS a.enc] [rB (K2z a)] := by
 refine cA M9v 1 16 [(.tmp 2, [false])] Tryz.func321 rfl rfl ?_; unfold M9v
 intro hb
 clear hb
 simp only [go_sem]
 refine K0 (Cr _ _ _) ?_
 simp only [go_sem]
 refine ⟨fun h => ?_, fun h => by unfold K2z; rw [decide_eq_false h]; rfl⟩
 refine K0 (Cr _ _ _) ?_
 simp only [go_sem]
 refine ⟨fun h2 => ?_, fun h2 => by unfold K2z; rw [decide_eq_false h2]; simp⟩
 refine K0 (Cr _ _ _) ?_
 simp only [go_sem]
 unfold K2z; rw [decide_eq_true h, decide_eq_true h2]; rfl
def K1y (a : GAddress) : Bool := a.Host == 0 && (a.Path == 0 && a.Query == 0)
def K1n (r : GResource) : Bool :=
 if r.Kind = 1 ∨ r.Kind = 2 then decide (r.Body.length ≤ 6) && (allIn r.Body 0 255 && K1y r.To)
 else if r.Kind = 3 then decide (r.Body.length = 0) && K2z r.To
 else if r.Kind = 4 then decide (r.Body.length = 0) && K1y r.To else false
def M8d : MC :=
(Zs [.box 1 0 (.s 0), .mv 2 cF] [1] (.seq (Zs [fS 3 1 0, lF 4 1 3] [1,4] (.block 0 (.seq (Zs [bC 6 .eql 4 1, mS 5 6] [1,4,5] (.cond (.s 5) .skip (pr [bC 7 .eql 4 2, mS 5 7] [1,4,5])))
(.cond (.s 5) (.seq (.reg [Za (fS 8 1 1), Za (lF 9 1 8), Za (nS 10 9), Za (bC 11 .leq 10 6), Za (mS 12 11), Zb 12 true (fS 13 1 1), Zb 12 true (lF 14 1 13), Zb 12 true (.call 15 [] (.f Ndk) [.s 14, .c (.int .i64 0), .c (.int .i64 255)]), Za (.pick 16 (.s 12) (.s 15) cF), Za (mS 17 16), Zb 17 true (fS 18 1 2), Zb 17 true (lT 19 3 18), Zb 17 true (.build 20 [pz, pz, pz] []), Zb 17 true (.eqA 21 false [.i .i64, .i .i64, .i .i64] (.s 19) (.s 20)), Za (.pick 22 (.s 17) (.s 21) cF), Za (mS 2 22)] [2])
.ret) (Zs [bC 24 .eql 4 3, mS 23 24] [1,4,23] (.cond (.s 23) (.seq (.reg [Za (fS 25 1 1), Za (lF 26 1 25), Za (nS 27 26), Za (bC 28 .eql 27 0), Za (mS 29 28), Zb 29 true (fS 30 1 2), Zb 29 true (lT 31 3 30), Zb 29 true (.call 32 [] (.f N23) [.s 31]), Za (.pick 33 (.s 29) (.s 32) cF), Za (mS 2 33)] [2])
.ret) (Zs [bC 35 .eql 4 4, mS 34 35] [1,34] (.cond (.s 34) (.seq (.reg [Za (fS 36 1 1), Za (lF 37 1 36), Za (nS 38 37), Za (bC 39 .eql 38 0), Za (mS 40 39), Zb 40 true (fS 41 1 2), Zb 40 true (lT 42 3 41), Zb 40 true (.build 43 [pz, pz, pz] []), Zb 40 true (.eqA 44 false [.i .i64, .i .i64, .i .i64] (.s 42) (.s 43)), Za (.pick 45 (.s 40) (.s 44) cF), Za (mS 2 45)] [2])
.ret) .skip))))))))
(Zs [.mv 2 cF] [2] .ret)))
theorem Cer (r : GResource) : Ctr Tryz.prog N7k [aS r.enc] [rB (K1n r)] := by
 refine cA M8d 1 46 [(.tmp 2, [false])] Tryz.func313 rfl rfl ?_; unfold M8d
 intro hb
 clear hb
 have hcase : r.Kind = 1 ∨ r.Kind = 2 ∨ r.Kind = 3 ∨ r.Kind = 4 ∨ (¬ r.Kind = 1 ∧ ¬ r.Kind = 2 ∧ ¬ r.Kind = 3 ∧ ¬ r.Kind = 4) := by omega
 rcases hcase with hk | hk | hk | hk | ⟨h1, h2, h3, h4⟩
 ·simp only [go_sem, hk]
  refine ⟨fun h => ?_, fun h => ?_⟩
  ·have h' : r.Body.length ≤ 6 := by omega
   refine K0 (Ce1 _ _ _) ?_
   simp only [go_sem]
   exact ⟨fun h2 => by simp [K1n, K1y, hk, h2, h'], fun h2 => by simp [K1n, K1y, hk, h2]⟩
  ·have h' : ¬ r.Body.length ≤ 6 := by omega
   simp [K1n, K1y, hk, h']
 ·simp only [go_sem, hk, Int.reduceEq]
  refine ⟨fun h => ?_, fun h => ?_⟩
  ·have h' : r.Body.length ≤ 6 := by omega
   refine K0 (Ce1 _ _ _) ?_
   simp only [go_sem]
   exact ⟨fun h2 => by simp [K1n, K1y, hk, h2, h'], fun h2 => by simp [K1n, K1y, hk, h2]⟩
  ·have h' : ¬ r.Body.length ≤ 6 := by omega
   simp [K1n, K1y, hk, h']
 ·simp only [go_sem, hk, Int.reduceEq]
  refine ⟨fun h => ?_, fun h => ?_⟩
  ·have h' : r.Body.length = 0 := by omega
   refine K0 (C3d r.To) ?_
   simp only [go_sem]
   simp [K1n, hk, h']
  ·have h' : ¬ r.Body.length = 0 := by omega
   unfold K1n
   rw [if_neg (by omega), if_pos hk, decide_eq_false h']
   rfl
 ·simp only [go_sem, hk, Int.reduceEq]
  refine ⟨fun h => ?_, fun h => ?_⟩
  ·have h' : r.Body.length = 0 := by omega
   unfold K1n
   rw [if_neg (by omega), if_neg (by omega), if_pos hk, decide_eq_true h']
   simp [K1y]
  ·have h' : ¬ r.Body.length = 0 := by omega
   unfold K1n
   rw [if_neg (by omega), if_neg (by omega), if_pos hk, decide_eq_false h']
   rfl
 ·simp only [go_sem, h1, h2, h3, h4]
  unfold K1n
  rw [if_neg (by omega), if_neg (by omega), if_neg (by omega)]
def M8e : MC :=
(Zs [.box 1 0 (.s 0), .mv 2 cF] [1] (.seq (.seq (.reg [Za (fS 3 1 0), Za (lF 4 1 3), Za (.call 5 [] (.f N2) [.s 4, .c (.int .i64 1), .c (.int .i64 4)]), Za (.un 6 .not (.s 5)), Za (mS 7 6), Zb 7 false (fS 8 1 1), Zb 7 false (lF 9 1 8), Zb 7 false (.call 10 [] (.f Nb9) [.s 9]), Zb 7 false (.un 11 .not (.s 10)), Za (.pick 12 (.s 7) cT (.s 11)), Za (mS 13 12), Zb 13 false (fS 14 1 1), Zb 13 false (lF 15 1 14), Zb 13 false (nS 16 15), Zb 13 false (bC 17 .gtr 16 6), Za (.pick 18 (.s 13) cT (.s 17))] [1,18])
(.cond (.s 18) (Zs [.mv 2 cF] [2] .ret) .skip))
(.seq (Zs [fS 19 1 0, lF 20 1 19, bC 21 .eql 20 3] [1,21] (.cond (.s 21) (.seq (.reg [Za (fS 22 1 2), Za (lT 23 3 22), Za (.call 24 [] (.f N22) [.s 23]), Za (mS 25 24), Zb 25 true (fS 26 1 1), Zb 25 true (lF 27 1 26), Zb 25 true (nS 28 27), Zb 25 true (bC 29 .eql 28 0), Za (.pick 30 (.s 25) (.s 29) cF), Za (mS 2 30)] [2])
.ret) .skip))
(.seq (.reg [Za (fS 31 1 2), Za (lT 32 3 31), Za (.build 33 [pz, pz, pz] []), Za (.eqA 34 false [.i .i64, .i .i64, .i .i64] (.s 32) (.s 33)), Za (mS 35 34), Zb 35 true (fS 36 1 0), Zb 35 true (lF 37 1 36), Zb 35 true (bC 38 .neq 37 4), Zb 35 true (mS 39 38), Zb 39 false (fS 40 1 1), Zb 39 false (lF 41 1 40), Zb 39 false (nS 42 41), Zb 39 false (bC 43 .eql 42 0), Zb 35 true (.pick 44 (.s 39) cT (.s 43)), Za (.pick 45 (.s 35) (.s 44) cF), Za (mS 2 45)] [2])
.ret))))
theorem Ces (r : GResource) : Ctr Tryz.prog N7j [aS r.enc] [rB (K1n r)] := by
 refine cA M8e 1 46 [(.tmp 2, [false])] Tryz.func310 rfl rfl ?_; unfold M8e
 intro hb
 clear hb
 simp only [go_sem]
 refine K0 (Cr _ _ _) ?_
 simp only [go_sem]
 refine ⟨fun h => ?_, fun h => ?_⟩
 ·unfold K1n
  rw [if_neg (by omega), if_neg (by omega), if_neg (by omega)]
 ·refine K0 (Cgh r.Body) ?_
  simp only [go_sem]
  refine ⟨fun ha => ?_, fun ha => ⟨fun hl => ?_, fun hl => ⟨fun hk => ?_, fun hk => ?_⟩⟩⟩
  ·have h0 : ¬ r.Body.length = 0 := fun e => by
    rw [List.eq_nil_of_length_eq_zero e] at ha
    simp [allIn] at ha
   simp [K1n, ha, h0]
  ·have h0 : ¬ r.Body.length = 0 := by omega
   have h1 : ¬ r.Body.length ≤ 6 := by omega
   simp [K1n, h0, h1]
  ·refine K0 (C3e r.To) ?_
   simp only [go_sem]
   refine ⟨fun hi => ?_, fun hi => by simp [K1n, hk, hi]⟩
   unfold K1n
   rw [if_neg (by omega), if_pos hk, hi, Bool.and_true, Bool.eq_iff_iff]
   simp
  ·have h1 : r.Body.length ≤ 6 := by omega
   refine ⟨fun ht => ?_, fun ht => ?_⟩
   ·have hn : K1y r.To = true := by
     unfold K1y
     exact (Bool.eq_false_or_eq_true _).resolve_right fun e => ht e.symm
    refine ⟨fun k4 => ?_, fun k4 => ?_⟩
    ·unfold K1n
     rw [if_pos (by omega), ha, hn, decide_eq_true h1]
     rfl
    ·unfold K1n
     rw [if_neg (by omega), if_neg hk, if_pos k4, hn, Bool.and_true, Bool.eq_iff_iff]
     simp
   ·have hn : K1y r.To = false := ht.symm
    unfold K1n
    rw [hn, if_neg hk]
    split
    ·simp
    ·split <;> simp
end Go.Proofs.YtgkeplbnnjogiaaGreatR
namespace Go.Proofs.YtgkeplbnnjogiaaGreatR
open Go Go.RowKit Go.Proofs
open Nat (reduceEqDiff reduceLT reduceLeDiff reduceAdd reduceMul)
open List (reduceReplicate)
def M5a : MC :=
(Zs [.box 1 0 (.s 0), .alloc 2 1 [pz, .emp 1, pz, pz, pz]] [1,2] (Zs [fS 3 1 1, lF 4 1 3, .call 5 [2] (.f N3) [.s 4], fS 6 1 1, sS 1 6 5] [1,2] (Zs [lT 7 5 1, sS 5 2 7] [2] .ret)))
theorem C5b (r : GResource) (hs : r.Body.length ≤ 1073741824) : Ctr Tryz.prog N4l [aS r.enc] [rS r.enc] := by
 refine cA M5a 3 8 [(.cell 2 true 5, [false, true, false, false, false])] Tryz.func218 rfl rfl ?_; unfold M5a
 intro hb
 clear hb
 simp only [go_sem]
 refine K0 (Cc r.Body hs) ?_
 simp only [go_sem]
 try intros
 try trivial
def Mco : MC :=
(Zs [.box 1 0 (.s 0), .alloc 2 1 [pz, .emp 1, pz, pz, pz]] [1,2] (.seq (.dreg [Zf [5,6,7,8,9,10] [2] (fS 3 1 0), Zg [5,6,7,8,9,10] [2] [0] (lF 4 1 3), { o := .lit 5 2 1 8 [], hs := [3,4,6,7,9,10], ws := [2] }, Zf [3,4,5,9,10] [2] (fS 6 1 1), Zg [3,4,5,9,10] [2] [3] (lF 7 1 6), { o := .app 8 2 1 8 (.s 5) (.s 7), hs := [3,4,9,10], ws := [2], bf := [2,3,4] }, Zf [3,4,5,6,7,8] [2] (fS 9 1 2), Zg [3,4,5,6,7,8] [2] [6] (lT 10 3 9), Ze (.range 8) (.build 11 [pz, .emp 1, pz, pz, pz] [(0, 1, .s 4), (1, 1, .s 8), (2, 3, .s 10)]), { o := sS 5 2 11, ws := [1,2], bf := (.range 9) }] [2])
.ret))
theorem Ccp (r : GResource) (hs : r.Body.length ≤ 1073741824) : Ctr Tryz.prog Ncg [aS r.enc] [rS r.enc] := by
 refine cA Mco 3 12 [(.cell 2 true 5, [false, true, false, false, false])] Tryz.func211 rfl rfl ?_; unfold Mco
 intro hb
 clear hb
 simp only [go_sem, ↓Km (f := encI) (fun _ => rfl) r.Body]
 simp only [roomB]
 omega
def Y22 : MC :=
(Zs [.nilo 2 0 9] [0] (Zs [.nilo 3 0 9] [0,3] (.seq (Zs [mS 6 0, nS 7 6, .mv 8 (ci 0)] [3,6,7,8] (.block 0 (.loop ([3,6,7,8], [1,2,3]) (Zs [bS 9 .lss 8 7] [3,6,7,8,9] (.seq (cX 9 0)
(.seq (.block 1 (Zs [xS 10 9 6 8, lT 11 9 10, .alloc 5 1 [pz, pz, pz, pz, pz, .emp 1, pz, pz, pz], sS 9 5 11] [3,5,6,7,8] (.dreg [Zf [13,14,15,16,17,18,19,20,21] [2,3] (mS 12 3), Zf [12,15,16,17,18,19] [2] (fS 13 5 0), Zg [12,15,16,17,18,19] [2] [1] (lT 14 3 13), Zf [12,13,14,17,18,19] [2] (fS 15 5 3), Zg [12,13,14,17,18,19] [2] [3] (lF 16 1 15), Zc [12,13,14,15,16] (fS 17 5 4), Zd [12,13,14,15,16] [5] (lT 18 5 17), { o := .call 19 [2] (.f N4l) [.s 18], hs := [12,13,14,15,16], ws := [2], bf := [5,6] }, Zd [12] [1,2,3,4,5,6,7] (.build 20 [pz, pz, pz, pz, pz, .emp 1, pz, pz, pz] [(0, 3, .s 14), (3, 1, .s 16), (4, 5, .s 19)]), { o := .lit 21 3 9 88 [.s 20], hs := [12], ws := [2,3], bf := [1,2,3,4,5,6,7,8] }, { o := .app 22 0 9 88 (.s 12) (.s 21), ws := [0,3], bf := (.range 10) }, Ze (.range 11) (mS 3 22)] [3,6,7,8])))
(pr [bC 23 .add 8 1, mS 8 23] [3,6,7,8])))))))
(Zs [mS 24 3, mS 2 24] [2] .ret))))
attribute [go_sem] Y22
def M5c : MC := Y22
theorem C5d (xs : List GCapture) (hs : xs.length + (xs.map GCapture.size).sum ≤ 1073741824) : Ctr Tryz.prog N2g [aL 9 (xs.map GCapture.enc)] [rL 9 (xs.map GCapture.enc)] := by
 refine cA M5c 4 25 [(.tmp 2, [true])] Tryz.func212 rfl rfl ?_; unfold M5c
 intro hb
 clear hb
 simp only [go_sem]
 refine K5 xs (fun k => [(3, .val false [.ref 0 0 9 0 (xs.take k).length]), (8, vI k)]) (fun k => [(0, ⟨0, .row true 9 ((xs.take k).map GCapture.enc)⟩)]) (fun _ => True) (by simp only [roomB]; omega) ?_
 simp only [go_sem]
 refine ⟨?_, trivial, ?_, ?_⟩
 ·simp only [go_sem, List.take_zero]
 ·intro k x hx _ h0 h1 hw
  have hk : k < xs.length := by omega
  have hlt := List.length_take_le k xs
  have hx1 := K14 (f := GCapture.size) (Kx hx)
  simp only [go_sem, K6 hx, h0, h1]
  refine K0 (C5b x.Resource (by simp only [GCapture.size, GResource.size] at hx1; omega)) ?_
  simp only [go_sem, hw]
  simp only [roomB]
  exact ⟨by omega, by omega, fun _ => ⟨K2k hx, K2j hx⟩⟩
 ·intro _
  simp only [go_sem, List.take_length]
def Y23 : MC :=
(Zs [.nilo 2 0 9] [0] (Zs [.lit 5 0 9 88 [], mS 3 5] [0,3] (.seq (Zs [.mv 4 (ci 0)] [0,3,4] (.block 0 (.loop ([0,3,4], [1,2]) (.seq (Zs [mS 6 4, mS 7 0, nS 8 7, bS 9 .lss 6 8] [0,3,4,9] (cX 9 0))
(.seq (.block 1 (.dreg [Zf [13,14,15,16,17,18,19,20,21,22,23,24,25,26,27,28,29,30] [1,2] (mS 12 3), Zf [12,14,18,19,20,21,22,23,24,25,26,27,28] [1] (mS 13 0), Zf [12,13,18,19,20,21,22,23,24,25,26,27,28] [1] (mS 14 4), Zg [12,18,19,20,21,22,23,24,25,26,27,28] [1] [1,2] (xS 15 9 13 14), Zg [12,18,19,20,21,22,23,24,25,26,27,28] [1] [1,2,3] (fS 16 15 0), Zg [12,18,19,20,21,22,23,24,25,26,27,28] [1] [1,2,3,4] (lT 17 3 16), Zf [12,13,14,15,16,17,19,23,24,25,26,27,28] [1] (mS 18 0), Zf [12,13,14,15,16,17,18,23,24,25,26,27,28] [1] (mS 19 4), Zg [12,13,14,15,16,17,23,24,25,26,27,28] [1] [6,7] (xS 20 9 18 19), Zg [12,13,14,15,16,17,23,24,25,26,27,28] [1] [6,7,8] (fS 21 20 3), Zg [12,13,14,15,16,17,23,24,25,26,27,28] [1] [6,7,8,9] (lF 22 1 21), Zc [12,13,14,15,16,17,18,19,20,21,22,24] (mS 23 0), Zc [12,13,14,15,16,17,18,19,20,21,22,23] (mS 24 4), Zd [12,13,14,15,16,17,18,19,20,21,22] [11,12] (xS 25 9 23 24), Zd [12,13,14,15,16,17,18,19,20,21,22] [11,12,13] (fS 26 25 4), Zd [12,13,14,15,16,17,18,19,20,21,22] [11,12,13,14] (lT 27 5 26), { o := .call 28 [1] (.f Ncg) [.s 27], hs := [12,13,14,15,16,17,18,19,20,21,22], ws := [1], bf := [11,12,13,14,15] }, Zd [12] [1,2,3,4,5,6,7,8,9,10,11,12,13,14,15,16] (.build 29 [pz, pz, pz, pz, pz, .emp 1, pz, pz, pz] [(0, 3, .s 17), (3, 1, .s 22), (4, 5, .s 28)]), { o := .lit 30 2 9 88 [.s 29], hs := [12], ws := [1,2], bf := [1,2,3,4,5,6,7,8,9,10,11,12,13,14,15,16,17] }, { o := .app 31 0 9 88 (.s 12) (.s 30), ws := [0,2], bf := (.range 19) }, Ze (.range 20) (mS 3 31)] [0,3,4]))
(pr [mS 10 4, bC 11 .add 10 1, mS 4 11] [0,3,4]))))))
(Zs [mS 32 3, mS 2 32] [2] .ret))))
attribute [go_sem] Y23
def Mbs : MC := Y23
theorem Cgi (xs : List GCapture) (hs : xs.length + (xs.map GCapture.size).sum ≤ 1073741824) : Ctr Tryz.prog Nb4 [aL 9 (xs.map GCapture.enc)] [rL 9 (xs.map GCapture.enc)] := by
 refine cA Mbs 3 33 [(.tmp 2, [true])] Tryz.func166 rfl rfl ?_; unfold Mbs
 intro hb
 clear hb
 simp only [go_sem]
 refine K5 xs (fun k => [(3, .val false [.ref 0 0 9 0 (xs.take k).length]), (4, vI k)]) (fun k => [(0, ⟨0, .row true 9 ((xs.take k).map GCapture.enc)⟩)]) (fun _ => True) (by simp only [roomB]; omega) ?_
 simp only [go_sem]
 refine ⟨?_, trivial, ?_, ?_⟩
 ·simp only [go_sem, List.take_zero]
 ·intro k x hx _ h0 h1 hw
  have hk : k < xs.length := by omega
  have hlt := List.length_take_le k xs
  have hx1 := K14 (f := GCapture.size) (Kx hx)
  simp only [go_sem, K6 hx, h0, h1]
  refine K0 (Ccp x.Resource (by simp only [GCapture.size, GResource.size] at hx1; omega)) ?_
  simp only [go_sem, hw]
  simp only [roomB]
  exact ⟨by omega, by omega, fun _ => ⟨K2k hx, K2j hx⟩⟩
 ·intro _
  simp only [go_sem, List.take_length]
end Go.Proofs.YtgkeplbnnjogiaaGreatR
namespace Go.Proofs.YtgkeplbnnjogiaaGreatR
open Go Go.RowKit Go.Proofs
open Nat (reduceEqDiff reduceLT reduceLeDiff reduceAdd reduceMul)
open List (reduceReplicate)
def isExcl (x : GExclusion) : Bool := decide ((1 ≤ x.Host ∧ x.Host ≤ 9) ∧ (-1 ≤ x.Path ∧ x.Path ≤ 99) ∧ (0 ≤ x.From ∧ x.From ≤ x.Until) ∧ x.Until ≤ 2000 ∧ (0 ≤ x.Asked ∧ x.Asked ≤ 2000))
def hidesB (x : GExclusion) (c : GCapture) : Bool := isExcl x && decide (c.Address.Host = x.Host ∧ (x.Path = -1 ∨ c.Address.Path = x.Path) ∧ x.From ≤ c.Tick ∧ c.Tick ≤ x.Until)
def hiddenBy (x : GExclusion) (c : GCapture) (now : Int) : Bool := decide (x.Asked ≤ now) && hidesB x c
def hiddenIn (c : GCapture) (l : List GExclusion) (now : Int) : Bool := l.any fun x => hiddenBy x c now
def visible (cs : List GCapture) (l : List GExclusion) (now : Int) : List GCapture := cs.filter fun c => !hiddenIn c l now
end Go.Proofs.YtgkeplbnnjogiaaGreatR
namespace Go.Proofs.YtgkeplbnnjogiaaGreatR
open Go Go.RowKit Go.Proofs
open Nat (reduceEqDiff reduceLT reduceLeDiff reduceAdd reduceMul)
open List (reduceReplicate)
end Go.Proofs.YtgkeplbnnjogiaaGreatR
namespace Go.Proofs.YtgkeplbnnjogiaaGreatR
open Go Go.RowKit Go.Proofs
open Nat (reduceEqDiff reduceLT reduceLeDiff reduceAdd reduceMul)
open List (reduceReplicate)
end Go.Proofs.YtgkeplbnnjogiaaGreatR
namespace Go.Proofs.YtgkeplbnnjogiaaGreatR
open Go Go.RowKit Go.Proofs
open Nat (reduceEqDiff reduceLT reduceLeDiff reduceAdd reduceMul)
open List (reduceReplicate)
theorem has_step {α : Type} [BEq α] [LawfulBEq α] {l : List α} {k : Nat} {x n : α} (hx : l[k]? = some x) (h : (l.take k).contains n = false) (hn : ¬ x = n) : (l.take (k + 1)).contains n = false := by
 rw [Kc hx]
 simp only [List.contains_eq_mem, List.mem_append, List.mem_singleton, decide_eq_false_iff_not, not_or] at h ⊢
 exact ⟨h, fun e => hn e.symm⟩
theorem has_here {α : Type} [BEq α] [LawfulBEq α] {l : List α} {k : Nat} {x n : α} (hx : l[k]? = some x) (hn : x = n) : l.contains n = true := by
 subst hn
 simp only [List.contains_eq_mem, decide_eq_true_eq]
 exact Kx hx
theorem Cet (xs : List Int) (n : Int) : Ctr Tryz.prog N19 [aL 1 (xs.map encI), aI n] [rB (xs.contains n)] := by
 rw [List.contains_eq_mem]
 exact Cbo xs n
def Mcq : MC :=
(Zs [.mv 4 cF] [0,1] (.seq (Zs [.mv 5 (ci 0)] [0,1,5] (.block 0 (.loop ([0,1,5], []) (.seq (Zs [mS 6 5, mS 7 0, nS 8 7, bS 9 .lss 6 8] [0,1,5,9] (cX 9 0))
(.seq (.block 1 (Zs [mS 12 0, mS 13 5, xS 14 1 12 13, lF 15 1 14, mS 16 1, bS 17 .eql 15 16] [0,1,5,17] (.cond (.s 17) (Zs [.mv 4 cT] [4] .ret) .skip)))
(pr [mS 10 5, bC 11 .add 10 1, mS 5 11] [0,1,5]))))))
(Zs [.mv 4 cF] [4] .ret)))
theorem Ccr (xs : List Int) (n : Int) : Ctr Tryz.prog N6x [aL 1 (xs.map encI), aI n] [rB (xs.contains n)] := by
 refine cA Mcq 0 18 [(.tmp 4, [false])] Tryz.func96 rfl rfl ?_; unfold Mcq
 intro hb
 simp only [bdA, bdL, bdT, Kb, Kk, roomB, and_true, List.length_map] at hb
 obtain ⟨⟨hl, -⟩, -⟩ := hb
 simp only [go_sem]
 refine K5 xs (fun k => [(5, vI k)]) (fun k => []) (fun k => (xs.take k).contains n = false) hl ?_
 simp only [go_sem]
 refine ⟨?_, by simp, ?_, ?_⟩
 ·simp only [go_sem]
 ·intro k x hx h h0 h1 hw
  simp only [go_sem, K6 hx, h0, h1, hw]
  exact ⟨fun hn => (has_here hx hn).symm, fun hn => has_step hx h hn⟩
 ·intro h
  simp only [go_sem]
  rw [List.take_length] at h
  rw [h]
end Go.Proofs.YtgkeplbnnjogiaaGreatR
namespace Go.Proofs.YtgkeplbnnjogiaaGreatR
open Go Go.RowKit Go.Proofs
open Nat (reduceEqDiff reduceLT reduceLeDiff reduceAdd reduceMul)
open List (reduceReplicate)
theorem Kay {α β : Type} {p : α → Bool} {f : α → β} {l : List α} {k : Nat} {x : α} (h : l[k]? = some x) : ((l.take (k + 1)).filter p).map f = if p x = true then ((l.take k).filter p).map f ++ [f x] else ((l.take k).filter p).map f := by
 rw [Kc h, List.filter_append, List.map_append]
 by_cases hp : p x = true <;> simp [hp]
def Me2 : MC :=
(Zs [.nilo 2 0 1] [0] (Zs [.lit 5 0 1 8 [], mS 3 5] [0,3] (.seq (Zs [.mv 4 (ci 0)] [0,3,4] (.block 0 (.loop ([0,3,4], [1]) (.seq (Zs [mS 6 4, mS 7 0, nS 8 7, bS 9 .lss 6 8] [0,3,4,9] (cX 9 0))
(.seq (.block 1 (Zs [mS 12 0, mS 13 4, xS 14 4 12 13, fS 15 14 2, lF 16 1 15] [0,3,4,16] (.cond (.s 16) (pr [mS 17 3, mS 18 0, mS 19 4, xS 20 4 18 19, fS 21 20 0, lF 22 1 21, .lit 23 1 1 8 [.s 22], .app 24 0 1 8 (.s 17) (.s 23), mS 3 24] [0,3,4]) .skip)))
(pr [mS 10 4, bC 11 .add 10 1, mS 4 11] [0,3,4]))))))
(Zs [mS 25 3, mS 2 25] [2] .ret))))
theorem Cgt (xs : List GLibrary) (hN : xs.length ≤ 1099511627776) : Ctr Tryz.prog Ndi [aL 4 (xs.map GLibrary.enc)] [rL 1 (((xs.filter fun x => x.Up).map fun x => x.Id).map encI)] := by
 refine cA Me2 2 26 [(.tmp 2, [true])] Tryz.func95 rfl rfl ?_; unfold Me2
 intro hb
 simp only [bdA, bdL, bdT, Kb, roomB, and_true, List.length_map] at hb
 obtain ⟨hl, -⟩ := hb
 simp only [go_sem]
 refine K5 xs (fun k => [(3, .val false [.ref 0 0 1 0 ((xs.take k).filter fun x => x.Up).length]), (4, vI k)]) (fun k => [(0, ⟨0, .row true 1 ((((xs.take k).filter fun x => x.Up).map fun x => x.Id).map encI)⟩)]) (fun _ => True) hl ?_
 simp only [go_sem]
 refine ⟨?_, trivial, ?_, ?_⟩
 ·simp only [go_sem, List.take_zero, List.filter_nil]
 ·intro k x hx _ h0 h1 hw
  simp only [go_sem, K6 hx, h0, h1, hw, Kay hx]
  have hlf := List.length_filter_le (fun x => x.Up) (xs.take k)
  have hlt := List.length_take_le k xs
  simp only [roomB]
  refine ⟨fun u => ⟨by omega, by omega, ?_, ?_⟩, fun u => ⟨?_, ?_⟩⟩
  ·rw [Kc hx, List.filter_append]; simp [u]
  ·simp [u, encI]
  ·rw [Kc hx, List.filter_append]; simp [u]
  ·simp [u]
 ·intro _
  simp only [go_sem, List.take_length]
end Go.Proofs.YtgkeplbnnjogiaaGreatR
namespace Go.Proofs.YtgkeplbnnjogiaaGreatR
open Go Go.RowKit Go.Proofs
open Nat (reduceEqDiff reduceLT reduceLeDiff reduceAdd reduceMul)
open List (reduceReplicate)
attribute [go_sem] eqB
def K12 (xs : List GOp) : List Int := xs.flatMap fun o => [o.Kind, o.A, o.B, o.C]
theorem K52 {l : List GOp} {k : Nat} {x : GOp} (h : l[k]? = some x) : K12 (l.take (k + 1)) = K12 (l.take k) ++ [x.Kind, x.A, x.B, x.C] := by
 rw [Kc h, K12, List.flatMap_append]; rfl
theorem K5h {l : List GOp} : (K12 l).length = 4 * l.length := by
 induction l with
 | nil => rfl
 | cons x l ih => simp only [K12, List.flatMap_cons, List.length_append, List.length_cons, List.length_nil] at ih ⊢; omega
def M8f : MC :=
(Zs [.nilo 2 0 1] [0] (Zs [.lit 5 0 1 8 [], mS 3 5] [0,3] (.seq (Zs [.mv 4 (ci 0)] [0,3,4] (.block 0 (.loop ([0,3,4], [1]) (.seq (Zs [mS 6 4, mS 7 0, nS 8 7, bS 9 .lss 6 8] [0,3,4,9] (cX 9 0))
(.seq (.block 1 (.dreg [Zf [13,14,15,16,17,18,19,20,21,22,23,24,25,26,27,28,29,30,31,32,33] [1] (mS 12 3), Zc [12,14,18,19,20,21,22,23,24,25,26,27,28,29,30,31,32] (mS 13 0), Zc [12,13,18,19,20,21,22,23,24,25,26,27,28,29,30,31,32] (mS 14 4), Zd [12,18,19,20,21,22,23,24,25,26,27,28,29,30,31,32] [1,2] (xS 15 4 13 14), Zd [12,18,19,20,21,22,23,24,25,26,27,28,29,30,31,32] [1,2,3] (fS 16 15 0), Zd [12,18,19,20,21,22,23,24,25,26,27,28,29,30,31,32] [1,2,3,4] (lF 17 1 16), Zc [12,13,14,15,16,17,19,23,24,25,26,27,28,29,30,31,32] (mS 18 0), Zc [12,13,14,15,16,17,18,23,24,25,26,27,28,29,30,31,32] (mS 19 4), Zd [12,13,14,15,16,17,23,24,25,26,27,28,29,30,31,32] [6,7] (xS 20 4 18 19), Zd [12,13,14,15,16,17,23,24,25,26,27,28,29,30,31,32] [6,7,8] (fS 21 20 1), Zd [12,13,14,15,16,17,23,24,25,26,27,28,29,30,31,32] [6,7,8,9] (lF 22 1 21), Zc [12,13,14,15,16,17,18,19,20,21,22,24,28,29,30,31,32] (mS 23 0), Zc [12,13,14,15,16,17,18,19,20,21,22,23,28,29,30,31,32] (mS 24 4), Zd [12,13,14,15,16,17,18,19,20,21,22,28,29,30,31,32] [11,12] (xS 25 4 23 24), Zd [12,13,14,15,16,17,18,19,20,21,22,28,29,30,31,32] [11,12,13] (fS 26 25 2), Zd [12,13,14,15,16,17,18,19,20,21,22,28,29,30,31,32] [11,12,13,14] (lF 27 1 26), Zc [12,13,14,15,16,17,18,19,20,21,22,23,24,25,26,27,29] (mS 28 0), Zc [12,13,14,15,16,17,18,19,20,21,22,23,24,25,26,27,28] (mS 29 4), Zd [12,13,14,15,16,17,18,19,20,21,22,23,24,25,26,27] [16,17] (xS 30 4 28 29), Zd [12,13,14,15,16,17,18,19,20,21,22,23,24,25,26,27] [16,17,18] (fS 31 30 3), Zd [12,13,14,15,16,17,18,19,20,21,22,23,24,25,26,27] [16,17,18,19] (lF 32 1 31), { o := .lit 33 1 1 8 [.s 17, .s 22, .s 27, .s 32], hs := [12], ws := [1], bf := [1,2,3,4,5,6,7,8,9,10,11,12,13,14,15,16,17,18,19,20] }, { o := .app 34 0 1 8 (.s 12) (.s 33), ws := [0], bf := (.range 22) }, Ze (.range 23) (mS 3 34)] [0,3,4]))
(pr [mS 10 4, bC 11 .add 10 1, mS 4 11] [0,3,4]))))))
(Zs [mS 35 3, mS 2 35] [2] .ret))))
theorem Ceu (xs : List GOp) (hN : xs.length ≤ 1099511627776) : Ctr Tryz.prog N7m [aL 4 (xs.map GOp.enc)] [rL 1 ((K12 xs).map encI)] := by
 refine cA M8f 2 36 [(.tmp 2, [true])] Tryz.func343 rfl rfl ?_; unfold M8f
 intro hb
 simp only [bdA, bdL, bdT, Kb, roomB, and_true, List.length_map] at hb
 obtain ⟨hl, -⟩ := hb
 simp only [go_sem]
 refine K5 xs (fun k => [(3, .val false [.ref 0 0 1 0 (K12 (xs.take k)).length]), (4, vI k)]) (fun k => [(0, ⟨0, .row true 1 ((K12 (xs.take k)).map encI)⟩)]) (fun _ => True) hl ?_
 simp only [go_sem]
 refine ⟨?_, trivial, ?_, ?_⟩
 ·simp only [go_sem, List.take_zero]
  exact ⟨rfl, rfl⟩
 ·intro k x hx _ h0 h1 hw
  have hlt := List.length_take_le k xs
  simp only [go_sem, K6 hx, h0, h1, hw, K52 hx, List.length_append, K5h]
  refine ⟨⟨by simp, by decide⟩, by simp only [roomB]; omega, by simp [encI]⟩
 ·intro _
  simp only [go_sem, List.take_length]
def Mbt : MC :=
(Zs [.mv 4 cF] [0,1] (.seq (Zs [mS 6 0, nS 7 6, mS 8 1, nS 9 8, bS 10 .neq 7 9] [0,1,10] (.cond (.s 10) (Zs [.mv 4 cF] [4] .ret) .skip))
(.seq (Zs [.mv 5 (ci 0)] [0,1,5] (.block 0 (.loop ([0,1,5], []) (.seq (Zs [mS 11 5, mS 12 0, nS 13 12, bS 14 .lss 11 13] [0,1,5,14] (cX 14 0))
(.seq (.block 1 (.seq (.dreg [Zc [18,21,22,23,24] (mS 17 0), Zc [17,21,22,23,24] (mS 18 5), Zd [21,22,23,24] [0,1] (xS 19 6 17 18), Zd [21,22,23,24] [0,1,2] (lT 20 6 19), Zc [17,18,19,20,22] (mS 21 1), Zc [17,18,19,20,21] (mS 22 5), Zd [17,18,19,20] [4,5] (xS 23 6 21 22), Zd [17,18,19,20] [4,5,6] (lT 24 6 23), Ze (.range 8) (.eqA 25 true [.i .i64, .i .i64, .i .i64, .i .i64, .i .i64, .i .i64] (.s 20) (.s 24))] [0,1,5,25])
(.cond (.s 25) (Zs [.mv 4 cF] [4] .ret) .skip)))
(pr [mS 15 5, bC 16 .add 15 1, mS 5 16] [0,1,5]))))))
(Zs [.mv 4 cT] [4] .ret))))
theorem Cbu (xs ys : List GFound) : Ctr Tryz.prog N5q [aL 6 (xs.map GFound.enc), aL 6 (ys.map GFound.enc)] [rB (decide (xs = ys))] := by
 refine cA Mbt 0 26 [(.tmp 4, [false])] Tryz.func292 rfl rfl ?_; unfold Mbt
 intro hb
 simp only [bdA, bdL, bdT, Kb, roomB, and_true, List.length_map] at hb
 obtain ⟨⟨hl, -⟩, ⟨hl2, -⟩⟩ := hb
 simp only [go_sem]
 refine ⟨fun h => K2n h, fun h => ?_⟩
 have hle : xs.length = ys.length := by omega
 refine K5 xs (fun k => [(5, vI k)]) (fun k => []) (fun k => xs.take k = ys.take k) hl ?_
 simp only [go_sem]
 refine ⟨?_, rfl, ?_, ?_⟩
 ·simp only [go_sem]
 ·intro k x hx he h0 h1 hw
  obtain ⟨y, hy⟩ := Kf (show k < ys.length by omega)
  have h2 : (k : Int) < ys.length := by omega
  simp only [go_sem, K6 hx, K6 hy, h0, h1, h2, hw]
  exact ⟨fun hn => K3c hx hy (by rintro rfl; simp at hn), fun hn => (K16 hx hy he).2 (by exact GFound.eqv.2 (by simpa using hn))⟩
 ·intro he
  simp only [go_sem]
  exact K2m he hle
end Go.Proofs.YtgkeplbnnjogiaaGreatR
