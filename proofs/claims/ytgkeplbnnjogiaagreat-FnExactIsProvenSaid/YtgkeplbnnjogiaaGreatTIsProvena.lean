/- What the functions compute that the laws of IsProven reach: contracts. Conditions stand in each theorem. -/
import Derived.Test.YtgkeplbnnjogiaaGreatProg
import Derived.KernelRfl
import Derived.Shelf.Sort.Plain
import Derived.Ground.Names2Prog
import Derived.Shelf.Slices.CompactI
import Derived.Shelf.Slices.In.SortNone
import Derived.Shelf.Spec.SlicesInsertGrow
import Derived.Shelf.Bits.Mul64
import Derived.Shelf.SlicesE.DeleteFunc
import Derived.Ground.SlgfProg
import Derived.Test.YtgkeplbnnjogiaaGreatRIsProvenc
set_option linter.unusedVariables false
set_option linter.unusedSimpArgs false
namespace Go.Proofs.YtgkeplbnnjogiaaGreatR
open Go Go.RowKit
attribute [go_sem ↓] bk_bind K4g bk_ite K26
def Za (o : MO) : MOp := { o := o }
def Zb (k : Nat) (b : Bool) (o : MO) : MOp := { o := o, g := some (k, b) }
def Zc (h : List Nat) (o : MO) : MOp := { o := o, hs := h }
def Zd (h b : List Nat) (o : MO) : MOp := { o := o, hs := h, bf := b }
def Ze (b : List Nat) (o : MO) : MOp := { o := o, bf := b }
def Zf (h g : List Nat) (o : MO) : MOp := { o := o, hs := h, ho := g }
def Zg (h g b : List Nat) (o : MO) : MOp := { o := o, hs := h, ho := g, bf := b }
def pz : SC := .pl (.sc (.int .i64 0))
def ci (n : Int) : Od := .c (.int .i64 n)
def cT : Od := .c (.bool true)
def cF : Od := .c (.bool false)
attribute [go_sem] Nat.reduceEqDiff Nat.reduceLT Nat.reduceLeDiff Nat.reduceAdd Nat.reduceMul reduceCtorEq List.reduceReplicate
attribute [go_sem ↓] reduceIte
attribute [go_sem] Za Zb Zc Zd Ze Zf Zg pz ci cT cF
def mS (d a : Nat) : MO := .mv d (.s a)
def lF (d k a : Nat) : MO := .load d false k (.s a)
def lT (d k a : Nat) : MO := .load d true k (.s a)
def fS (d a k : Nat) : MO := .fld d (.s a) k
def xS (d k a b : Nat) : MO := .idx d k (.s a) (.s b)
def nS (d a : Nat) : MO := .len d false (.s a)
def bS (d : Nat) (o : BinOp) (a b : Nat) : MO := .bin d false o (.s a) (.s b)
def bC (d : Nat) (o : BinOp) (a : Nat) (b : Int) : MO := .bin d false o (.s a) (.c (.int .i64 b))
def sS (k a b : Nat) : MO := .store k (.s a) (.s b)
def cX (a k : Nat) : MC := .cond (.s a) .skip (.exit k)
def Zs (l : List MO) (h : List Nat) (c : MC) : MC := .seq (pr l h) c
attribute [go_sem] mS lF lT fS xS nS bS bC sS cX Zs
open Nat (reduceEqDiff reduceLT reduceLeDiff reduceAdd reduceMul)
open List (reduceReplicate)
def encI (n : Int) : List T := [tI n]
def encB (b : Bool) : List T := [tB b]
theorem K21 {ts : List T} (h : IsT .int ts) : ∃ n, ts = encI n := h
theorem Kc {α : Type} {enc : α → List T} {ty : DT} (h : ∀ {ts}, IsT ty ts → ∃ x, ts = enc x) : ∀ {es : List (List T)}, (∀ x ∈ es, IsT ty x) → ∃ xs : List α, es = xs.map enc
 | [], _ => ⟨[], rfl⟩
 | e :: es, k => by
  obtain ⟨x, rfl⟩ := h (k e (by simp))
  obtain ⟨xs, hx⟩ := Kc h (es := es) fun y hy => k y (by simp [hy])
  subst hx
  exact ⟨x :: xs, rfl⟩
structure GAddress where
 Host : Int
 Path : Int
 Query : Int
 deriving DecidableEq
def GAddress.enc (x : GAddress) : List T := [tI x.Host, tI x.Path, tI x.Query]
def GAddress.dt : DT := .st (.fc .int (.fc .int (.fc .int .fn)))
theorem GAddress.of {ts : List T} (h : IsT GAddress.dt ts) : ∃ x : GAddress, ts = x.enc := by
 simp only [GAddress.dt, IsT] at h
 obtain ⟨_, _, rfl, ⟨v0, rfl⟩, _, _, rfl, ⟨v1, rfl⟩, _, _, rfl, ⟨v2, rfl⟩, rfl⟩ := h
 exact ⟨⟨v0, v1, v2⟩, rfl⟩
structure GResource where
 Kind : Int
 Body : List Int
 To : GAddress
 deriving DecidableEq
def GResource.enc (x : GResource) : List T := [tI x.Kind, .sl 1 (x.Body.map encI), tI x.To.Host, tI x.To.Path, tI x.To.Query]
def GResource.dt : DT := .st (.fc .int (.fc (.sl .int) (.fc GAddress.dt .fn)))
theorem GResource.of {ts : List T} (h : IsT GResource.dt ts) : ∃ x : GResource, ts = x.enc := by
 simp only [GResource.dt, IsT] at h
 obtain ⟨_, _, rfl, ⟨v0, rfl⟩, _, _, rfl, ⟨l1, rfl, k1⟩, _, _, rfl, k2, rfl⟩ := h
 obtain ⟨v1, rfl⟩ := Kc K21 k1
 obtain ⟨v2, rfl⟩ := GAddress.of k2
 exact ⟨⟨v0, v1, v2⟩, rfl⟩
def GResource.size (x : GResource) : Nat := (x.Body.length)
structure GPart where
 Digest : Int
 Resource : GResource
 Uses : Int
 deriving DecidableEq
def GPart.enc (x : GPart) : List T := [tI x.Digest, tI x.Resource.Kind, .sl 1 (x.Resource.Body.map encI), tI x.Resource.To.Host, tI x.Resource.To.Path, tI x.Resource.To.Query, tI x.Uses]
def GPart.dt : DT := .st (.fc .int (.fc GResource.dt (.fc .int .fn)))
theorem GPart.of {ts : List T} (h : IsT GPart.dt ts) : ∃ x : GPart, ts = x.enc := by
 simp only [GPart.dt, IsT] at h
 obtain ⟨_, _, rfl, ⟨v0, rfl⟩, _, _, rfl, k1, _, _, rfl, ⟨v2, rfl⟩, rfl⟩ := h
 obtain ⟨v1, rfl⟩ := GResource.of k1
 exact ⟨⟨v0, v1, v2⟩, rfl⟩
def GPart.size (x : GPart) : Nat := (x.Resource.size)
structure GPiece where
 From : Int
 Count : Int
 New : List Int
 deriving DecidableEq
def GPiece.enc (x : GPiece) : List T := [tI x.From, tI x.Count, .sl 1 (x.New.map encI)]
def GPiece.dt : DT := .st (.fc .int (.fc .int (.fc (.sl .int) .fn)))
theorem GPiece.of {ts : List T} (h : IsT GPiece.dt ts) : ∃ x : GPiece, ts = x.enc := by
 simp only [GPiece.dt, IsT] at h
 obtain ⟨_, _, rfl, ⟨v0, rfl⟩, _, _, rfl, ⟨v1, rfl⟩, _, _, rfl, ⟨l2, rfl, k2⟩, rfl⟩ := h
 obtain ⟨v2, rfl⟩ := Kc K21 k2
 exact ⟨⟨v0, v1, v2⟩, rfl⟩
def GPiece.size (x : GPiece) : Nat := (x.New.length)
structure GVersion where
 Address : GAddress
 From : Int
 Resource : GResource
 deriving DecidableEq
def GVersion.enc (x : GVersion) : List T := [tI x.Address.Host, tI x.Address.Path, tI x.Address.Query, tI x.From, tI x.Resource.Kind, .sl 1 (x.Resource.Body.map encI), tI x.Resource.To.Host, tI x.Resource.To.Path, tI x.Resource.To.Query]
def GVersion.dt : DT := .st (.fc GAddress.dt (.fc .int (.fc GResource.dt .fn)))
theorem GVersion.of {ts : List T} (h : IsT GVersion.dt ts) : ∃ x : GVersion, ts = x.enc := by
 simp only [GVersion.dt, IsT] at h
 obtain ⟨_, _, rfl, k0, _, _, rfl, ⟨v1, rfl⟩, _, _, rfl, k2, rfl⟩ := h
 obtain ⟨v0, rfl⟩ := GAddress.of k0
 obtain ⟨v2, rfl⟩ := GResource.of k2
 exact ⟨⟨v0, v1, v2⟩, rfl⟩
def GVersion.size (x : GVersion) : Nat := (x.Resource.size)
structure GOp where
 Kind : Int
 A : Int
 B : Int
 C : Int
 deriving DecidableEq
def GOp.enc (x : GOp) : List T := [tI x.Kind, tI x.A, tI x.B, tI x.C]
def GOp.dt : DT := .st (.fc .int (.fc .int (.fc .int (.fc .int .fn))))
theorem GOp.of {ts : List T} (h : IsT GOp.dt ts) : ∃ x : GOp, ts = x.enc := by
 simp only [GOp.dt, IsT] at h
 obtain ⟨_, _, rfl, ⟨v0, rfl⟩, _, _, rfl, ⟨v1, rfl⟩, _, _, rfl, ⟨v2, rfl⟩, _, _, rfl, ⟨v3, rfl⟩, rfl⟩ := h
 exact ⟨⟨v0, v1, v2, v3⟩, rfl⟩
structure GState where
 Pc : Int
 Regs : List Int
 Slots : List Int
 Nodes : List Int
 deriving DecidableEq
def GState.enc (x : GState) : List T := [tI x.Pc, .sl 1 (x.Regs.map encI), .sl 1 (x.Slots.map encI), .sl 1 (x.Nodes.map encI)]
def GState.dt : DT := .st (.fc .int (.fc (.sl .int) (.fc (.sl .int) (.fc (.sl .int) .fn))))
theorem GState.of {ts : List T} (h : IsT GState.dt ts) : ∃ x : GState, ts = x.enc := by
 simp only [GState.dt, IsT] at h
 obtain ⟨_, _, rfl, ⟨v0, rfl⟩, _, _, rfl, ⟨l1, rfl, k1⟩, _, _, rfl, ⟨l2, rfl, k2⟩, _, _, rfl, ⟨l3, rfl, k3⟩, rfl⟩ := h
 obtain ⟨v1, rfl⟩ := Kc K21 k1
 obtain ⟨v2, rfl⟩ := Kc K21 k2
 obtain ⟨v3, rfl⟩ := Kc K21 k3
 exact ⟨⟨v0, v1, v2, v3⟩, rfl⟩
def GState.size (x : GState) : Nat := (x.Regs.length) + (x.Slots.length) + (x.Nodes.length)
structure GVisit where
 Site : List GVersion
 Tick : Int
 Seed : Int
 Inputs : List Int
 deriving DecidableEq
def GVisit.enc (x : GVisit) : List T := [.sl 9 (x.Site.map GVersion.enc), tI x.Tick, tI x.Seed, .sl 1 (x.Inputs.map encI)]
def GVisit.dt : DT := .st (.fc (.sl GVersion.dt) (.fc .int (.fc .int (.fc (.sl .int) .fn))))
theorem GVisit.of {ts : List T} (h : IsT GVisit.dt ts) : ∃ x : GVisit, ts = x.enc := by
 simp only [GVisit.dt, IsT] at h
 obtain ⟨_, _, rfl, ⟨l0, rfl, k0⟩, _, _, rfl, ⟨v1, rfl⟩, _, _, rfl, ⟨v2, rfl⟩, _, _, rfl, ⟨l3, rfl, k3⟩, rfl⟩ := h
 obtain ⟨v0, rfl⟩ := Kc GVersion.of k0
 obtain ⟨v3, rfl⟩ := Kc K21 k3
 exact ⟨⟨v0, v1, v2, v3⟩, rfl⟩
def GVisit.size (x : GVisit) : Nat := (x.Site.length + (x.Site.map GVersion.size).sum) + (x.Inputs.length)
structure GWant where
 Kind : Int
 Address : GAddress
 deriving DecidableEq
def GWant.enc (x : GWant) : List T := [tI x.Kind, tI x.Address.Host, tI x.Address.Path, tI x.Address.Query]
def GWant.dt : DT := .st (.fc .int (.fc GAddress.dt .fn))
theorem GWant.of {ts : List T} (h : IsT GWant.dt ts) : ∃ x : GWant, ts = x.enc := by
 simp only [GWant.dt, IsT] at h
 obtain ⟨_, _, rfl, ⟨v0, rfl⟩, _, _, rfl, k1, rfl⟩ := h
 obtain ⟨v1, rfl⟩ := GAddress.of k1
 exact ⟨⟨v0, v1⟩, rfl⟩
structure GEntry where
 Kind : Int
 Address : GAddress
 Value : Int
 deriving DecidableEq
def GEntry.enc (x : GEntry) : List T := [tI x.Kind, tI x.Address.Host, tI x.Address.Path, tI x.Address.Query, tI x.Value]
def GEntry.dt : DT := .st (.fc .int (.fc GAddress.dt (.fc .int .fn)))
theorem GEntry.of {ts : List T} (h : IsT GEntry.dt ts) : ∃ x : GEntry, ts = x.enc := by
 simp only [GEntry.dt, IsT] at h
 obtain ⟨_, _, rfl, ⟨v0, rfl⟩, _, _, rfl, k1, _, _, rfl, ⟨v2, rfl⟩, rfl⟩ := h
 obtain ⟨v1, rfl⟩ := GAddress.of k1
 exact ⟨⟨v0, v1, v2⟩, rfl⟩
structure GCapture where
 Address : GAddress
 Tick : Int
 Resource : GResource
 deriving DecidableEq
def GCapture.enc (x : GCapture) : List T := [tI x.Address.Host, tI x.Address.Path, tI x.Address.Query, tI x.Tick, tI x.Resource.Kind, .sl 1 (x.Resource.Body.map encI), tI x.Resource.To.Host, tI x.Resource.To.Path, tI x.Resource.To.Query]
def GCapture.dt : DT := .st (.fc GAddress.dt (.fc .int (.fc GResource.dt .fn)))
theorem GCapture.of {ts : List T} (h : IsT GCapture.dt ts) : ∃ x : GCapture, ts = x.enc := by
 simp only [GCapture.dt, IsT] at h
 obtain ⟨_, _, rfl, k0, _, _, rfl, ⟨v1, rfl⟩, _, _, rfl, k2, rfl⟩ := h
 obtain ⟨v0, rfl⟩ := GAddress.of k0
 obtain ⟨v2, rfl⟩ := GResource.of k2
 exact ⟨⟨v0, v1, v2⟩, rfl⟩
def GCapture.size (x : GCapture) : Nat := (x.Resource.size)
structure GChoice where
 Rule : Int
 At : Int
 deriving DecidableEq
def GChoice.enc (x : GChoice) : List T := [tI x.Rule, tI x.At]
def GChoice.dt : DT := .st (.fc .int (.fc .int .fn))
theorem GChoice.of {ts : List T} (h : IsT GChoice.dt ts) : ∃ x : GChoice, ts = x.enc := by
 simp only [GChoice.dt, IsT] at h
 obtain ⟨_, _, rfl, ⟨v0, rfl⟩, _, _, rfl, ⟨v1, rfl⟩, rfl⟩ := h
 exact ⟨⟨v0, v1⟩, rfl⟩
structure GWander where
 State : GState
 Choices : List GChoice
 Labels : List Int
 Missing : Int
 deriving DecidableEq
def GWander.enc (x : GWander) : List T := [tI x.State.Pc, .sl 1 (x.State.Regs.map encI), .sl 1 (x.State.Slots.map encI), .sl 1 (x.State.Nodes.map encI), .sl 2 (x.Choices.map GChoice.enc), .sl 1 (x.Labels.map encI), tI x.Missing]
def GWander.dt : DT := .st (.fc GState.dt (.fc (.sl GChoice.dt) (.fc (.sl .int) (.fc .int .fn))))
theorem GWander.of {ts : List T} (h : IsT GWander.dt ts) : ∃ x : GWander, ts = x.enc := by
 simp only [GWander.dt, IsT] at h
 obtain ⟨_, _, rfl, k0, _, _, rfl, ⟨l1, rfl, k1⟩, _, _, rfl, ⟨l2, rfl, k2⟩, _, _, rfl, ⟨v3, rfl⟩, rfl⟩ := h
 obtain ⟨v0, rfl⟩ := GState.of k0
 obtain ⟨v1, rfl⟩ := Kc GChoice.of k1
 obtain ⟨v2, rfl⟩ := Kc K21 k2
 exact ⟨⟨v0, v1, v2, v3⟩, rfl⟩
def GWander.size (x : GWander) : Nat := (x.State.size) + (x.Choices.length) + (x.Labels.length)
structure GModel where
 Base : Int
 Step : Int
 Seen : Int
 Fits : Bool
 deriving DecidableEq
def GModel.enc (x : GModel) : List T := [tI x.Base, tI x.Step, tI x.Seen, tB x.Fits]
def GModel.dt : DT := .st (.fc .int (.fc .int (.fc .int (.fc .bool .fn))))
theorem GModel.of {ts : List T} (h : IsT GModel.dt ts) : ∃ x : GModel, ts = x.enc := by
 simp only [GModel.dt, IsT] at h
 obtain ⟨_, _, rfl, ⟨v0, rfl⟩, _, _, rfl, ⟨v1, rfl⟩, _, _, rfl, ⟨v2, rfl⟩, _, _, rfl, ⟨v3, rfl⟩, rfl⟩ := h
 exact ⟨⟨v0, v1, v2, v3⟩, rfl⟩
structure GShown where
 Tick : Int
 Address : GAddress
 deriving DecidableEq
def GShown.enc (x : GShown) : List T := [tI x.Tick, tI x.Address.Host, tI x.Address.Path, tI x.Address.Query]
def GShown.dt : DT := .st (.fc .int (.fc GAddress.dt .fn))
theorem GShown.of {ts : List T} (h : IsT GShown.dt ts) : ∃ x : GShown, ts = x.enc := by
 simp only [GShown.dt, IsT] at h
 obtain ⟨_, _, rfl, ⟨v0, rfl⟩, _, _, rfl, k1, rfl⟩ := h
 obtain ⟨v1, rfl⟩ := GAddress.of k1
 exact ⟨⟨v0, v1⟩, rfl⟩
structure GLeaf where
 Value : Int
 Salt : Int
 Hidden : Bool
 Seal : Int
 deriving DecidableEq
def GLeaf.enc (x : GLeaf) : List T := [tI x.Value, tI x.Salt, tB x.Hidden, tI x.Seal]
def GLeaf.dt : DT := .st (.fc .int (.fc .int (.fc .bool (.fc .int .fn))))
theorem GLeaf.of {ts : List T} (h : IsT GLeaf.dt ts) : ∃ x : GLeaf, ts = x.enc := by
 simp only [GLeaf.dt, IsT] at h
 obtain ⟨_, _, rfl, ⟨v0, rfl⟩, _, _, rfl, ⟨v1, rfl⟩, _, _, rfl, ⟨v2, rfl⟩, _, _, rfl, ⟨v3, rfl⟩, rfl⟩ := h
 exact ⟨⟨v0, v1, v2, v3⟩, rfl⟩
structure GEdition where
 Captures : List GCapture
 From : Int
 Until : Int
 Hidden : List GAddress
 deriving DecidableEq
def GEdition.enc (x : GEdition) : List T := [.sl 9 (x.Captures.map GCapture.enc), tI x.From, tI x.Until, .sl 3 (x.Hidden.map GAddress.enc)]
def GEdition.dt : DT := .st (.fc (.sl GCapture.dt) (.fc .int (.fc .int (.fc (.sl GAddress.dt) .fn))))
theorem GEdition.of {ts : List T} (h : IsT GEdition.dt ts) : ∃ x : GEdition, ts = x.enc := by
 simp only [GEdition.dt, IsT] at h
 obtain ⟨_, _, rfl, ⟨l0, rfl, k0⟩, _, _, rfl, ⟨v1, rfl⟩, _, _, rfl, ⟨v2, rfl⟩, _, _, rfl, ⟨l3, rfl, k3⟩, rfl⟩ := h
 obtain ⟨v0, rfl⟩ := Kc GCapture.of k0
 obtain ⟨v3, rfl⟩ := Kc GAddress.of k3
 exact ⟨⟨v0, v1, v2, v3⟩, rfl⟩
def GEdition.size (x : GEdition) : Nat := (x.Captures.length + (x.Captures.map GCapture.size).sum) + (x.Hidden.length)
structure GExclusion where
 Host : Int
 Path : Int
 From : Int
 Until : Int
 Asked : Int
 deriving DecidableEq
def GExclusion.enc (x : GExclusion) : List T := [tI x.Host, tI x.Path, tI x.From, tI x.Until, tI x.Asked]
def GExclusion.dt : DT := .st (.fc .int (.fc .int (.fc .int (.fc .int (.fc .int .fn)))))
theorem GExclusion.of {ts : List T} (h : IsT GExclusion.dt ts) : ∃ x : GExclusion, ts = x.enc := by
 simp only [GExclusion.dt, IsT] at h
 obtain ⟨_, _, rfl, ⟨v0, rfl⟩, _, _, rfl, ⟨v1, rfl⟩, _, _, rfl, ⟨v2, rfl⟩, _, _, rfl, ⟨v3, rfl⟩, _, _, rfl, ⟨v4, rfl⟩, rfl⟩ := h
 exact ⟨⟨v0, v1, v2, v3, v4⟩, rfl⟩
structure GStatement where
 Witness : Int
 Digest : Int
 Tick : Int
 Seal : Int
 deriving DecidableEq
def GStatement.enc (x : GStatement) : List T := [tI x.Witness, tI x.Digest, tI x.Tick, tI x.Seal]
def GStatement.dt : DT := .st (.fc .int (.fc .int (.fc .int (.fc .int .fn))))
theorem GStatement.of {ts : List T} (h : IsT GStatement.dt ts) : ∃ x : GStatement, ts = x.enc := by
 simp only [GStatement.dt, IsT] at h
 obtain ⟨_, _, rfl, ⟨v0, rfl⟩, _, _, rfl, ⟨v1, rfl⟩, _, _, rfl, ⟨v2, rfl⟩, _, _, rfl, ⟨v3, rfl⟩, rfl⟩ := h
 exact ⟨⟨v0, v1, v2, v3⟩, rfl⟩
structure GLibrary where
 Id : Int
 Digests : List Int
 Up : Bool
 Lies : Bool
 deriving DecidableEq
def GLibrary.enc (x : GLibrary) : List T := [tI x.Id, .sl 1 (x.Digests.map encI), tB x.Up, tB x.Lies]
def GLibrary.dt : DT := .st (.fc .int (.fc (.sl .int) (.fc .bool (.fc .bool .fn))))
theorem GLibrary.of {ts : List T} (h : IsT GLibrary.dt ts) : ∃ x : GLibrary, ts = x.enc := by
 simp only [GLibrary.dt, IsT] at h
 obtain ⟨_, _, rfl, ⟨v0, rfl⟩, _, _, rfl, ⟨l1, rfl, k1⟩, _, _, rfl, ⟨v2, rfl⟩, _, _, rfl, ⟨v3, rfl⟩, rfl⟩ := h
 obtain ⟨v1, rfl⟩ := Kc K21 k1
 exact ⟨⟨v0, v1, v2, v3⟩, rfl⟩
def GLibrary.size (x : GLibrary) : Nat := (x.Digests.length)
structure GContainer where
 Script : List GOp
 Entries : List GEntry
 Captures : List GCapture
 Root : Int
 deriving DecidableEq
def GContainer.enc (x : GContainer) : List T := [.sl 4 (x.Script.map GOp.enc), .sl 5 (x.Entries.map GEntry.enc), .sl 9 (x.Captures.map GCapture.enc), tI x.Root]
def GContainer.dt : DT := .st (.fc (.sl GOp.dt) (.fc (.sl GEntry.dt) (.fc (.sl GCapture.dt) (.fc .int .fn))))
theorem GContainer.of {ts : List T} (h : IsT GContainer.dt ts) : ∃ x : GContainer, ts = x.enc := by
 simp only [GContainer.dt, IsT] at h
 obtain ⟨_, _, rfl, ⟨l0, rfl, k0⟩, _, _, rfl, ⟨l1, rfl, k1⟩, _, _, rfl, ⟨l2, rfl, k2⟩, _, _, rfl, ⟨v3, rfl⟩, rfl⟩ := h
 obtain ⟨v0, rfl⟩ := Kc GOp.of k0
 obtain ⟨v1, rfl⟩ := Kc GEntry.of k1
 obtain ⟨v2, rfl⟩ := Kc GCapture.of k2
 exact ⟨⟨v0, v1, v2, v3⟩, rfl⟩
def GContainer.size (x : GContainer) : Nat := (x.Script.length) + (x.Entries.length) + (x.Captures.length + (x.Captures.map GCapture.size).sum)
structure GFound where
 Address : GAddress
 Tick : Int
 Container : Int
 At : Int
 deriving DecidableEq
def GFound.enc (x : GFound) : List T := [tI x.Address.Host, tI x.Address.Path, tI x.Address.Query, tI x.Tick, tI x.Container, tI x.At]
def GFound.dt : DT := .st (.fc GAddress.dt (.fc .int (.fc .int (.fc .int .fn))))
theorem GFound.of {ts : List T} (h : IsT GFound.dt ts) : ∃ x : GFound, ts = x.enc := by
 simp only [GFound.dt, IsT] at h
 obtain ⟨_, _, rfl, k0, _, _, rfl, ⟨v1, rfl⟩, _, _, rfl, ⟨v2, rfl⟩, _, _, rfl, ⟨v3, rfl⟩, rfl⟩ := h
 obtain ⟨v0, rfl⟩ := GAddress.of k0
 exact ⟨⟨v0, v1, v2, v3⟩, rfl⟩
structure GDisk where
 Containers : List GContainer
 Index : List GFound
 Wanted : List GContainer
 deriving DecidableEq
def GDisk.enc (x : GDisk) : List T := [.sl 4 (x.Containers.map GContainer.enc), .sl 6 (x.Index.map GFound.enc), .sl 4 (x.Wanted.map GContainer.enc)]
def GDisk.dt : DT := .st (.fc (.sl GContainer.dt) (.fc (.sl GFound.dt) (.fc (.sl GContainer.dt) .fn)))
theorem GDisk.of {ts : List T} (h : IsT GDisk.dt ts) : ∃ x : GDisk, ts = x.enc := by
 simp only [GDisk.dt, IsT] at h
 obtain ⟨_, _, rfl, ⟨l0, rfl, k0⟩, _, _, rfl, ⟨l1, rfl, k1⟩, _, _, rfl, ⟨l2, rfl, k2⟩, rfl⟩ := h
 obtain ⟨v0, rfl⟩ := Kc GContainer.of k0
 obtain ⟨v1, rfl⟩ := Kc GFound.of k1
 obtain ⟨v2, rfl⟩ := Kc GContainer.of k2
 exact ⟨⟨v0, v1, v2⟩, rfl⟩
def GDisk.size (x : GDisk) : Nat := (x.Containers.length + (x.Containers.map GContainer.size).sum) + (x.Index.length) + (x.Wanted.length + (x.Wanted.map GContainer.size).sum)
structure GArchive where
 Site : List GVersion
 Script : List GOp
 Disk : GDisk
 Exclusions : List GExclusion
 Libraries : List GLibrary
 Keys : List Int
 Statements : List GStatement
 Now : Int
 deriving DecidableEq
def GArchive.enc (x : GArchive) : List T := [.sl 9 (x.Site.map GVersion.enc), .sl 4 (x.Script.map GOp.enc), .sl 4 (x.Disk.Containers.map GContainer.enc), .sl 6 (x.Disk.Index.map GFound.enc), .sl 4 (x.Disk.Wanted.map GContainer.enc), .sl 5 (x.Exclusions.map GExclusion.enc), .sl 4 (x.Libraries.map GLibrary.enc), .sl 1 (x.Keys.map encI), .sl 4 (x.Statements.map GStatement.enc), tI x.Now]
def GArchive.dt : DT := .st (.fc (.sl GVersion.dt) (.fc (.sl GOp.dt) (.fc GDisk.dt (.fc (.sl GExclusion.dt) (.fc (.sl GLibrary.dt) (.fc (.sl .int) (.fc (.sl GStatement.dt) (.fc .int .fn))))))))
theorem GArchive.of {ts : List T} (h : IsT GArchive.dt ts) : ∃ x : GArchive, ts = x.enc := by
 simp only [GArchive.dt, IsT] at h
 obtain ⟨_, _, rfl, ⟨l0, rfl, k0⟩, _, _, rfl, ⟨l1, rfl, k1⟩, _, _, rfl, k2, _, _, rfl, ⟨l3, rfl, k3⟩, _, _, rfl, ⟨l4, rfl, k4⟩, _, _, rfl, ⟨l5, rfl, k5⟩, _, _, rfl, ⟨l6, rfl, k6⟩, _, _, rfl, ⟨v7, rfl⟩, rfl⟩ := h
 obtain ⟨v0, rfl⟩ := Kc GVersion.of k0
 obtain ⟨v1, rfl⟩ := Kc GOp.of k1
 obtain ⟨v2, rfl⟩ := GDisk.of k2
 obtain ⟨v3, rfl⟩ := Kc GExclusion.of k3
 obtain ⟨v4, rfl⟩ := Kc GLibrary.of k4
 obtain ⟨v5, rfl⟩ := Kc K21 k5
 obtain ⟨v6, rfl⟩ := Kc GStatement.of k6
 exact ⟨⟨v0, v1, v2, v3, v4, v5, v6, v7⟩, rfl⟩
def GArchive.size (x : GArchive) : Nat := (x.Site.length + (x.Site.map GVersion.size).sum) + (x.Script.length) + (x.Disk.size) + (x.Exclusions.length) + (x.Libraries.length + (x.Libraries.map GLibrary.size).sum) + (x.Keys.length) + (x.Statements.length)
structure GEvent where
 Kind : Int
 N : Int
 Inputs : List Int
 Version : GVersion
 Exclusion : GExclusion
 deriving DecidableEq
def GEvent.enc (x : GEvent) : List T := [tI x.Kind, tI x.N, .sl 1 (x.Inputs.map encI), tI x.Version.Address.Host, tI x.Version.Address.Path, tI x.Version.Address.Query, tI x.Version.From, tI x.Version.Resource.Kind, .sl 1 (x.Version.Resource.Body.map encI), tI x.Version.Resource.To.Host, tI x.Version.Resource.To.Path, tI x.Version.Resource.To.Query, tI x.Exclusion.Host, tI x.Exclusion.Path, tI x.Exclusion.From, tI x.Exclusion.Until, tI x.Exclusion.Asked]
def GEvent.dt : DT := .st (.fc .int (.fc .int (.fc (.sl .int) (.fc GVersion.dt (.fc GExclusion.dt .fn)))))
theorem GEvent.of {ts : List T} (h : IsT GEvent.dt ts) : ∃ x : GEvent, ts = x.enc := by
 simp only [GEvent.dt, IsT] at h
 obtain ⟨_, _, rfl, ⟨v0, rfl⟩, _, _, rfl, ⟨v1, rfl⟩, _, _, rfl, ⟨l2, rfl, k2⟩, _, _, rfl, k3, _, _, rfl, k4, rfl⟩ := h
 obtain ⟨v2, rfl⟩ := Kc K21 k2
 obtain ⟨v3, rfl⟩ := GVersion.of k3
 obtain ⟨v4, rfl⟩ := GExclusion.of k4
 exact ⟨⟨v0, v1, v2, v3, v4⟩, rfl⟩
def GEvent.size (x : GEvent) : Nat := (x.Inputs.length) + (x.Version.size)
structure GChange where
 Tick : Int
 Digest : Int
 deriving DecidableEq
def GChange.enc (x : GChange) : List T := [tI x.Tick, tI x.Digest]
def GChange.dt : DT := .st (.fc .int (.fc .int .fn))
theorem GChange.of {ts : List T} (h : IsT GChange.dt ts) : ∃ x : GChange, ts = x.enc := by
 simp only [GChange.dt, IsT] at h
 obtain ⟨_, _, rfl, ⟨v0, rfl⟩, _, _, rfl, ⟨v1, rfl⟩, rfl⟩ := h
 exact ⟨⟨v0, v1⟩, rfl⟩
structure GPlayed where
 Code : Int
 At : Int
 State : GState
 deriving DecidableEq
def GPlayed.enc (x : GPlayed) : List T := [tI x.Code, tI x.At, tI x.State.Pc, .sl 1 (x.State.Regs.map encI), .sl 1 (x.State.Slots.map encI), .sl 1 (x.State.Nodes.map encI)]
def GPlayed.dt : DT := .st (.fc .int (.fc .int (.fc GState.dt .fn)))
theorem GPlayed.of {ts : List T} (h : IsT GPlayed.dt ts) : ∃ x : GPlayed, ts = x.enc := by
 simp only [GPlayed.dt, IsT] at h
 obtain ⟨_, _, rfl, ⟨v0, rfl⟩, _, _, rfl, ⟨v1, rfl⟩, _, _, rfl, k2, rfl⟩ := h
 obtain ⟨v2, rfl⟩ := GState.of k2
 exact ⟨⟨v0, v1, v2⟩, rfl⟩
def GPlayed.size (x : GPlayed) : Nat := (x.State.size)
attribute [go_sem] encI encB GAddress.enc GResource.enc GPart.enc GPiece.enc GVersion.enc GOp.enc GState.enc GVisit.enc GWant.enc GEntry.enc GCapture.enc GChoice.enc GWander.enc GModel.enc GShown.enc GLeaf.enc GEdition.enc GExclusion.enc GStatement.enc GLibrary.enc GContainer.enc GFound.enc GDisk.enc GArchive.enc GEvent.enc GChange.enc GPlayed.enc
end Go.Proofs.YtgkeplbnnjogiaaGreatR
namespace Go.Proofs.YtgkeplbnnjogiaaGreatR
open Go Go.RowKit
open Nat (reduceEqDiff reduceLT reduceLeDiff reduceAdd reduceMul)
open List (reduceReplicate)
def szr (n : Nat) (left : Int) : Int := if (n : Int) ≤ left then left - n else -1
theorem K3i {n : Nat} {left : Int} (_ : 0 ≤ left) : szr n left < 0 ↔ left < n := by unfold szr; split <;> omega
theorem K14 {n m : Nat} {left : Int} (_ : 0 ≤ left) (h1 : ¬ szr n left < 0) : 0 ≤ szr n left ∧ szr n left ≤ left ∧ szr (n + m) left = szr m (szr n left) := by
 unfold szr at *
 split at h1
 ·rename_i h2
  simp only [h2, if_true]
  refine ⟨by omega, by omega, ?_⟩
  split <;> split <;> omega
 ·omega
def own : List T → List (Bool × T)
 | [] => []
 | .sl k es :: l => (true, .sl k es) :: own l
 | t :: l => (false, t) :: own l
@[go_sem] theorem own_nil : own [] = [] := rfl
@[go_sem] theorem own_sl {k es l} : own (.sl k es :: l) = (true, .sl k es) :: own l := rfl
@[go_sem] theorem own_sc {v l} : own (.sc v :: l) = (false, .sc v) :: own l := rfl
abbrev rS (ts : List T) : RV := ⟨true, own ts⟩
abbrev rL (k : Nat) (es : List (List T)) : RV := ⟨false, [(true, .sl k es)]⟩
abbrev aS (ts : List T) : Bool × List T := (true, ts)
attribute [go_sem] rS rL aS
def filled {α : Type} (f : α → List T) (z : List T) (xs : List α) (k : Nat) : List (List T) := (xs.take k).map f ++ List.replicate (xs.length - k) z
section
variable {α : Type} {f : α → List T} {z : List T} {xs : List α} {k : Nat}
@[go_sem] theorem Ka (h : k ≤ xs.length) : (filled f z xs k).length = xs.length := by simp [filled]; omega
theorem Kv : filled f z xs 0 = List.replicate xs.length z := by simp [filled]
theorem K10 : filled f z xs xs.length = xs.map f := by simp [filled]
theorem Kb (h : k < xs.length) : (filled f z xs k)[k]? = some z := by
 unfold filled
 rw [List.getElem?_append_right (by simp; omega), List.getElem?_replicate, if_pos (by simp; omega)]
theorem K11 {x : α} (h : xs[k]? = some x) : (filled f z xs k).set k (f x) = filled f z xs (k + 1) := by
 have hk := Kq h
 unfold filled
 rw [List.set_append_right _ _ (by simp; omega), K1h h]
 have e : xs.length - k = (xs.length - (k + 1)) + 1 := by omega
 rw [e, List.replicate_succ]
 have e2 : k - (List.map f (List.take k xs)).length = 0 := by simp; omega
 rw [e2]
 simp
end
theorem Kj {n : Nat} {z : List T} : List.replicate (n : Int).toNat z = List.replicate n z := by simp
theorem Ks {α : Type} {xs ys : List α} {k : Nat} {x y : α} (hx : xs[k]? = some x) (hy : ys[k]? = some y) (h : xs.take k = ys.take k) : xs.take (k + 1) = ys.take (k + 1) ↔ x = y := by
 rw [K1h hx, K1h hy, h]
 simp
theorem K2g {α : Type} [DecidableEq α] {xs ys : List α} {k : Nat} {x y : α} (hx : xs[k]? = some x) (hy : ys[k]? = some y) (h : ¬ x = y) : false = decide (xs = ys) := by
 symm
 rw [decide_eq_false_iff_not]
 rintro rfl
 rw [hx] at hy
 exact h (Option.some.inj hy)
theorem K1z {α : Type} [DecidableEq α] {xs ys : List α} (h : ¬ (xs.length : Int) = ys.length) : false = decide (xs = ys) := by
 symm
 rw [decide_eq_false_iff_not]
 rintro rfl
 exact h rfl
theorem K22 {α : Type} [DecidableEq α] {xs ys : List α} (he : xs.take xs.length = ys.take xs.length) (hl : xs.length = ys.length) : true = decide (xs = ys) := by
 symm
 rw [decide_eq_true_iff]
 rw [List.take_length] at he
 rw [he, hl, List.take_length]
theorem szr_bad' {n N : Nat} {left : Int} (h0 : 0 ≤ left) (h : szr n left < 0) (hn : n ≤ N) : -1 = szr N left := by
 rw [K3i h0] at h
 unfold szr
 rw [if_neg (by omega)]
theorem szr_ok {n : Nat} {left : Int} (h : ¬ szr n left < 0) : (n : Int) ≤ left := by
 unfold szr at h
 split at h <;> omega
theorem K40 {α : Type} {f : α → Nat} {l : List α} {k : Nat} {x : α} (h : l[k]? = some x) : ((l.take (k + 1)).map f).sum = ((l.take k).map f).sum + f x := by
 rw [K1h h]; simp
theorem K2k {α : Type} {f : α → Nat} (l : List α) (k : Nat) : ((l.take k).map f).sum ≤ (l.map f).sum := by
 have h : (l.map f).sum = ((l.take k).map f).sum + ((l.drop k).map f).sum := by
  rw [← List.sum_append, ← List.map_append, List.take_append_drop]
 omega
theorem K4p {α : Type} {f : α → Nat} {l : List α} {x : α} (h : x ∈ l) : f x ≤ (l.map f).sum := by
 induction l with
 | nil => simp at h
 | cons y l ih =>
  rcases List.mem_cons.1 h with rfl | h
  ·simp
  ·have := ih h; simp; omega
end Go.Proofs.YtgkeplbnnjogiaaGreatR
namespace Go.Proofs.YtgkeplbnnjogiaaGreatR
open Go Go.RowKit Go.Proofs
open Nat (reduceEqDiff reduceLT reduceLeDiff reduceAdd reduceMul)
open List (reduceReplicate)
theorem hmix : Tryz.prog.follows .mixedOrders = true := by kernel_rfl
theorem cA {f : FuncId} {fn : Func} {c : Code} {args : List (Bool × List T)} {rs : List RV} (M : MC) (m n : Nat) (res : List (MR × List Bool)) (hf : Tryz.prog.funcs[f]? = some fn) (hb : fn.body = some c) (hnt : fn.ntmps = n)
    (h : bdA args → wpC Tryz.prog M (kF res rs) (startS args n m)) (hname : (fn.name == "runtime.NumGoroutine") = false := by kernel_rfl) (hc : chkC Tryz.prog c M = true := by kernel_rfl) (hres : K1d Tryz.prog fn.results.toList (res.map (·.1)) = true := by kernel_rfl) (hn : args.length ≤ n := by exact Nat.le_of_ble_eq_true rfl) : Ctr Tryz.prog f args rs :=
  ctr_at hmix hf hb hname hnt hc hres hn h
abbrev N4l : Nat := 3
abbrev N30 : Nat := 13
abbrev N41 : Nat := 14
abbrev Nd : Nat := 15
abbrev N42 : Nat := 16
abbrev N31 : Nat := 17
abbrev Nn : Nat := 37
abbrev Np : Nat := 39
abbrev N23 : Nat := 50
abbrev N32 : Nat := 51
abbrev N4y : Nat := 52
abbrev Nx : Nat := 53
abbrev N24 : Nat := 54
abbrev N1y : Nat := 55
abbrev Ny : Nat := 56
abbrev N9 : Nat := 57
abbrev N43 : Nat := 58
abbrev N25 : Nat := 59
abbrev N33 : Nat := 60
abbrev N4z : Nat := 61
abbrev Nz : Nat := 62
abbrev N26 : Nat := 63
abbrev N10 : Nat := 64
abbrev N0 : Nat := 65
abbrev N27 : Nat := 66
abbrev Nb : Nat := 67
abbrev N44 : Nat := 68
abbrev N28 : Nat := 69
abbrev N34 : Nat := 70
abbrev N50 : Nat := 71
abbrev N11 : Nat := 72
abbrev N29 : Nat := 73
abbrev N12 : Nat := 74
abbrev N5 : Nat := 85
abbrev Nt : Nat := 131
abbrev Nu : Nat := 135
abbrev N35 : Nat := 136
abbrev Nf : Nat := 137
abbrev N45 : Nat := 138
abbrev N36 : Nat := 139
abbrev N37 : Nat := 140
abbrev N38 : Nat := 141
abbrev N66 : Nat := 142
abbrev Ng : Nat := 143
abbrev N46 : Nat := 144
abbrev N1g : Nat := 145
abbrev N39 : Nat := 146
abbrev N1h : Nat := 147
abbrev N2 : Nat := 148
abbrev Nc : Nat := 149
abbrev N3a : Nat := 150
abbrev N4 : Nat := 151
abbrev Nr : Nat := 152
abbrev N5e : Nat := 153
abbrev N3b : Nat := 154
abbrev N67 : Nat := 155
abbrev Nh : Nat := 156
abbrev N47 : Nat := 157
abbrev N1i : Nat := 158
abbrev N3c : Nat := 159
abbrev N1j : Nat := 160
abbrev N2a : Nat := 219
abbrev Nk : Nat := 252
abbrev N3d : Nat := 253
abbrev Nl : Nat := 261
abbrev N3e : Nat := 262
abbrev N2b : Nat := 263
abbrev N1k : Nat := 264
abbrev N1l : Nat := 265
abbrev N6 : Nat := 266
abbrev N2c : Nat := 267
abbrev N1m : Nat := 268
abbrev N4n : Nat := 269
abbrev N1z : Nat := 270
abbrev Nj : Nat := 271
abbrev N1n : Nat := 272
abbrev N1o : Nat := 274
abbrev N4o : Nat := 275
abbrev N68 : Nat := 311
abbrev N69 : Nat := 314
abbrev N48 : Nat := 358
abbrev N2d : Nat := 359
abbrev N49 : Nat := 360
abbrev N2e : Nat := 361
abbrev N4a : Nat := 372
abbrev N2f : Nat := 373
abbrev N6u : Nat := 387
abbrev N6v : Nat := 390
abbrev N3f : Nat := 409
abbrev N4p : Nat := 410
abbrev N3g : Nat := 411
abbrev N4q : Nat := 417
abbrev N3h : Nat := 418
def Y0 : MC :=
(Zs [.mv 4 (ci 0)] [0,1] (Zs [mS 5 1, mS 6 0, nS 7 6, bS 8 .sub 5 7, mS 1 8] [1] (.seq (Zs [mS 9 1, bC 10 .lss 9 0] [1,10] (.cond (.s 10) (Zs [.mv 4 (.c (.int .i64 (-1)))] [4] .ret) .skip))
(Zs [mS 11 1, mS 4 11] [4] .ret))))
attribute [go_sem] Y0
def M51 : MC := Y0
theorem C20 (xs : List Int) (left : Int) (h0 : 0 ≤ left) : Ctr Tryz.prog N1y [aL 1 (xs.map encI), aI left] [rI (szr xs.length left)] := by
 refine cA M51 0 12 [(.tmp 4, [false])] Tryz.func55 rfl rfl ?_; unfold M51
 intro hb
 simp only [bdA, bdL, bdT, bdR, Kg, Kk, Kf, Kl, roomB, and_true, true_and, List.length_map] at hb
 obtain ⟨⟨hl, -⟩, hn⟩ := hb
 simp only [go_sem]
 rw [wI (by omega) (by omega)]
 unfold szr
 refine ⟨fun h => ?_, fun h => ?_⟩
 ·rw [if_neg (by omega)]
 ·rw [if_pos (by omega)]
def M52 : MC :=
(Zs [.nilo 2 0 1] [0] (Zs [mS 5 0, nS 6 5, .mk 7 0 1 8 [.sc (.int .i64 0)] (.s 6), mS 3 7] [0,3] (.seq (Zs [.mv 4 (ci 0)] [0,3,4] (.block 0 (.loop ([0,3,4], []) (.seq (Zs [mS 8 4, mS 9 0, nS 10 9, bS 11 .lss 8 10] [0,3,4,11] (cX 11 0))
(.seq (.block 1 (pr [mS 14 3, mS 15 4, mS 16 0, mS 17 4, xS 18 1 16 17, lF 19 1 18, xS 20 1 14 15, sS 1 20 19] [0,3,4]))
(pr [mS 12 4, bC 13 .add 12 1, mS 4 13] [0,3,4]))))))
(Zs [mS 21 3, mS 2 21] [2] .ret))))
theorem C21 (xs : List Int) (hs : xs.length ≤ 1073741824) : Ctr Tryz.prog Nn [aL 1 (xs.map encI)] [rL 1 (xs.map encI)] := by
 refine cA M52 1 22 [(.tmp 2, [true])] Tryz.func37 rfl rfl ?_; unfold M52
 intro hb
 simp only [go_sem, Kj]
 refine ⟨⟨by omega, by simp only [roomB]; omega⟩, ?_⟩
 refine K4 xs (fun k => [(4, vI k)]) (fun k => [(0, ⟨0, .row true 1 (filled encI [tI 0] xs k)⟩)]) (fun _ => True) (by simp only [roomB]; omega) ?_
 simp only [go_sem]
 refine ⟨?_, trivial, ?_, ?_⟩
 ·simp only [go_sem, Kv]
  all_goals rfl
 ·intro k x hx _ h0 h1 hw
  have h : k < xs.length := by omega
  simp only [go_sem, K3 hx, K3 (Kb h), Ka (Nat.le_of_lt h), h0, h1, hw]
  exact K11 hx
 ·intro _
  simp only [go_sem, K10]
def M53 : MC :=
(Zs [.mv 4 cF] [0,1] (.seq (Zs [mS 6 0, nS 7 6, mS 8 1, nS 9 8, bS 10 .neq 7 9] [0,1,10] (.cond (.s 10) (Zs [.mv 4 cF] [4] .ret) .skip))
(.seq (Zs [.mv 5 (ci 0)] [0,1,5] (.block 0 (.loop ([0,1,5], []) (.seq (Zs [mS 11 5, mS 12 0, nS 13 12, bS 14 .lss 11 13] [0,1,5,14] (cX 14 0))
(.seq (.block 1 (.seq (.dreg [Zc [18,21,22,23,24] (mS 17 0), Zc [17,21,22,23,24] (mS 18 5), Zd [21,22,23,24] [0,1] (xS 19 1 17 18), Zd [21,22,23,24] [0,1,2] (lF 20 1 19), Zc [17,18,19,20,22] (mS 21 1), Zc [17,18,19,20,21] (mS 22 5), Zd [17,18,19,20] [4,5] (xS 23 1 21 22), Zd [17,18,19,20] [4,5,6] (lF 24 1 23), Ze (.range 8) (bS 25 .neq 20 24)] [0,1,5,25])
(.cond (.s 25) (Zs [.mv 4 cF] [4] .ret) .skip)))
(pr [mS 15 5, bC 16 .add 15 1, mS 5 16] [0,1,5]))))))
(Zs [.mv 4 cT] [4] .ret))))
theorem C22 (xs ys : List Int) : Ctr Tryz.prog Np [aL 1 (xs.map encI), aL 1 (ys.map encI)] [rB (decide (xs = ys))] := by
 refine cA M53 0 26 [(.tmp 4, [false])] Tryz.func39 rfl rfl ?_; unfold M53
 intro hb
 simp only [bdA, bdL, bdT, bdR, Kg, Kk, Kf, Kl, roomB, and_true, true_and, List.length_map] at hb
 obtain ⟨⟨hl, -⟩, ⟨hl2, -⟩⟩ := hb
 simp only [go_sem]
 refine ⟨fun h => K1z h, fun h => ?_⟩
 have hle : xs.length = ys.length := by omega
 refine K4 xs (fun k => [(5, vI k)]) (fun k => []) (fun k => xs.take k = ys.take k) hl ?_
 simp only [go_sem]
 refine ⟨?_, rfl, ?_, ?_⟩
 ·simp only [go_sem]
 ·intro k x hx he h0 h1 hw
  obtain ⟨y, hy⟩ := Ko (show k < ys.length by omega)
  have h2 : (k : Int) < ys.length := by omega
  simp only [go_sem, K3 hx, K3 hy, h0, h1, h2, hw]
  exact ⟨fun hn => K2g hx hy hn, fun hn => (Ks hx hy he).2 hn⟩
 ·intro he
  simp only [go_sem]
  exact K22 he hle
def M3i : MC :=
(Zs [.box 1 0 (.s 0), .alloc 2 1 [pz, pz, pz]] [1,2] (Zs [.alloc 3 2 [pz, pz, pz]] [1,2,3] (Zs [fS 4 1 0, lF 5 1 4, fS 6 3 0, sS 1 6 5] [1,2,3] (Zs [fS 7 1 1, lF 8 1 7, fS 9 3 1, sS 1 9 8] [1,2,3] (Zs [fS 10 1 2, lF 11 1 10, fS 12 3 2, sS 1 12 11] [2,3] (Zs [lT 13 3 3, sS 3 2 13] [2] .ret))))))
theorem C7 (x : GAddress) : Ctr Tryz.prog N6 [aS x.enc] [rS x.enc] := by
 refine cA M3i 3 14 [(.cell 2 true 3, [false, false, false])] Tryz.func266 rfl rfl ?_; unfold M3i
 intro hb
 simp only [go_sem]
def M3j : MC :=
(Zs [.box 2 0 (.s 0), .box 3 1 (.s 1), .mv 4 cF] [2,3] (.seq (Zs [fS 5 2 0, lF 6 1 5, fS 7 3 0, lF 8 1 7, bS 9 .neq 6 8] [2,3,9] (.cond (.s 9) (Zs [.mv 4 cF] [4] .ret) .skip))
(.seq (Zs [fS 10 2 1, lF 11 1 10, fS 12 3 1, lF 13 1 12, bS 14 .neq 11 13] [2,3,14] (.cond (.s 14) (Zs [.mv 4 cF] [4] .ret) .skip))
(.seq (Zs [fS 15 2 2, lF 16 1 15, fS 17 3 2, lF 18 1 17, bS 19 .neq 16 18] [19] (.cond (.s 19) (Zs [.mv 4 cF] [4] .ret) .skip))
(Zs [.mv 4 cT] [4] .ret)))))
theorem C8 (x y : GAddress) : Ctr Tryz.prog N5 [aS x.enc, aS y.enc] [rB (decide (x = y))] := by
 refine cA M3j 2 20 [(.tmp 4, [false])] Tryz.func85 rfl rfl ?_; unfold M3j
 intro hb
 clear hb
 simp only [go_sem]
 refine ⟨fun h => ?_, fun h_Host => ?_⟩
 ·symm
  rw [decide_eq_false_iff_not]
  rintro rfl
  exact h rfl
 refine ⟨fun h => ?_, fun h_Path => ?_⟩
 ·symm
  rw [decide_eq_false_iff_not]
  rintro rfl
  exact h rfl
 refine ⟨fun h => ?_, fun h_Query => ?_⟩
 ·symm
  rw [decide_eq_false_iff_not]
  rintro rfl
  exact h rfl
 cases x; cases y; simp_all
def Y1 : MC :=
(Zs [.box 2 0 (.s 0), .mv 4 (ci 0)] [1,2] (Zs [fS 5 2 1, lF 6 1 5, mS 7 1, .call 8 [] (.f N1y) [.s 6, .s 7], mS 1 8] [1] (.seq (Zs [mS 9 1, bC 10 .lss 9 0] [1,10] (.cond (.s 10) (Zs [.mv 4 (.c (.int .i64 (-1)))] [4] .ret) .skip))
(Zs [mS 11 1, mS 4 11] [4] .ret))))
attribute [go_sem] Y1
def M2g : MC := Y1
theorem C2h (x : GResource) (left : Int) (h0 : 0 ≤ left) : Ctr Tryz.prog N2b [aS x.enc, aI left] [rI (szr x.size left)] := by
 refine cA M2g 1 12 [(.tmp 4, [false])] Tryz.func263 rfl rfl ?_; unfold M2g
 intro hb
 simp only [go_sem]
 refine K0 (C20 x.Body left h0) ?_
 simp only [go_sem]
 intro _
 refine ⟨fun h => szr_bad' h0 h (by simp only [GResource.size]; omega), fun h1 => ?_⟩
 rfl
def M2i : MC :=
(Zs [.box 1 0 (.s 0), .alloc 2 1 [pz, .emp 1, pz, pz, pz]] [1,2] (Zs [.alloc 3 2 [pz, .emp 1, pz, pz, pz]] [1,2,3] (Zs [fS 4 1 0, lF 5 1 4, fS 6 3 0, sS 1 6 5] [1,2,3] (Zs [fS 7 1 1, lF 8 1 7, .call 9 [3] (.f Nn) [.s 8], fS 10 3 1, sS 1 10 9] [1,2,3] (Zs [fS 11 1 2, lT 12 3 11, .call 13 [] (.f N6) [.s 12], fS 14 3 2, sS 3 14 13] [2,3] (Zs [lT 15 5 3, sS 5 2 15] [2] .ret))))))
theorem C2j (x : GResource) (hs : x.size ≤ 1073741824) : Ctr Tryz.prog N2c [aS x.enc] [rS x.enc] := by
 refine cA M2i 4 16 [(.cell 2 true 5, [false, true, false, false, false])] Tryz.func267 rfl rfl ?_; unfold M2i
 intro hb
 simp only [GResource.size] at hs
 simp only [go_sem]
 refine K0 (C21 x.Body (by omega)) ?_
 simp only [go_sem]
 try intros
 refine K0 (C7 x.To) ?_
 simp only [go_sem]
 try intros
def M2k : MC :=
(Zs [.box 2 0 (.s 0), .box 3 1 (.s 1), .mv 4 cF] [2,3] (.seq (Zs [fS 5 2 0, lF 6 1 5, fS 7 3 0, lF 8 1 7, bS 9 .neq 6 8] [2,3,9] (.cond (.s 9) (Zs [.mv 4 cF] [4] .ret) .skip))
(.seq (Zs [fS 10 2 1, lF 11 1 10, fS 12 3 1, lF 13 1 12, .call 14 [] (.f Np) [.s 11, .s 13], .un 15 .not (.s 14)] [2,3,15] (.cond (.s 15) (Zs [.mv 4 cF] [4] .ret) .skip))
(.seq (Zs [fS 16 2 2, lT 17 3 16, fS 18 3 2, lT 19 3 18, .call 20 [] (.f N5) [.s 17, .s 19], .un 21 .not (.s 20)] [21] (.cond (.s 21) (Zs [.mv 4 cF] [4] .ret) .skip))
(Zs [.mv 4 cT] [4] .ret)))))
theorem C2l (x y : GResource) : Ctr Tryz.prog N2a [aS x.enc, aS y.enc] [rB (decide (x = y))] := by
 refine cA M2k 2 22 [(.tmp 4, [false])] Tryz.func219 rfl rfl ?_; unfold M2k
 intro hb
 clear hb
 simp only [go_sem]
 refine ⟨fun h => ?_, fun h_Kind => ?_⟩
 ·symm
  rw [decide_eq_false_iff_not]
  rintro rfl
  exact h rfl
 refine K0 (C22 x.Body y.Body) ?_
 simp only [go_sem]
 refine ⟨fun h => ?_, fun h_Body => ?_⟩
 ·symm
  rw [decide_eq_false_iff_not]
  rintro rfl
  exact h rfl
 refine K0 (C8 x.To y.To) ?_
 simp only [go_sem]
 refine ⟨fun h => ?_, fun h_To => ?_⟩
 ·symm
  rw [decide_eq_false_iff_not]
  rintro rfl
  exact h rfl
 cases x; cases y; simp_all
def Y2 : MC :=
(Zs [.box 2 0 (.s 0), .mv 4 (ci 0)] [1,2] (Zs [fS 5 2 4, lT 6 5 5, mS 7 1, .call 8 [] (.f N2b) [.s 6, .s 7], mS 1 8] [1] (.seq (Zs [mS 9 1, bC 10 .lss 9 0] [1,10] (.cond (.s 10) (Zs [.mv 4 (.c (.int .i64 (-1)))] [4] .ret) .skip))
(Zs [mS 11 1, mS 4 11] [4] .ret))))
attribute [go_sem] Y2
def M3k : MC := Y2
theorem C6f (x : GVersion) (left : Int) (h0 : 0 ≤ left) : Ctr Tryz.prog N35 [aS x.enc, aI left] [rI (szr x.size left)] := by
 refine cA M3k 1 12 [(.tmp 4, [false])] Tryz.func136 rfl rfl ?_; unfold M3k
 intro hb
 simp only [go_sem]
 refine K0 (C2h x.Resource left h0) ?_
 simp only [go_sem]
 intro _
 refine ⟨fun h => szr_bad' h0 h (by simp only [GVersion.size]; omega), fun h1 => ?_⟩
 rfl
def Y3 : MC :=
(Zs [.box 1 0 (.s 0), .alloc 2 1 [pz, pz, pz, pz, pz, .emp 1, pz, pz, pz]] [1,2] (Zs [.alloc 3 2 [pz, pz, pz, pz, pz, .emp 1, pz, pz, pz]] [1,2,3] (Zs [fS 4 1 0, lT 5 3 4, .call 6 [] (.f N6) [.s 5], fS 7 3 0, sS 3 7 6] [1,2,3] (Zs [fS 8 1 3, lF 9 1 8, fS 10 3 3, sS 1 10 9] [1,2,3] (Zs [fS 11 1 4, lT 12 5 11, .call 13 [3] (.f N2c) [.s 12], fS 14 3 4, sS 5 14 13] [2,3] (Zs [lT 15 9 3, sS 9 2 15] [2] .ret))))))
attribute [go_sem] Y3
def M3l : MC := Y3
theorem C6g (x : GVersion) (hs : x.size ≤ 1073741824) : Ctr Tryz.prog N38 [aS x.enc] [rS x.enc] := by
 refine cA M3l 4 16 [(.cell 2 true 9, [false, false, false, false, false, true, false, false, false])] Tryz.func141 rfl rfl ?_; unfold M3l
 intro hb
 simp only [GVersion.size] at hs
 simp only [go_sem]
 refine K0 (C7 x.Address) ?_
 simp only [go_sem]
 try intros
 refine K0 (C2j x.Resource (by omega)) ?_
 simp only [go_sem]
 try intros
def Y4 : MC :=
(Zs [.box 2 0 (.s 0), .box 3 1 (.s 1), .mv 4 cF] [2,3] (.seq (Zs [fS 5 2 0, lT 6 3 5, fS 7 3 0, lT 8 3 7, .call 9 [] (.f N5) [.s 6, .s 8], .un 10 .not (.s 9)] [2,3,10] (.cond (.s 10) (Zs [.mv 4 cF] [4] .ret) .skip))
(.seq (Zs [fS 11 2 3, lF 12 1 11, fS 13 3 3, lF 14 1 13, bS 15 .neq 12 14] [2,3,15] (.cond (.s 15) (Zs [.mv 4 cF] [4] .ret) .skip))
(.seq (Zs [fS 16 2 4, lT 17 5 16, fS 18 3 4, lT 19 5 18, .call 20 [] (.f N2a) [.s 17, .s 19], .un 21 .not (.s 20)] [21] (.cond (.s 21) (Zs [.mv 4 cF] [4] .ret) .skip))
(Zs [.mv 4 cT] [4] .ret)))))
attribute [go_sem] Y4
def M3m : MC := Y4
theorem C6h (x y : GVersion) : Ctr Tryz.prog N3b [aS x.enc, aS y.enc] [rB (decide (x = y))] := by
 refine cA M3m 2 22 [(.tmp 4, [false])] Tryz.func154 rfl rfl ?_; unfold M3m
 intro hb
 clear hb
 simp only [go_sem]
 refine K0 (C8 x.Address y.Address) ?_
 simp only [go_sem]
 refine ⟨fun h => ?_, fun h_Address => ?_⟩
 ·symm
  rw [decide_eq_false_iff_not]
  rintro rfl
  exact h rfl
 refine ⟨fun h => ?_, fun h_From => ?_⟩
 ·symm
  rw [decide_eq_false_iff_not]
  rintro rfl
  exact h rfl
 refine K0 (C2l x.Resource y.Resource) ?_
 simp only [go_sem]
 refine ⟨fun h => ?_, fun h_Resource => ?_⟩
 ·symm
  rw [decide_eq_false_iff_not]
  rintro rfl
  exact h rfl
 cases x; cases y; simp_all
def Y5 (v0 : Nat) (v1 : Nat) : MC :=
(Zs [.mv 4 (ci 0)] [0,1] (Zs [mS 6 1, mS 7 0, nS 8 7, bS 9 .sub 6 8, mS 1 9] [0,1] (.seq (Zs [mS 10 1, bC 11 .lss 10 0] [0,1,11] (.cond (.s 11) (Zs [.mv 4 (.c (.int .i64 (-1)))] [4] .ret) .skip))
(.seq (Zs [.mv 5 (ci 0)] [0,1,5] (.block 0 (.loop ([0,1,5], []) (.seq (Zs [mS 12 5, mS 13 0, nS 14 13, bS 15 .lss 12 14] [0,1,5,15] (cX 15 0))
(.seq (.block 1 (Zs [mS 18 0, mS 19 5, xS 20 v0 18 19, lT 21 v0 20, mS 22 1, .call 23 [] (.f v1) [.s 21, .s 22], mS 1 23] [0,1,5] (Zs [mS 24 1, bC 25 .lss 24 0] [0,1,5,25] (.cond (.s 25) (Zs [.mv 4 (.c (.int .i64 (-1)))] [4] .ret) .skip))))
(pr [mS 16 5, bC 17 .add 16 1, mS 5 17] [0,1,5]))))))
(Zs [mS 26 1, mS 4 26] [4] .ret)))))
attribute [go_sem] Y5
def M2m : MC := Y5 9 N35
theorem C5v (xs : List GVersion) (left : Int) (h0 : 0 ≤ left) : Ctr Tryz.prog N23 [aL 9 (xs.map GVersion.enc), aI left] [rI (szr (xs.length + (xs.map GVersion.size).sum) left)] := by
 refine cA M2m 0 27 [(.tmp 4, [false])] Tryz.func50 rfl rfl ?_; unfold M2m
 intro hb
 simp only [bdA, bdL, bdT, bdR, Kg, Kk, Kf, Kl, roomB, and_true, true_and, List.length_map] at hb
 obtain ⟨⟨hl, -⟩, hn⟩ := hb
 simp only [go_sem]
 rw [wI (by omega) (by omega)]
 refine ⟨fun h => ?_, fun h => ?_⟩
 ·exact szr_bad' (n := xs.length) h0 ((K3i h0).2 (by omega)) (by omega)
 ·have hz : szr xs.length left = left - xs.length := by unfold szr; rw [if_pos (by omega)]
  rw [← hz] at h ⊢
  refine K4 xs (fun k => [(1, vI (szr (xs.length + ((xs.take k).map GVersion.size).sum) left)), (5, vI k)]) (fun k => []) (fun k => ¬ szr (xs.length + ((xs.take k).map GVersion.size).sum) left < 0) hl ?_
  simp only [go_sem]
  refine ⟨?_, by simpa using h, ?_, ?_⟩
  ·simp only [go_sem, List.take_zero, List.map_nil, List.sum_nil, Nat.add_zero]
   all_goals rfl
  ·intro k x hx hs hk0 h1 hw
   obtain ⟨a1, a2, a3⟩ := K14 (m := x.size) h0 hs
   rw [Nat.add_assoc, ← K40 hx] at a3
   simp only [go_sem, K3 hx, hk0, h1, hw]
   refine K0 (C6f x _ a1) ?_
   rw [← a3]
   simp only [go_sem, hw]
   intro _
   refine ⟨fun hn => ?_, fun hn => hn⟩
   have := K2k (f := GVersion.size) xs (k + 1)
   exact szr_bad' h0 hn (by omega)
  ·intro _
   simp only [go_sem, List.take_length]
def Y6 (v0 : Nat) : MC :=
(Zs [.nilo 2 0 9] [0] (.seq (pr [mS 5 0, nS 6 5, .mk 7 0 9 88 [.sc (.int .i64 0), .sc (.int .i64 0), .sc (.int .i64 0), .sc (.int .i64 0), .sc (.int .i64 0), .sl 1 [], .sc (.int .i64 0), .sc (.int .i64 0), .sc (.int .i64 0)] (.s 6), mS 3 7] [0,3])
(.seq (Zs [.mv 4 (ci 0)] [0,3,4] (.block 0 (.loop ([0,3,4], [1]) (.seq (Zs [mS 8 4, mS 9 0, nS 10 9, bS 11 .lss 8 10] [0,3,4,11] (cX 11 0))
(.seq (.block 1 (pr [mS 14 3, mS 15 4, mS 16 0, mS 17 4, xS 18 9 16 17, lT 19 9 18, .call 20 [1] (.f v0) [.s 19], xS 21 9 14 15, sS 9 21 20] [0,3,4]))
(pr [mS 12 4, bC 13 .add 12 1, mS 4 13] [0,3,4]))))))
(Zs [mS 22 3, mS 2 22] [2] .ret))))
attribute [go_sem] Y6
def M2n : MC := Y6 N38
theorem C5w (xs : List GVersion) (hs : xs.length + (xs.map GVersion.size).sum ≤ 1073741824) : Ctr Tryz.prog N25 [aL 9 (xs.map GVersion.enc)] [rL 9 (xs.map GVersion.enc)] := by
 refine cA M2n 2 23 [(.tmp 2, [true])] Tryz.func59 rfl rfl ?_; unfold M2n
 intro hb
 simp only [go_sem, Kj]
 refine ⟨⟨by omega, by simp only [roomB]; omega⟩, ?_⟩
 refine K4 xs (fun k => [(4, vI k)]) (fun k => [(0, ⟨0, .row true 9 (filled GVersion.enc [tI 0, tI 0, tI 0, tI 0, tI 0, .sl 1 [], tI 0, tI 0, tI 0] xs k)⟩)]) (fun _ => True) (by simp only [roomB]; omega) ?_
 simp only [go_sem]
 refine ⟨?_, trivial, ?_, ?_⟩
 ·simp only [go_sem, Kv]
  all_goals rfl
 ·intro k x hx _ h0 h1 hw
  have h : k < xs.length := by omega
  simp only [go_sem, K3 hx, K3 (Kb h), Ka (Nat.le_of_lt h), h0, h1, hw]
  have hx1 := K4p (f := GVersion.size) (K20 hx)
  refine K0 (C6g x (by omega)) ?_
  simp only [go_sem, K3 hx, K3 (Kb h), Ka (Nat.le_of_lt h), h0, h1, hw]
  intros; exact K11 hx
 ·intro _
  simp only [go_sem, K10]
def Y7 (v0 : Nat) (v1 : Nat) : MC :=
(Zs [.mv 4 cF] [0,1] (.seq (Zs [mS 6 0, nS 7 6, mS 8 1, nS 9 8, bS 10 .neq 7 9] [0,1,10] (.cond (.s 10) (Zs [.mv 4 cF] [4] .ret) .skip))
(.seq (Zs [.mv 5 (ci 0)] [0,1,5] (.block 0 (.loop ([0,1,5], []) (.seq (Zs [mS 11 5, mS 12 0, nS 13 12, bS 14 .lss 11 13] [0,1,5,14] (cX 14 0))
(.seq (.block 1 (.seq (.dreg [Zc [18,21,22,23,24] (mS 17 0), Zc [17,21,22,23,24] (mS 18 5), Zd [21,22,23,24] [0,1] (xS 19 v0 17 18), Zd [21,22,23,24] [0,1,2] (lT 20 v0 19), Zc [17,18,19,20,22] (mS 21 1), Zc [17,18,19,20,21] (mS 22 5), Zd [17,18,19,20] [4,5] (xS 23 v0 21 22), Zd [17,18,19,20] [4,5,6] (lT 24 v0 23), Ze (.range 8) (.call 25 [] (.f v1) [.s 20, .s 24]), Ze (.range 9) (.un 26 .not (.s 25))] [0,1,5,26])
(.cond (.s 26) (Zs [.mv 4 cF] [4] .ret) .skip)))
(pr [mS 15 5, bC 16 .add 15 1, mS 5 16] [0,1,5]))))))
(Zs [.mv 4 cT] [4] .ret))))
attribute [go_sem] Y7
def M2o : MC := Y7 9 N3b
theorem C5x (xs ys : List GVersion) : Ctr Tryz.prog N28 [aL 9 (xs.map GVersion.enc), aL 9 (ys.map GVersion.enc)] [rB (decide (xs = ys))] := by
 refine cA M2o 0 27 [(.tmp 4, [false])] Tryz.func69 rfl rfl ?_; unfold M2o
 intro hb
 simp only [bdA, bdL, bdT, bdR, Kg, Kk, Kf, Kl, roomB, and_true, true_and, List.length_map] at hb
 obtain ⟨⟨hl, -⟩, ⟨hl2, -⟩⟩ := hb
 simp only [go_sem]
 refine ⟨fun h => K1z h, fun h => ?_⟩
 have hle : xs.length = ys.length := by omega
 refine K4 xs (fun k => [(5, vI k)]) (fun k => []) (fun k => xs.take k = ys.take k) hl ?_
 simp only [go_sem]
 refine ⟨?_, rfl, ?_, ?_⟩
 ·simp only [go_sem]
 ·intro k x hx he h0 h1 hw
  obtain ⟨y, hy⟩ := Ko (show k < ys.length by omega)
  have h2 : (k : Int) < ys.length := by omega
  simp only [go_sem, K3 hx, K3 hy, h0, h1, h2, hw]
  refine K0 (C6h x y) ?_
  simp only [go_sem, hw]
  exact ⟨fun hn => K2g hx hy hn, fun hn => (Ks hx hy he).2 hn⟩
 ·intro he
  simp only [go_sem]
  exact K22 he hle
def Y8 : MC :=
(Zs [.box 1 0 (.s 0), .alloc 2 1 [pz, pz, pz, pz]] [1,2] (Zs [.alloc 3 2 [pz, pz, pz, pz]] [1,2,3] (Zs [fS 4 1 0, lF 5 1 4, fS 6 3 0, sS 1 6 5] [1,2,3] (Zs [fS 7 1 1, lF 8 1 7, fS 9 3 1, sS 1 9 8] [1,2,3] (Zs [fS 10 1 2, lF 11 1 10, fS 12 3 2, sS 1 12 11] [1,2,3] (Zs [fS 13 1 3, lF 14 1 13, fS 15 3 3, sS 1 15 14] [2,3] (Zs [lT 16 4 3, sS 4 2 16] [2] .ret)))))))
attribute [go_sem] Y8
def M6a : MC := Y8
theorem C7g (x : GOp) : Ctr Tryz.prog N66 [aS x.enc] [rS x.enc] := by
 refine cA M6a 3 17 [(.cell 2 true 4, [false, false, false, false])] Tryz.func142 rfl rfl ?_; unfold M6a
 intro hb
 simp only [go_sem]
def Y9 : MC :=
(Zs [.box 2 0 (.s 0), .box 3 1 (.s 1), .mv 4 cF] [2,3] (.seq (Zs [fS 5 2 0, lF 6 1 5, fS 7 3 0, lF 8 1 7, bS 9 .neq 6 8] [2,3,9] (.cond (.s 9) (Zs [.mv 4 cF] [4] .ret) .skip))
(.seq (Zs [fS 10 2 1, lF 11 1 10, fS 12 3 1, lF 13 1 12, bS 14 .neq 11 13] [2,3,14] (.cond (.s 14) (Zs [.mv 4 cF] [4] .ret) .skip))
(.seq (Zs [fS 15 2 2, lF 16 1 15, fS 17 3 2, lF 18 1 17, bS 19 .neq 16 18] [2,3,19] (.cond (.s 19) (Zs [.mv 4 cF] [4] .ret) .skip))
(.seq (Zs [fS 20 2 3, lF 21 1 20, fS 22 3 3, lF 23 1 22, bS 24 .neq 21 23] [24] (.cond (.s 24) (Zs [.mv 4 cF] [4] .ret) .skip))
(Zs [.mv 4 cT] [4] .ret))))))
attribute [go_sem] Y9
def M6b : MC := Y9
theorem C7h (x y : GOp) : Ctr Tryz.prog N67 [aS x.enc, aS y.enc] [rB (decide (x = y))] := by
 refine cA M6b 2 25 [(.tmp 4, [false])] Tryz.func155 rfl rfl ?_; unfold M6b
 intro hb
 clear hb
 simp only [go_sem]
 refine ⟨fun h => ?_, fun h_Kind => ?_⟩
 ·symm
  rw [decide_eq_false_iff_not]
  rintro rfl
  exact h rfl
 refine ⟨fun h => ?_, fun h_A => ?_⟩
 ·symm
  rw [decide_eq_false_iff_not]
  rintro rfl
  exact h rfl
 refine ⟨fun h => ?_, fun h_B => ?_⟩
 ·symm
  rw [decide_eq_false_iff_not]
  rintro rfl
  exact h rfl
 refine ⟨fun h => ?_, fun h_C => ?_⟩
 ·symm
  rw [decide_eq_false_iff_not]
  rintro rfl
  exact h rfl
 cases x; cases y; simp_all
def M5f : MC := Y0
theorem C5g (xs : List GOp) (left : Int) (h0 : 0 ≤ left) : Ctr Tryz.prog N32 [aL 4 (xs.map GOp.enc), aI left] [rI (szr xs.length left)] := by
 refine cA M5f 0 12 [(.tmp 4, [false])] Tryz.func51 rfl rfl ?_; unfold M5f
 intro hb
 simp only [bdA, bdL, bdT, bdR, Kg, Kk, Kf, Kl, roomB, and_true, true_and, List.length_map] at hb
 obtain ⟨⟨hl, -⟩, hn⟩ := hb
 simp only [go_sem]
 rw [wI (by omega) (by omega)]
 unfold szr
 refine ⟨fun h => ?_, fun h => ?_⟩
 ·rw [if_neg (by omega)]
 ·rw [if_pos (by omega)]
def Y10 (v0 : Nat) : MC :=
(Zs [.nilo 2 0 4] [0] (Zs [mS 5 0, nS 6 5, .mk 7 0 4 32 [.sc (.int .i64 0), .sc (.int .i64 0), .sc (.int .i64 0), .sc (.int .i64 0)] (.s 6), mS 3 7] [0,3] (.seq (Zs [.mv 4 (ci 0)] [0,3,4] (.block 0 (.loop ([0,3,4], []) (.seq (Zs [mS 8 4, mS 9 0, nS 10 9, bS 11 .lss 8 10] [0,3,4,11] (cX 11 0))
(.seq (.block 1 (pr [mS 14 3, mS 15 4, mS 16 0, mS 17 4, xS 18 4 16 17, lT 19 4 18, .call 20 [] (.f v0) [.s 19], xS 21 4 14 15, sS 4 21 20] [0,3,4]))
(pr [mS 12 4, bC 13 .add 12 1, mS 4 13] [0,3,4]))))))
(Zs [mS 22 3, mS 2 22] [2] .ret))))
attribute [go_sem] Y10
def M5h : MC := Y10 N66
theorem C5i (xs : List GOp) (hs : xs.length ≤ 1073741824) : Ctr Tryz.prog N33 [aL 4 (xs.map GOp.enc)] [rL 4 (xs.map GOp.enc)] := by
 refine cA M5h 1 23 [(.tmp 2, [true])] Tryz.func60 rfl rfl ?_; unfold M5h
 intro hb
 simp only [go_sem, Kj]
 refine ⟨⟨by omega, by simp only [roomB]; omega⟩, ?_⟩
 refine K4 xs (fun k => [(4, vI k)]) (fun k => [(0, ⟨0, .row true 4 (filled GOp.enc [tI 0, tI 0, tI 0, tI 0] xs k)⟩)]) (fun _ => True) (by simp only [roomB]; omega) ?_
 simp only [go_sem]
 refine ⟨?_, trivial, ?_, ?_⟩
 ·simp only [go_sem, Kv]
  all_goals rfl
 ·intro k x hx _ h0 h1 hw
  have h : k < xs.length := by omega
  simp only [go_sem, K3 hx, K3 (Kb h), Ka (Nat.le_of_lt h), h0, h1, hw]
  refine K0 (C7g x) ?_
  simp only [go_sem, K3 hx, K3 (Kb h), Ka (Nat.le_of_lt h), h0, h1, hw]
  intros; exact K11 hx
 ·intro _
  simp only [go_sem, K10]
def M5j : MC := Y7 4 N67
theorem C5k (xs ys : List GOp) : Ctr Tryz.prog N34 [aL 4 (xs.map GOp.enc), aL 4 (ys.map GOp.enc)] [rB (decide (xs = ys))] := by
 refine cA M5j 0 27 [(.tmp 4, [false])] Tryz.func70 rfl rfl ?_; unfold M5j
 intro hb
 simp only [bdA, bdL, bdT, bdR, Kg, Kk, Kf, Kl, roomB, and_true, true_and, List.length_map] at hb
 obtain ⟨⟨hl, -⟩, ⟨hl2, -⟩⟩ := hb
 simp only [go_sem]
 refine ⟨fun h => K1z h, fun h => ?_⟩
 have hle : xs.length = ys.length := by omega
 refine K4 xs (fun k => [(5, vI k)]) (fun k => []) (fun k => xs.take k = ys.take k) hl ?_
 simp only [go_sem]
 refine ⟨?_, rfl, ?_, ?_⟩
 ·simp only [go_sem]
 ·intro k x hx he h0 h1 hw
  obtain ⟨y, hy⟩ := Ko (show k < ys.length by omega)
  have h2 : (k : Int) < ys.length := by omega
  simp only [go_sem, K3 hx, K3 hy, h0, h1, h2, hw]
  refine K0 (C7h x y) ?_
  simp only [go_sem, hw]
  exact ⟨fun hn => K2g hx hy hn, fun hn => (Ks hx hy he).2 hn⟩
 ·intro he
  simp only [go_sem]
  exact K22 he hle
def M4r : MC :=
(Zs [.box 1 0 (.s 0), .alloc 2 1 [pz, pz, pz, pz, pz]] [1,2] (Zs [.alloc 3 2 [pz, pz, pz, pz, pz]] [1,2,3] (Zs [fS 4 1 0, lF 5 1 4, fS 6 3 0, sS 1 6 5] [1,2,3] (Zs [fS 7 1 1, lT 8 3 7, .call 9 [] (.f N6) [.s 8], fS 10 3 1, sS 3 10 9] [1,2,3] (Zs [fS 11 1 4, lF 12 1 11, fS 13 3 4, sS 1 13 12] [2,3] (Zs [lT 14 5 3, sS 5 2 14] [2] .ret))))))
theorem C78 (x : GEntry) : Ctr Tryz.prog N4p [aS x.enc] [rS x.enc] := by
 refine cA M4r 3 15 [(.cell 2 true 5, [false, false, false, false, false])] Tryz.func410 rfl rfl ?_; unfold M4r
 intro hb
 simp only [go_sem]
 refine K0 (C7 x.Address) ?_
 simp only [go_sem]
 try intros
def M4s : MC :=
(Zs [.box 2 0 (.s 0), .box 3 1 (.s 1), .mv 4 cF] [2,3] (.seq (Zs [fS 5 2 0, lF 6 1 5, fS 7 3 0, lF 8 1 7, bS 9 .neq 6 8] [2,3,9] (.cond (.s 9) (Zs [.mv 4 cF] [4] .ret) .skip))
(.seq (Zs [fS 10 2 1, lT 11 3 10, fS 12 3 1, lT 13 3 12, .call 14 [] (.f N5) [.s 11, .s 13], .un 15 .not (.s 14)] [2,3,15] (.cond (.s 15) (Zs [.mv 4 cF] [4] .ret) .skip))
(.seq (Zs [fS 16 2 4, lF 17 1 16, fS 18 3 4, lF 19 1 18, bS 20 .neq 17 19] [20] (.cond (.s 20) (Zs [.mv 4 cF] [4] .ret) .skip))
(Zs [.mv 4 cT] [4] .ret)))))
theorem C79 (x y : GEntry) : Ctr Tryz.prog N4q [aS x.enc, aS y.enc] [rB (decide (x = y))] := by
 refine cA M4s 2 21 [(.tmp 4, [false])] Tryz.func417 rfl rfl ?_; unfold M4s
 intro hb
 clear hb
 simp only [go_sem]
 refine ⟨fun h => ?_, fun h_Kind => ?_⟩
 ·symm
  rw [decide_eq_false_iff_not]
  rintro rfl
  exact h rfl
 refine K0 (C8 x.Address y.Address) ?_
 simp only [go_sem]
 refine ⟨fun h => ?_, fun h_Address => ?_⟩
 ·symm
  rw [decide_eq_false_iff_not]
  rintro rfl
  exact h rfl
 refine ⟨fun h => ?_, fun h_Value => ?_⟩
 ·symm
  rw [decide_eq_false_iff_not]
  rintro rfl
  exact h rfl
 cases x; cases y; simp_all
def M4b : MC := Y0
theorem C6w (xs : List GEntry) (left : Int) (h0 : 0 ≤ left) : Ctr Tryz.prog N48 [aL 5 (xs.map GEntry.enc), aI left] [rI (szr xs.length left)] := by
 refine cA M4b 0 12 [(.tmp 4, [false])] Tryz.func358 rfl rfl ?_; unfold M4b
 intro hb
 simp only [bdA, bdL, bdT, bdR, Kg, Kk, Kf, Kl, roomB, and_true, true_and, List.length_map] at hb
 obtain ⟨⟨hl, -⟩, hn⟩ := hb
 simp only [go_sem]
 rw [wI (by omega) (by omega)]
 unfold szr
 refine ⟨fun h => ?_, fun h => ?_⟩
 ·rw [if_neg (by omega)]
 ·rw [if_pos (by omega)]
def Y11 (v0 : Nat) : MC :=
(Zs [.nilo 2 0 5] [0] (Zs [mS 5 0, nS 6 5, .mk 7 0 5 40 [.sc (.int .i64 0), .sc (.int .i64 0), .sc (.int .i64 0), .sc (.int .i64 0), .sc (.int .i64 0)] (.s 6), mS 3 7] [0,3] (.seq (Zs [.mv 4 (ci 0)] [0,3,4] (.block 0 (.loop ([0,3,4], []) (.seq (Zs [mS 8 4, mS 9 0, nS 10 9, bS 11 .lss 8 10] [0,3,4,11] (cX 11 0))
(.seq (.block 1 (pr [mS 14 3, mS 15 4, mS 16 0, mS 17 4, xS 18 5 16 17, lT 19 5 18, .call 20 [] (.f v0) [.s 19], xS 21 5 14 15, sS 5 21 20] [0,3,4]))
(pr [mS 12 4, bC 13 .add 12 1, mS 4 13] [0,3,4]))))))
(Zs [mS 22 3, mS 2 22] [2] .ret))))
attribute [go_sem] Y11
def M4c : MC := Y11 N4p
theorem C6x (xs : List GEntry) (hs : xs.length ≤ 1073741824) : Ctr Tryz.prog N49 [aL 5 (xs.map GEntry.enc)] [rL 5 (xs.map GEntry.enc)] := by
 refine cA M4c 1 23 [(.tmp 2, [true])] Tryz.func360 rfl rfl ?_; unfold M4c
 intro hb
 simp only [go_sem, Kj]
 refine ⟨⟨by omega, by simp only [roomB]; omega⟩, ?_⟩
 refine K4 xs (fun k => [(4, vI k)]) (fun k => [(0, ⟨0, .row true 5 (filled GEntry.enc [tI 0, tI 0, tI 0, tI 0, tI 0] xs k)⟩)]) (fun _ => True) (by simp only [roomB]; omega) ?_
 simp only [go_sem]
 refine ⟨?_, trivial, ?_, ?_⟩
 ·simp only [go_sem, Kv]
  all_goals rfl
 ·intro k x hx _ h0 h1 hw
  have h : k < xs.length := by omega
  simp only [go_sem, K3 hx, K3 (Kb h), Ka (Nat.le_of_lt h), h0, h1, hw]
  refine K0 (C78 x) ?_
  simp only [go_sem, K3 hx, K3 (Kb h), Ka (Nat.le_of_lt h), h0, h1, hw]
  intros; exact K11 hx
 ·intro _
  simp only [go_sem, K10]
def M4d : MC := Y7 5 N4q
theorem C6y (xs ys : List GEntry) : Ctr Tryz.prog N4a [aL 5 (xs.map GEntry.enc), aL 5 (ys.map GEntry.enc)] [rB (decide (xs = ys))] := by
 refine cA M4d 0 27 [(.tmp 4, [false])] Tryz.func372 rfl rfl ?_; unfold M4d
 intro hb
 simp only [bdA, bdL, bdT, bdR, Kg, Kk, Kf, Kl, roomB, and_true, true_and, List.length_map] at hb
 obtain ⟨⟨hl, -⟩, ⟨hl2, -⟩⟩ := hb
 simp only [go_sem]
 refine ⟨fun h => K1z h, fun h => ?_⟩
 have hle : xs.length = ys.length := by omega
 refine K4 xs (fun k => [(5, vI k)]) (fun k => []) (fun k => xs.take k = ys.take k) hl ?_
 simp only [go_sem]
 refine ⟨?_, rfl, ?_, ?_⟩
 ·simp only [go_sem]
 ·intro k x hx he h0 h1 hw
  obtain ⟨y, hy⟩ := Ko (show k < ys.length by omega)
  have h2 : (k : Int) < ys.length := by omega
  simp only [go_sem, K3 hx, K3 hy, h0, h1, h2, hw]
  refine K0 (C79 x y) ?_
  simp only [go_sem, hw]
  exact ⟨fun hn => K2g hx hy hn, fun hn => (Ks hx hy he).2 hn⟩
 ·intro he
  simp only [go_sem]
  exact K22 he hle
def M3n : MC := Y2
theorem C6i (x : GCapture) (left : Int) (h0 : 0 ≤ left) : Ctr Tryz.prog N3f [aS x.enc, aI left] [rI (szr x.size left)] := by
 refine cA M3n 1 12 [(.tmp 4, [false])] Tryz.func409 rfl rfl ?_; unfold M3n
 intro hb
 simp only [go_sem]
 refine K0 (C2h x.Resource left h0) ?_
 simp only [go_sem]
 intro _
 refine ⟨fun h => szr_bad' h0 h (by simp only [GCapture.size]; omega), fun h1 => ?_⟩
 rfl
def M3o : MC := Y3
theorem C6j (x : GCapture) (hs : x.size ≤ 1073741824) : Ctr Tryz.prog N3g [aS x.enc] [rS x.enc] := by
 refine cA M3o 4 16 [(.cell 2 true 9, [false, false, false, false, false, true, false, false, false])] Tryz.func411 rfl rfl ?_; unfold M3o
 intro hb
 simp only [GCapture.size] at hs
 simp only [go_sem]
 refine K0 (C7 x.Address) ?_
 simp only [go_sem]
 try intros
 refine K0 (C2j x.Resource (by omega)) ?_
 simp only [go_sem]
 try intros
def M3p : MC := Y4
theorem C6k (x y : GCapture) : Ctr Tryz.prog N3h [aS x.enc, aS y.enc] [rB (decide (x = y))] := by
 refine cA M3p 2 22 [(.tmp 4, [false])] Tryz.func418 rfl rfl ?_; unfold M3p
 intro hb
 clear hb
 simp only [go_sem]
 refine K0 (C8 x.Address y.Address) ?_
 simp only [go_sem]
 refine ⟨fun h => ?_, fun h_Address => ?_⟩
 ·symm
  rw [decide_eq_false_iff_not]
  rintro rfl
  exact h rfl
 refine ⟨fun h => ?_, fun h_Tick => ?_⟩
 ·symm
  rw [decide_eq_false_iff_not]
  rintro rfl
  exact h rfl
 refine K0 (C2l x.Resource y.Resource) ?_
 simp only [go_sem]
 refine ⟨fun h => ?_, fun h_Resource => ?_⟩
 ·symm
  rw [decide_eq_false_iff_not]
  rintro rfl
  exact h rfl
 cases x; cases y; simp_all
def M2p : MC := Y5 9 N3f
theorem C5y (xs : List GCapture) (left : Int) (h0 : 0 ≤ left) : Ctr Tryz.prog N2d [aL 9 (xs.map GCapture.enc), aI left] [rI (szr (xs.length + (xs.map GCapture.size).sum) left)] := by
 refine cA M2p 0 27 [(.tmp 4, [false])] Tryz.func359 rfl rfl ?_; unfold M2p
 intro hb
 simp only [bdA, bdL, bdT, bdR, Kg, Kk, Kf, Kl, roomB, and_true, true_and, List.length_map] at hb
 obtain ⟨⟨hl, -⟩, hn⟩ := hb
 simp only [go_sem]
 rw [wI (by omega) (by omega)]
 refine ⟨fun h => ?_, fun h => ?_⟩
 ·exact szr_bad' (n := xs.length) h0 ((K3i h0).2 (by omega)) (by omega)
 ·have hz : szr xs.length left = left - xs.length := by unfold szr; rw [if_pos (by omega)]
  rw [← hz] at h ⊢
  refine K4 xs (fun k => [(1, vI (szr (xs.length + ((xs.take k).map GCapture.size).sum) left)), (5, vI k)]) (fun k => []) (fun k => ¬ szr (xs.length + ((xs.take k).map GCapture.size).sum) left < 0) hl ?_
  simp only [go_sem]
  refine ⟨?_, by simpa using h, ?_, ?_⟩
  ·simp only [go_sem, List.take_zero, List.map_nil, List.sum_nil, Nat.add_zero]
   all_goals rfl
  ·intro k x hx hs hk0 h1 hw
   obtain ⟨a1, a2, a3⟩ := K14 (m := x.size) h0 hs
   rw [Nat.add_assoc, ← K40 hx] at a3
   simp only [go_sem, K3 hx, hk0, h1, hw]
   refine K0 (C6i x _ a1) ?_
   rw [← a3]
   simp only [go_sem, hw]
   intro _
   refine ⟨fun hn => ?_, fun hn => hn⟩
   have := K2k (f := GCapture.size) xs (k + 1)
   exact szr_bad' h0 hn (by omega)
  ·intro _
   simp only [go_sem, List.take_length]
def M2q : MC := Y6 N3g
theorem C5z (xs : List GCapture) (hs : xs.length + (xs.map GCapture.size).sum ≤ 1073741824) : Ctr Tryz.prog N2e [aL 9 (xs.map GCapture.enc)] [rL 9 (xs.map GCapture.enc)] := by
 refine cA M2q 2 23 [(.tmp 2, [true])] Tryz.func361 rfl rfl ?_; unfold M2q
 intro hb
 simp only [go_sem, Kj]
 refine ⟨⟨by omega, by simp only [roomB]; omega⟩, ?_⟩
 refine K4 xs (fun k => [(4, vI k)]) (fun k => [(0, ⟨0, .row true 9 (filled GCapture.enc [tI 0, tI 0, tI 0, tI 0, tI 0, .sl 1 [], tI 0, tI 0, tI 0] xs k)⟩)]) (fun _ => True) (by simp only [roomB]; omega) ?_
 simp only [go_sem]
 refine ⟨?_, trivial, ?_, ?_⟩
 ·simp only [go_sem, Kv]
  all_goals rfl
 ·intro k x hx _ h0 h1 hw
  have h : k < xs.length := by omega
  simp only [go_sem, K3 hx, K3 (Kb h), Ka (Nat.le_of_lt h), h0, h1, hw]
  have hx1 := K4p (f := GCapture.size) (K20 hx)
  refine K0 (C6j x (by omega)) ?_
  simp only [go_sem, K3 hx, K3 (Kb h), Ka (Nat.le_of_lt h), h0, h1, hw]
  intros; exact K11 hx
 ·intro _
  simp only [go_sem, K10]
def M2r : MC := Y7 9 N3h
theorem C60 (xs ys : List GCapture) : Ctr Tryz.prog N2f [aL 9 (xs.map GCapture.enc), aL 9 (ys.map GCapture.enc)] [rB (decide (xs = ys))] := by
 refine cA M2r 0 27 [(.tmp 4, [false])] Tryz.func373 rfl rfl ?_; unfold M2r
 intro hb
 simp only [bdA, bdL, bdT, bdR, Kg, Kk, Kf, Kl, roomB, and_true, true_and, List.length_map] at hb
 obtain ⟨⟨hl, -⟩, ⟨hl2, -⟩⟩ := hb
 simp only [go_sem]
 refine ⟨fun h => K1z h, fun h => ?_⟩
 have hle : xs.length = ys.length := by omega
 refine K4 xs (fun k => [(5, vI k)]) (fun k => []) (fun k => xs.take k = ys.take k) hl ?_
 simp only [go_sem]
 refine ⟨?_, rfl, ?_, ?_⟩
 ·simp only [go_sem]
 ·intro k x hx he h0 h1 hw
  obtain ⟨y, hy⟩ := Ko (show k < ys.length by omega)
  have h2 : (k : Int) < ys.length := by omega
  simp only [go_sem, K3 hx, K3 hy, h0, h1, h2, hw]
  refine K0 (C6k x y) ?_
  simp only [go_sem, hw]
  exact ⟨fun hn => K2g hx hy hn, fun hn => (Ks hx hy he).2 hn⟩
 ·intro he
  simp only [go_sem]
  exact K22 he hle
def M1p : MC :=
(Zs [.box 1 0 (.s 0), .alloc 2 1 [pz, pz, pz, pz, pz]] [1,2] (Zs [.alloc 3 2 [pz, pz, pz, pz, pz]] [1,2,3] (Zs [fS 4 1 0, lF 5 1 4, fS 6 3 0, sS 1 6 5] [1,2,3] (Zs [fS 7 1 1, lF 8 1 7, fS 9 3 1, sS 1 9 8] [1,2,3] (Zs [fS 10 1 2, lF 11 1 10, fS 12 3 2, sS 1 12 11] [1,2,3] (Zs [fS 13 1 3, lF 14 1 13, fS 15 3 3, sS 1 15 14] [1,2,3] (Zs [fS 16 1 4, lF 17 1 16, fS 18 3 4, sS 1 18 17] [2,3] (Zs [lT 19 5 3, sS 5 2 19] [2] .ret))))))))
theorem C5l (x : GExclusion) : Ctr Tryz.prog N1g [aS x.enc] [rS x.enc] := by
 refine cA M1p 3 20 [(.cell 2 true 5, [false, false, false, false, false])] Tryz.func145 rfl rfl ?_; unfold M1p
 intro hb
 simp only [go_sem]
def M1q : MC :=
(Zs [.box 2 0 (.s 0), .box 3 1 (.s 1), .mv 4 cF] [2,3] (.seq (Zs [fS 5 2 0, lF 6 1 5, fS 7 3 0, lF 8 1 7, bS 9 .neq 6 8] [2,3,9] (.cond (.s 9) (Zs [.mv 4 cF] [4] .ret) .skip))
(.seq (Zs [fS 10 2 1, lF 11 1 10, fS 12 3 1, lF 13 1 12, bS 14 .neq 11 13] [2,3,14] (.cond (.s 14) (Zs [.mv 4 cF] [4] .ret) .skip))
(.seq (Zs [fS 15 2 2, lF 16 1 15, fS 17 3 2, lF 18 1 17, bS 19 .neq 16 18] [2,3,19] (.cond (.s 19) (Zs [.mv 4 cF] [4] .ret) .skip))
(.seq (Zs [fS 20 2 3, lF 21 1 20, fS 22 3 3, lF 23 1 22, bS 24 .neq 21 23] [2,3,24] (.cond (.s 24) (Zs [.mv 4 cF] [4] .ret) .skip))
(.seq (Zs [fS 25 2 4, lF 26 1 25, fS 27 3 4, lF 28 1 27, bS 29 .neq 26 28] [29] (.cond (.s 29) (Zs [.mv 4 cF] [4] .ret) .skip))
(Zs [.mv 4 cT] [4] .ret)))))))
theorem C5m (x y : GExclusion) : Ctr Tryz.prog N1i [aS x.enc, aS y.enc] [rB (decide (x = y))] := by
 refine cA M1q 2 30 [(.tmp 4, [false])] Tryz.func158 rfl rfl ?_; unfold M1q
 intro hb
 clear hb
 simp only [go_sem]
 refine ⟨fun h => ?_, fun h_Host => ?_⟩
 ·symm
  rw [decide_eq_false_iff_not]
  rintro rfl
  exact h rfl
 refine ⟨fun h => ?_, fun h_Path => ?_⟩
 ·symm
  rw [decide_eq_false_iff_not]
  rintro rfl
  exact h rfl
 refine ⟨fun h => ?_, fun h_From => ?_⟩
 ·symm
  rw [decide_eq_false_iff_not]
  rintro rfl
  exact h rfl
 refine ⟨fun h => ?_, fun h_Until => ?_⟩
 ·symm
  rw [decide_eq_false_iff_not]
  rintro rfl
  exact h rfl
 refine ⟨fun h => ?_, fun h_Asked => ?_⟩
 ·symm
  rw [decide_eq_false_iff_not]
  rintro rfl
  exact h rfl
 cases x; cases y; simp_all
def M13 : MC := Y0
theorem C57 (xs : List GExclusion) (left : Int) (h0 : 0 ≤ left) : Ctr Tryz.prog Nx [aL 5 (xs.map GExclusion.enc), aI left] [rI (szr xs.length left)] := by
 refine cA M13 0 12 [(.tmp 4, [false])] Tryz.func53 rfl rfl ?_; unfold M13
 intro hb
 simp only [bdA, bdL, bdT, bdR, Kg, Kk, Kf, Kl, roomB, and_true, true_and, List.length_map] at hb
 obtain ⟨⟨hl, -⟩, hn⟩ := hb
 simp only [go_sem]
 rw [wI (by omega) (by omega)]
 unfold szr
 refine ⟨fun h => ?_, fun h => ?_⟩
 ·rw [if_neg (by omega)]
 ·rw [if_pos (by omega)]
def M14 : MC := Y11 N1g
theorem C58 (xs : List GExclusion) (hs : xs.length ≤ 1073741824) : Ctr Tryz.prog Nz [aL 5 (xs.map GExclusion.enc)] [rL 5 (xs.map GExclusion.enc)] := by
 refine cA M14 1 23 [(.tmp 2, [true])] Tryz.func62 rfl rfl ?_; unfold M14
 intro hb
 simp only [go_sem, Kj]
 refine ⟨⟨by omega, by simp only [roomB]; omega⟩, ?_⟩
 refine K4 xs (fun k => [(4, vI k)]) (fun k => [(0, ⟨0, .row true 5 (filled GExclusion.enc [tI 0, tI 0, tI 0, tI 0, tI 0] xs k)⟩)]) (fun _ => True) (by simp only [roomB]; omega) ?_
 simp only [go_sem]
 refine ⟨?_, trivial, ?_, ?_⟩
 ·simp only [go_sem, Kv]
  all_goals rfl
 ·intro k x hx _ h0 h1 hw
  have h : k < xs.length := by omega
  simp only [go_sem, K3 hx, K3 (Kb h), Ka (Nat.le_of_lt h), h0, h1, hw]
  refine K0 (C5l x) ?_
  simp only [go_sem, K3 hx, K3 (Kb h), Ka (Nat.le_of_lt h), h0, h1, hw]
  intros; exact K11 hx
 ·intro _
  simp only [go_sem, K10]
def M15 : MC := Y7 5 N1i
theorem C59 (xs ys : List GExclusion) : Ctr Tryz.prog N11 [aL 5 (xs.map GExclusion.enc), aL 5 (ys.map GExclusion.enc)] [rB (decide (xs = ys))] := by
 refine cA M15 0 27 [(.tmp 4, [false])] Tryz.func72 rfl rfl ?_; unfold M15
 intro hb
 simp only [bdA, bdL, bdT, bdR, Kg, Kk, Kf, Kl, roomB, and_true, true_and, List.length_map] at hb
 obtain ⟨⟨hl, -⟩, ⟨hl2, -⟩⟩ := hb
 simp only [go_sem]
 refine ⟨fun h => K1z h, fun h => ?_⟩
 have hle : xs.length = ys.length := by omega
 refine K4 xs (fun k => [(5, vI k)]) (fun k => []) (fun k => xs.take k = ys.take k) hl ?_
 simp only [go_sem]
 refine ⟨?_, rfl, ?_, ?_⟩
 ·simp only [go_sem]
 ·intro k x hx he h0 h1 hw
  obtain ⟨y, hy⟩ := Ko (show k < ys.length by omega)
  have h2 : (k : Int) < ys.length := by omega
  simp only [go_sem, K3 hx, K3 hy, h0, h1, h2, hw]
  refine K0 (C5m x y) ?_
  simp only [go_sem, hw]
  exact ⟨fun hn => K2g hx hy hn, fun hn => (Ks hx hy he).2 hn⟩
 ·intro he
  simp only [go_sem]
  exact K22 he hle
def M1r : MC := Y8
theorem C5n (x : GStatement) : Ctr Tryz.prog N1h [aS x.enc] [rS x.enc] := by
 refine cA M1r 3 17 [(.cell 2 true 4, [false, false, false, false])] Tryz.func147 rfl rfl ?_; unfold M1r
 intro hb
 simp only [go_sem]
def M1s : MC := Y9
theorem C5o (x y : GStatement) : Ctr Tryz.prog N1j [aS x.enc, aS y.enc] [rB (decide (x = y))] := by
 refine cA M1s 2 25 [(.tmp 4, [false])] Tryz.func160 rfl rfl ?_; unfold M1s
 intro hb
 clear hb
 simp only [go_sem]
 refine ⟨fun h => ?_, fun h_Witness => ?_⟩
 ·symm
  rw [decide_eq_false_iff_not]
  rintro rfl
  exact h rfl
 refine ⟨fun h => ?_, fun h_Digest => ?_⟩
 ·symm
  rw [decide_eq_false_iff_not]
  rintro rfl
  exact h rfl
 refine ⟨fun h => ?_, fun h_Tick => ?_⟩
 ·symm
  rw [decide_eq_false_iff_not]
  rintro rfl
  exact h rfl
 refine ⟨fun h => ?_, fun h_Seal => ?_⟩
 ·symm
  rw [decide_eq_false_iff_not]
  rintro rfl
  exact h rfl
 cases x; cases y; simp_all
def M16 : MC := Y0
theorem C5a (xs : List GStatement) (left : Int) (h0 : 0 ≤ left) : Ctr Tryz.prog Ny [aL 4 (xs.map GStatement.enc), aI left] [rI (szr xs.length left)] := by
 refine cA M16 0 12 [(.tmp 4, [false])] Tryz.func56 rfl rfl ?_; unfold M16
 intro hb
 simp only [bdA, bdL, bdT, bdR, Kg, Kk, Kf, Kl, roomB, and_true, true_and, List.length_map] at hb
 obtain ⟨⟨hl, -⟩, hn⟩ := hb
 simp only [go_sem]
 rw [wI (by omega) (by omega)]
 unfold szr
 refine ⟨fun h => ?_, fun h => ?_⟩
 ·rw [if_neg (by omega)]
 ·rw [if_pos (by omega)]
def M17 : MC := Y10 N1h
theorem C5b (xs : List GStatement) (hs : xs.length ≤ 1073741824) : Ctr Tryz.prog N10 [aL 4 (xs.map GStatement.enc)] [rL 4 (xs.map GStatement.enc)] := by
 refine cA M17 1 23 [(.tmp 2, [true])] Tryz.func64 rfl rfl ?_; unfold M17
 intro hb
 simp only [go_sem, Kj]
 refine ⟨⟨by omega, by simp only [roomB]; omega⟩, ?_⟩
 refine K4 xs (fun k => [(4, vI k)]) (fun k => [(0, ⟨0, .row true 4 (filled GStatement.enc [tI 0, tI 0, tI 0, tI 0] xs k)⟩)]) (fun _ => True) (by simp only [roomB]; omega) ?_
 simp only [go_sem]
 refine ⟨?_, trivial, ?_, ?_⟩
 ·simp only [go_sem, Kv]
  all_goals rfl
 ·intro k x hx _ h0 h1 hw
  have h : k < xs.length := by omega
  simp only [go_sem, K3 hx, K3 (Kb h), Ka (Nat.le_of_lt h), h0, h1, hw]
  refine K0 (C5n x) ?_
  simp only [go_sem, K3 hx, K3 (Kb h), Ka (Nat.le_of_lt h), h0, h1, hw]
  intros; exact K11 hx
 ·intro _
  simp only [go_sem, K10]
def M18 : MC := Y7 4 N1j
theorem C5c (xs ys : List GStatement) : Ctr Tryz.prog N12 [aL 4 (xs.map GStatement.enc), aL 4 (ys.map GStatement.enc)] [rB (decide (xs = ys))] := by
 refine cA M18 0 27 [(.tmp 4, [false])] Tryz.func74 rfl rfl ?_; unfold M18
 intro hb
 simp only [bdA, bdL, bdT, bdR, Kg, Kk, Kf, Kl, roomB, and_true, true_and, List.length_map] at hb
 obtain ⟨⟨hl, -⟩, ⟨hl2, -⟩⟩ := hb
 simp only [go_sem]
 refine ⟨fun h => K1z h, fun h => ?_⟩
 have hle : xs.length = ys.length := by omega
 refine K4 xs (fun k => [(5, vI k)]) (fun k => []) (fun k => xs.take k = ys.take k) hl ?_
 simp only [go_sem]
 refine ⟨?_, rfl, ?_, ?_⟩
 ·simp only [go_sem]
 ·intro k x hx he h0 h1 hw
  obtain ⟨y, hy⟩ := Ko (show k < ys.length by omega)
  have h2 : (k : Int) < ys.length := by omega
  simp only [go_sem, K3 hx, K3 hy, h0, h1, h2, hw]
  refine K0 (C5o x y) ?_
  simp only [go_sem, hw]
  exact ⟨fun hn => K2g hx hy hn, fun hn => (Ks hx hy he).2 hn⟩
 ·intro he
  simp only [go_sem]
  exact K22 he hle
def M3q : MC := Y1
theorem C6l (x : GLibrary) (left : Int) (h0 : 0 ≤ left) : Ctr Tryz.prog N36 [aS x.enc, aI left] [rI (szr x.size left)] := by
 refine cA M3q 1 12 [(.tmp 4, [false])] Tryz.func139 rfl rfl ?_; unfold M3q
 intro hb
 simp only [go_sem]
 refine K0 (C20 x.Digests left h0) ?_
 simp only [go_sem]
 intro _
 refine ⟨fun h => szr_bad' h0 h (by simp only [GLibrary.size]; omega), fun h1 => ?_⟩
 rfl
def M3r : MC :=
(Zs [.box 1 0 (.s 0), .alloc 2 1 [pz, .emp 1, .pl (.sc (.bool false)), .pl (.sc (.bool false))]] [1,2] (Zs [.alloc 3 2 [pz, .emp 1, .pl (.sc (.bool false)), .pl (.sc (.bool false))]] [1,2,3] (Zs [fS 4 1 0, lF 5 1 4, fS 6 3 0, sS 1 6 5] [1,2,3] (Zs [fS 7 1 1, lF 8 1 7, .call 9 [3] (.f Nn) [.s 8], fS 10 3 1, sS 1 10 9] [1,2,3] (Zs [fS 11 1 2, lF 12 1 11, fS 13 3 2, sS 1 13 12] [1,2,3] (Zs [fS 14 1 3, lF 15 1 14, fS 16 3 3, sS 1 16 15] [2,3] (Zs [lT 17 4 3, sS 4 2 17] [2] .ret)))))))
theorem C6m (x : GLibrary) (hs : x.size ≤ 1073741824) : Ctr Tryz.prog N39 [aS x.enc] [rS x.enc] := by
 refine cA M3r 4 18 [(.cell 2 true 4, [false, true, false, false])] Tryz.func146 rfl rfl ?_; unfold M3r
 intro hb
 simp only [GLibrary.size] at hs
 simp only [go_sem]
 refine K0 (C21 x.Digests (by omega)) ?_
 simp only [go_sem]
 try intros
def M3s : MC :=
(Zs [.box 2 0 (.s 0), .box 3 1 (.s 1), .mv 4 cF] [2,3] (.seq (Zs [fS 5 2 0, lF 6 1 5, fS 7 3 0, lF 8 1 7, bS 9 .neq 6 8] [2,3,9] (.cond (.s 9) (Zs [.mv 4 cF] [4] .ret) .skip))
(.seq (Zs [fS 10 2 1, lF 11 1 10, fS 12 3 1, lF 13 1 12, .call 14 [] (.f Np) [.s 11, .s 13], .un 15 .not (.s 14)] [2,3,15] (.cond (.s 15) (Zs [.mv 4 cF] [4] .ret) .skip))
(.seq (Zs [fS 16 2 2, lF 17 1 16, fS 18 3 2, lF 19 1 18, .bin 20 true .neq (.s 17) (.s 19)] [2,3,20] (.cond (.s 20) (Zs [.mv 4 cF] [4] .ret) .skip))
(.seq (Zs [fS 21 2 3, lF 22 1 21, fS 23 3 3, lF 24 1 23, .bin 25 true .neq (.s 22) (.s 24)] [25] (.cond (.s 25) (Zs [.mv 4 cF] [4] .ret) .skip))
(Zs [.mv 4 cT] [4] .ret))))))
theorem C6n (x y : GLibrary) : Ctr Tryz.prog N3c [aS x.enc, aS y.enc] [rB (decide (x = y))] := by
 refine cA M3s 2 26 [(.tmp 4, [false])] Tryz.func159 rfl rfl ?_; unfold M3s
 intro hb
 clear hb
 simp only [go_sem]
 refine ⟨fun h => ?_, fun h_Id => ?_⟩
 ·symm
  rw [decide_eq_false_iff_not]
  rintro rfl
  exact h rfl
 refine K0 (C22 x.Digests y.Digests) ?_
 simp only [go_sem]
 refine ⟨fun h => ?_, fun h_Digests => ?_⟩
 ·symm
  rw [decide_eq_false_iff_not]
  rintro rfl
  exact h rfl
 refine ⟨fun h => ?_, fun h_Up => ?_⟩
 ·symm
  rw [decide_eq_false_iff_not]
  rintro rfl
  exact h rfl
 refine ⟨fun h => ?_, fun h_Lies => ?_⟩
 ·symm
  rw [decide_eq_false_iff_not]
  rintro rfl
  exact h rfl
 cases x; cases y; simp_all
def M2s : MC := Y5 4 N36
theorem C61 (xs : List GLibrary) (left : Int) (h0 : 0 ≤ left) : Ctr Tryz.prog N24 [aL 4 (xs.map GLibrary.enc), aI left] [rI (szr (xs.length + (xs.map GLibrary.size).sum) left)] := by
 refine cA M2s 0 27 [(.tmp 4, [false])] Tryz.func54 rfl rfl ?_; unfold M2s
 intro hb
 simp only [bdA, bdL, bdT, bdR, Kg, Kk, Kf, Kl, roomB, and_true, true_and, List.length_map] at hb
 obtain ⟨⟨hl, -⟩, hn⟩ := hb
 simp only [go_sem]
 rw [wI (by omega) (by omega)]
 refine ⟨fun h => ?_, fun h => ?_⟩
 ·exact szr_bad' (n := xs.length) h0 ((K3i h0).2 (by omega)) (by omega)
 ·have hz : szr xs.length left = left - xs.length := by unfold szr; rw [if_pos (by omega)]
  rw [← hz] at h ⊢
  refine K4 xs (fun k => [(1, vI (szr (xs.length + ((xs.take k).map GLibrary.size).sum) left)), (5, vI k)]) (fun k => []) (fun k => ¬ szr (xs.length + ((xs.take k).map GLibrary.size).sum) left < 0) hl ?_
  simp only [go_sem]
  refine ⟨?_, by simpa using h, ?_, ?_⟩
  ·simp only [go_sem, List.take_zero, List.map_nil, List.sum_nil, Nat.add_zero]
   all_goals rfl
  ·intro k x hx hs hk0 h1 hw
   obtain ⟨a1, a2, a3⟩ := K14 (m := x.size) h0 hs
   rw [Nat.add_assoc, ← K40 hx] at a3
   simp only [go_sem, K3 hx, hk0, h1, hw]
   refine K0 (C6l x _ a1) ?_
   rw [← a3]
   simp only [go_sem, hw]
   intro _
   refine ⟨fun hn => ?_, fun hn => hn⟩
   have := K2k (f := GLibrary.size) xs (k + 1)
   exact szr_bad' h0 hn (by omega)
  ·intro _
   simp only [go_sem, List.take_length]
def M2t : MC :=
(Zs [.nilo 2 0 4] [0] (.seq (pr [mS 5 0, nS 6 5, .mk 7 0 4 40 [.sc (.int .i64 0), .sl 1 [], .sc (.bool false), .sc (.bool false)] (.s 6), mS 3 7] [0,3])
(.seq (Zs [.mv 4 (ci 0)] [0,3,4] (.block 0 (.loop ([0,3,4], [1]) (.seq (Zs [mS 8 4, mS 9 0, nS 10 9, bS 11 .lss 8 10] [0,3,4,11] (cX 11 0))
(.seq (.block 1 (pr [mS 14 3, mS 15 4, mS 16 0, mS 17 4, xS 18 4 16 17, lT 19 4 18, .call 20 [1] (.f N39) [.s 19], xS 21 4 14 15, sS 4 21 20] [0,3,4]))
(pr [mS 12 4, bC 13 .add 12 1, mS 4 13] [0,3,4]))))))
(Zs [mS 22 3, mS 2 22] [2] .ret))))
theorem C62 (xs : List GLibrary) (hs : xs.length + (xs.map GLibrary.size).sum ≤ 1073741824) : Ctr Tryz.prog N26 [aL 4 (xs.map GLibrary.enc)] [rL 4 (xs.map GLibrary.enc)] := by
 refine cA M2t 2 23 [(.tmp 2, [true])] Tryz.func63 rfl rfl ?_; unfold M2t
 intro hb
 simp only [go_sem, Kj]
 refine ⟨⟨by omega, by simp only [roomB]; omega⟩, ?_⟩
 refine K4 xs (fun k => [(4, vI k)]) (fun k => [(0, ⟨0, .row true 4 (filled GLibrary.enc [tI 0, .sl 1 [], tB false, tB false] xs k)⟩)]) (fun _ => True) (by simp only [roomB]; omega) ?_
 simp only [go_sem]
 refine ⟨?_, trivial, ?_, ?_⟩
 ·simp only [go_sem, Kv]
  all_goals rfl
 ·intro k x hx _ h0 h1 hw
  have h : k < xs.length := by omega
  simp only [go_sem, K3 hx, K3 (Kb h), Ka (Nat.le_of_lt h), h0, h1, hw]
  have hx1 := K4p (f := GLibrary.size) (K20 hx)
  refine K0 (C6m x (by omega)) ?_
  simp only [go_sem, K3 hx, K3 (Kb h), Ka (Nat.le_of_lt h), h0, h1, hw]
  intros; exact K11 hx
 ·intro _
  simp only [go_sem, K10]
def M2u : MC := Y7 4 N3c
theorem C63 (xs ys : List GLibrary) : Ctr Tryz.prog N29 [aL 4 (xs.map GLibrary.enc), aL 4 (ys.map GLibrary.enc)] [rB (decide (xs = ys))] := by
 refine cA M2u 0 27 [(.tmp 4, [false])] Tryz.func73 rfl rfl ?_; unfold M2u
 intro hb
 simp only [bdA, bdL, bdT, bdR, Kg, Kk, Kf, Kl, roomB, and_true, true_and, List.length_map] at hb
 obtain ⟨⟨hl, -⟩, ⟨hl2, -⟩⟩ := hb
 simp only [go_sem]
 refine ⟨fun h => K1z h, fun h => ?_⟩
 have hle : xs.length = ys.length := by omega
 refine K4 xs (fun k => [(5, vI k)]) (fun k => []) (fun k => xs.take k = ys.take k) hl ?_
 simp only [go_sem]
 refine ⟨?_, rfl, ?_, ?_⟩
 ·simp only [go_sem]
 ·intro k x hx he h0 h1 hw
  obtain ⟨y, hy⟩ := Ko (show k < ys.length by omega)
  have h2 : (k : Int) < ys.length := by omega
  simp only [go_sem, K3 hx, K3 hy, h0, h1, h2, hw]
  refine K0 (C6n x y) ?_
  simp only [go_sem, hw]
  exact ⟨fun hn => K2g hx hy hn, fun hn => (Ks hx hy he).2 hn⟩
 ·intro he
  simp only [go_sem]
  exact K22 he hle
def Y12 (v0 : Nat) (v1 : Nat) (v2 : Nat) : MC :=
(Zs [.box 2 0 (.s 0), .mv 4 (ci 0)] [1,2] (Zs [fS 5 2 0, lF 6 1 5, mS 7 1, .call 8 [] (.f v0) [.s 6, .s 7], mS 1 8] [1,2] (.seq (Zs [mS 9 1, bC 10 .lss 9 0] [1,2,10] (.cond (.s 10) (Zs [.mv 4 (.c (.int .i64 (-1)))] [4] .ret) .skip))
(Zs [fS 11 2 1, lF 12 1 11, mS 13 1, .call 14 [] (.f v1) [.s 12, .s 13], mS 1 14] [1,2] (.seq (Zs [mS 15 1, bC 16 .lss 15 0] [1,2,16] (.cond (.s 16) (Zs [.mv 4 (.c (.int .i64 (-1)))] [4] .ret) .skip))
(Zs [fS 17 2 2, lF 18 1 17, mS 19 1, .call 20 [] (.f v2) [.s 18, .s 19], mS 1 20] [1] (.seq (Zs [mS 21 1, bC 22 .lss 21 0] [1,22] (.cond (.s 22) (Zs [.mv 4 (.c (.int .i64 (-1)))] [4] .ret) .skip))
(Zs [mS 23 1, mS 4 23] [4] .ret))))))))
attribute [go_sem] Y12
def M1t : MC := Y12 N32 N48 N2d
theorem C5p (x : GContainer) (left : Int) (h0 : 0 ≤ left) : Ctr Tryz.prog N1k [aS x.enc, aI left] [rI (szr x.size left)] := by
 refine cA M1t 1 24 [(.tmp 4, [false])] Tryz.func264 rfl rfl ?_; unfold M1t
 intro hb
 simp only [go_sem]
 refine K0 (C5g x.Script left h0) ?_
 simp only [go_sem]
 intro _
 refine ⟨fun h => szr_bad' h0 h (by simp only [GContainer.size]; omega), fun h1 => ?_⟩
 obtain ⟨a1, b1, e1⟩ := K14 (m := x.Entries.length) h0 h1
 refine K0 (C6w x.Entries _ a1) ?_
 rw [← e1]
 simp only [go_sem]
 intro _
 refine ⟨fun h => szr_bad' h0 h (by simp only [GContainer.size]; omega), fun h2 => ?_⟩
 obtain ⟨a2, b2, e2⟩ := K14 (m := x.Captures.length + (x.Captures.map GCapture.size).sum) h0 h2
 refine K0 (C5y x.Captures _ a2) ?_
 rw [← e2]
 simp only [go_sem]
 intro _
 refine ⟨fun h => szr_bad' h0 h (by simp only [GContainer.size]; omega), fun h3 => ?_⟩
 rfl
def M1u : MC :=
(Zs [.box 1 0 (.s 0), .alloc 2 1 [.emp 4, .emp 5, .emp 9, pz]] [1,2] (Zs [.alloc 3 2 [.emp 4, .emp 5, .emp 9, pz]] [1,2,3] (Zs [fS 4 1 0, lF 5 1 4, .call 6 [3] (.f N33) [.s 5], fS 7 3 0, sS 1 7 6] [1,2,3] (Zs [fS 8 1 1, lF 9 1 8, .call 10 [4] (.f N49) [.s 9], fS 11 3 1, sS 1 11 10] [1,2,3] (Zs [fS 12 1 2, lF 13 1 12, .call 14 [5] (.f N2e) [.s 13], fS 15 3 2, sS 1 15 14] [1,2,3] (Zs [fS 16 1 3, lF 17 1 16, fS 18 3 3, sS 1 18 17] [2,3] (Zs [lT 19 4 3, sS 4 2 19] [2] .ret)))))))
theorem C5q (x : GContainer) (hs : x.size ≤ 1073741824) : Ctr Tryz.prog N1m [aS x.enc] [rS x.enc] := by
 refine cA M1u 6 20 [(.cell 2 true 4, [true, true, true, false])] Tryz.func268 rfl rfl ?_; unfold M1u
 intro hb
 simp only [GContainer.size] at hs
 simp only [go_sem]
 refine K0 (C5i x.Script (by omega)) ?_
 simp only [go_sem]
 try intros
 refine K0 (C6x x.Entries (by omega)) ?_
 simp only [go_sem]
 try intros
 refine K0 (C5z x.Captures (by omega)) ?_
 simp only [go_sem]
 try intros
def M1v : MC :=
(Zs [.box 2 0 (.s 0), .box 3 1 (.s 1), .mv 4 cF] [2,3] (.seq (Zs [fS 5 2 0, lF 6 1 5, fS 7 3 0, lF 8 1 7, .call 9 [] (.f N34) [.s 6, .s 8], .un 10 .not (.s 9)] [2,3,10] (.cond (.s 10) (Zs [.mv 4 cF] [4] .ret) .skip))
(.seq (Zs [fS 11 2 1, lF 12 1 11, fS 13 3 1, lF 14 1 13, .call 15 [] (.f N4a) [.s 12, .s 14], .un 16 .not (.s 15)] [2,3,16] (.cond (.s 16) (Zs [.mv 4 cF] [4] .ret) .skip))
(.seq (Zs [fS 17 2 2, lF 18 1 17, fS 19 3 2, lF 20 1 19, .call 21 [] (.f N2f) [.s 18, .s 20], .un 22 .not (.s 21)] [2,3,22] (.cond (.s 22) (Zs [.mv 4 cF] [4] .ret) .skip))
(.seq (Zs [fS 23 2 3, lF 24 1 23, fS 25 3 3, lF 26 1 25, bS 27 .neq 24 26] [27] (.cond (.s 27) (Zs [.mv 4 cF] [4] .ret) .skip))
(Zs [.mv 4 cT] [4] .ret))))))
theorem C5r (x y : GContainer) : Ctr Tryz.prog N1o [aS x.enc, aS y.enc] [rB (decide (x = y))] := by
 refine cA M1v 2 28 [(.tmp 4, [false])] Tryz.func274 rfl rfl ?_; unfold M1v
 intro hb
 clear hb
 simp only [go_sem]
 refine K0 (C5k x.Script y.Script) ?_
 simp only [go_sem]
 refine ⟨fun h => ?_, fun h_Script => ?_⟩
 ·symm
  rw [decide_eq_false_iff_not]
  rintro rfl
  exact h rfl
 refine K0 (C6y x.Entries y.Entries) ?_
 simp only [go_sem]
 refine ⟨fun h => ?_, fun h_Entries => ?_⟩
 ·symm
  rw [decide_eq_false_iff_not]
  rintro rfl
  exact h rfl
 refine K0 (C60 x.Captures y.Captures) ?_
 simp only [go_sem]
 refine ⟨fun h => ?_, fun h_Captures => ?_⟩
 ·symm
  rw [decide_eq_false_iff_not]
  rintro rfl
  exact h rfl
 refine ⟨fun h => ?_, fun h_Root => ?_⟩
 ·symm
  rw [decide_eq_false_iff_not]
  rintro rfl
  exact h rfl
 cases x; cases y; simp_all
def M19 : MC := Y5 4 N1k
theorem C1a (xs : List GContainer) (left : Int) (h0 : 0 ≤ left) : Ctr Tryz.prog Nf [aL 4 (xs.map GContainer.enc), aI left] [rI (szr (xs.length + (xs.map GContainer.size).sum) left)] := by
 refine cA M19 0 27 [(.tmp 4, [false])] Tryz.func137 rfl rfl ?_; unfold M19
 intro hb
 simp only [bdA, bdL, bdT, bdR, Kg, Kk, Kf, Kl, roomB, and_true, true_and, List.length_map] at hb
 obtain ⟨⟨hl, -⟩, hn⟩ := hb
 simp only [go_sem]
 rw [wI (by omega) (by omega)]
 refine ⟨fun h => ?_, fun h => ?_⟩
 ·exact szr_bad' (n := xs.length) h0 ((K3i h0).2 (by omega)) (by omega)
 ·have hz : szr xs.length left = left - xs.length := by unfold szr; rw [if_pos (by omega)]
  rw [← hz] at h ⊢
  refine K4 xs (fun k => [(1, vI (szr (xs.length + ((xs.take k).map GContainer.size).sum) left)), (5, vI k)]) (fun k => []) (fun k => ¬ szr (xs.length + ((xs.take k).map GContainer.size).sum) left < 0) hl ?_
  simp only [go_sem]
  refine ⟨?_, by simpa using h, ?_, ?_⟩
  ·simp only [go_sem, List.take_zero, List.map_nil, List.sum_nil, Nat.add_zero]
   all_goals rfl
  ·intro k x hx hs hk0 h1 hw
   obtain ⟨a1, a2, a3⟩ := K14 (m := x.size) h0 hs
   rw [Nat.add_assoc, ← K40 hx] at a3
   simp only [go_sem, K3 hx, hk0, h1, hw]
   refine K0 (C5p x _ a1) ?_
   rw [← a3]
   simp only [go_sem, hw]
   intro _
   refine ⟨fun hn => ?_, fun hn => hn⟩
   have := K2k (f := GContainer.size) xs (k + 1)
   exact szr_bad' h0 hn (by omega)
  ·intro _
   simp only [go_sem, List.take_length]
def M1b : MC :=
(Zs [.nilo 2 0 4] [0] (.seq (pr [mS 5 0, nS 6 5, .mk 7 0 4 80 [.sl 4 [], .sl 5 [], .sl 9 [], .sc (.int .i64 0)] (.s 6), mS 3 7] [0,3])
(.seq (Zs [.mv 4 (ci 0)] [0,3,4] (.block 0 (.loop ([0,3,4], [1,2,3]) (.seq (Zs [mS 8 4, mS 9 0, nS 10 9, bS 11 .lss 8 10] [0,3,4,11] (cX 11 0))
(.seq (.block 1 (pr [mS 14 3, mS 15 4, mS 16 0, mS 17 4, xS 18 4 16 17, lT 19 4 18, .call 20 [1, 2, 3] (.f N1m) [.s 19], xS 21 4 14 15, sS 4 21 20] [0,3,4]))
(pr [mS 12 4, bC 13 .add 12 1, mS 4 13] [0,3,4]))))))
(Zs [mS 22 3, mS 2 22] [2] .ret))))
theorem C1c (xs : List GContainer) (hs : xs.length + (xs.map GContainer.size).sum ≤ 1073741824) : Ctr Tryz.prog Ng [aL 4 (xs.map GContainer.enc)] [rL 4 (xs.map GContainer.enc)] := by
 refine cA M1b 4 23 [(.tmp 2, [true])] Tryz.func143 rfl rfl ?_; unfold M1b
 intro hb
 simp only [go_sem, Kj]
 refine ⟨⟨by omega, by simp only [roomB]; omega⟩, ?_⟩
 refine K4 xs (fun k => [(4, vI k)]) (fun k => [(0, ⟨0, .row true 4 (filled GContainer.enc [.sl 4 [], .sl 5 [], .sl 9 [], tI 0] xs k)⟩)]) (fun _ => True) (by simp only [roomB]; omega) ?_
 simp only [go_sem]
 refine ⟨?_, trivial, ?_, ?_⟩
 ·simp only [go_sem, Kv]
  all_goals rfl
 ·intro k x hx _ h0 h1 hw
  have h : k < xs.length := by omega
  simp only [go_sem, K3 hx, K3 (Kb h), Ka (Nat.le_of_lt h), h0, h1, hw]
  have hx1 := K4p (f := GContainer.size) (K20 hx)
  refine K0 (C5q x (by omega)) ?_
  simp only [go_sem, K3 hx, K3 (Kb h), Ka (Nat.le_of_lt h), h0, h1, hw]
  intros; exact K11 hx
 ·intro _
  simp only [go_sem, K10]
def M1d : MC := Y7 4 N1o
theorem C1e (xs ys : List GContainer) : Ctr Tryz.prog Nh [aL 4 (xs.map GContainer.enc), aL 4 (ys.map GContainer.enc)] [rB (decide (xs = ys))] := by
 refine cA M1d 0 27 [(.tmp 4, [false])] Tryz.func156 rfl rfl ?_; unfold M1d
 intro hb
 simp only [bdA, bdL, bdT, bdR, Kg, Kk, Kf, Kl, roomB, and_true, true_and, List.length_map] at hb
 obtain ⟨⟨hl, -⟩, ⟨hl2, -⟩⟩ := hb
 simp only [go_sem]
 refine ⟨fun h => K1z h, fun h => ?_⟩
 have hle : xs.length = ys.length := by omega
 refine K4 xs (fun k => [(5, vI k)]) (fun k => []) (fun k => xs.take k = ys.take k) hl ?_
 simp only [go_sem]
 refine ⟨?_, rfl, ?_, ?_⟩
 ·simp only [go_sem]
 ·intro k x hx he h0 h1 hw
  obtain ⟨y, hy⟩ := Ko (show k < ys.length by omega)
  have h2 : (k : Int) < ys.length := by omega
  simp only [go_sem, K3 hx, K3 hy, h0, h1, h2, hw]
  refine K0 (C5r x y) ?_
  simp only [go_sem, hw]
  exact ⟨fun hn => K2g hx hy hn, fun hn => (Ks hx hy he).2 hn⟩
 ·intro he
  simp only [go_sem]
  exact K22 he hle
def M4t : MC :=
(Zs [.box 1 0 (.s 0), .alloc 2 1 [pz, pz, pz, pz, pz, pz]] [1,2] (Zs [.alloc 3 2 [pz, pz, pz, pz, pz, pz]] [1,2,3] (Zs [fS 4 1 0, lT 5 3 4, .call 6 [] (.f N6) [.s 5], fS 7 3 0, sS 3 7 6] [1,2,3] (Zs [fS 8 1 3, lF 9 1 8, fS 10 3 3, sS 1 10 9] [1,2,3] (Zs [fS 11 1 4, lF 12 1 11, fS 13 3 4, sS 1 13 12] [1,2,3] (Zs [fS 14 1 5, lF 15 1 14, fS 16 3 5, sS 1 16 15] [2,3] (Zs [lT 17 6 3, sS 6 2 17] [2] .ret)))))))
theorem C7a (x : GFound) : Ctr Tryz.prog N4n [aS x.enc] [rS x.enc] := by
 refine cA M4t 3 18 [(.cell 2 true 6, [false, false, false, false, false, false])] Tryz.func269 rfl rfl ?_; unfold M4t
 intro hb
 simp only [go_sem]
 refine K0 (C7 x.Address) ?_
 simp only [go_sem]
 try intros
def M4u : MC :=
(Zs [.box 2 0 (.s 0), .box 3 1 (.s 1), .mv 4 cF] [2,3] (.seq (Zs [fS 5 2 0, lT 6 3 5, fS 7 3 0, lT 8 3 7, .call 9 [] (.f N5) [.s 6, .s 8], .un 10 .not (.s 9)] [2,3,10] (.cond (.s 10) (Zs [.mv 4 cF] [4] .ret) .skip))
(.seq (Zs [fS 11 2 3, lF 12 1 11, fS 13 3 3, lF 14 1 13, bS 15 .neq 12 14] [2,3,15] (.cond (.s 15) (Zs [.mv 4 cF] [4] .ret) .skip))
(.seq (Zs [fS 16 2 4, lF 17 1 16, fS 18 3 4, lF 19 1 18, bS 20 .neq 17 19] [2,3,20] (.cond (.s 20) (Zs [.mv 4 cF] [4] .ret) .skip))
(.seq (Zs [fS 21 2 5, lF 22 1 21, fS 23 3 5, lF 24 1 23, bS 25 .neq 22 24] [25] (.cond (.s 25) (Zs [.mv 4 cF] [4] .ret) .skip))
(Zs [.mv 4 cT] [4] .ret))))))
theorem C7b (x y : GFound) : Ctr Tryz.prog N4o [aS x.enc, aS y.enc] [rB (decide (x = y))] := by
 refine cA M4u 2 26 [(.tmp 4, [false])] Tryz.func275 rfl rfl ?_; unfold M4u
 intro hb
 clear hb
 simp only [go_sem]
 refine K0 (C8 x.Address y.Address) ?_
 simp only [go_sem]
 refine ⟨fun h => ?_, fun h_Address => ?_⟩
 ·symm
  rw [decide_eq_false_iff_not]
  rintro rfl
  exact h rfl
 refine ⟨fun h => ?_, fun h_Tick => ?_⟩
 ·symm
  rw [decide_eq_false_iff_not]
  rintro rfl
  exact h rfl
 refine ⟨fun h => ?_, fun h_Container => ?_⟩
 ·symm
  rw [decide_eq_false_iff_not]
  rintro rfl
  exact h rfl
 refine ⟨fun h => ?_, fun h_At => ?_⟩
 ·symm
  rw [decide_eq_false_iff_not]
  rintro rfl
  exact h rfl
 cases x; cases y; simp_all
def M4e : MC := Y0
theorem C6z (xs : List GFound) (left : Int) (h0 : 0 ≤ left) : Ctr Tryz.prog N45 [aL 6 (xs.map GFound.enc), aI left] [rI (szr xs.length left)] := by
 refine cA M4e 0 12 [(.tmp 4, [false])] Tryz.func138 rfl rfl ?_; unfold M4e
 intro hb
 simp only [bdA, bdL, bdT, bdR, Kg, Kk, Kf, Kl, roomB, and_true, true_and, List.length_map] at hb
 obtain ⟨⟨hl, -⟩, hn⟩ := hb
 simp only [go_sem]
 rw [wI (by omega) (by omega)]
 unfold szr
 refine ⟨fun h => ?_, fun h => ?_⟩
 ·rw [if_neg (by omega)]
 ·rw [if_pos (by omega)]
def M4f : MC :=
(Zs [.nilo 2 0 6] [0] (Zs [mS 5 0, nS 6 5, .mk 7 0 6 48 [.sc (.int .i64 0), .sc (.int .i64 0), .sc (.int .i64 0), .sc (.int .i64 0), .sc (.int .i64 0), .sc (.int .i64 0)] (.s 6), mS 3 7] [0,3] (.seq (Zs [.mv 4 (ci 0)] [0,3,4] (.block 0 (.loop ([0,3,4], []) (.seq (Zs [mS 8 4, mS 9 0, nS 10 9, bS 11 .lss 8 10] [0,3,4,11] (cX 11 0))
(.seq (.block 1 (pr [mS 14 3, mS 15 4, mS 16 0, mS 17 4, xS 18 6 16 17, lT 19 6 18, .call 20 [] (.f N4n) [.s 19], xS 21 6 14 15, sS 6 21 20] [0,3,4]))
(pr [mS 12 4, bC 13 .add 12 1, mS 4 13] [0,3,4]))))))
(Zs [mS 22 3, mS 2 22] [2] .ret))))
theorem C70 (xs : List GFound) (hs : xs.length ≤ 1073741824) : Ctr Tryz.prog N46 [aL 6 (xs.map GFound.enc)] [rL 6 (xs.map GFound.enc)] := by
 refine cA M4f 1 23 [(.tmp 2, [true])] Tryz.func144 rfl rfl ?_; unfold M4f
 intro hb
 simp only [go_sem, Kj]
 refine ⟨⟨by omega, by simp only [roomB]; omega⟩, ?_⟩
 refine K4 xs (fun k => [(4, vI k)]) (fun k => [(0, ⟨0, .row true 6 (filled GFound.enc [tI 0, tI 0, tI 0, tI 0, tI 0, tI 0] xs k)⟩)]) (fun _ => True) (by simp only [roomB]; omega) ?_
 simp only [go_sem]
 refine ⟨?_, trivial, ?_, ?_⟩
 ·simp only [go_sem, Kv]
  all_goals rfl
 ·intro k x hx _ h0 h1 hw
  have h : k < xs.length := by omega
  simp only [go_sem, K3 hx, K3 (Kb h), Ka (Nat.le_of_lt h), h0, h1, hw]
  refine K0 (C7a x) ?_
  simp only [go_sem, K3 hx, K3 (Kb h), Ka (Nat.le_of_lt h), h0, h1, hw]
  intros; exact K11 hx
 ·intro _
  simp only [go_sem, K10]
def M4g : MC := Y7 6 N4o
theorem C71 (xs ys : List GFound) : Ctr Tryz.prog N47 [aL 6 (xs.map GFound.enc), aL 6 (ys.map GFound.enc)] [rB (decide (xs = ys))] := by
 refine cA M4g 0 27 [(.tmp 4, [false])] Tryz.func157 rfl rfl ?_; unfold M4g
 intro hb
 simp only [bdA, bdL, bdT, bdR, Kg, Kk, Kf, Kl, roomB, and_true, true_and, List.length_map] at hb
 obtain ⟨⟨hl, -⟩, ⟨hl2, -⟩⟩ := hb
 simp only [go_sem]
 refine ⟨fun h => K1z h, fun h => ?_⟩
 have hle : xs.length = ys.length := by omega
 refine K4 xs (fun k => [(5, vI k)]) (fun k => []) (fun k => xs.take k = ys.take k) hl ?_
 simp only [go_sem]
 refine ⟨?_, rfl, ?_, ?_⟩
 ·simp only [go_sem]
 ·intro k x hx he h0 h1 hw
  obtain ⟨y, hy⟩ := Ko (show k < ys.length by omega)
  have h2 : (k : Int) < ys.length := by omega
  simp only [go_sem, K3 hx, K3 hy, h0, h1, h2, hw]
  refine K0 (C7b x y) ?_
  simp only [go_sem, hw]
  exact ⟨fun hn => K2g hx hy hn, fun hn => (Ks hx hy he).2 hn⟩
 ·intro he
  simp only [go_sem]
  exact K22 he hle
def M54 : MC := Y12 Nf N45 Nf
theorem C7d (x : GDisk) (left : Int) (h0 : 0 ≤ left) : Ctr Tryz.prog N4y [aS x.enc, aI left] [rI (szr x.size left)] := by
 refine cA M54 1 24 [(.tmp 4, [false])] Tryz.func52 rfl rfl ?_; unfold M54
 intro hb
 simp only [go_sem]
 refine K0 (C1a x.Containers left h0) ?_
 simp only [go_sem]
 intro _
 refine ⟨fun h => szr_bad' h0 h (by simp only [GDisk.size]; omega), fun h1 => ?_⟩
 obtain ⟨a1, b1, e1⟩ := K14 (m := x.Index.length) h0 h1
 refine K0 (C6z x.Index _ a1) ?_
 rw [← e1]
 simp only [go_sem]
 intro _
 refine ⟨fun h => szr_bad' h0 h (by simp only [GDisk.size]; omega), fun h2 => ?_⟩
 obtain ⟨a2, b2, e2⟩ := K14 (m := x.Wanted.length + (x.Wanted.map GContainer.size).sum) h0 h2
 refine K0 (C1a x.Wanted _ a2) ?_
 rw [← e2]
 simp only [go_sem]
 intro _
 refine ⟨fun h => szr_bad' h0 h (by simp only [GDisk.size]; omega), fun h3 => ?_⟩
 rfl
def M55 : MC :=
(Zs [.box 1 0 (.s 0), .alloc 2 1 [.emp 4, .emp 6, .emp 4]] [1,2] (Zs [.alloc 3 2 [.emp 4, .emp 6, .emp 4]] [1,2,3] (Zs [fS 4 1 0, lF 5 1 4, .call 6 [3] (.f Ng) [.s 5], fS 7 3 0, sS 1 7 6] [1,2,3] (Zs [fS 8 1 1, lF 9 1 8, .call 10 [4] (.f N46) [.s 9], fS 11 3 1, sS 1 11 10] [1,2,3] (Zs [fS 12 1 2, lF 13 1 12, .call 14 [5] (.f Ng) [.s 13], fS 15 3 2, sS 1 15 14] [2,3] (Zs [lT 16 3 3, sS 3 2 16] [2] .ret))))))
theorem C7e (x : GDisk) (hs : x.size ≤ 1073741824) : Ctr Tryz.prog N4z [aS x.enc] [rS x.enc] := by
 refine cA M55 6 17 [(.cell 2 true 3, [true, true, true])] Tryz.func61 rfl rfl ?_; unfold M55
 intro hb
 simp only [GDisk.size] at hs
 simp only [go_sem]
 refine K0 (C1c x.Containers (by omega)) ?_
 simp only [go_sem]
 try intros
 refine K0 (C70 x.Index (by omega)) ?_
 simp only [go_sem]
 try intros
 refine K0 (C1c x.Wanted (by omega)) ?_
 simp only [go_sem]
 try intros
def M56 : MC :=
(Zs [.box 2 0 (.s 0), .box 3 1 (.s 1), .mv 4 cF] [2,3] (.seq (Zs [fS 5 2 0, lF 6 1 5, fS 7 3 0, lF 8 1 7, .call 9 [] (.f Nh) [.s 6, .s 8], .un 10 .not (.s 9)] [2,3,10] (.cond (.s 10) (Zs [.mv 4 cF] [4] .ret) .skip))
(.seq (Zs [fS 11 2 1, lF 12 1 11, fS 13 3 1, lF 14 1 13, .call 15 [] (.f N47) [.s 12, .s 14], .un 16 .not (.s 15)] [2,3,16] (.cond (.s 16) (Zs [.mv 4 cF] [4] .ret) .skip))
(.seq (Zs [fS 17 2 2, lF 18 1 17, fS 19 3 2, lF 20 1 19, .call 21 [] (.f Nh) [.s 18, .s 20], .un 22 .not (.s 21)] [22] (.cond (.s 22) (Zs [.mv 4 cF] [4] .ret) .skip))
(Zs [.mv 4 cT] [4] .ret)))))
theorem C7f (x y : GDisk) : Ctr Tryz.prog N50 [aS x.enc, aS y.enc] [rB (decide (x = y))] := by
 refine cA M56 2 23 [(.tmp 4, [false])] Tryz.func71 rfl rfl ?_; unfold M56
 intro hb
 clear hb
 simp only [go_sem]
 refine K0 (C1e x.Containers y.Containers) ?_
 simp only [go_sem]
 refine ⟨fun h => ?_, fun h_Containers => ?_⟩
 ·symm
  rw [decide_eq_false_iff_not]
  rintro rfl
  exact h rfl
 refine K0 (C71 x.Index y.Index) ?_
 simp only [go_sem]
 refine ⟨fun h => ?_, fun h_Index => ?_⟩
 ·symm
  rw [decide_eq_false_iff_not]
  rintro rfl
  exact h rfl
 refine K0 (C1e x.Wanted y.Wanted) ?_
 simp only [go_sem]
 refine ⟨fun h => ?_, fun h_Wanted => ?_⟩
 ·symm
  rw [decide_eq_false_iff_not]
  rintro rfl
  exact h rfl
 cases x; cases y; simp_all
def M3t : MC :=
(Zs [.box 2 0 (.s 0), .mv 4 (ci 0)] [1,2] (Zs [fS 5 2 0, lF 6 1 5, mS 7 1, .call 8 [] (.f N23) [.s 6, .s 7], mS 1 8] [1,2] (.seq (Zs [mS 9 1, bC 10 .lss 9 0] [1,2,10] (.cond (.s 10) (Zs [.mv 4 (.c (.int .i64 (-1)))] [4] .ret) .skip))
(Zs [fS 11 2 1, lF 12 1 11, mS 13 1, .call 14 [] (.f N32) [.s 12, .s 13], mS 1 14] [1,2] (.seq (Zs [mS 15 1, bC 16 .lss 15 0] [1,2,16] (.cond (.s 16) (Zs [.mv 4 (.c (.int .i64 (-1)))] [4] .ret) .skip))
(Zs [fS 17 2 2, lT 18 3 17, mS 19 1, .call 20 [] (.f N4y) [.s 18, .s 19], mS 1 20] [1,2] (.seq (Zs [mS 21 1, bC 22 .lss 21 0] [1,2,22] (.cond (.s 22) (Zs [.mv 4 (.c (.int .i64 (-1)))] [4] .ret) .skip))
(Zs [fS 23 2 5, lF 24 1 23, mS 25 1, .call 26 [] (.f Nx) [.s 24, .s 25], mS 1 26] [1,2] (.seq (Zs [mS 27 1, bC 28 .lss 27 0] [1,2,28] (.cond (.s 28) (Zs [.mv 4 (.c (.int .i64 (-1)))] [4] .ret) .skip))
(Zs [fS 29 2 6, lF 30 1 29, mS 31 1, .call 32 [] (.f N24) [.s 30, .s 31], mS 1 32] [1,2] (.seq (Zs [mS 33 1, bC 34 .lss 33 0] [1,2,34] (.cond (.s 34) (Zs [.mv 4 (.c (.int .i64 (-1)))] [4] .ret) .skip))
(Zs [fS 35 2 7, lF 36 1 35, mS 37 1, .call 38 [] (.f N1y) [.s 36, .s 37], mS 1 38] [1,2] (.seq (Zs [mS 39 1, bC 40 .lss 39 0] [1,2,40] (.cond (.s 40) (Zs [.mv 4 (.c (.int .i64 (-1)))] [4] .ret) .skip))
(Zs [fS 41 2 8, lF 42 1 41, mS 43 1, .call 44 [] (.f Ny) [.s 42, .s 43], mS 1 44] [1] (.seq (Zs [mS 45 1, bC 46 .lss 45 0] [1,46] (.cond (.s 46) (Zs [.mv 4 (.c (.int .i64 (-1)))] [4] .ret) .skip))
(Zs [mS 47 1, mS 4 47] [4] .ret))))))))))))))))
theorem C6o (x : GArchive) (left : Int) (h0 : 0 ≤ left) : Ctr Tryz.prog N30 [aS x.enc, aI left] [rI (szr x.size left)] := by
 refine cA M3t 1 48 [(.tmp 4, [false])] Tryz.func13 rfl rfl ?_; unfold M3t
 intro hb
 simp only [go_sem]
 refine K0 (C5v x.Site left h0) ?_
 simp only [go_sem]
 intro _
 refine ⟨fun h => szr_bad' h0 h (by simp only [GArchive.size]; omega), fun h1 => ?_⟩
 obtain ⟨a1, b1, e1⟩ := K14 (m := x.Script.length) h0 h1
 refine K0 (C5g x.Script _ a1) ?_
 rw [← e1]
 simp only [go_sem]
 intro _
 refine ⟨fun h => szr_bad' h0 h (by simp only [GArchive.size]; omega), fun h2 => ?_⟩
 obtain ⟨a2, b2, e2⟩ := K14 (m := x.Disk.size) h0 h2
 refine K0 (C7d x.Disk _ a2) ?_
 rw [← e2]
 simp only [go_sem]
 intro _
 refine ⟨fun h => szr_bad' h0 h (by simp only [GArchive.size]; omega), fun h3 => ?_⟩
 obtain ⟨a3, b3, e3⟩ := K14 (m := x.Exclusions.length) h0 h3
 refine K0 (C57 x.Exclusions _ a3) ?_
 rw [← e3]
 simp only [go_sem]
 intro _
 refine ⟨fun h => szr_bad' h0 h (by simp only [GArchive.size]; omega), fun h4 => ?_⟩
 obtain ⟨a4, b4, e4⟩ := K14 (m := x.Libraries.length + (x.Libraries.map GLibrary.size).sum) h0 h4
 refine K0 (C61 x.Libraries _ a4) ?_
 rw [← e4]
 simp only [go_sem]
 intro _
 refine ⟨fun h => szr_bad' h0 h (by simp only [GArchive.size]; omega), fun h5 => ?_⟩
 obtain ⟨a5, b5, e5⟩ := K14 (m := x.Keys.length) h0 h5
 refine K0 (C20 x.Keys _ a5) ?_
 rw [← e5]
 simp only [go_sem]
 intro _
 refine ⟨fun h => szr_bad' h0 h (by simp only [GArchive.size]; omega), fun h6 => ?_⟩
 obtain ⟨a6, b6, e6⟩ := K14 (m := x.Statements.length) h0 h6
 refine K0 (C5a x.Statements _ a6) ?_
 rw [← e6]
 simp only [go_sem]
 intro _
 refine ⟨fun h => szr_bad' h0 h (by simp only [GArchive.size]; omega), fun h7 => ?_⟩
 rfl
def M3u : MC :=
(Zs [.box 1 0 (.s 0), .alloc 2 1 [.emp 9, .emp 4, .emp 4, .emp 6, .emp 4, .emp 5, .emp 4, .emp 1, .emp 4, pz]] [1,2] (Zs [.alloc 3 2 [.emp 9, .emp 4, .emp 4, .emp 6, .emp 4, .emp 5, .emp 4, .emp 1, .emp 4, pz]] [1,2,3] (Zs [fS 4 1 0, lF 5 1 4, .call 6 [3] (.f N25) [.s 5], fS 7 3 0, sS 1 7 6] [1,2,3] (Zs [fS 8 1 1, lF 9 1 8, .call 10 [4] (.f N33) [.s 9], fS 11 3 1, sS 1 11 10] [1,2,3] (Zs [fS 12 1 2, lT 13 3 12, .call 14 [5, 6, 7] (.f N4z) [.s 13], fS 15 3 2, sS 3 15 14] [1,2,3] (Zs [fS 16 1 5, lF 17 1 16, .call 18 [8] (.f Nz) [.s 17], fS 19 3 5, sS 1 19 18] [1,2,3] (Zs [fS 20 1 6, lF 21 1 20, .call 22 [9] (.f N26) [.s 21], fS 23 3 6, sS 1 23 22] [1,2,3] (Zs [fS 24 1 7, lF 25 1 24, .call 26 [10] (.f Nn) [.s 25], fS 27 3 7, sS 1 27 26] [1,2,3] (Zs [fS 28 1 8, lF 29 1 28, .call 30 [11] (.f N10) [.s 29], fS 31 3 8, sS 1 31 30] [1,2,3] (Zs [fS 32 1 9, lF 33 1 32, fS 34 3 9, sS 1 34 33] [2,3] (Zs [lT 35 10 3, sS 10 2 35] [2] .ret)))))))))))
theorem Cq (x : GArchive) (hs : x.size ≤ 1073741824) : Ctr Tryz.prog Nd [aS x.enc] [rS x.enc] := by
 refine cA M3u 12 36 [(.cell 2 true 10, [true, true, true, true, true, true, true, true, true, false])] Tryz.func15 rfl rfl ?_; unfold M3u
 intro hb
 simp only [GArchive.size] at hs
 simp only [go_sem]
 refine K0 (C5w x.Site (by omega)) ?_
 simp only [go_sem]
 try intros
 refine K0 (C5i x.Script (by omega)) ?_
 simp only [go_sem]
 try intros
 refine K0 (C7e x.Disk (by omega)) ?_
 simp only [go_sem]
 try intros
 refine K0 (C58 x.Exclusions (by omega)) ?_
 simp only [go_sem]
 try intros
 refine K0 (C62 x.Libraries (by omega)) ?_
 simp only [go_sem]
 try intros
 refine K0 (C21 x.Keys (by omega)) ?_
 simp only [go_sem]
 try intros
 refine K0 (C5b x.Statements (by omega)) ?_
 simp only [go_sem]
 try intros
def M3v : MC :=
(Zs [.box 2 0 (.s 0), .box 3 1 (.s 1), .mv 4 cF] [2,3] (.seq (Zs [fS 5 2 0, lF 6 1 5, fS 7 3 0, lF 8 1 7, .call 9 [] (.f N28) [.s 6, .s 8], .un 10 .not (.s 9)] [2,3,10] (.cond (.s 10) (Zs [.mv 4 cF] [4] .ret) .skip))
(.seq (Zs [fS 11 2 1, lF 12 1 11, fS 13 3 1, lF 14 1 13, .call 15 [] (.f N34) [.s 12, .s 14], .un 16 .not (.s 15)] [2,3,16] (.cond (.s 16) (Zs [.mv 4 cF] [4] .ret) .skip))
(.seq (Zs [fS 17 2 2, lT 18 3 17, fS 19 3 2, lT 20 3 19, .call 21 [] (.f N50) [.s 18, .s 20], .un 22 .not (.s 21)] [2,3,22] (.cond (.s 22) (Zs [.mv 4 cF] [4] .ret) .skip))
(.seq (Zs [fS 23 2 5, lF 24 1 23, fS 25 3 5, lF 26 1 25, .call 27 [] (.f N11) [.s 24, .s 26], .un 28 .not (.s 27)] [2,3,28] (.cond (.s 28) (Zs [.mv 4 cF] [4] .ret) .skip))
(.seq (Zs [fS 29 2 6, lF 30 1 29, fS 31 3 6, lF 32 1 31, .call 33 [] (.f N29) [.s 30, .s 32], .un 34 .not (.s 33)] [2,3,34] (.cond (.s 34) (Zs [.mv 4 cF] [4] .ret) .skip))
(.seq (Zs [fS 35 2 7, lF 36 1 35, fS 37 3 7, lF 38 1 37, .call 39 [] (.f Np) [.s 36, .s 38], .un 40 .not (.s 39)] [2,3,40] (.cond (.s 40) (Zs [.mv 4 cF] [4] .ret) .skip))
(.seq (Zs [fS 41 2 8, lF 42 1 41, fS 43 3 8, lF 44 1 43, .call 45 [] (.f N12) [.s 42, .s 44], .un 46 .not (.s 45)] [2,3,46] (.cond (.s 46) (Zs [.mv 4 cF] [4] .ret) .skip))
(.seq (Zs [fS 47 2 9, lF 48 1 47, fS 49 3 9, lF 50 1 49, bS 51 .neq 48 50] [51] (.cond (.s 51) (Zs [.mv 4 cF] [4] .ret) .skip))
(Zs [.mv 4 cT] [4] .ret))))))))))
theorem C6p (x y : GArchive) : Ctr Tryz.prog N31 [aS x.enc, aS y.enc] [rB (decide (x = y))] := by
 refine cA M3v 2 52 [(.tmp 4, [false])] Tryz.func17 rfl rfl ?_; unfold M3v
 intro hb
 clear hb
 simp only [go_sem]
 refine K0 (C5x x.Site y.Site) ?_
 simp only [go_sem]
 refine ⟨fun h => ?_, fun h_Site => ?_⟩
 ·symm
  rw [decide_eq_false_iff_not]
  rintro rfl
  exact h rfl
 refine K0 (C5k x.Script y.Script) ?_
 simp only [go_sem]
 refine ⟨fun h => ?_, fun h_Script => ?_⟩
 ·symm
  rw [decide_eq_false_iff_not]
  rintro rfl
  exact h rfl
 refine K0 (C7f x.Disk y.Disk) ?_
 simp only [go_sem]
 refine ⟨fun h => ?_, fun h_Disk => ?_⟩
 ·symm
  rw [decide_eq_false_iff_not]
  rintro rfl
  exact h rfl
 refine K0 (C59 x.Exclusions y.Exclusions) ?_
 simp only [go_sem]
 refine ⟨fun h => ?_, fun h_Exclusions => ?_⟩
 ·symm
  rw [decide_eq_false_iff_not]
  rintro rfl
  exact h rfl
 refine K0 (C63 x.Libraries y.Libraries) ?_
 simp only [go_sem]
 refine ⟨fun h => ?_, fun h_Libraries => ?_⟩
 ·symm
  rw [decide_eq_false_iff_not]
  rintro rfl
  exact h rfl
 refine K0 (C22 x.Keys y.Keys) ?_
 simp only [go_sem]
 refine ⟨fun h => ?_, fun h_Keys => ?_⟩
 ·symm
  rw [decide_eq_false_iff_not]
  rintro rfl
  exact h rfl
 refine K0 (C5c x.Statements y.Statements) ?_
 simp only [go_sem]
 refine ⟨fun h => ?_, fun h_Statements => ?_⟩
 ·symm
  rw [decide_eq_false_iff_not]
  rintro rfl
  exact h rfl
 refine ⟨fun h => ?_, fun h_Now => ?_⟩
 ·symm
  rw [decide_eq_false_iff_not]
  rintro rfl
  exact h rfl
 cases x; cases y; simp_all
end Go.Proofs.YtgkeplbnnjogiaaGreatR
namespace Go.Proofs.YtgkeplbnnjogiaaGreatR
open Go Go.RowKit Go.Proofs
open Nat (reduceEqDiff reduceLT reduceLeDiff reduceAdd reduceMul)
open List (reduceReplicate)
def mkL {α : Type} (mk : α → Int → α) (c : α → Nat) : List α → Int → List α
 | [], _ => []
 | x :: l, k => mk x k :: mkL mk c l (k + (c x : Nat))
def ctL {α : Type} (c : α → Nat) (l : List α) : Nat := (l.map c).sum
def iMk (_ : Int) (k : Int) : Int := k
def iCt (_ : Int) : Nat := 1
def bMk (_ : Bool) (k : Int) : Bool := k.tmod 3 == 0
section
variable {α : Type} {mk : α → Int → α} {c : α → Nat} {l : List α} {k : Int} {i : Nat} {x : α} {f : α → List T}
theorem K7 : ∀ {l : List α} {k : Int}, (mkL mk c l k).length = l.length
 | [], _ => rfl
 | x :: l, k => by simp [mkL, K7 (l := l)]
theorem K2m {s : α → Nat} (h : ∀ x, c x ≤ 16 * (1 + s x)) : ∀ l : List α, ctL c l ≤ 16 * (l.length + (l.map s).sum)
 | [] => by simp [ctL]
 | x :: l => by
  have h1 := h x
  have h2 := K2m h l
  simp only [ctL, List.map_cons, List.sum_cons, List.length_cons] at *
  omega
theorem ctL_le' (h : ∀ x, c x ≤ 16) : ∀ l : List α, ctL c l ≤ 16 * l.length
 | [] => by simp [ctL]
 | x :: l => by
  have h1 := h x
  have h2 := ctL_le' h l
  simp only [ctL, List.map_cons, List.sum_cons, List.length_cons] at *
  omega
end
abbrev oS (ts : List T) : RV := ⟨true, own ts⟩
attribute [go_sem] oS
attribute [go_sem] K7
def GAddress.mkd (x : GAddress) (k : Int) : GAddress := ⟨k, (k + 1), (k + 2)⟩
def GAddress.ct (x : GAddress) : Nat := 3
def GResource.mkd (x : GResource) (k : Int) : GResource := ⟨k, (mkL iMk iCt x.Body (k + 1)), ⟨((k + 1) + (ctL iCt x.Body : Nat)), (((k + 1) + (ctL iCt x.Body : Nat)) + 1), (((k + 1) + (ctL iCt x.Body : Nat)) + 2)⟩⟩
def GResource.ct (x : GResource) : Nat := 4 + ctL iCt x.Body
theorem GResource.ct_le (x : GResource) : x.ct ≤ 16 * (1 + x.size) := by
 simp only [GResource.ct, GResource.size]
 have h0 := ctL_le' (c := iCt) (fun y => by simp only [iCt]; omega) x.Body
 omega
def GResource.mks (x : GResource) (k : Int) : GResource := { x with Body := mkL iMk iCt x.Body (k) }
def GResource.cts (x : GResource) : Nat := ctL iCt x.Body
theorem GResource.cts_le (x : GResource) : x.cts ≤ 16 * x.size := by
 simp only [GResource.cts, GResource.size]
 have hBody := ctL_le' (c := iCt) (fun y => by simp only [iCt]; omega) x.Body
 omega
@[go_sem] theorem GResource.mks_len0 (x : GResource) (k : Int) : ((x.mks k).Body).length = x.Body.length := K7
def GPart.mkd (x : GPart) (k : Int) : GPart := ⟨k, ⟨(k + 1), (mkL iMk iCt x.Resource.Body (k + 2)), ⟨((k + 2) + (ctL iCt x.Resource.Body : Nat)), (((k + 2) + (ctL iCt x.Resource.Body : Nat)) + 1), (((k + 2) + (ctL iCt x.Resource.Body : Nat)) + 2)⟩⟩, (((k + 2) + (ctL iCt x.Resource.Body : Nat)) + 3)⟩
def GPart.ct (x : GPart) : Nat := 6 + ctL iCt x.Resource.Body
theorem GPart.ct_le (x : GPart) : x.ct ≤ 16 * (1 + x.size) := by
 simp only [GPart.ct, GPart.size, GResource.size]
 have h0 := ctL_le' (c := iCt) (fun y => by simp only [iCt]; omega) x.Resource.Body
 omega
def GPart.mks (x : GPart) (k : Int) : GPart := { x with Resource := x.Resource.mks (k) }
def GPart.cts (x : GPart) : Nat := x.Resource.cts
theorem GPart.cts_le (x : GPart) : x.cts ≤ 16 * x.size := by
 simp only [GPart.cts, GPart.size]
 have hResource := GResource.cts_le x.Resource
 omega
@[go_sem] theorem GPart.mks_len0 (x : GPart) (k : Int) : ((x.mks k).Resource.Body).length = x.Resource.Body.length := K7
def GPiece.mkd (x : GPiece) (k : Int) : GPiece := ⟨k, (k + 1), (mkL iMk iCt x.New (k + 2))⟩
def GPiece.ct (x : GPiece) : Nat := 2 + ctL iCt x.New
theorem GPiece.ct_le (x : GPiece) : x.ct ≤ 16 * (1 + x.size) := by
 simp only [GPiece.ct, GPiece.size]
 have h0 := ctL_le' (c := iCt) (fun y => by simp only [iCt]; omega) x.New
 omega
def GPiece.mks (x : GPiece) (k : Int) : GPiece := { x with New := mkL iMk iCt x.New (k) }
def GPiece.cts (x : GPiece) : Nat := ctL iCt x.New
theorem GPiece.cts_le (x : GPiece) : x.cts ≤ 16 * x.size := by
 simp only [GPiece.cts, GPiece.size]
 have hNew := ctL_le' (c := iCt) (fun y => by simp only [iCt]; omega) x.New
 omega
@[go_sem] theorem GPiece.mks_len0 (x : GPiece) (k : Int) : ((x.mks k).New).length = x.New.length := K7
def GVersion.mkd (x : GVersion) (k : Int) : GVersion := ⟨⟨k, (k + 1), (k + 2)⟩, (k + 3), ⟨(k + 4), (mkL iMk iCt x.Resource.Body (k + 5)), ⟨((k + 5) + (ctL iCt x.Resource.Body : Nat)), (((k + 5) + (ctL iCt x.Resource.Body : Nat)) + 1), (((k + 5) + (ctL iCt x.Resource.Body : Nat)) + 2)⟩⟩⟩
def GVersion.ct (x : GVersion) : Nat := 8 + ctL iCt x.Resource.Body
theorem GVersion.ct_le (x : GVersion) : x.ct ≤ 16 * (1 + x.size) := by
 simp only [GVersion.ct, GVersion.size, GResource.size]
 have h0 := ctL_le' (c := iCt) (fun y => by simp only [iCt]; omega) x.Resource.Body
 omega
def GVersion.mks (x : GVersion) (k : Int) : GVersion := { x with Resource := x.Resource.mks (k) }
def GVersion.cts (x : GVersion) : Nat := x.Resource.cts
theorem GVersion.cts_le (x : GVersion) : x.cts ≤ 16 * x.size := by
 simp only [GVersion.cts, GVersion.size]
 have hResource := GResource.cts_le x.Resource
 omega
@[go_sem] theorem GVersion.mks_len0 (x : GVersion) (k : Int) : ((x.mks k).Resource.Body).length = x.Resource.Body.length := K7
def GOp.mkd (x : GOp) (k : Int) : GOp := ⟨k, (k + 1), (k + 2), (k + 3)⟩
def GOp.ct (x : GOp) : Nat := 4
def GState.mkd (x : GState) (k : Int) : GState := ⟨k, (mkL iMk iCt x.Regs (k + 1)), (mkL iMk iCt x.Slots ((k + 1) + (ctL iCt x.Regs : Nat))), (mkL iMk iCt x.Nodes (((k + 1) + (ctL iCt x.Regs : Nat)) + (ctL iCt x.Slots : Nat)))⟩
def GState.ct (x : GState) : Nat := 1 + ctL iCt x.Regs + ctL iCt x.Slots + ctL iCt x.Nodes
theorem GState.ct_le (x : GState) : x.ct ≤ 16 * (1 + x.size) := by
 simp only [GState.ct, GState.size]
 have h0 := ctL_le' (c := iCt) (fun y => by simp only [iCt]; omega) x.Regs
 have h1 := ctL_le' (c := iCt) (fun y => by simp only [iCt]; omega) x.Slots
 have h2 := ctL_le' (c := iCt) (fun y => by simp only [iCt]; omega) x.Nodes
 omega
def GState.mks (x : GState) (k : Int) : GState := { x with Regs := mkL iMk iCt x.Regs (k), Slots := mkL iMk iCt x.Slots (k + (ctL iCt x.Regs : Nat)), Nodes := mkL iMk iCt x.Nodes (k + (ctL iCt x.Regs : Nat) + (ctL iCt x.Slots : Nat)) }
def GState.cts (x : GState) : Nat := ctL iCt x.Regs + ctL iCt x.Slots + ctL iCt x.Nodes
theorem GState.cts_le (x : GState) : x.cts ≤ 16 * x.size := by
 simp only [GState.cts, GState.size]
 have hRegs := ctL_le' (c := iCt) (fun y => by simp only [iCt]; omega) x.Regs
 have hSlots := ctL_le' (c := iCt) (fun y => by simp only [iCt]; omega) x.Slots
 have hNodes := ctL_le' (c := iCt) (fun y => by simp only [iCt]; omega) x.Nodes
 omega
@[go_sem] theorem GState.mks_len0 (x : GState) (k : Int) : ((x.mks k).Regs).length = x.Regs.length := K7
@[go_sem] theorem GState.mks_len1 (x : GState) (k : Int) : ((x.mks k).Slots).length = x.Slots.length := K7
@[go_sem] theorem GState.mks_len2 (x : GState) (k : Int) : ((x.mks k).Nodes).length = x.Nodes.length := K7
def GWant.mkd (x : GWant) (k : Int) : GWant := ⟨k, ⟨(k + 1), (k + 2), (k + 3)⟩⟩
def GWant.ct (x : GWant) : Nat := 4
def GEntry.mkd (x : GEntry) (k : Int) : GEntry := ⟨k, ⟨(k + 1), (k + 2), (k + 3)⟩, (k + 4)⟩
def GEntry.ct (x : GEntry) : Nat := 5
def GCapture.mkd (x : GCapture) (k : Int) : GCapture := ⟨⟨k, (k + 1), (k + 2)⟩, (k + 3), ⟨(k + 4), (mkL iMk iCt x.Resource.Body (k + 5)), ⟨((k + 5) + (ctL iCt x.Resource.Body : Nat)), (((k + 5) + (ctL iCt x.Resource.Body : Nat)) + 1), (((k + 5) + (ctL iCt x.Resource.Body : Nat)) + 2)⟩⟩⟩
def GCapture.ct (x : GCapture) : Nat := 8 + ctL iCt x.Resource.Body
theorem GCapture.ct_le (x : GCapture) : x.ct ≤ 16 * (1 + x.size) := by
 simp only [GCapture.ct, GCapture.size, GResource.size]
 have h0 := ctL_le' (c := iCt) (fun y => by simp only [iCt]; omega) x.Resource.Body
 omega
def GCapture.mks (x : GCapture) (k : Int) : GCapture := { x with Resource := x.Resource.mks (k) }
def GCapture.cts (x : GCapture) : Nat := x.Resource.cts
theorem GCapture.cts_le (x : GCapture) : x.cts ≤ 16 * x.size := by
 simp only [GCapture.cts, GCapture.size]
 have hResource := GResource.cts_le x.Resource
 omega
@[go_sem] theorem GCapture.mks_len0 (x : GCapture) (k : Int) : ((x.mks k).Resource.Body).length = x.Resource.Body.length := K7
def GChoice.mkd (x : GChoice) (k : Int) : GChoice := ⟨k, (k + 1)⟩
def GChoice.ct (x : GChoice) : Nat := 2
def GWander.mks (x : GWander) (k : Int) : GWander := { x with State := x.State.mks (k), Choices := mkL GChoice.mkd GChoice.ct x.Choices (k + (x.State.cts : Nat)), Labels := mkL iMk iCt x.Labels (k + (x.State.cts : Nat) + (ctL GChoice.ct x.Choices : Nat)) }
def GWander.cts (x : GWander) : Nat := x.State.cts + ctL GChoice.ct x.Choices + ctL iCt x.Labels
theorem GWander.cts_le (x : GWander) : x.cts ≤ 16 * x.size := by
 simp only [GWander.cts, GWander.size]
 have hState := GState.cts_le x.State
 have hChoices := ctL_le' (c := GChoice.ct) (fun y => by simp only [GChoice.ct]; omega) x.Choices
 have hLabels := ctL_le' (c := iCt) (fun y => by simp only [iCt]; omega) x.Labels
 omega
@[go_sem] theorem GWander.mks_len0 (x : GWander) (k : Int) : ((x.mks k).State.Regs).length = x.State.Regs.length := K7
@[go_sem] theorem GWander.mks_len1 (x : GWander) (k : Int) : ((x.mks k).State.Slots).length = x.State.Slots.length := K7
@[go_sem] theorem GWander.mks_len2 (x : GWander) (k : Int) : ((x.mks k).State.Nodes).length = x.State.Nodes.length := K7
@[go_sem] theorem GWander.mks_len3 (x : GWander) (k : Int) : ((x.mks k).Choices).length = x.Choices.length := K7
@[go_sem] theorem GWander.mks_len4 (x : GWander) (k : Int) : ((x.mks k).Labels).length = x.Labels.length := K7
def GModel.mkd (x : GModel) (k : Int) : GModel := ⟨k, (k + 1), (k + 2), (bMk x.Fits (k + 3))⟩
def GModel.ct (x : GModel) : Nat := 4
def GShown.mkd (x : GShown) (k : Int) : GShown := ⟨k, ⟨(k + 1), (k + 2), (k + 3)⟩⟩
def GShown.ct (x : GShown) : Nat := 4
def GLeaf.mkd (x : GLeaf) (k : Int) : GLeaf := ⟨k, (k + 1), (bMk x.Hidden (k + 2)), (k + 3)⟩
def GLeaf.ct (x : GLeaf) : Nat := 4
def GEdition.mks (x : GEdition) (k : Int) : GEdition := { x with Captures := mkL GCapture.mkd GCapture.ct x.Captures (k), Hidden := mkL GAddress.mkd GAddress.ct x.Hidden (k + (ctL GCapture.ct x.Captures : Nat)) }
def GEdition.cts (x : GEdition) : Nat := ctL GCapture.ct x.Captures + ctL GAddress.ct x.Hidden
theorem GEdition.cts_le (x : GEdition) : x.cts ≤ 16 * x.size := by
 simp only [GEdition.cts, GEdition.size]
 have hCaptures := K2m (c := GCapture.ct) (s := GCapture.size) GCapture.ct_le x.Captures
 have hHidden := ctL_le' (c := GAddress.ct) (fun y => by simp only [GAddress.ct]; omega) x.Hidden
 omega
@[go_sem] theorem GEdition.mks_len0 (x : GEdition) (k : Int) : ((x.mks k).Captures).length = x.Captures.length := K7
@[go_sem] theorem GEdition.mks_len1 (x : GEdition) (k : Int) : ((x.mks k).Hidden).length = x.Hidden.length := K7
def GExclusion.mkd (x : GExclusion) (k : Int) : GExclusion := ⟨k, (k + 1), (k + 2), (k + 3), (k + 4)⟩
def GExclusion.ct (x : GExclusion) : Nat := 5
def GStatement.mkd (x : GStatement) (k : Int) : GStatement := ⟨k, (k + 1), (k + 2), (k + 3)⟩
def GStatement.ct (x : GStatement) : Nat := 4
def GLibrary.mkd (x : GLibrary) (k : Int) : GLibrary := ⟨k, (mkL iMk iCt x.Digests (k + 1)), (bMk x.Up ((k + 1) + (ctL iCt x.Digests : Nat))), (bMk x.Lies (((k + 1) + (ctL iCt x.Digests : Nat)) + 1))⟩
def GLibrary.ct (x : GLibrary) : Nat := 3 + ctL iCt x.Digests
theorem GLibrary.ct_le (x : GLibrary) : x.ct ≤ 16 * (1 + x.size) := by
 simp only [GLibrary.ct, GLibrary.size]
 have h0 := ctL_le' (c := iCt) (fun y => by simp only [iCt]; omega) x.Digests
 omega
def GLibrary.mks (x : GLibrary) (k : Int) : GLibrary := { x with Digests := mkL iMk iCt x.Digests (k) }
def GLibrary.cts (x : GLibrary) : Nat := ctL iCt x.Digests
theorem GLibrary.cts_le (x : GLibrary) : x.cts ≤ 16 * x.size := by
 simp only [GLibrary.cts, GLibrary.size]
 have hDigests := ctL_le' (c := iCt) (fun y => by simp only [iCt]; omega) x.Digests
 omega
@[go_sem] theorem GLibrary.mks_len0 (x : GLibrary) (k : Int) : ((x.mks k).Digests).length = x.Digests.length := K7
def GContainer.mkd (x : GContainer) (k : Int) : GContainer := ⟨(mkL GOp.mkd GOp.ct x.Script k), (mkL GEntry.mkd GEntry.ct x.Entries (k + (ctL GOp.ct x.Script : Nat))), (mkL GCapture.mkd GCapture.ct x.Captures ((k + (ctL GOp.ct x.Script : Nat)) + (ctL GEntry.ct x.Entries : Nat))), (((k + (ctL GOp.ct x.Script : Nat)) + (ctL GEntry.ct x.Entries : Nat)) + (ctL GCapture.ct x.Captures : Nat))⟩
def GContainer.ct (x : GContainer) : Nat := 1 + ctL GOp.ct x.Script + ctL GEntry.ct x.Entries + ctL GCapture.ct x.Captures
theorem GContainer.ct_le (x : GContainer) : x.ct ≤ 16 * (1 + x.size) := by
 simp only [GContainer.ct, GContainer.size]
 have h0 := ctL_le' (c := GOp.ct) (fun y => by simp only [GOp.ct]; omega) x.Script
 have h1 := ctL_le' (c := GEntry.ct) (fun y => by simp only [GEntry.ct]; omega) x.Entries
 have h2 := K2m (c := GCapture.ct) (s := GCapture.size) GCapture.ct_le x.Captures
 omega
def GContainer.mks (x : GContainer) (k : Int) : GContainer := { x with Script := mkL GOp.mkd GOp.ct x.Script (k), Entries := mkL GEntry.mkd GEntry.ct x.Entries (k + (ctL GOp.ct x.Script : Nat)), Captures := mkL GCapture.mkd GCapture.ct x.Captures (k + (ctL GOp.ct x.Script : Nat) + (ctL GEntry.ct x.Entries : Nat)) }
def GContainer.cts (x : GContainer) : Nat := ctL GOp.ct x.Script + ctL GEntry.ct x.Entries + ctL GCapture.ct x.Captures
theorem GContainer.cts_le (x : GContainer) : x.cts ≤ 16 * x.size := by
 simp only [GContainer.cts, GContainer.size]
 have hScript := ctL_le' (c := GOp.ct) (fun y => by simp only [GOp.ct]; omega) x.Script
 have hEntries := ctL_le' (c := GEntry.ct) (fun y => by simp only [GEntry.ct]; omega) x.Entries
 have hCaptures := K2m (c := GCapture.ct) (s := GCapture.size) GCapture.ct_le x.Captures
 omega
@[go_sem] theorem GContainer.mks_len0 (x : GContainer) (k : Int) : ((x.mks k).Script).length = x.Script.length := K7
@[go_sem] theorem GContainer.mks_len1 (x : GContainer) (k : Int) : ((x.mks k).Entries).length = x.Entries.length := K7
@[go_sem] theorem GContainer.mks_len2 (x : GContainer) (k : Int) : ((x.mks k).Captures).length = x.Captures.length := K7
def GFound.mkd (x : GFound) (k : Int) : GFound := ⟨⟨k, (k + 1), (k + 2)⟩, (k + 3), (k + 4), (k + 5)⟩
def GFound.ct (x : GFound) : Nat := 6
def GDisk.mks (x : GDisk) (k : Int) : GDisk := { x with Containers := mkL GContainer.mkd GContainer.ct x.Containers (k), Index := mkL GFound.mkd GFound.ct x.Index (k + (ctL GContainer.ct x.Containers : Nat)), Wanted := mkL GContainer.mkd GContainer.ct x.Wanted (k + (ctL GContainer.ct x.Containers : Nat) + (ctL GFound.ct x.Index : Nat)) }
def GDisk.cts (x : GDisk) : Nat := ctL GContainer.ct x.Containers + ctL GFound.ct x.Index + ctL GContainer.ct x.Wanted
theorem GDisk.cts_le (x : GDisk) : x.cts ≤ 16 * x.size := by
 simp only [GDisk.cts, GDisk.size]
 have hContainers := K2m (c := GContainer.ct) (s := GContainer.size) GContainer.ct_le x.Containers
 have hIndex := ctL_le' (c := GFound.ct) (fun y => by simp only [GFound.ct]; omega) x.Index
 have hWanted := K2m (c := GContainer.ct) (s := GContainer.size) GContainer.ct_le x.Wanted
 omega
@[go_sem] theorem GDisk.mks_len0 (x : GDisk) (k : Int) : ((x.mks k).Containers).length = x.Containers.length := K7
@[go_sem] theorem GDisk.mks_len1 (x : GDisk) (k : Int) : ((x.mks k).Index).length = x.Index.length := K7
@[go_sem] theorem GDisk.mks_len2 (x : GDisk) (k : Int) : ((x.mks k).Wanted).length = x.Wanted.length := K7
def GArchive.mks (x : GArchive) (k : Int) : GArchive := { x with Site := mkL GVersion.mkd GVersion.ct x.Site (k), Script := mkL GOp.mkd GOp.ct x.Script (k + (ctL GVersion.ct x.Site : Nat)), Disk := x.Disk.mks (k + (ctL GVersion.ct x.Site : Nat) + (ctL GOp.ct x.Script : Nat)), Exclusions := mkL GExclusion.mkd GExclusion.ct x.Exclusions (k + (ctL GVersion.ct x.Site : Nat) + (ctL GOp.ct x.Script : Nat) + (x.Disk.cts : Nat)), Libraries := mkL GLibrary.mkd GLibrary.ct x.Libraries (k + (ctL GVersion.ct x.Site : Nat) + (ctL GOp.ct x.Script : Nat) + (x.Disk.cts : Nat) + (ctL GExclusion.ct x.Exclusions : Nat)), Keys := mkL iMk iCt x.Keys (k + (ctL GVersion.ct x.Site : Nat) + (ctL GOp.ct x.Script : Nat) + (x.Disk.cts : Nat) + (ctL GExclusion.ct x.Exclusions : Nat) + (ctL GLibrary.ct x.Libraries : Nat)), Statements := mkL GStatement.mkd GStatement.ct x.Statements (k + (ctL GVersion.ct x.Site : Nat) + (ctL GOp.ct x.Script : Nat) + (x.Disk.cts : Nat) + (ctL GExclusion.ct x.Exclusions : Nat) + (ctL GLibrary.ct x.Libraries : Nat) + (ctL iCt x.Keys : Nat)) }
def GArchive.cts (x : GArchive) : Nat := ctL GVersion.ct x.Site + ctL GOp.ct x.Script + x.Disk.cts + ctL GExclusion.ct x.Exclusions + ctL GLibrary.ct x.Libraries + ctL iCt x.Keys + ctL GStatement.ct x.Statements
theorem GArchive.cts_le (x : GArchive) : x.cts ≤ 16 * x.size := by
 simp only [GArchive.cts, GArchive.size]
 have hSite := K2m (c := GVersion.ct) (s := GVersion.size) GVersion.ct_le x.Site
 have hScript := ctL_le' (c := GOp.ct) (fun y => by simp only [GOp.ct]; omega) x.Script
 have hDisk := GDisk.cts_le x.Disk
 have hExclusions := ctL_le' (c := GExclusion.ct) (fun y => by simp only [GExclusion.ct]; omega) x.Exclusions
 have hLibraries := K2m (c := GLibrary.ct) (s := GLibrary.size) GLibrary.ct_le x.Libraries
 have hKeys := ctL_le' (c := iCt) (fun y => by simp only [iCt]; omega) x.Keys
 have hStatements := ctL_le' (c := GStatement.ct) (fun y => by simp only [GStatement.ct]; omega) x.Statements
 omega
@[go_sem] theorem GArchive.mks_len0 (x : GArchive) (k : Int) : ((x.mks k).Site).length = x.Site.length := K7
@[go_sem] theorem GArchive.mks_len1 (x : GArchive) (k : Int) : ((x.mks k).Script).length = x.Script.length := K7
@[go_sem] theorem GArchive.mks_len2 (x : GArchive) (k : Int) : ((x.mks k).Disk.Containers).length = x.Disk.Containers.length := K7
@[go_sem] theorem GArchive.mks_len3 (x : GArchive) (k : Int) : ((x.mks k).Disk.Index).length = x.Disk.Index.length := K7
@[go_sem] theorem GArchive.mks_len4 (x : GArchive) (k : Int) : ((x.mks k).Disk.Wanted).length = x.Disk.Wanted.length := K7
@[go_sem] theorem GArchive.mks_len5 (x : GArchive) (k : Int) : ((x.mks k).Exclusions).length = x.Exclusions.length := K7
@[go_sem] theorem GArchive.mks_len6 (x : GArchive) (k : Int) : ((x.mks k).Libraries).length = x.Libraries.length := K7
@[go_sem] theorem GArchive.mks_len7 (x : GArchive) (k : Int) : ((x.mks k).Keys).length = x.Keys.length := K7
@[go_sem] theorem GArchive.mks_len8 (x : GArchive) (k : Int) : ((x.mks k).Statements).length = x.Statements.length := K7
def GChange.mkd (x : GChange) (k : Int) : GChange := ⟨k, (k + 1)⟩
def GChange.ct (x : GChange) : Nat := 2
def GPlayed.mks (x : GPlayed) (k : Int) : GPlayed := { x with State := x.State.mks (k) }
def GPlayed.cts (x : GPlayed) : Nat := x.State.cts
theorem GPlayed.cts_le (x : GPlayed) : x.cts ≤ 16 * x.size := by
 simp only [GPlayed.cts, GPlayed.size]
 have hState := GState.cts_le x.State
 omega
@[go_sem] theorem GPlayed.mks_len0 (x : GPlayed) (k : Int) : ((x.mks k).State.Regs).length = x.State.Regs.length := K7
@[go_sem] theorem GPlayed.mks_len1 (x : GPlayed) (k : Int) : ((x.mks k).State.Slots).length = x.State.Slots.length := K7
@[go_sem] theorem GPlayed.mks_len2 (x : GPlayed) (k : Int) : ((x.mks k).State.Nodes).length = x.State.Nodes.length := K7
end Go.Proofs.YtgkeplbnnjogiaaGreatR
namespace Go.Proofs.YtgkeplbnnjogiaaGreatR
open Go Go.RowKit Go.Proofs
open Nat (reduceEqDiff reduceLT reduceLeDiff reduceAdd reduceMul)
open List (reduceReplicate)
end Go.Proofs.YtgkeplbnnjogiaaGreatR
namespace Go.Proofs.YtgkeplbnnjogiaaGreatR
open Go Go.RowKit Go.Proofs
open Nat (reduceEqDiff reduceLT reduceLeDiff reduceAdd reduceMul)
open List (reduceReplicate)
theorem tt {p : Prop} [Decidable p] (h : p) : true = decide p := (decide_eq_true h).symm
theorem K4a {α : Type} {p : α → Bool} {l : List α} {k : Nat} {x : α} (hx : l[k]? = some x) (h : (l.take k).any p = false) (hn : p x = false) : (l.take (k + 1)).any p = false := by
 rw [K1h hx, List.any_append, h]
 simp [hn]
theorem any_here {α : Type} {p : α → Bool} {l : List α} {k : Nat} {x : α} (hx : l[k]? = some x) (hn : p x = true) : l.any p = true := List.any_eq_true.2 ⟨x, K20 hx, hn⟩
def idxF {α : Type} (p : α → Bool) (l : List α) : Int := if l.any p then (l.takeWhile fun x => !p x).length else -1
theorem K6b {α : Type} {p : α → Bool} {l : List α} {k : Nat} {x : α} (hx : l[k]? = some x) (h : (l.take k).any p = false) (hn : p x = true) : idxF p l = k := by
 unfold idxF
 rw [any_here hx hn, if_pos rfl]
 congr 1
 have e : l = l.take k ++ x :: l.drop (k + 1) := K1b hx
 rw [e, List.takeWhile_append_of_pos]
 ·simp [hn]
  have := Kq hx
  omega
 ·intro a ha
  have := List.any_eq_false.1 h a ha
  simpa using this
theorem K6i {α : Type} {p : α → Bool} {l : List α} (h : l.any p = false) : idxF p l = -1 := by
 unfold idxF; rw [h]; rfl
theorem idxF_ge {α : Type} {p : α → Bool} {l : List α} : decide (idxF p l ≥ 0) = l.any p := by
 unfold idxF
 cases l.any p <;> simp
def Me : MC :=
(Zs [.mv 4 (ci 0)] [0,1] (.seq (Zs [mS 6 0, nS 7 6, .mv 8 (ci 0)] [0,1,7,8] (.block 0 (.loop ([0,1,7,8], []) (Zs [bS 9 .lss 8 7] [0,1,7,8,9] (.seq (cX 9 0)
(.seq (.block 1 (Zs [mS 10 8, mS 5 10] [0,1,5,7,8] (Zs [mS 11 1, mS 12 0, mS 13 5, xS 14 1 12 13, lF 15 1 14, .call 16 [] (.s 11) [.s 15]] [0,1,5,7,8,16] (.cond (.s 16) (Zs [mS 17 5, mS 4 17] [4] .ret) .skip))))
(pr [bC 18 .add 8 1, mS 8 18] [0,1,7,8])))))))
(Zs [.mv 4 (.c (.int .i64 (-1)))] [4] .ret)))
theorem C4m (xs : List Int) (f : FuncId) (cs : List T) (p : Int → Bool) (hp : ∀ x, x ∈ xs → Ctr Tryz.prog f (aI x :: cs.map (fun t => (false, [t]))) [rB (p x)]) : Ctr Tryz.prog N1z [aL 1 (xs.map encI), (false, [.fn f cs])] [rI (idxF p xs)] := by
 refine cA Me 0 19 [(.tmp 4, [false])] Tryz.func270 rfl rfl ?_; unfold Me
 intro hb
 simp only [bdA, bdL, bdT, Kg, roomB, and_true, List.length_map] at hb
 obtain ⟨⟨hl, -⟩, -⟩ := hb
 simp only [go_sem]
 refine K4 xs (fun k => [(8, vI k)]) (fun k => []) (fun k => (xs.take k).any p = false) hl ?_
 simp only [go_sem]
 refine ⟨?_, by simp, ?_, ?_⟩
 ·simp only [go_sem]
 ·intro k x hx h h0 h1 hw
  simp only [go_sem, K3 hx, h0, h1]
  refine K0 (hp x (K20 hx)) ?_
  simp only [go_sem, hw]
  exact ⟨fun hn => (K6b hx h hn).symm, fun hn => K4a hx h hn⟩
 ·intro h
  simp only [go_sem]
  rw [List.take_length] at h
  rw [K6i h]
def encS (s : ByteArray) : List T := [tS s]
attribute [go_sem] encS
abbrev aStr (s : ByteArray) : Bool × List T := (false, [tS s])
attribute [go_sem] aStr
def M3 : MC :=
(Zs [.mv 4 (ci 0)] [0,1] (.seq (Zs [mS 6 0, nS 7 6, .mv 8 (ci 0)] [0,1,7,8] (.block 0 (.loop ([0,1,7,8], []) (Zs [bS 9 .lss 8 7] [0,1,7,8,9] (.seq (cX 9 0)
(.seq (.block 1 (Zs [mS 10 8, mS 5 10] [0,1,5,7,8] (Zs [mS 11 1, mS 12 0, mS 13 5, xS 14 4 12 13, lT 15 4 14, .call 16 [] (.s 11) [.s 15]] [0,1,5,7,8,16] (.cond (.s 16) (Zs [mS 17 5, mS 4 17] [4] .ret) .skip))))
(pr [bC 18 .add 8 1, mS 8 18] [0,1,7,8])))))))
(Zs [.mv 4 (.c (.int .i64 (-1)))] [4] .ret)))
theorem C1f (xs : List GContainer) (f : FuncId) (cs : List T) (p : GContainer → Bool) (hp : ∀ x, x ∈ xs → Ctr Tryz.prog f (aS (GContainer.enc x) :: cs.map (fun t => (false, [t]))) [rB (p x)]) : Ctr Tryz.prog N2 [aL 4 (xs.map GContainer.enc), (false, [.fn f cs])] [rI (idxF p xs)] := by
 refine cA M3 0 19 [(.tmp 4, [false])] Tryz.func148 rfl rfl ?_; unfold M3
 intro hb
 simp only [bdA, bdL, bdT, Kg, roomB, and_true, List.length_map] at hb
 obtain ⟨⟨hl, -⟩, -⟩ := hb
 simp only [go_sem]
 refine K4 xs (fun k => [(8, vI k)]) (fun k => []) (fun k => (xs.take k).any p = false) hl ?_
 simp only [go_sem]
 refine ⟨?_, by simp, ?_, ?_⟩
 ·simp only [go_sem]
 ·intro k x hx h h0 h1 hw
  simp only [go_sem, K3 hx, h0, h1]
  refine K0 (hp x (K20 hx)) ?_
  simp only [go_sem, hw]
  exact ⟨fun hn => (K6b hx h hn).symm, fun hn => K4a hx h hn⟩
 ·intro h
  simp only [go_sem]
  rw [List.take_length] at h
  rw [K6i h]
def M1 : MC :=
(Zs [.mv 4 cF] [0,1] (Zs [mS 5 0, mS 6 1, .call 7 [] (.f N2) [.s 5, .s 6], bC 8 .geq 7 0, mS 4 8] [4] .ret))
theorem Cs (xs : List GContainer) (f : FuncId) (cs : List T) (p : GContainer → Bool) (hp : ∀ x, x ∈ xs → Ctr Tryz.prog f (aS (GContainer.enc x) :: cs.map (fun t => (false, [t]))) [rB (p x)]) : Ctr Tryz.prog N0 [aL 4 (xs.map GContainer.enc), (false, [.fn f cs])] [rB (xs.any p)] := by
 refine cA M1 0 9 [(.tmp 4, [false])] Tryz.func65 rfl rfl ?_; unfold M1
 intro hb
 clear hb
 simp only [go_sem]
 refine K0 (C1f xs f cs p hp) ?_
 simp only [go_sem]
 intros
 exact idxF_ge
end Go.Proofs.YtgkeplbnnjogiaaGreatR
namespace Go.Proofs.YtgkeplbnnjogiaaGreatR
open Go Go.RowKit Go.Proofs
open Nat (reduceEqDiff reduceLT reduceLeDiff reduceAdd reduceMul)
open List (reduceReplicate)
attribute [go_sem] eqB
def M6c : MC :=
(Zs [.mv 6 cF] [0,1,2] (.seq (.reg [Za (mS 7 0), Za (mS 8 1), Za (bS 9 .geq 7 8), Za (mS 10 9), Zb 10 true (mS 11 0), Zb 10 true (mS 12 2), Zb 10 true (bS 13 .leq 11 12), Za (.pick 14 (.s 10) (.s 13) cF), Za (mS 6 14)] [6])
.ret))
theorem Ca (x a b : Int) : Ctr Tryz.prog N9 [aI x, aI a, aI b] [rB (decide (a ≤ x ∧ x ≤ b))] := by
 refine cA M6c 0 15 [(.tmp 6, [false])] Tryz.func57 rfl rfl ?_; unfold M6c
 intro hb
 clear hb
 simp only [go_sem]
 exact ⟨fun h => by simp [h], fun h => by simp; omega⟩
def M7c : MC :=
(Zs [.mv 4 cF] [0,1] (.seq (.reg [Za (mS 5 0), Za (bC 6 .geq 5 0), Za (mS 7 6), Zb 7 true (mS 8 0), Zb 7 true (mS 9 1), Zb 7 true (bS 10 .lss 8 9), Za (.pick 11 (.s 7) (.s 10) cF), Za (mS 4 11)] [4])
.ret))
theorem C5s (x n : Int) : Ctr Tryz.prog N5e [aI x, aI n] [rB (decide (0 ≤ x ∧ x < n))] := by
 refine cA M7c 0 12 [(.tmp 4, [false])] Tryz.func153 rfl rfl ?_; unfold M7c
 intro hb
 clear hb
 simp only [go_sem]
 exact ⟨fun h => by simp [h], fun h => by simp; omega⟩
def M4v : MC :=
(Zs [.mv 6 cF] [0,1,2] (.seq (.reg [Za (mS 7 1), Za (mS 8 0), Za (bS 9 .leq 7 8), Za (mS 10 9), Zb 10 true (mS 11 0), Zb 10 true (mS 12 2), Zb 10 true (bS 13 .leq 11 12), Za (.pick 14 (.s 10) (.s 13) cF), Za (mS 6 14)] [6])
.ret))
theorem Ci (x a b : Int) : Ctr Tryz.prog Nb [aI x, aI a, aI b] [rB (decide (a ≤ x ∧ x ≤ b))] := by
 refine cA M4v 0 15 [(.tmp 6, [false])] Tryz.func67 rfl rfl ?_; unfold M4v
 intro hb
 clear hb
 simp only [go_sem]
 exact ⟨fun h => by simp [h], fun h => by simp; omega⟩
end Go.Proofs.YtgkeplbnnjogiaaGreatR
namespace Go.Proofs.YtgkeplbnnjogiaaGreatR
open Go Go.RowKit Go.Proofs
open Nat (reduceEqDiff reduceLT reduceLeDiff reduceAdd reduceMul)
open List (reduceReplicate)
end Go.Proofs.YtgkeplbnnjogiaaGreatR
namespace Go.Proofs.YtgkeplbnnjogiaaGreatR
open Go Go.RowKit Go.Proofs
open Nat (reduceEqDiff reduceLT reduceLeDiff reduceAdd reduceMul)
open List (reduceReplicate)
def isExcl (x : GExclusion) : Bool := decide ((1 ≤ x.Host ∧ x.Host ≤ 9) ∧ (-1 ≤ x.Path ∧ x.Path ≤ 99) ∧ (0 ≤ x.From ∧ x.From ≤ x.Until) ∧ x.Until ≤ 2000 ∧ (0 ≤ x.Asked ∧ x.Asked ≤ 2000))
def hidesB (x : GExclusion) (c : GCapture) : Bool := isExcl x && decide (c.Address.Host = x.Host ∧ (x.Path = -1 ∨ c.Address.Path = x.Path) ∧ x.From ≤ c.Tick ∧ c.Tick ≤ x.Until)
def hiddenBy (x : GExclusion) (c : GCapture) (now : Int) : Bool := decide (x.Asked ≤ now) && hidesB x c
def hiddenIn (c : GCapture) (l : List GExclusion) (now : Int) : Bool := l.any fun x => hiddenBy x c now
def visible (cs : List GCapture) (l : List GExclusion) (now : Int) : List GCapture := cs.filter fun c => !hiddenIn c l now
end Go.Proofs.YtgkeplbnnjogiaaGreatR
namespace Go.Proofs.YtgkeplbnnjogiaaGreatR
open Go Go.RowKit Go.Proofs
open Nat (reduceEqDiff reduceLT reduceLeDiff reduceAdd reduceMul)
open List (reduceReplicate)
end Go.Proofs.YtgkeplbnnjogiaaGreatR
namespace Go.Proofs.YtgkeplbnnjogiaaGreatR
open Go Go.RowKit Go.Proofs
open Nat (reduceEqDiff reduceLT reduceLeDiff reduceAdd reduceMul)
open List (reduceReplicate)
end Go.Proofs.YtgkeplbnnjogiaaGreatR
namespace Go.Proofs.YtgkeplbnnjogiaaGreatR
open Go Go.RowKit Go.Proofs
open Nat (reduceEqDiff reduceLT reduceLeDiff reduceAdd reduceMul)
open List (reduceReplicate)
end Go.Proofs.YtgkeplbnnjogiaaGreatR
namespace Go.Proofs.YtgkeplbnnjogiaaGreatR
open Go Go.RowKit Go.Proofs
open Nat (reduceEqDiff reduceLT reduceLeDiff reduceAdd reduceMul)
open List (reduceReplicate)
end Go.Proofs.YtgkeplbnnjogiaaGreatR
namespace Go.Proofs.YtgkeplbnnjogiaaGreatR
open Go Go.RowKit Go.Proofs
open Nat (reduceEqDiff reduceLT reduceLeDiff reduceAdd reduceMul)
open List (reduceReplicate)
attribute [go_sem] eqB
end Go.Proofs.YtgkeplbnnjogiaaGreatR
namespace Go.Proofs.YtgkeplbnnjogiaaGreatR
open Go Go.RowKit Go.Proofs
open Nat (reduceEqDiff reduceLT reduceLeDiff reduceAdd reduceMul)
open List (reduceReplicate)
def modP (v : Int) : Int := (IntKind.i64.wrap (v.tmod 2147483647 + 2147483647)).tmod 2147483647
def hstep (h v : Int) : Int := (IntKind.i64.wrap (IntKind.i64.wrap (IntKind.i64.wrap (h * 1000003) + modP v) + 13)).tmod 2147483647
def hashL (l : List Int) : Int := l.foldl hstep 11
theorem K5a {l : List Int} {k : Nat} {x : Int} (h : l[k]? = some x) : hashL (l.take (k + 1)) = hstep (hashL (l.take k)) x := by
 rw [K1h h, hashL, List.foldl_append]; rfl
theorem K2u : ¬ (2147483647 : Int) = 0 := by decide
def Y13 (v0 : Nat) : MC :=
(Zs [.mv 4 (ci 0)] [0,1] (.seq (Zs [mS 5 1, .call 6 [] (.f v0) [.s 5, .c (.int .i64 1), .c (.int .i64 1000000000000)], .un 7 .not (.s 6)] [0,1,7] (.cond (.s 7) (Zs [.mv 4 (ci 0)] [4] .ret) .skip))
(Zs [mS 8 0, mS 9 1, bS 10 .rem 8 9, mS 11 1, bS 12 .add 10 11, mS 13 1, bS 14 .rem 12 13, mS 4 14] [4] .ret)))
attribute [go_sem] Y13
def M72 : MC := Y13 N9
theorem C7k (v : Int) : Ctr Tryz.prog N6v [aI v, aI 2147483647] [rI (modP v)] := by
 refine cA M72 0 15 [(.tmp 4, [false])] Tryz.func390 rfl rfl ?_; unfold M72
 intro hb
 clear hb
 simp only [go_sem]
 apply K0 (Ca _ _ _)
 simp only [go_sem, K2u]
 refine And.intro ?_ ?_ <;> intro h
 ·exact absurd (by decide) h
 ·rfl
def M73 : MC := Y13 Nb
theorem C7l (v : Int) : Ctr Tryz.prog N6u [aI v, aI 2147483647] [rI (modP v)] := by
 refine cA M73 0 15 [(.tmp 4, [false])] Tryz.func387 rfl rfl ?_; unfold M73
 intro hb
 clear hb
 simp only [go_sem]
 apply K0 (Ci _ _ _)
 simp only [go_sem, K2u]
 refine And.intro ?_ ?_ <;> intro h
 ·exact absurd (by decide) h
 ·rfl
def M6d : MC :=
(Zs [.mv 2 (ci 0)] [0] (Zs [.mv 3 (ci 11)] [0,3] (.seq (Zs [.mv 4 (ci 0)] [0,3,4] (.block 0 (.loop ([0,3,4], []) (.seq (Zs [mS 5 4, mS 6 0, nS 7 6, bS 8 .lss 5 7] [0,3,4,8] (cX 8 0))
(.seq (.block 1 (pr [mS 11 3, bC 12 .mul 11 1000003, mS 13 0, mS 14 4, xS 15 1 13 14, lF 16 1 15, .call 17 [] (.f N6v) [.s 16, .c (.int .i64 2147483647)], bS 18 .add 12 17, bC 19 .add 18 13, bC 20 .rem 19 2147483647, mS 3 20] [0,3,4]))
(pr [mS 9 4, bC 10 .add 9 1, mS 4 10] [0,3,4]))))))
(Zs [mS 21 3, mS 2 21] [2] .ret))))
theorem C7i (l : List Int) : Ctr Tryz.prog N68 [aL 1 (l.map encI)] [rI (hashL l)] := by
 refine cA M6d 0 22 [(.tmp 2, [false])] Tryz.func311 rfl rfl ?_; unfold M6d
 intro hb
 simp only [bdA, bdL, bdT, Kg, roomB, and_true, List.length_map] at hb
 have hl := hb.1
 clear hb
 simp only [go_sem]
 refine K4 l (fun k => [(3, vI (hashL (l.take k))), (4, vI k)]) (fun k => []) (fun _ => True) hl ?_
 simp only [go_sem]
 refine ⟨?_, trivial, ?_, ?_⟩
 ·simp only [go_sem, List.take_zero]
  rfl
 ·intro k x hx _ h0 h1 hw
  simp only [go_sem, K3 hx, h0, h1, K5a hx]
  apply K0 (C7k _)
  simp only [go_sem, hw, K2u]
  try intro _
  rfl
 ·intro _
  simp only [go_sem, List.take_length]
def M6e : MC :=
(Zs [.mv 2 (ci 0)] [0] (Zs [.mv 3 (ci 11)] [0,3] (.seq (Zs [mS 6 0, nS 7 6, .mv 8 (ci 0)] [3,6,7,8] (.block 0 (.loop ([3,6,7,8], []) (Zs [bS 9 .lss 8 7] [3,6,7,8,9] (.seq (cX 9 0)
(.seq (.block 1 (Zs [xS 10 1 6 8, lF 11 1 10, mS 5 11] [3,5,6,7,8] (pr [mS 12 3, bC 13 .mul 12 1000003, mS 14 5, .call 15 [] (.f N6u) [.s 14, .c (.int .i64 2147483647)], bS 16 .add 13 15, bC 17 .add 16 13, bC 18 .rem 17 2147483647, mS 3 18] [3,6,7,8])))
(pr [bC 19 .add 8 1, mS 8 19] [3,6,7,8])))))))
(Zs [mS 20 3, mS 2 20] [2] .ret))))
theorem C7j (l : List Int) : Ctr Tryz.prog N69 [aL 1 (l.map encI)] [rI (hashL l)] := by
 refine cA M6e 0 21 [(.tmp 2, [false])] Tryz.func314 rfl rfl ?_; unfold M6e
 intro hb
 simp only [bdA, bdL, bdT, Kg, roomB, and_true, List.length_map] at hb
 have hl := hb.1
 clear hb
 simp only [go_sem]
 refine K4 l (fun k => [(3, vI (hashL (l.take k))), (8, vI k)]) (fun k => []) (fun _ => True) hl ?_
 simp only [go_sem]
 refine ⟨?_, trivial, ?_, ?_⟩
 ·simp only [go_sem, List.take_zero]
  rfl
 ·intro k x hx _ h0 h1 hw
  simp only [go_sem, K3 hx, h0, h1, K5a hx]
  apply K0 (C7l _)
  simp only [go_sem, hw, K2u]
  try intro _
  rfl
 ·intro _
  simp only [go_sem, List.take_length]
end Go.Proofs.YtgkeplbnnjogiaaGreatR
namespace Go.Proofs.YtgkeplbnnjogiaaGreatR
open Go Go.RowKit Go.Proofs
open Nat (reduceEqDiff reduceLT reduceLeDiff reduceAdd reduceMul)
open List (reduceReplicate)
end Go.Proofs.YtgkeplbnnjogiaaGreatR
namespace Go.Proofs.YtgkeplbnnjogiaaGreatR
open Go Go.RowKit Go.Proofs
open Nat (reduceEqDiff reduceLT reduceLeDiff reduceAdd reduceMul)
open List (reduceReplicate)
end Go.Proofs.YtgkeplbnnjogiaaGreatR
namespace Go.Proofs.YtgkeplbnnjogiaaGreatR
namespace Srt
structure Swo {α : Type} (lt : α → α → Bool) : Prop where
 asy : ∀ x y, lt x y = true → lt y x = false
 neg : ∀ x y z, lt x z = true → lt x y = true ∨ lt y z = true
variable {α : Type} {lt : α → α → Bool}
theorem Swo.tr (h : Swo lt) {x y z : α} (h1 : lt x y = true) (h2 : lt y z = true) : lt x z = true := by
 rcases h.neg x z y h1 with k | k
 ·exact k
 ·rw [h.asy y z h2] at k; cases k
theorem Swo.ntr (h : Swo lt) {x y z : α} (h1 : lt x y = false) (h2 : lt y z = false) : lt x z = false := by
 cases k : lt x z
 ·rfl
 ·rcases h.neg x y z k with k | k <;> simp_all
theorem Swo.fl (h : Swo lt) {x y z : α} (h1 : lt y x = false) (h2 : lt y z = true) : lt x z = true := by
 rcases h.neg y x z h2 with k | k <;> simp_all
variable (lt)
def ins (x : α) : List α → List α
 | [] => [x]
 | z :: zs => if lt x z then x :: z :: zs else z :: ins x zs
def mrg (A B : List α) : List α := B.foldl (fun acc x => ins lt x acc) A
def isort (l : List α) : List α := mrg lt [] l
def srt (l : List α) : Prop := l.Pairwise fun x y => lt y x = false
variable {lt}
theorem mem_ins {x y : α} : ∀ {l : List α}, y ∈ ins lt x l ↔ y = x ∨ y ∈ l
 | [] => by simp [ins]
 | z :: zs => by
  simp only [ins]
  split
  ·simp
  ·rw [List.mem_cons, mem_ins, List.mem_cons]
   constructor <;> rintro (h | h | h) <;> simp [h]
theorem len_ins {x : α} : ∀ {l : List α}, (ins lt x l).length = l.length + 1
 | [] => rfl
 | z :: zs => by
  simp only [ins]
  split
  ·rfl
  ·simp [len_ins]
theorem mrg_cons {A B : List α} {x : α} : mrg lt A (x :: B) = mrg lt (ins lt x A) B := rfl
theorem mrg_append {A B C : List α} : mrg lt A (B ++ C) = mrg lt (mrg lt A B) C := List.foldl_append
theorem len_mrg : ∀ {B A : List α}, (mrg lt A B).length = A.length + B.length
 | [], A => rfl
 | x :: B, A => by
  rw [mrg_cons, len_mrg, len_ins, List.length_cons]; omega
theorem len_isort {l : List α} : (isort lt l).length = l.length := by
 unfold isort; rw [len_mrg]; simp
theorem K4y {x : α} {l : List α} : srt lt (x :: l) ↔ (∀ y ∈ l, lt y x = false) ∧ srt lt l := List.pairwise_cons
theorem srt_ins (h : Swo lt) {x : α} : ∀ {l : List α}, srt lt l → srt lt (ins lt x l)
 | [], _ => by simp [ins, srt]
 | z :: zs, hs => by
  obtain ⟨h1, h2⟩ := K4y.1 hs
  simp only [ins]
  split
  ·rename_i k
   refine K4y.2 ⟨fun y hy => ?_, hs⟩
   rcases List.mem_cons.1 hy with rfl | hy
   ·exact h.asy _ _ k
   ·exact h.ntr (h1 y hy) (h.asy _ _ k)
  ·rename_i k
   refine K4y.2 ⟨fun y hy => ?_, srt_ins h h2⟩
   rcases mem_ins.1 hy with rfl | hy
   ·simpa using k
   ·exact h1 y hy
theorem srt_mrg (h : Swo lt) : ∀ {B A : List α}, srt lt A → srt lt (mrg lt A B)
 | [], A, hA => hA
 | x :: B, A, hA => srt_mrg h (B := B) (srt_ins h hA)
theorem srt_isort (h : Swo lt) (l : List α) : srt lt (isort lt l) := srt_mrg h List.Pairwise.nil
theorem isort_snoc {l : List α} {x : α} : isort lt (l ++ [x]) = ins lt x (isort lt l) := by
 unfold isort; rw [mrg_append]; rfl
theorem K6n {b : α} {A2 : List α} : ∀ {A1 : List α}, (∀ a ∈ A1, lt b a = false) → ins lt b (A1 ++ A2) = A1 ++ ins lt b A2
 | [], _ => rfl
 | z :: zs, h => by
  simp only [List.cons_append, ins, h z (by simp), K6n (A1 := zs) (fun a ha => h a (by simp [ha]))]
  rfl
theorem ins_mid {x : α} {s t : List α} (h1 : ∀ a ∈ s, lt x a = false) (h2 : ∀ a ∈ t.head?, lt x a = true) : ins lt x (s ++ t) = s ++ x :: t := by
 rw [K6n h1]
 cases t with
 | nil => rfl
 | cons z zs => simp [ins, h2 z (by simp)]
def blk (lt : α → α → Bool) (s : Nat) (l : List α) : List α :=
 if h : s = 0 ∨ l.length ≤ s then isort lt l else isort lt (l.take s) ++ blk lt s (l.drop s)
termination_by l.length
decreasing_by
 simp only [List.length_drop]
 omega
end Srt
end Go.Proofs.YtgkeplbnnjogiaaGreatR
namespace Go.Proofs.YtgkeplbnnjogiaaGreatR
open Go Go.RowKit Go.Proofs
open Nat (reduceEqDiff reduceLT reduceLeDiff reduceAdd reduceMul)
open List (reduceReplicate)
abbrev fI (f : FuncId) : RV := ⟨false, [(false, .fn f [])]⟩
attribute [go_sem] fI
end Go.Proofs.YtgkeplbnnjogiaaGreatR
namespace Go.Proofs.YtgkeplbnnjogiaaGreatR
open Go Go.RowKit Go.Proofs
open Nat (reduceEqDiff reduceLT reduceLeDiff reduceAdd reduceMul)
open List (reduceReplicate)
namespace Srt
variable {α : Type} {lt : α → α → Bool}
end Srt
end Go.Proofs.YtgkeplbnnjogiaaGreatR
namespace Go.Proofs.YtgkeplbnnjogiaaGreatR
open Go Go.RowKit Go.Proofs
open Nat (reduceEqDiff reduceLT reduceLeDiff reduceAdd reduceMul)
open List (reduceReplicate)
namespace Srt
variable {α : Type} {lt : α → α → Bool}
end Srt
end Go.Proofs.YtgkeplbnnjogiaaGreatR
namespace Go.Proofs.YtgkeplbnnjogiaaGreatR
open Go Go.RowKit Go.Proofs
open Nat (reduceEqDiff reduceLT reduceLeDiff reduceAdd reduceMul)
open List (reduceReplicate)
end Go.Proofs.YtgkeplbnnjogiaaGreatR
namespace Go.Proofs.YtgkeplbnnjogiaaGreatR
open Go Go.RowKit Go.Proofs
open Nat (reduceEqDiff reduceLT reduceLeDiff reduceAdd reduceMul)
open List (reduceReplicate)
attribute [go_sem] eqB
def fndLt (a b : GFound) : Bool := decide (a.Address.Host < b.Address.Host ∨ a.Address.Host = b.Address.Host ∧ (a.Address.Path < b.Address.Path ∨ a.Address.Path = b.Address.Path ∧ (a.Address.Query < b.Address.Query ∨ a.Address.Query = b.Address.Query ∧ a.Tick < b.Tick)))
def fnd1 (i : Nat) : Nat → List GCapture → List GFound
 | _, [] => []
 | k, c :: cs => ⟨c.Address, c.Tick, i, k⟩ :: fnd1 i (k + 1) cs
def fnds : Nat → List GContainer → List GFound
 | _, [] => []
 | i, x :: xs => fnd1 i 0 x.Captures ++ fnds (i + 1) xs
def index (l : List GContainer) : List GFound := Srt.isort fndLt (fnds 0 l)
theorem cutA {α : Type} {f : α → List T} {l : List α} {m : Nat} (h : m ≤ l.length) : (if ((m : Int) - 0).toNat = l.length then l.map f else List.take ((m : Int) - 0).toNat (l.map f)) = (l.take m).map f := by
 rw [show ((m : Int) - 0).toNat = m by omega]
 split
 ·rename_i e; rw [List.take_of_length_le (by omega)]
 ·rw [List.map_take]
theorem cutB {α : Type} {f : α → List T} {l : List α} {m : Nat} (h : m ≤ l.length) : (if m = 0 ∧ ((l.length : Int) - (m : Int)).toNat = l.length then l.map f else List.take ((l.length : Int) - (m : Int)).toNat (List.drop m (l.map f))) = (l.drop m).map f := by
 rw [show ((l.length : Int) - (m : Int)).toNat = l.length - m by omega]
 split
 ·rename_i e; rw [e.1]; rfl
 ·rw [List.take_of_length_le (by simp), List.map_drop]
namespace Srt
variable {α : Type} {lt : α → α → Bool}
theorem ins_at {l : List α} (hw : Swo lt) (hs : srt lt l) {x : α} {n : Nat} (h1 : ∀ z ∈ l.drop n, lt x z = true) (h2 : n = 0 ∨ ∃ y, l[n - 1]? = some y ∧ lt x y = false) : ins lt x l = l.take n ++ [x] ++ l.drop n := by
 have e : ins lt x (l.take n ++ l.drop n) = l.take n ++ x :: l.drop n := by
  refine ins_mid ?_ (fun a ha => h1 a (List.mem_of_mem_head? ha))
  intro a ha
  rcases h2 with rfl | ⟨y, hy, h⟩
  ·simp at ha
  ·obtain ⟨i, hi⟩ := List.mem_iff_getElem?.1 ha
   rw [List.getElem?_take] at hi
   split at hi
   ·rename_i hlt
    by_cases hin : i = n - 1
    ·subst hin
     obtain rfl := Option.some.inj (hi.symm.trans hy)
     exact h
    ·obtain ⟨h1, rfl⟩ := List.getElem?_eq_some_iff.1 hi
     obtain ⟨h2, rfl⟩ := List.getElem?_eq_some_iff.1 hy
     exact hw.ntr h ((List.pairwise_iff_getElem.1 hs) i (n - 1) h1 h2 (by omega))
   ·cases hi
 rw [List.take_append_drop] at e
 rw [e]; simp
theorem drop_step {l : List α} {x : α} {n : Nat} {y : α} (hn : 0 < n) (hy : l[n - 1]? = some y) (h : ∀ z ∈ l.drop n, lt x z = true) (hx : lt x y = true) : ∀ z ∈ l.drop (n - 1), lt x z = true := by
 obtain ⟨h1, rfl⟩ := List.getElem?_eq_some_iff.1 hy
 rw [List.drop_eq_getElem_cons h1, show n - 1 + 1 = n by omega]
 intro z hz
 rcases List.mem_cons.1 hz with rfl | hz
 ·exact hx
 ·exact h z hz
end Srt
end Go.Proofs.YtgkeplbnnjogiaaGreatR
namespace Go.Proofs.YtgkeplbnnjogiaaGreatR
open Go Go.RowKit Go.Proofs
open Nat (reduceEqDiff reduceLT reduceLeDiff reduceAdd reduceMul)
open List (reduceReplicate)
end Go.Proofs.YtgkeplbnnjogiaaGreatR
namespace Go.Proofs.YtgkeplbnnjogiaaGreatR
open Go Go.RowKit Go.Proofs
open Nat (reduceEqDiff reduceLT reduceLeDiff reduceAdd reduceMul)
open List (reduceReplicate)
def whole (d : GDisk) : Bool := decide (d.Index = index d.Containers)
end Go.Proofs.YtgkeplbnnjogiaaGreatR
namespace Go.Proofs.YtgkeplbnnjogiaaGreatR
open Go Go.RowKit Go.Proofs
open Nat (reduceEqDiff reduceLT reduceLeDiff reduceAdd reduceMul)
open List (reduceReplicate)
end Go.Proofs.YtgkeplbnnjogiaaGreatR
namespace Go.Proofs.YtgkeplbnnjogiaaGreatR
open Go Go.RowKit Go.Proofs
open Nat (reduceEqDiff reduceLT reduceLeDiff reduceAdd reduceMul)
open List (reduceReplicate)
end Go.Proofs.YtgkeplbnnjogiaaGreatR
namespace Go.Proofs.YtgkeplbnnjogiaaGreatR
open Go Go.RowKit Go.Proofs
open Nat (reduceEqDiff reduceLT reduceLeDiff reduceAdd reduceMul)
open List (reduceReplicate)
def capsOf (l : List GContainer) : List GCapture := l.flatMap fun x => x.Captures
def told (d : GDisk) : List GContainer := if whole d then d.Containers else d.Containers.dropLast
def allCaps (a : GArchive) : List GCapture := capsOf (told a.Disk)
def seen (a : GArchive) : List GCapture := visible (allCaps a) a.Exclusions a.Now
def served (a : GArchive) : List GCapture := (seen a).drop ((seen a).length - 20)
end Go.Proofs.YtgkeplbnnjogiaaGreatR
namespace Go.Proofs.YtgkeplbnnjogiaaGreatR
open Go Go.RowKit Go.Proofs
open Nat (reduceEqDiff reduceLT reduceLeDiff reduceAdd reduceMul)
open List (reduceReplicate)
theorem hneg : ((0 : Int) - 1 ≥ 0) = False := by simp
end Go.Proofs.YtgkeplbnnjogiaaGreatR
namespace Go.Proofs
open Go.Shelf
def Tryz.lays189_ren : Go.Shelf.Ren := ⟨fun | 189 => 152 | 125 => 170 | 257 => 273 | 128 => 288 | 129 => 289 | 294 => 363 | 295 => 364 | 296 => 365 | 297 => 366 | 298 => 367 | 299 => 368 | 216 => 369 | 300 => 370 | 301 => 371 | 328 => 414 | 329 => 378 | 330 => 379 | 331 => 415 | 332 => 416 | 215 => 384 | 343 => 430 | n => n, fun | 28 => 30 | 3 => 3 | 46 => 200 | 0 => 0 | 51 => 289 | 53 => 291 | 4 => 4 | 183 => 282 | 182 => 281 | 131 => 286 | 5 => 5 | 9 => 9 | 218 => 345 | 222 => 314 | 228 => 377 | 229 => 104 | n => n, fun | n => n⟩
theorem Tryz.lays189 : Go.Proofs.Lays.n189 Tryz.prog Tryz.lays189_ren := {
 mixed := by kernel_rfl
 f125 := Tryz.func170.trans (congrArg some (by kernel_rfl))
 f128 := Tryz.func288.trans (congrArg some (by kernel_rfl))
 f129 := Tryz.func289.trans (congrArg some (by kernel_rfl))
 f189 := Tryz.func152.trans (congrArg some (by kernel_rfl))
 f215 := Tryz.func384.trans (congrArg some (by kernel_rfl))
 f216 := Tryz.func369.trans (congrArg some (by kernel_rfl))
 f257 := Tryz.func273.trans (congrArg some (by kernel_rfl))
 f294 := Tryz.func363.trans (congrArg some (by kernel_rfl))
 f295 := Tryz.func364.trans (congrArg some (by kernel_rfl))
 f296 := Tryz.func365.trans (congrArg some (by kernel_rfl))
 f297 := Tryz.func366.trans (congrArg some (by kernel_rfl))
 f298 := Tryz.func367.trans (congrArg some (by kernel_rfl))
 f299 := Tryz.func368.trans (congrArg some (by kernel_rfl))
 f300 := Tryz.func370.trans (congrArg some (by kernel_rfl))
 f301 := Tryz.func371.trans (congrArg some (by kernel_rfl))
 f328 := Tryz.func414.trans (congrArg some (by kernel_rfl))
 f329 := Tryz.func378.trans (congrArg some (by kernel_rfl))
 f330 := Tryz.func379.trans (congrArg some (by kernel_rfl))
 f331 := Tryz.func415.trans (congrArg some (by kernel_rfl))
 f332 := Tryz.func416.trans (congrArg some (by kernel_rfl))
 f343 := Tryz.func430.trans (congrArg some (by kernel_rfl))
 t0 := Tryz.underlying0
 a0 := Tryz.isAgg0
 z0 := Tryz.sizeOf0
 v0 := Tryz.zeroValue0
 t3 := Tryz.underlying3
 a3 := Tryz.isAgg3
 z3 := Tryz.sizeOf3
 v3 := Tryz.zeroValue3
 t4 := Tryz.underlying4
 a4 := Tryz.isAgg4
 z4 := Tryz.sizeOf4
 v4 := Tryz.zeroValue4
 t5 := Tryz.underlying5
 a5 := Tryz.isAgg5
 z5 := Tryz.sizeOf5
 v5 := Tryz.zeroValue5
 t9 := Tryz.underlying9
 a9 := Tryz.isAgg9
 z9 := Tryz.sizeOf9
 v9 := Tryz.zeroValue9
 t28 := Tryz.underlying30
 a28 := Tryz.isAgg30
 z28 := Tryz.sizeOf30
 v28 := Tryz.zeroValue30
 t46 := Tryz.underlying200
 a46 := Tryz.isAgg200
 z46 := Tryz.sizeOf200
 v46 := Tryz.zeroValue200
 t51 := Tryz.underlying289
 a51 := Tryz.isAgg289
 z51 := Tryz.sizeOf289
 v51 := Tryz.zeroValue289
 t53 := Tryz.underlying291
 a53 := Tryz.isAgg291
 z53 := Tryz.sizeOf291
 v53 := Tryz.zeroValue291
 t131 := Tryz.underlying286
 a131 := Tryz.isAgg286
 z131 := Tryz.sizeOf286
 v131 := Tryz.zeroValue286
 t182 := Tryz.underlying281
 a182 := Tryz.isAgg281
 z182 := Tryz.sizeOf281
 v182 := Tryz.zeroValue281
 t183 := Tryz.underlying282
 a183 := Tryz.isAgg282
 z183 := Tryz.sizeOf282
 v183 := Tryz.zeroValue282
 t218 := Tryz.underlying345
 a218 := Tryz.isAgg345
 z218 := Tryz.sizeOf345
 v218 := Tryz.zeroValue345
 t222 := Tryz.underlying314
 a222 := Tryz.isAgg314
 z222 := Tryz.sizeOf314
 v222 := Tryz.zeroValue314
 t228 := Tryz.underlying377
 a228 := Tryz.isAgg377
 z228 := Tryz.sizeOf377
 v228 := Tryz.zeroValue377
 t229 := Tryz.underlying104
 a229 := Tryz.isAgg104
 z229 := Tryz.sizeOf104
 v229 := Tryz.zeroValue104 }
open Go.Sort Go.RowKit in
theorem Tryz.slices_Sort_int (blk off cap : Nat) (zs : List Int) (w : World) (hH : Holds (Value.int .i64) w blk off zs.toArray) (hblk : blk < w.heap.size) (hsz : zs.length < 4611686018427387904) :
  Calls Tryz.prog 152 #[.slice (some ⟨blk, off, none⟩) zs.length cap] w fun e w' =>
   e = .returned (.tuple #[]) ∧ ∃ n os, w' = grow (putRow (Value.int .i64) (Sort.ahead w n) blk off (zs.mergeSort fun x y => decide (x ≤ y)).toArray) os := Any.slices_Sort_int Tryz.lays189 blk off cap zs w hH hblk hsz
open Go.RowKit Go.Lib Go.Sort in
open Go.RowKit Go.Lib Go.Sort in
open Go.RowKit Go.Sort in
theorem Tryz.slices_Sort_int_none (p : Option Addr) (cap : Nat) (w : World) :
  Calls Tryz.prog 152 #[.slice p 0 cap] w fun e w' => e = .returned (.tuple #[]) ∧ w' = w := Any.slices_Sort_int_none Tryz.lays189 p cap w
end Go.Proofs
namespace Go.Proofs.YtgkeplbnnjogiaaGreatR
open Go Go.RowKit Go.Proofs
open Nat (reduceEqDiff reduceLT reduceLeDiff reduceAdd reduceMul)
open List (reduceReplicate)
theorem K4k {w : World} {b : Nat} : ∀ {zs : List Int} {off : Nat} {G : List Nat}, OwRow w 1 b off (zs.map encI) G → G = [] ∧ ∀ (j : Nat) (x : Int), zs[j]? = some x → w.cell? ⟨b, off + j, none⟩ = some (.int .i64 x) ∧ oneW (.int .i64 x) = true
 | [], off, G, h => ⟨h, fun j x hx => by simp at hx⟩
 | z :: zs, off, G, h => by
  obtain ⟨_, G1, G2, h1, h2, rfl⟩ := h
  obtain ⟨v, Ga, Gb, hc, ⟨rfl, hw, rfl⟩, rfl, rfl⟩ := h1
  obtain ⟨rfl, ih⟩ := K4k h2
  refine ⟨rfl, fun j x hx => ?_⟩
  cases j with
  | zero =>
   simp only [List.getElem?_cons_zero, Option.some.injEq] at hx
   subst hx
   exact ⟨hc, hw⟩
  | succ j =>
   have := ih j x (by simpa using hx)
   rw [Nat.add_assoc, Nat.add_comm 1 j] at this
   exact this
theorem owRow_int' {w : World} {b : Nat} : ∀ {zs : List Int} {off : Nat}, (∀ (j : Nat) (x : Int), zs[j]? = some x → w.cell? ⟨b, off + j, none⟩ = some (.int .i64 x) ∧ oneW (.int .i64 x) = true) → OwRow w 1 b off (zs.map encI) []
 | [], off, h => rfl
 | z :: zs, off, h => by
  have h0 := h 0 z rfl
  refine ⟨rfl, [], [], ⟨_, [], [], h0.1, ⟨rfl, h0.2, rfl⟩, rfl, rfl⟩, owRow_int' fun j x hx => ?_, rfl⟩
  have := h (j + 1) x (by simpa using hx)
  rw [Nat.add_assoc, Nat.add_comm 1 j]
  exact this
def sortI (zs : List Int) : List Int := zs.mergeSort fun x y => decide (x ≤ y)
theorem K1p (zs : List Int) : (sortI zs).length = zs.length := (List.mergeSort_perm _ _).length_eq
theorem sortI_mem {zs : List Int} {x : Int} (h : x ∈ sortI zs) : x ∈ zs := (List.mergeSort_perm _ _).mem_iff.1 h
theorem K4m {w : World} {b off : Nat} {zs : List Int} {row : Array Value} {ty : TypeId} (hh : w.heap[b]? = some (.cells row ty (0, 0))) (h : ∀ (j : Nat) (x : Int), zs[j]? = some x → w.cell? ⟨b, off + j, none⟩ = some (.int .i64 x) ∧ oneW (.int .i64 x) = true) : Go.Sort.Holds (Value.int .i64) w b off zs.toArray := by
 intro j hj
 obtain ⟨x, hx⟩ := Ko (l := zs) (k := j) (by simpa using hj)
 have e : zs.toArray[j]! = x := by
  rw [getElem!_pos _ j hj]
  simpa using (List.getElem?_eq_some_iff.1 hx).2
 rw [e]
 exact ⟨(h j x hx).1, by simp [World.frozen?, hh]⟩
theorem bel_put {w : World} {b off : Nat} {zs : List Int} {G : List Nat} (n : Nat) (os : Array Obj) (hb : b ∈ G) (hlt : b < w.heap.size) : Bel (fun k => k < w.heap.size ∧ k ∉ G) w (Go.Sort.grow (Go.Sort.putRow (Value.int .i64) (Go.Sort.ahead w n) b off zs.toArray) os) := by
 have hsz : (Go.Sort.putRow (Value.int .i64) (Go.Sort.ahead w n) b off zs.toArray).heap.size = w.heap.size := by simp [Go.Sort.putRow, Go.Sort.mapBlock, Go.Sort.ahead]
 refine ⟨rfl, rfl, rfl, ?_, fun k hk => ?_⟩
 ·show _ ≤ ((Go.Sort.putRow (Value.int .i64) (Go.Sort.ahead w n) b off zs.toArray).heap ++ os).size
  rw [Array.size_append, hsz]; omega
 ·show ((Go.Sort.putRow (Value.int .i64) (Go.Sort.ahead w n) b off zs.toArray).heap ++ os)[k]? = _
  rw [Array.getElem?_append_left (by rw [hsz]; exact hk.1)]
  have hne : k ≠ b := fun hh => hk.2 (hh ▸ hb)
  simp [Go.Sort.putRow, Go.Sort.mapBlock, Go.Sort.ahead, Array.getElem?_modify, hne.symm]
theorem ow_put {w : World} {b off cap m n : Nat} {zs ds : List Int} {row : Array Value} {ty : TypeId} {os : Array Obj} (hb : b < w.heap.size) (hh : w.heap[b]? = some (.cells row ty (0, 0))) (hc : off + cap * 1 ≤ row.size) (hln : Ln zs.length cap)
  (hz : ∀ (j : Nat) (x : Int), zs[j]? = some x → w.cell? ⟨b, off + j, none⟩ = some (.int .i64 x) ∧ oneW (.int .i64 x) = true) (hd : ds.length = zs.length) (hin : ∀ x ∈ ds, oneW (.int .i64 x) = true) (hm : m ≤ ds.length) :
  Ow (Go.Sort.grow (Go.Sort.putRow (Value.int .i64) (Go.Sort.ahead w n) b off ds.toArray) os) (.sl 1 ((ds.take m).map encI)) (.slice (some ⟨b, off, none⟩) m cap) [b] := by
 have hml : ((ds.take m).map encI).length = m := by rw [List.length_map, List.length_take]; omega
 have hH := K4m hh hz
 have hsz : (Go.Sort.putRow (Value.int .i64) (Go.Sort.ahead w n) b off ds.toArray).heap.size = w.heap.size := by simp [Go.Sort.putRow, Go.Sort.mapBlock, Go.Sort.ahead]
 have hheap : (Go.Sort.grow (Go.Sort.putRow (Value.int .i64) (Go.Sort.ahead w n) b off ds.toArray) os).heap[b]? = some (.cells (Go.Sort.putCells (Value.int .i64) off ds.toArray row) ty (0, 0)) := by
  show ((Go.Sort.putRow (Value.int .i64) (Go.Sort.ahead w n) b off ds.toArray).heap ++ os)[b]? = _
  rw [Array.getElem?_append_left (by rw [hsz]; exact hb)]
  simp [Go.Sort.putRow, Go.Sort.mapBlock, Go.Sort.ahead, Array.getElem?_modify, hh, Go.Sort.onCells]
 refine ⟨some ⟨b, off, none⟩, cap, by rw [hml], by rw [hml]; exact hln.mono (by omega), .inr ⟨b, off, Go.Sort.putCells (Value.int .i64) off ds.toArray row, ty, [], rfl, hheap, by simpa [Go.Sort.putCells] using hc, ?_, rfl⟩⟩
 refine owRow_int' fun j x hx => ?_
 rw [List.getElem?_take] at hx
 split at hx
 ·rename_i hjm
  have hj : j < ds.toArray.size := by simpa using (List.getElem?_eq_some_iff.1 hx).1
  have e : ds.toArray[j]! = x := by
   rw [getElem!_pos _ j hj]
   simpa using (List.getElem?_eq_some_iff.1 hx).2
  have h1 := Go.Sort.cell?_putRow (Value.int .i64) (Go.Sort.ahead w n) b off zs.toArray ds.toArray (Go.Sort.holds_ahead _ _ _ _ _ _ hH) (by simpa using hd) j hj
  rw [e] at h1
  refine ⟨?_, hin x (K20 hx)⟩
  rw [← h1]
  exact Go.Sort.cell?_grow _ _ _ (by rw [hsz]; exact hb)
 ·cases hx
theorem argsI_one {w : World} {X : Nat → Prop} {es : List (List T)} {sz : Nat} {vs : List Value} {G : List Nat} (h : ResVs w X [oL sz es] vs G) : ∃ v, vs = [v] ∧ Ow w (.sl sz es) v G := by
 match vs, h with
 | [v], ⟨G1, G2, h1, h2, e⟩ =>
  obtain ⟨_, Ga, Gb, h3, h4, e2⟩ := h1
  simp only [ResVs] at h2
  simp only [ResC] at h4
  subst h2 h4 e2 e
  exact ⟨v, rfl, by simpa using h3⟩
 | [], h => exact h.elim
theorem C64 (zs : List Int) : CtrI Tryz.prog Nr [oL 1 (zs.map encI)] [some (1, (sortI zs).map encI)] [] := by
 refine ⟨⟨Tryz.f152, Tryz.func152, by kernel_rfl, by kernel_rfl⟩, fun w X vs G ht h hG hGb => ?_⟩
 obtain ⟨v, rfl, hr⟩ := argsI_one h
 obtain ⟨A, cap, rfl, hln, hr⟩ := hr
 rw [List.length_map] at hln ⊢
 rcases hr with ⟨rfl, hz, rfl⟩ | ⟨b, off, row, ty, G1, rfl, hh, hc, hrow, rfl⟩
 ·obtain rfl : zs = [] := by simpa using hz
  refine (Tryz.slices_Sort_int_none A 0 w).mono ?_
  rintro e w' ⟨rfl, rfl⟩
  exact ⟨Bel.refl _ _, [], [], [], rfl, ⟨[], [], by simp [sortI]; exact ⟨A, 0, rfl, hln, .inl ⟨rfl, rfl, rfl⟩⟩, rfl, rfl⟩, rfl, by simp, by simp⟩
 ·obtain ⟨rfl, hz⟩ := K4k hrow
  have hb : b < w.heap.size := (hGb b (by simp)).1
  have hin : ∀ x ∈ sortI zs, oneW (.int .i64 x) = true := fun x hx => by
   obtain ⟨j, hj⟩ := List.getElem?_of_mem (sortI_mem hx)
   exact (hz j x hj).2
  refine (Tryz.slices_Sort_int b off cap zs w (K4m hh hz) hb (by have := hln.2; simp only [roomB] at this; omega)).mono ?_
  rintro e w' ⟨rfl, n, os, rfl⟩
  have hB := bel_put (zs := sortI zs) (b := b) (off := off) (G := [b]) n os (by simp) hb
  have hO := ow_put (m := zs.length) (n := n) (os := os) (ds := sortI zs) hb hh hc hln hz (K1p zs) hin (by rw [K1p]; exact Nat.le_refl _)
  rw [List.take_of_length_le (by rw [K1p]; exact Nat.le_refl _)] at hO
  refine ⟨hB, [], [b], [], rfl, ⟨[b], [], hO, rfl, rfl⟩, rfl, by simp, fun b' hb' => ⟨.inl (by simpa using hb'), ?_⟩⟩
  rw [show b' = b by simpa using hb']
  exact Nat.lt_of_lt_of_le hb hB.size
end Go.Proofs.YtgkeplbnnjogiaaGreatR
namespace Go.Proofs.YtgkeplbnnjogiaaGreatR
open Go Go.RowKit Go.Proofs
open Nat (reduceEqDiff reduceLT reduceLeDiff reduceAdd reduceMul)
open List (reduceReplicate)
def put : List Int → Int → List Int
 | [], n => [n]
 | x :: l, n => if x < n then x :: put l n else if x = n then x :: l else n :: x :: l
theorem sortI_up (zs : List Int) : (sortI zs).Pairwise (· ≤ ·) := by
 have := List.pairwise_mergeSort (le := fun x y : Int => decide (x ≤ y)) (fun a b c h1 h2 => by simp only [decide_eq_true_eq] at *; omega) (fun a b => by simp only [Bool.or_eq_true, decide_eq_true_eq]; omega) zs
 exact this.imp (by simp)
def puts (zs : List Int) : List Int := zs.foldl put []
end Go.Proofs.YtgkeplbnnjogiaaGreatR
namespace Go.Proofs.YtgkeplbnnjogiaaGreatR
open Go Go.RowKit Go.Proofs
open Nat (reduceEqDiff reduceLT reduceLeDiff reduceAdd reduceMul)
open List (reduceReplicate)
end Go.Proofs.YtgkeplbnnjogiaaGreatR
namespace Go.Proofs.YtgkeplbnnjogiaaGreatR
open Go Go.RowKit Go.Proofs
open Nat (reduceEqDiff reduceLT reduceLeDiff reduceAdd reduceMul)
open List (reduceReplicate)
def zAt (l : List Int) (i : Int) : Int := (l[i.toNat]?).getD 0
end Go.Proofs.YtgkeplbnnjogiaaGreatR
namespace Go.Proofs.YtgkeplbnnjogiaaGreatR
open Go Go.RowKit Go.Proofs
open Nat (reduceEqDiff reduceLT reduceLeDiff reduceAdd reduceMul)
open List (reduceReplicate)
theorem c2 : ¬ (2 : Int) = 0 := by decide
end Go.Proofs.YtgkeplbnnjogiaaGreatR
namespace Go.Proofs.YtgkeplbnnjogiaaGreatR
open Go Go.RowKit Go.Proofs
open Nat (reduceEqDiff reduceLT reduceLeDiff reduceAdd reduceMul)
open List (reduceReplicate)
def rP (p : GPlayed) : RV := ⟨true, [(false, tI p.Code), (false, tI p.At), (false, tI p.State.Pc), (false, .sl 1 (p.State.Regs.map encI)), (false, .sl 1 (p.State.Slots.map encI)), (false, .sl 1 (p.State.Nodes.map encI))]⟩
def rT (tr : List GState) : RV := ⟨false, [(false, .sl 4 (tr.map GState.enc))]⟩
attribute [go_sem] rP rT
end Go.Proofs.YtgkeplbnnjogiaaGreatR
namespace Go.Proofs.YtgkeplbnnjogiaaGreatR
open Go Go.RowKit Go.Proofs
open Nat (reduceEqDiff reduceLT reduceLeDiff reduceAdd reduceMul)
open List (reduceReplicate)
end Go.Proofs.YtgkeplbnnjogiaaGreatR
namespace Go.Proofs.YtgkeplbnnjogiaaGreatR
open Go Go.RowKit Go.Proofs
open Nat (reduceEqDiff reduceLT reduceLeDiff reduceAdd reduceMul)
open List (reduceReplicate)
def keyOk (k : Int) : Bool := decide (1 ≤ k ∧ k ≤ 2147483646)
def M2v : MC :=
(Zs [.mv 2 cF] [0] (Zs [mS 3 0, .call 4 [] (.f Nb) [.s 3, .c (.int .i64 1), .c (.int .i64 2147483646)], mS 2 4] [2] .ret))
theorem C2w (k : Int) : Ctr Tryz.prog Nl [aI k] [rB (keyOk k)] := by
 refine cA M2v 0 5 [(.tmp 2, [false])] Tryz.func261 rfl rfl ?_; unfold M2v
 intro hb
 clear hb
 simp only [go_sem]
 apply K0 (Ci _ _ _)
 simp only [go_sem]
 rfl
def M2x : MC :=
(Zs [.mv 2 cF] [0] (Zs [mS 3 0, .call 4 [] (.f N9) [.s 3, .c (.int .i64 1), .c (.int .i64 2147483646)], mS 2 4] [2] .ret))
theorem C2y (k : Int) : Ctr Tryz.prog Nk [aI k] [rB (keyOk k)] := by
 refine cA M2x 0 5 [(.tmp 2, [false])] Tryz.func252 rfl rfl ?_; unfold M2x
 intro hb
 clear hb
 simp only [go_sem]
 apply K0 (Ca _ _ _)
 simp only [go_sem]
 rfl
def M3w : MC :=
(Zs [.mv 4 (ci 0)] [0,1] (Zs [mS 6 0, .lit 7 0 1 8 [.s 6], mS 8 1, .app 9 0 1 8 (.s 7) (.s 8), mS 5 9] [0,5] (Zs [mS 10 5, mS 11 0, .lit 12 1 1 8 [.s 11], .app 13 0 1 8 (.s 10) (.s 12), .call 14 [] (.f N69) [.s 13], mS 4 14] [4] .ret)))
theorem C6q (k : Int) (l : List Int) (hl : l.length ≤ 1073741824) : Ctr Tryz.prog N3e [aI k, aL 1 (l.map encI)] [rI (hashL (k :: (l ++ [k])))] := by
 refine cA M3w 2 15 [(.tmp 4, [false])] Tryz.func262 rfl rfl ?_; unfold M3w
 intro hb
 clear hb
 have ha : 1 + l.length = l.length + 1 := Nat.add_comm _ _
 have e : ([T.sc (Value.int IntKind.i64 k)] :: List.map encI l ++ [[T.sc (Value.int IntKind.i64 k)]]) = (k :: (l ++ [k])).map encI := by simp [encI]
 simp only [go_sem, ↓K2y (f := encI) (fun _ => rfl) l, ha, List.length_append, List.length_cons, List.length_map, List.length_nil, Nat.zero_add, e]
 refine ⟨by simp only [roomB]; omega, by simp only [roomB]; omega, by simp only [roomB]; omega, by simp only [roomB]; omega, ?_⟩
 rw [show [T.sc (Value.int IntKind.i64 k)] :: List.map encI (l ++ [k]) = (k :: (l ++ [k])).map encI from rfl]
 apply K0 (C7j (k :: (l ++ [k])))
 simp only [go_sem]
def M3x : MC :=
(Zs [.mv 4 (ci 0)] [0,1] (Zs [mS 5 0, .lit 6 0 1 8 [.s 5], mS 7 1, .app 8 0 1 8 (.s 6) (.s 7), mS 9 0, .lit 10 1 1 8 [.s 9], .app 11 0 1 8 (.s 8) (.s 10), .call 12 [] (.f N68) [.s 11], mS 4 12] [4] .ret))
theorem C6r (k : Int) (l : List Int) (hl : l.length ≤ 1073741824) : Ctr Tryz.prog N3d [aI k, aL 1 (l.map encI)] [rI (hashL (k :: (l ++ [k])))] := by
 refine cA M3x 2 13 [(.tmp 4, [false])] Tryz.func253 rfl rfl ?_; unfold M3x
 intro hb
 clear hb
 have ha : 1 + l.length = l.length + 1 := Nat.add_comm _ _
 have e : ([T.sc (Value.int IntKind.i64 k)] :: List.map encI l ++ [[T.sc (Value.int IntKind.i64 k)]]) = (k :: (l ++ [k])).map encI := by simp [encI]
 simp only [go_sem, ↓K2y (f := encI) (fun _ => rfl) l, ha, List.length_append, List.length_cons, List.length_map, List.length_nil, Nat.zero_add, e]
 refine ⟨by simp only [roomB]; omega, by simp only [roomB]; omega, by simp only [roomB]; omega, by simp only [roomB]; omega, ?_⟩
 rw [show [T.sc (Value.int IntKind.i64 k)] :: List.map encI (l ++ [k]) = (k :: (l ++ [k])).map encI from rfl]
 apply K0 (C7i (k :: (l ++ [k])))
 simp only [go_sem]
def K13 (k : Int) (s : GStatement) : GStatement := { s with Seal := if keyOk k then hashL [k, s.Witness, s.Digest, s.Tick, k] else 0 }
def Y14 (v0 : Nat) (v1 : Nat) : MC :=
(Zs [.box 3 0 (.s 1), .alloc 4 1 [pz, pz, pz, pz]] [0,3,4] (Zs [fS 5 3 3, .store 1 (.s 5) (ci 0)] [0,3,4] (.seq (Zs [mS 6 0, .call 7 [] (.f v0) [.s 6]] [0,3,4,7] (.cond (.s 7) (pr [mS 8 0, fS 9 3 0, lF 10 1 9, fS 11 3 1, lF 12 1 11, fS 13 3 2, lF 14 1 13, .lit 15 2 1 8 [.s 10, .s 12, .s 14], .call 16 [] (.f v1) [.s 8, .s 15], fS 17 3 3, sS 1 17 16] [3,4]) .skip))
(Zs [lT 18 4 3, sS 4 4 18] [4] .ret))))
attribute [go_sem] Y14
def Mv : MC := Y14 Nl N3e
theorem C4w (k : Int) (s : GStatement) : Ctr Tryz.prog Nu [aI k, aS s.enc] [rS (K13 k s).enc] := by
 refine cA Mv 3 19 [(.cell 4 true 4, [false, false, false, false])] Tryz.func135 rfl rfl ?_; unfold Mv
 intro hb
 clear hb
 simp only [go_sem]
 apply K0 (C2w k)
 simp only [go_sem]
 refine And.intro ?_ ?_ <;> intro h
 ·refine ⟨⟨by decide, by decide⟩, ?_⟩
  apply K0 (C6q k [s.Witness, s.Digest, s.Tick] (by simp))
  simp only [go_sem]
  intros
  have e : K13 k s = { s with Seal := hashL [k, s.Witness, s.Digest, s.Tick, k] } := by simp only [K13, if_pos h]
  rw [e]
  simp
 ·have e : K13 k s = { s with Seal := 0 } := by rw [K13, h, if_neg Bool.false_ne_true]
  rw [e]
  simp
def Mw : MC := Y14 Nk N3d
theorem C4x (k : Int) (s : GStatement) : Ctr Tryz.prog Nt [aI k, aS s.enc] [rS (K13 k s).enc] := by
 refine cA Mw 3 19 [(.cell 4 true 4, [false, false, false, false])] Tryz.func131 rfl rfl ?_; unfold Mw
 intro hb
 clear hb
 simp only [go_sem]
 apply K0 (C2y k)
 simp only [go_sem]
 refine And.intro ?_ ?_ <;> intro h
 ·refine ⟨⟨by decide, by decide⟩, ?_⟩
  apply K0 (C6r k [s.Witness, s.Digest, s.Tick] (by simp))
  simp only [go_sem]
  intros
  have e : K13 k s = { s with Seal := hashL [k, s.Witness, s.Digest, s.Tick, k] } := by simp only [K13, if_pos h]
  rw [e]
  simp
 ·have e : K13 k s = { s with Seal := 0 } := by rw [K13, h, if_neg Bool.false_ne_true]
  rw [e]
  simp
end Go.Proofs.YtgkeplbnnjogiaaGreatR
namespace Go.Proofs.YtgkeplbnnjogiaaGreatR
open Go Go.RowKit Go.Proofs
open Nat (reduceEqDiff reduceLT reduceLeDiff reduceAdd reduceMul)
open List (reduceReplicate)
def ticks (l : List GCapture) (a : GAddress) : List Int := (l.filter fun c => decide (c.Address = a)).map (·.Tick)
def lo (a : GArchive) (x : GAddress) : List Int := puts (ticks (served a) x)
end Go.Proofs.YtgkeplbnnjogiaaGreatR
namespace Go.Proofs.YtgkeplbnnjogiaaGreatR
open Go Go.RowKit Go.Proofs
open Nat (reduceEqDiff reduceLT reduceLeDiff reduceAdd reduceMul)
open List (reduceReplicate)
def keyAt (keys : List Int) (i : Int) : Int := (keys[i.toNat]?).getD 0
def honest (keys : List Int) (s : GStatement) : Bool := decide (keys.length ≤ 7) && (decide (0 ≤ s.Witness ∧ s.Witness < keys.length) && (keyOk (keyAt keys s.Witness) && (decide (0 ≤ s.Tick ∧ s.Tick ≤ 2000) && decide ((K13 (keyAt keys s.Witness) s).Seal = s.Seal))))
def M1w : MC :=
(Zs [.box 3 0 (.s 1), .mv 4 cF] [0,3] (.seq (.dreg [Za (mS 5 0), Ze [0] (nS 6 5), Ze [0,1] (bC 7 .leq 6 7), Ze [0,1,2] (mS 8 7), { o := fS 9 3 0, g := some (8, true), hs := [11,12], bf := (.range 4) }, { o := lF 10 1 9, g := some (8, true), hs := [11,12], bf := (.range 5) }, { o := mS 11 0, g := some (8, true), hs := [9,10], bf := (.range 4) }, { o := nS 12 11, g := some (8, true), hs := [9,10], bf := [0,1,2,3,6] }, { o := .call 13 [] (.f N5e) [.s 10, .s 12], g := some (8, true), bf := (.range 8) }, Ze (.range 9) (.pick 14 (.s 8) (.s 13) cF), Ze (.range 10) (mS 15 14), { o := mS 16 0, g := some (15, true), hs := [17,18], bf := (.range 11) }, { o := fS 17 3 0, g := some (15, true), hs := [16], bf := (.range 11) }, { o := lF 18 1 17, g := some (15, true), hs := [16], bf := [0,1,2,3,4,5,6,7,8,9,10,12] }, { o := xS 19 1 16 18, g := some (15, true), bf := (.range 14) }, { o := lF 20 1 19, g := some (15, true), bf := (.range 15) }, { o := .call 21 [] (.f Nl) [.s 20], g := some (15, true), bf := (.range 16) }, Ze (.range 17) (.pick 22 (.s 15) (.s 21) cF), Ze (.range 18) (mS 23 22), { o := fS 24 3 2, g := some (23, true), bf := (.range 19) }, { o := lF 25 1 24, g := some (23, true), bf := (.range 20) }, { o := .call 26 [] (.f Nb) [.s 25, .c (.int .i64 0), .c (.int .i64 2000)], g := some (23, true), bf := (.range 21) }, Ze (.range 22) (.pick 27 (.s 23) (.s 26) cF), Ze (.range 23) (mS 28 27), { o := mS 29 0, g := some (28, true), hs := [30,31,34,36], bf := (.range 24) }, { o := fS 30 3 0, g := some (28, true), hs := [29,34,36], bf := (.range 24) }, { o := lF 31 1 30, g := some (28, true), hs := [29,34,36], bf := [0,1,2,3,4,5,6,7,8,9,10,11,12,13,14,15,16,17,18,19,20,21,22,23,25] }, { o := xS 32 1 29 31, g := some (28, true), hs := [34,36], bf := (.range 27) }, { o := lF 33 1 32, g := some (28, true), hs := [34,36], bf := (.range 28) }, { o := lT 34 4 3, g := some (28, true), hs := [29,30,31,32,33,36], bf := (.range 24) }, { o := .call 35 [] (.f Nu) [.s 33, .s 34], g := some (28, true), hs := [36], bf := (.range 30) }, { o := lT 36 4 3, g := some (28, true), hs := [29,30,31,32,33,34,35], bf := (.range 24) }, { o := .eqA 37 false [.i .i64, .i .i64, .i .i64, .i .i64] (.s 35) (.s 36), g := some (28, true), bf := (.range 32) }, Ze (.range 33) (.pick 38 (.s 28) (.s 37) cF), Ze (.range 34) (mS 4 38)] [4])
.ret))
theorem C5t (keys : List Int) (s : GStatement) (hl : keys.length ≤ 1073741824) : Ctr Tryz.prog N1n [aL 1 (keys.map encI), aS s.enc] [rB (honest keys s)] := by
 refine cA M1w 1 39 [(.tmp 4, [false])] Tryz.func272 rfl rfl ?_; unfold M1w
 intro hb
 clear hb
 by_cases c1 : keys.length ≤ 7
 ·by_cases c2 : 0 ≤ s.Witness ∧ s.Witness < keys.length
  ·rcases s with ⟨w, dg, tk, sl⟩
   simp only at c2
   obtain ⟨i, rfl⟩ := Int.eq_ofNat_of_zero_le c2.1
   obtain ⟨key, hk⟩ := Ko (l := keys) (k := i) (by omega)
   have e1 : keyAt keys i = key := by simp [keyAt, hk]
   have eH : honest keys ⟨i, dg, tk, sl⟩ = (keyOk key && (decide (0 ≤ tk ∧ tk ≤ 2000) && decide ((K13 key ⟨i, dg, tk, sl⟩).Seal = sl))) := by
    simp only [honest, e1, decide_eq_true c1, decide_eq_true c2, Bool.true_and]
   rw [eH]
   have c1' : (keys.length : Int) ≤ 7 := by omega
   have c1n : ¬ (keys.length : Int) > 7 := by omega
   have c2' : decide (0 ≤ (i : Int) ∧ (i : Int) < (keys.length : Int)) = true := decide_eq_true c2
   have c2n : decide (0 ≤ (i : Int) ∧ (i : Int) ≤ IntKind.i64.wrap ((keys.length : Int) - 1)) = true := decide_eq_true ⟨c2.1, by rw [wI (by omega) (by omega)]; omega⟩
   have h0 : (0 : Int) ≤ (i : Int) := c2.1
   have h1 : (i : Int) < (keys.length : Int) := c2.2
   simp only [go_sem, c1']
   apply K0 (C5s i keys.length)
   simp only [go_sem, h0, h1, K3 hk]
   repeat' first
    | (refine And.intro ?_ ?_ <;> intro h)
    | (apply K0 (C2w key); simp only [go_sem])
    | (apply K0 (Ci tk 0 2000); simp only [go_sem, h0, h1, K3 hk])
    | (apply K0 (C4w key ⟨i, dg, tk, sl⟩); simp only [go_sem])
   all_goals first
    | (simp_all; done)
    | (intro _; rw [Bool.eq_iff_iff]; simp only [K13, beq_self_eq_true, Bool.true_and, Bool.false_bne, beq_iff_eq, Bool.and_eq_true, decide_eq_true_eq]; simp_all; done)
    | (intro _; rw [Bool.eq_iff_iff]; simp_all [K13]; done)
    | (simp_all; intros; omega)
    | (rw [show decide (0 ≤ tk ∧ tk ≤ 2000) = false from by assumption, Bool.false_and, Bool.and_false]; done)
    | (rw [decide_eq_false (by assumption : ¬ (0 ≤ tk ∧ tk ≤ 2000)), Bool.false_and, Bool.and_false]; done)
  ·have e0 : honest keys s = false := by simp [honest, c2]
   rw [e0]
   have c1' : (keys.length : Int) ≤ 7 := by omega
   have c1n : ¬ (keys.length : Int) > 7 := by omega
   have c2' : decide (0 ≤ s.Witness ∧ s.Witness < (keys.length : Int)) = false := decide_eq_false c2
   have c2n : decide (0 ≤ s.Witness ∧ s.Witness ≤ IntKind.i64.wrap ((keys.length : Int) - 1)) = false := decide_eq_false fun h => c2 ⟨h.1, by have := h.2; rw [wI (by omega) (by omega)] at this; omega⟩
   simp only [go_sem, c1']
   apply K0 (C5s s.Witness keys.length)
   simp only [go_sem, c2']
 ·have c1' : ¬ (keys.length : Int) ≤ 7 := by omega
  have c1n : (keys.length : Int) > 7 := by omega
  have e0 : honest keys s = false := by simp [honest, c1]
  rw [e0]
  simp only [go_sem, c1']
def M1x : MC :=
(Zs [.box 3 0 (.s 1), .mv 4 cF] [0,3] (.seq (.seq (.reg [Za (mS 5 0), Za (nS 6 5), Za (bC 7 .gtr 6 7), Za (mS 8 7), Zb 8 false (fS 9 3 0), Zb 8 false (lF 10 1 9), Zb 8 false (mS 11 0), Zb 8 false (nS 12 11), Zb 8 false (bC 13 .sub 12 1), Zb 8 false (.call 14 [] (.f N9) [.s 10, .c (.int .i64 0), .s 13]), Zb 8 false (.un 15 .not (.s 14)), Za (.pick 16 (.s 8) cT (.s 15)), Za (mS 17 16), Zb 17 false (fS 18 3 2), Zb 17 false (lF 19 1 18), Zb 17 false (.call 20 [] (.f N9) [.s 19, .c (.int .i64 0), .c (.int .i64 2000)]), Zb 17 false (.un 21 .not (.s 20)), Za (.pick 22 (.s 17) cT (.s 21)), Za (mS 23 22), Zb 23 false (mS 24 0), Zb 23 false (fS 25 3 0), Zb 23 false (lF 26 1 25), Zb 23 false (xS 27 1 24 26), Zb 23 false (lF 28 1 27), Zb 23 false (.call 29 [] (.f Nk) [.s 28]), Zb 23 false (.un 30 .not (.s 29)), Za (.pick 31 (.s 23) cT (.s 30))] [0,3,31])
(.cond (.s 31) (Zs [.mv 4 cF] [4] .ret) .skip))
(.seq (.dreg [Zc [33,34,37,40,41] (mS 32 0), Zc [32,37,40,41] (fS 33 3 0), Zd [32,37,40,41] [1] (lF 34 1 33), Zd [37,40,41] [0,1,2] (xS 35 1 32 34), Zd [37,40,41] (.range 4) (lF 36 1 35), Zc [32,33,34,35,36,40,41] (lT 37 4 3), Zd [40,41] (.range 6) (.call 38 [] (.f Nt) [.s 36, .s 37]), Zd [40,41] (.range 7) (.fldv 39 (.s 38) 3 1 false), Zc [32,33,34,35,36,37,38,39] (fS 40 3 3), Zd [32,33,34,35,36,37,38,39] [8] (lF 41 1 40), Ze (.range 10) (bS 42 .eql 39 41), Ze (.range 11) (mS 4 42)] [4])
.ret)))
theorem C5u (keys : List Int) (s : GStatement) (hl : keys.length ≤ 1073741824) : Ctr Tryz.prog N1l [aL 1 (keys.map encI), aS s.enc] [rB (honest keys s)] := by
 refine cA M1x 1 43 [(.tmp 4, [false])] Tryz.func265 rfl rfl ?_; unfold M1x
 intro hb
 clear hb
 by_cases c1 : keys.length ≤ 7
 ·by_cases c2 : 0 ≤ s.Witness ∧ s.Witness < keys.length
  ·rcases s with ⟨w, dg, tk, sl⟩
   simp only at c2
   obtain ⟨i, rfl⟩ := Int.eq_ofNat_of_zero_le c2.1
   obtain ⟨key, hk⟩ := Ko (l := keys) (k := i) (by omega)
   have e1 : keyAt keys i = key := by simp [keyAt, hk]
   have eH : honest keys ⟨i, dg, tk, sl⟩ = (keyOk key && (decide (0 ≤ tk ∧ tk ≤ 2000) && decide ((K13 key ⟨i, dg, tk, sl⟩).Seal = sl))) := by
    simp only [honest, e1, decide_eq_true c1, decide_eq_true c2, Bool.true_and]
   rw [eH]
   have c1' : (keys.length : Int) ≤ 7 := by omega
   have c1n : ¬ (keys.length : Int) > 7 := by omega
   have c2' : decide (0 ≤ (i : Int) ∧ (i : Int) < (keys.length : Int)) = true := decide_eq_true c2
   have c2n : decide (0 ≤ (i : Int) ∧ (i : Int) ≤ IntKind.i64.wrap ((keys.length : Int) - 1)) = true := decide_eq_true ⟨c2.1, by rw [wI (by omega) (by omega)]; omega⟩
   have h0 : (0 : Int) ≤ (i : Int) := c2.1
   have h1 : (i : Int) < (keys.length : Int) := c2.2
   simp only [go_sem, c1n]
   apply K0 (Ca i 0 _)
   simp only [go_sem, h0]
   repeat' first
    | (refine And.intro ?_ ?_ <;> intro h)
    | (apply K0 (C2y key); simp only [go_sem, h0, h1, K3 hk])
    | (apply K0 (Ca tk 0 2000); simp only [go_sem, h0, h1, K3 hk])
    | (apply K0 (C4x key ⟨i, dg, tk, sl⟩); simp only [go_sem])
   all_goals first
    | (simp_all; done)
    | (intro _; rw [Bool.eq_iff_iff]; simp only [K13, beq_iff_eq, Bool.and_eq_true, decide_eq_true_eq]; simp_all; done)
    | (intro _; rw [Bool.eq_iff_iff]; simp_all [K13]; done)
    | (simp_all; intros; omega)
    | (rw [show decide (0 ≤ tk ∧ tk ≤ 2000) = false from by assumption, Bool.false_and, Bool.and_false]; done)
    | (rw [decide_eq_false (by assumption : ¬ (0 ≤ tk ∧ tk ≤ 2000)), Bool.false_and, Bool.and_false]; done)
  ·have e0 : honest keys s = false := by simp [honest, c2]
   rw [e0]
   have c1' : (keys.length : Int) ≤ 7 := by omega
   have c1n : ¬ (keys.length : Int) > 7 := by omega
   have c2' : decide (0 ≤ s.Witness ∧ s.Witness < (keys.length : Int)) = false := decide_eq_false c2
   have c2n : decide (0 ≤ s.Witness ∧ s.Witness ≤ IntKind.i64.wrap ((keys.length : Int) - 1)) = false := decide_eq_false fun h => c2 ⟨h.1, by have := h.2; rw [wI (by omega) (by omega)] at this; omega⟩
   simp only [go_sem, c1n]
   apply K0 (Ca s.Witness 0 _)
   simp only [go_sem, c2n]
 ·have c1' : ¬ (keys.length : Int) ≤ 7 := by omega
  have c1n : (keys.length : Int) > 7 := by omega
  have e0 : honest keys s = false := by simp [honest, c1]
  rw [e0]
  simp only [go_sem, c1n]
end Go.Proofs.YtgkeplbnnjogiaaGreatR
namespace Go.Proofs.YtgkeplbnnjogiaaGreatR
open Go Go.RowKit Go.Proofs
open Nat (reduceEqDiff reduceLT reduceLeDiff reduceAdd reduceMul)
open List (reduceReplicate)
def Kn (keys : List Int) (digest : Int) (out : List Int) (s : GStatement) : List Int :=
 if s.Digest = digest ∧ honest keys s = true ∧ (zAt out s.Witness < 0 ∨ s.Tick < zAt out s.Witness) then out.set s.Witness.toNat s.Tick else out
def Ki (keys : List Int) (l : List GStatement) (digest : Int) : List Int := l.foldl (Kn keys digest) (List.replicate keys.length (-1))
theorem K3p {keys : List Int} {l : List GStatement} {digest : Int} {k : Nat} {s : GStatement} (h : l[k]? = some s) : Ki keys (l.take (k + 1)) digest = Kn keys digest (Ki keys (l.take k) digest) s := by
 rw [K1h h, Ki, List.foldl_append]; rfl
theorem fsStep_len {keys : List Int} {digest : Int} {out : List Int} {s : GStatement} : (Kn keys digest out s).length = out.length := by
 unfold Kn; split <;> simp
theorem K1f {keys : List Int} {digest : Int} {l : List GStatement} : (Ki keys l digest).length = keys.length := by
 suffices H : ∀ (l : List GStatement) (out : List Int), (l.foldl (Kn keys digest) out).length = out.length by
  unfold Ki; rw [H]; simp
 intro l
 induction l with
 | nil => intro out; rfl
 | cons s l ih => intro out; rw [List.foldl_cons, ih, fsStep_len]
theorem K3z {keys : List Int} {s : GStatement} (h : honest keys s = true) : 0 ≤ s.Witness ∧ s.Witness < keys.length ∧ 0 ≤ s.Tick := by
 simp only [honest, Bool.and_eq_true, decide_eq_true_eq] at h
 omega
theorem K7h {keys : List Int} {digest : Int} {l : List GStatement} : ∀ x ∈ Ki keys l digest, x = -1 ∨ 0 ≤ x := by
 suffices H : ∀ (l : List GStatement) (out : List Int), (∀ x ∈ out, x = -1 ∨ 0 ≤ x) → ∀ x ∈ l.foldl (Kn keys digest) out, x = -1 ∨ 0 ≤ x by
  exact H l _ fun x hx => .inl (List.mem_replicate.1 hx).2
 intro l
 induction l with
 | nil => intro out h; exact h
 | cons s l ih =>
  intro out h
  rw [List.foldl_cons]
  refine ih _ fun x hx => ?_
  unfold Kn at hx
  split at hx
  ·rename_i hc
   rcases List.mem_or_eq_of_mem_set hx with hx | rfl
   ·exact h x hx
   ·exact .inr (K3z hc.2.1).2.2
  ·exact h x hx
def ltI (x y : Int) : Bool := decide (x < y)
theorem swoI : Srt.Swo ltI := ⟨fun x y h => by simp only [ltI, decide_eq_true_eq, decide_eq_false_iff_not] at *; omega, fun x y z h => by simp only [ltI, decide_eq_true_eq] at *; omega⟩
theorem K7c {x : Int} : ∀ {l : List Int}, (Srt.ins ltI x l).Perm (x :: l)
 | [] => List.Perm.refl _
 | z :: l => by
  simp only [Srt.ins]
  split
  ·exact List.Perm.refl _
  ·exact (List.Perm.cons z K7c).trans (List.Perm.swap x z l)
theorem K5q : ∀ (n : Nat) (l : List Int), l.length = n → (Srt.isort ltI l).Perm l
 | 0, l, h => by
  obtain rfl := List.length_eq_zero_iff.1 h
  exact List.Perm.refl _
 | n + 1, l, h => by
  rcases List.eq_nil_or_concat l with rfl | ⟨s, x, rfl⟩
  ·exact List.Perm.refl _
  ·rw [List.concat_eq_append] at *
   rw [Srt.isort_snoc]
   exact K7c.trans ((List.Perm.cons x (K5q n s (by simpa using h))).trans (List.perm_append_singleton x s).symm)
theorem K5f : ∀ {l m : List Int}, l.Pairwise (· ≤ ·) → m.Pairwise (· ≤ ·) → l.Perm m → l = m
 | [], m, _, _, h => h.nil_eq
 | a :: l, m, h1, h2, h => by
  cases m with
  | nil => exact h.eq_nil
  | cons b m =>
   rw [List.pairwise_cons] at h1 h2
   have hab : a = b := by
    rcases List.mem_cons.1 (h.mem_iff.1 (List.mem_cons_self ..) : a ∈ b :: m) with e | e
    ·exact e
    ·rcases List.mem_cons.1 (h.mem_iff.2 (List.mem_cons_self ..) : b ∈ a :: l) with e2 | e2
     ·exact e2.symm
     ·have := h1.1 b e2; have := h2.1 a e; omega
   subst hab
   rw [K5f h1.2 h2.2 (List.perm_cons a |>.1 h)]
theorem K7o (l : List Int) : Srt.isort ltI l = sortI l := by
 refine K5f ?_ (sortI_up l) ((K5q _ l rfl).trans (List.mergeSort_perm _ _).symm)
 exact (Srt.srt_isort swoI l).imp fun {a b} h => by simp only [ltI, decide_eq_false_iff_not] at h; omega
def seenL (keys : List Int) (l : List GStatement) (digest : Int) : List Int := (Ki keys l digest).filter fun n => !(n == -1)
def K1c (keys : List Int) (l : List GStatement) (digest liars : Int) : Int := if 0 ≤ liars ∧ liars < ((sortI (seenL keys l digest)).length : Int) then zAt (sortI (seenL keys l digest)) liars else -1
def K3x (a : GArchive) (liars : Int) : Bool := a.Disk.Containers.all fun x => decide (0 ≤ K1c a.Keys a.Statements x.Root liars ∧ K1c a.Keys a.Statements x.Root liars ≤ a.Now)
end Go.Proofs.YtgkeplbnnjogiaaGreatR
namespace Go.Proofs
open Go.Shelf
def Tryz.laysNm221_ren : Go.Shelf.Ren := ⟨fun | 21 => 192 | 27 => 305 | 28 => 306 | 35 => 388 | 39 => 426 | n => n, fun | 22 => 30 | 3 => 3 | 4 => 4 | 0 => 0 | n => n, fun | n => n⟩
theorem Tryz.laysNm221 : Go.Proofs.Lays2.n21 Tryz.prog Tryz.laysNm221_ren := {
 mixed := by kernel_rfl
 f21 := Tryz.func192.trans (congrArg some (by kernel_rfl))
 f27 := Tryz.func305.trans (congrArg some (by kernel_rfl))
 f28 := Tryz.func306.trans (congrArg some (by kernel_rfl))
 f35 := Tryz.func388.trans (congrArg some (by kernel_rfl))
 f39 := Tryz.func426.trans (congrArg some (by kernel_rfl))
 t0 := Tryz.underlying0
 a0 := Tryz.isAgg0
 z0 := Tryz.sizeOf0
 v0 := Tryz.zeroValue0
 t3 := Tryz.underlying3
 a3 := Tryz.isAgg3
 z3 := Tryz.sizeOf3
 v3 := Tryz.zeroValue3
 t4 := Tryz.underlying4
 a4 := Tryz.isAgg4
 z4 := Tryz.sizeOf4
 v4 := Tryz.zeroValue4
 t22 := Tryz.underlying30
 a22 := Tryz.isAgg30
 z22 := Tryz.sizeOf30
 v22 := Tryz.zeroValue30
 i3 := by kernel_rfl }
end Go.Proofs
namespace Go.Proofs.YtgkeplbnnjogiaaGreatR
open Go Go.RowKit Go.Proofs
open Nat (reduceEqDiff reduceLT reduceLeDiff reduceAdd reduceMul)
open List (reduceReplicate)
end Go.Proofs.YtgkeplbnnjogiaaGreatR
namespace Go.Proofs
open Go.Shelf
def Tryz.lays212_ren : Go.Shelf.Ren := ⟨fun | 212 => 362 | 263 => 412 | 264 => 413 | n => n, fun | 46 => 200 | 51 => 289 | 146 => 368 | 53 => 291 | 148 => 370 | n => n, fun | n => n⟩
theorem Tryz.lays212 : Go.Proofs.Lays.n212 Tryz.prog Tryz.lays212_ren := {
 mixed := by kernel_rfl
 f212 := Tryz.func362.trans (congrArg some (by kernel_rfl))
 f263 := Tryz.func412.trans (congrArg some (by kernel_rfl))
 f264 := Tryz.func413.trans (congrArg some (by kernel_rfl))
 t46 := Tryz.underlying200
 a46 := Tryz.isAgg200
 z46 := Tryz.sizeOf200
 v46 := Tryz.zeroValue200
 t51 := Tryz.underlying289
 a51 := Tryz.isAgg289
 z51 := Tryz.sizeOf289
 v51 := Tryz.zeroValue289
 t53 := Tryz.underlying291
 a53 := Tryz.isAgg291
 z53 := Tryz.sizeOf291
 v53 := Tryz.zeroValue291
 t146 := Tryz.underlying368
 a146 := Tryz.isAgg368
 z146 := Tryz.sizeOf368
 v146 := Tryz.zeroValue368
 t148 := Tryz.underlying370
 a148 := Tryz.isAgg370
 z148 := Tryz.sizeOf370
 v148 := Tryz.zeroValue370 }
open Go.RowKit Go.Lib in
theorem Tryz.bits_Mul (x y : Nat) (hx : x < 18446744073709551616) (hy : y < 18446744073709551616) (w : World) :
  Calls Tryz.prog 362 #[.int .u64 x, .int .u64 y] w fun e w' => e = .returned (.tuple #[.int .u64 ((x * y / 18446744073709551616 : Nat) : Int), .int .u64 ((x * y % 18446744073709551616 : Nat) : Int)]) ∧ w' = w := Any.bits_Mul Tryz.lays212 x y hx hy w
def Tryz.laysSlH10_f149_ren : Go.Shelf.Ren := ⟨fun | 10 => 149 | 6 => 270 | n => n, fun | 22 => 30 | 23 => 3 | 25 => 183 | 3 => 3 | 4 => 4 | 0 => 0 | n => n, fun | n => n⟩
theorem Tryz.laysSlH10_f149 : Go.Proofs.SlLaysH.n10 Tryz.prog Tryz.laysSlH10_f149_ren := {
 mixed := by kernel_rfl
 f6 := ⟨Tryz.f270.name, by decide, Tryz.func270.trans (congrArg some (by kernel_rfl))⟩
 f10 := ⟨Tryz.f149.name, by decide, Tryz.func149.trans (congrArg some (by kernel_rfl))⟩
 t0 := Tryz.underlying0
 a0 := Tryz.isAgg0
 z0 := Tryz.sizeOf0
 v0 := Tryz.zeroValue0
 t3 := Tryz.underlying3
 a3 := Tryz.isAgg3
 z3 := Tryz.sizeOf3
 v3 := Tryz.zeroValue3
 t4 := Tryz.underlying4
 a4 := Tryz.isAgg4
 z4 := Tryz.sizeOf4
 v4 := Tryz.zeroValue4
 t22 := Tryz.underlying30
 a22 := Tryz.isAgg30
 z22 := Tryz.sizeOf30
 v22 := Tryz.zeroValue30
 a23 := Tryz.isAgg3
 z23 := Tryz.sizeOf3
 t25 := Tryz.underlying183
 a25 := Tryz.isAgg183
 z25 := Tryz.sizeOf183
 v25 := Tryz.zeroValue183 }
open Go.RowKit Go.Lib Go.Sort in
theorem Tryz.slices_DeleteFunc {α : Type} [Inhabited α] (enc : α → Value) (hO : OneCell enc) (p : α → Bool) (g : Nat) (lb : Array Value) (eg : ∀ args w, (callFunc g args).run Tryz.prog w = .ok (.enter g args) w) (zr : α) (v23 : ∀ w, (zeroValue 3).run Tryz.prog w = .ok (enc zr) w) (blk off cap : Nat) (d : Array α) (w : World) (hp : PredAt Tryz.prog g lb enc p w) (hpo : PredOver Tryz.prog g lb enc p blk off d.size w) (hH : Holds enc w blk off d) (hsz : d.size ≤ 9223372036854775807) (hcap : d.size ≤ cap) :
  Calls Tryz.prog 149 #[.slice (some ⟨blk, off, none⟩) d.size cap, .func (.func g) #[] lb] w fun e w' => e = .returned (.slice (some ⟨blk, off, none⟩) (d.toList.filter fun x => !p x).length cap) ∧ ∃ q, w' = putRow enc (Sort.ahead w q) blk off ((d.toList.filter fun x => !p x) ++ List.replicate (d.size - (d.toList.filter fun x => !p x).length) zr).toArray := AnyE.slices_DeleteFunc Tryz.laysSlH10_f149 enc hO p g lb eg zr v23 blk off cap d w hp hpo hH hsz hcap
end Go.Proofs
namespace Go.Proofs.YtgkeplbnnjogiaaGreatR
open Go Go.RowKit Go.Proofs
open Nat (reduceEqDiff reduceLT reduceLeDiff reduceAdd reduceMul)
open List (reduceReplicate)
def rowR (v : Int) (n m : Nat) : Array Value := (List.replicate m (Value.int .i64 v) ++ List.replicate (n - m) (Value.int .i64 0)).toArray
def wR (w : World) (v : Int) (n m d : Nat) : World := (w.drewN d).alloc (.cells (rowR v n m) 3)
theorem wR_at {w : World} {v : Int} {n m d : Nat} : (wR w v n m d).heap[w.heap.size]? = some (.cells (rowR v n m) 3 (0, 0)) := by
 simp [wR, World.alloc, World.drewN]
theorem push_mod {xs : Array Obj} {o : Obj} {f : Obj → Obj} : (xs.push o).modify xs.size f = xs.push (f o) := by
 apply Array.ext_getElem?
 intro i
 rw [Array.getElem?_modify, Array.getElem?_push, Array.getElem?_push]
 by_cases h : xs.size = i
 ·subst h; simp
 ·rw [if_neg h, if_neg (fun e => h e.symm), if_neg (fun e => h e.symm)]
theorem wR_set {w : World} {v : Int} {n m m' d : Nat} : (wR w v n m d).setRow w.heap.size (rowR v n m') = wR w v n m' d := by
 simp only [wR, World.alloc, World.drewN, World.setRow]
 congr 1
 exact push_mod
theorem wR_size {w : World} {v : Int} {n m d : Nat} : (wR w v n m d).heap.size = w.heap.size + 1 := by simp [wR, World.alloc, World.drewN]
theorem made_zero (n : Nat) : madeCells #[Value.int .i64 0] n = Array.replicate n (Value.int .i64 0) := by
 unfold madeCells
 refine Array.ext (by simp) fun i h1 h2 => by simp [Nat.mod_one]
theorem wR_made {w : World} {v : Int} {n : Nat} : w.alloc (.cells (madeCells #[Value.int .i64 0] n) 3) = wR w v n 0 0 := by
 rw [made_zero]
 unfold wR rowR
 congr 2
set_option maxRecDepth 100000 in
theorem copy_first {w : World} {v : Int} {n d ca : Nat} (h0 : 0 < n) (a : Addr) (ha : w.cell? a = some (.int .i64 v)) (hab : a.block < w.heap.size) (hs : (Tryz.prog.info? 3).map (·.size) = some 1) : (Builtin.copy_ #[30, 30] 3 #[.slice (some ⟨w.heap.size, 0, none⟩) n n, .slice (some a) 1 ca]).run Tryz.prog (wR w v n 0 d) = .ok (.int .i64 1) (wR w v n 1 d) := by
 have h := run_copy_row (P := Tryz.prog) (wR w v n 0 d) 30 30 3 3 w.heap.size 0 n n a 1 ca (rowR v n 0) 3 [.int .i64 v] Tryz.underlying30 hs wR_at (by simp [Nat.min_def]; omega) (fun j x hx => by
  cases j with
  | zero =>
   simp at hx
   subst hx
   have : a.add 0 = a := by cases a; rfl
   rw [this, ← ha]
   unfold World.cell?
   rw [show (wR w v n 0 d).heap[a.block]? = w.heap[a.block]? from by simp only [wR, World.alloc, World.drewN]; rw [Array.getElem?_push, if_neg (by omega)]]
  | succ j => simp at hx) (by simp [rowR]; omega) (fun v hv => by simp at hv; subst hv; rfl)
 rw [h, ← wR_set (m := 0) (m' := 1)]
 show Result.ok (Value.int .i64 1) _ = _
 congr 3
 simp [rowR, List.drop_replicate]
set_option maxRecDepth 100000 in
theorem copy_more {w : World} {v : Int} {n m d c : Nat} (h0 : 0 < m) (hm : m < n) (hs : (Tryz.prog.info? 3).map (·.size) = some 1) : (Builtin.copy_ #[30, 30] 3 #[.slice (some ⟨w.heap.size, m, none⟩) (n - m) c, .slice (some ⟨w.heap.size, 0, none⟩) m n]).run Tryz.prog (wR w v n m d) = .ok (.int .i64 ((min m (n - m) : Nat) : Int)) (wR w v n (m + min m (n - m)) d) := by
 have h := run_copy_row (P := Tryz.prog) (wR w v n m d) 30 30 3 3 w.heap.size m (n - m) c ⟨w.heap.size, 0, none⟩ m n (rowR v n m) 3 (List.replicate (min m (n - m)) (.int .i64 v)) Tryz.underlying30 hs wR_at (by simp [Nat.min_def]) (fun j x hx => by
  rw [List.getElem?_replicate] at hx
  split at hx
  ·rename_i hj
   cases hx
   have hc := wR_at (w := w) (v := v) (n := n) (m := m) (d := d)
   have hj2 : j < m := by omega
   rw [Addr.add_lit, Nat.zero_add]
   simp only [World.cell?, hc]
   simp [rowR, List.getElem?_append, hj2]
  ·cases hx) (by simp [rowR]; omega) (fun x hx => by rw [(List.mem_replicate.1 hx).2]; rfl)
 rw [h, ← wR_set (m := m) (m' := m + min m (n - m)), List.length_replicate]
 generalize hk : min m (n - m) = k
 have hk' : m + k ≤ n := by omega
 have e : ((rowR v n m).toList.take m ++ List.replicate k (Value.int .i64 v) ++ (rowR v n m).toList.drop (m + k)).toArray = rowR v n (m + k) := by
  unfold rowR
  congr 1
  simp only [List.take_append, List.drop_append, List.length_replicate, List.take_replicate, List.drop_replicate, Nat.min_self, Nat.sub_self, List.append_assoc, Nat.add_sub_cancel_left]
  rw [show m - (m + k) = 0 by omega, show min 0 (n - m) = 0 by omega, show n - m - k = n - (m + k) by omega]
  simp only [List.replicate_zero, List.nil_append]
  rw [← List.append_assoc, List.replicate_append_replicate]
 rw [e]
 rfl
theorem K5b {P : Program} {c : Code} {Q : Exit → Act → World → Prop} {n : Nat} (W : Nat → Nat → World) (A : Nat → Value → Value → Value → Value → Value → Value → Value → Value → Value → Value → Value → Value → Value → Act)
  (h1 : ∀ m d y1 y2 y3 y4 y5 y6 y7 y8 y9 y10 y11 y12 y13 (R : Act → World → Prop), 0 < m → m < n → (∀ d z1 z2 z3 z4 z5 z6 z7 z8 z9 z10 z11 z12 z13, R (A (m + min m (n - m)) z1 z2 z3 z4 z5 z6 z7 z8 z9 z10 z11 z12 z13) (W (m + min m (n - m)) d)) → c.wp P (Exit.then R Q) (A m y1 y2 y3 y4 y5 y6 y7 y8 y9 y10 y11 y12 y13) (W m d))
  (h2 : ∀ d y1 y2 y3 y4 y5 y6 y7 y8 y9 y10 y11 y12 y13 (R : Act → World → Prop), c.wp P (Exit.then R Q) (A n y1 y2 y3 y4 y5 y6 y7 y8 y9 y10 y11 y12 y13) (W n d)) :
  ∀ k m d y1 y2 y3 y4 y5 y6 y7 y8 y9 y10 y11 y12 y13, n - m < k → 0 < m → m ≤ n → Code.rounds P c Q k (A m y1 y2 y3 y4 y5 y6 y7 y8 y9 y10 y11 y12 y13) (W m d)
 | 0, m, _, _, _, _, _, _, _, _, _, _, _, _, _, _, h, _, _ => by omega
 | k + 1, m, d, y1, y2, y3, y4, y5, y6, y7, y8, y9, y10, y11, y12, y13, h, h0, hm => by
  rw [rounds_succ]
  by_cases e : m = n
  ·subst e; exact h2 _ _ _ _ _ _ _ _ _ _ _ _ _ _ _
  ·exact h1 _ _ _ _ _ _ _ _ _ _ _ _ _ _ _ _ h0 (by omega) fun d z1 z2 z3 z4 z5 z6 z7 z8 z9 z10 z11 z12 z13 => K5b W A h1 h2 k _ d _ _ _ _ _ _ _ _ _ _ _ _ _ (by omega) (by omega) (by omega)
def actR (w : World) (a : Addr) (ca n m : Nat) (y1 y2 y3 y4 y5 y6 y7 y8 y9 y10 y11 y12 y13 : Value) : Act := { tmps := #[.slice (some a) 1 ca, .int .i64 n, undef, undef, .slice none 0 0, .int .u64 0, .int .u64 n, .slice (some ⟨w.heap.size, 0, none⟩) n n, .int .i64 m, .int .i64 n, .bool (decide ((n : Int) < 0)), undef, .tuple #[.int .u64 0, .int .u64 n], .slice (some a) 1 ca, .int .i64 1, .int .u64 1, .int .i64 n, .int .u64 n, .tuple #[.int .u64 0, .int .u64 n], .int .u64 0, .int .u64 n, .int .u64 0, .bool false, .bool false, .int .u64 n, .bool (decide (9223372036854775807 < (n : Int))), .bool (decide (9223372036854775807 < (n : Int))), undef, .int .u64 n, .int .i64 n, .slice (some ⟨w.heap.size, 0, none⟩) n n, .slice (some ⟨w.heap.size, 0, none⟩) n n, .slice (some a) 1 ca, .int .i64 1, y1, y2, y3, y4, y5, y6, y7, y8, y9, y10, y11, y12, y13, undef], defers := [] }
set_option maxRecDepth 100000 in
set_option maxHeartbeats 4000000 in
theorem rep_calls (v : Int) (n ca : Nat) (h0 : 0 < n) (hn : n ≤ 1073741824) (a : Addr) (w : World) (ha : w.cell? a = some (.int .i64 v)) (hab : a.block < w.heap.size) : Calls Tryz.prog 271 #[.slice (some a) 1 ca, .int .i64 n] w fun e w' => ∃ d, e = .returned (.slice (some ⟨w.heap.size, 0, none⟩) n n) ∧ w' = wR w v n n d := by
 have hcon : ∀ W, Calls Tryz.prog 362 #[Value.int .u64 1, .int .u64 n] W fun e w' => e = .returned (.tuple #[.int .u64 0, .int .u64 n]) ∧ w' = W := fun W => by
  refine (Tryz.bits_Mul 1 n (by omega) (by omega) W).mono ?_
  rintro e w' ⟨rfl, rfl⟩
  refine ⟨?_, rfl⟩
  rw [Nat.one_mul, Nat.div_eq_of_lt (by omega), Nat.mod_eq_of_lt (by omega)]
  rfl
 obtain ⟨i3, hi, hz2, hz1, hz3⟩ := info_parts Tryz.laysNm221.i3
 change Tryz.prog.info? 3 = some i3 at hi
 have hs : (Tryz.prog.info? 3).map (·.size) = some 1 := by rw [hi]; simp [hz1]
 have hmk : ∀ W, (Instr.makeSlice 30 (.int .i64 (n : Int)) (.int .i64 (n : Int))).run Tryz.prog W = .ok (.slice (some ⟨W.heap.size, 0, none⟩) n n) (W.alloc (.cells (madeCells (Value.int .i64 0).cells n) 3)) := fun W => by
  have := run_make (P := Tryz.prog) W 30 3 i3 (.int .i64 0) Tryz.underlying30 hi hz2 .i64 .i64 n n (by omega) (by omega) (by rw [hz3]; omega) (by omega)
  rw [hz1] at this
  simpa using this
 have mixed : Tryz.prog.follows .mixedOrders = true := by kernel_rfl
 have e1 : (n : Int) % 18446744073709551616 = n := by omega
 have e2 : 0 ≤ (n : Int) := by omega
 have e3 : ¬ 9223372036854775807 < (n : Int) := by omega
 have e4 : (n : Int) ≤ 9223372036854775807 := by omega
 go_enter Tryz.func271, Tryz.ntmps271
 go_wp2_with (go_at_call 362; refine (hcon _).mono ?_; rintro e w' ⟨rfl, rfl⟩)
 rw [wR_made (v := v), copy_first h0 a ha hab hs]
 go_wp2
 refine wp_loop_rounds n (K5b (n := n) (fun m d => wR _ v n m d) (fun m => actR _ a ca n m) ?_ ?_ n 1 0 undef undef undef undef undef undef undef undef undef undef undef undef undef (by omega) (by omega) (by omega))
 ·intro m d y1 y2 y3 y4 y5 y6 y7 y8 y9 y10 y11 y12 y13 R hm0 hmn hR
  simp only [actR] at *
  have hcp : ∀ c, (Builtin.copy_ #[30, 30] 3 #[.slice (some ⟨w'.heap.size, m, none⟩) (n - m) c, .slice (some ⟨w'.heap.size, 0, none⟩) m n]).run Tryz.prog (wR w' v n m d).drew = .ok (.int .i64 ((min m (n - m) : Nat) : Int)) (wR w' v n (m + min m (n - m)) (d + 1)) := fun c => copy_more (w := w') (v := v) (d := d + 1) (c := c) hm0 hmn hs
  have hmn' : (m : Int) ≤ (n : Int) := by omega
  have hml : (m : Int) < (n : Int) := by omega
  have hm1 : (0 : Int) ≤ (m : Int) := by omega
  have hnm : ¬ n = m := by omega
  have hwr : IntKind.i64.wrap ((m : Int) + ((min m (n - m) : Nat) : Int)) = ((m + min m (n - m) : Nat) : Int) := by rw [IntKind.wrap_i64]; omega
  go_wp2
  go_region_law_o (refine step_copy_runI rfl _ _ 30 30 rfl (.slice (some ⟨w'.heap.size, m, none⟩) (n - m) (n - m)) (.slice (some ⟨w'.heap.size, 0, none⟩) m n) (by simp [Act.eval, Act.put]) (by simp [Act.eval, Act.put]) (hcp _) ?_)
  go_wp2
  have hcast : ((m : Int) + ((min m (n - m) : Nat) : Int)) = ((m + min m (n - m) : Nat) : Int) := by omega
  rw [hcast]
  simp only [Act.put, List.getElem_toArray, List.getElem_cons_succ, List.getElem_cons_zero, List.setIfInBounds_toArray, List.set_cons_succ, List.set_cons_zero]
  exact hR _ _ _ _ _ _ _ _ _ _ _ _ _ _
 ·intro d y1 y2 y3 y4 y5 y6 y7 y8 y9 y10 y11 y12 y13 R
  simp only [actR] at *
  go_wp2
  go_ret
  exact ⟨_, rfl, rfl⟩
set_option maxRecDepth 100000 in
set_option maxHeartbeats 4000000 in
theorem rep_zero (v : Int) (ca : Nat) (a : Addr) (w : World) : Calls Tryz.prog 271 #[.slice (some a) 1 ca, .int .i64 0] w fun e w' => ∃ d, e = .returned (.slice (some ⟨w.heap.size, 0, none⟩) 0 0) ∧ w' = wR w v 0 0 d := by
 have hcon : ∀ W, Calls Tryz.prog 362 #[Value.int .u64 1, .int .u64 0] W fun e w' => e = .returned (.tuple #[.int .u64 0, .int .u64 0]) ∧ w' = W := fun W => by
  refine (Tryz.bits_Mul 1 0 (by omega) (by omega) W).mono ?_
  rintro e w' ⟨rfl, rfl⟩
  exact ⟨rfl, rfl⟩
 obtain ⟨i3, hi, hz2, hz1, hz3⟩ := info_parts Tryz.laysNm221.i3
 change Tryz.prog.info? 3 = some i3 at hi
 have hs : (Tryz.prog.info? 3).map (·.size) = some 1 := by rw [hi]; simp [hz1]
 have hmk : ∀ W, (Instr.makeSlice 30 (.int .i64 0) (.int .i64 0)).run Tryz.prog W = .ok (.slice (some ⟨W.heap.size, 0, none⟩) 0 0) (W.alloc (.cells (madeCells (Value.int .i64 0).cells 0) 3)) := fun W => by
  have := run_make (P := Tryz.prog) W 30 3 i3 (.int .i64 0) Tryz.underlying30 hi hz2 .i64 .i64 0 0 (by omega) (by omega) (by omega) (by omega)
  rw [hz1] at this
  simpa using this
 have hcp : ∀ W, (Builtin.copy_ #[30, 30] 3 #[.slice (some ⟨w.heap.size, 0, none⟩) 0 0, .slice (some a) 1 ca]).run Tryz.prog W = .ok (.int .i64 0) W := fun W => run_copy_none W _ _ _ _ _ _ _ _ _ _ Tryz.underlying30 hs rfl
 have mixed : Tryz.prog.follows .mixedOrders = true := by kernel_rfl
 go_enter Tryz.func271, Tryz.ntmps271
 go_wp2_with (go_at_call 362; refine (hcon _).mono ?_; rintro e w' ⟨rfl, rfl⟩)
 rw [wR_made (v := v)]
 refine wp_loop_rounds 1 ?_
 rw [rounds_succ]
 go_wp2
 go_ret
 exact ⟨_, rfl, rfl⟩
theorem wR_ow {w : World} {v : Int} {n d : Nat} (hv : oneW (.int .i64 v) = true) (hn : n ≤ 1073741824) : Ow (wR w v n n d) (.sl 1 ((List.replicate n v).map encI)) (.slice (some ⟨w.heap.size, 0, none⟩) n n) [w.heap.size] := by
 have hl : ((List.replicate n v).map encI).length = n := by simp
 refine ⟨some ⟨w.heap.size, 0, none⟩, n, by rw [hl], by rw [hl]; exact ⟨Nat.le_refl _, by simp only [roomB]; omega, by simp only [capB]; omega⟩, .inr ⟨w.heap.size, 0, rowR v n n, 3, [], rfl, wR_at, by simp [rowR], ?_, rfl⟩⟩
 refine owRow_int' fun j x hx => ?_
 rw [List.getElem?_replicate] at hx
 split at hx
 ·rename_i hj
  cases hx
  refine ⟨?_, hv⟩
  have hc := wR_at (w := w) (v := v) (n := n) (m := n) (d := d)
  rw [Nat.zero_add]
  simp only [World.cell?, hc]
  simp [rowR, hj]
 ·cases hx
theorem wR_below {w : World} {v : Int} {n d : Nat} : Below w.heap.size w (wR w v n n d) := by
 refine ⟨rfl, rfl, rfl, by rw [wR_size]; omega, fun i hi => ?_⟩
 simp only [wR, World.alloc, World.drewN]
 rw [Array.getElem?_push, if_neg (by omega)]
theorem args_rep {w : World} {X : Nat → Prop} {v n : Int} {vs : List Value} (h : ArgsR w X [aL 1 ([v].map encI), aI n] vs) : ∃ b off ca, vs = [.slice (some ⟨b, off, none⟩) 1 ca, .int .i64 n] ∧ w.cell? ⟨b, off, none⟩ = some (.int .i64 v) ∧ b < w.heap.size ∧ oneW (.int .i64 v) = true ∧ X b := by
 match vs, h with
 | [v1, v2], ⟨h1, h2, _⟩ =>
  obtain ⟨t1, e1, h1⟩ := h1
  obtain rfl := (List.cons.inj e1).1
  obtain ⟨t2, e2, h2⟩ := h2
  obtain rfl := (List.cons.inj e2).1
  obtain ⟨A, cap, rfl, _, hr⟩ := h1
  obtain ⟨rfl, _⟩ := h2
  rcases hr with hr | ⟨b, off, rfl, hX, hb, _, ⟨⟨x, hc, rfl, ho⟩, _⟩, _⟩
  ·simp at hr
  ·exact ⟨b, off, cap, rfl, hc, hb, ho, hX⟩
 | [], h => exact h.elim
 | [_], ⟨_, h⟩ => exact h.elim
 | _ :: _ :: _ :: _, ⟨_, _, h⟩ => exact h.elim
theorem C5d (v : Int) (n : Nat) (hn : n ≤ 1073741824) : Ctr Tryz.prog Nj [aL 1 ([v].map encI), aI n] [rL 1 ((List.replicate n v).map encI)] := by
 refine ⟨⟨Tryz.f271, Tryz.func271, by kernel_rfl, by kernel_rfl⟩, fun w X vs ht h => ?_⟩
 obtain ⟨b, off, ca, rfl, hc, hb, ho, hX⟩ := args_rep h
 have fin : ∀ e w', (∃ d, e = Ending.returned (.slice (some ⟨w.heap.size, 0, none⟩) n n) ∧ w' = wR w v n n d) → match (e, w') with
  | (.returned v', w') => Below w.heap.size w w' ∧ ∃ us G, v' = tupV us ∧ G.Nodup ∧ (∀ b ∈ G, w.heap.size ≤ b) ∧ ResVs w' (fun b => (b < w.heap.size → X b) ∧ b ∉ G) [rL 1 ((List.replicate n v).map encI)] us G
  | _ => False := by
  rintro e w' ⟨d, rfl, rfl⟩
  exact ⟨wR_below, [_], [w.heap.size], rfl, by simp, by simp, [w.heap.size], [], ⟨⟨_, rfl⟩, [w.heap.size], [], wR_ow ho hn, rfl, rfl⟩, rfl, rfl⟩
 by_cases h0 : 0 < n
 ·refine (rep_calls v n ca h0 hn ⟨b, off, none⟩ w hc hb).mono fun e w' h => ?_
  have := fin e w' h
  obtain ⟨d, rfl, rfl⟩ := h
  exact this
 ·obtain rfl : n = 0 := by omega
  refine (rep_zero v ca ⟨b, off, none⟩ w).mono fun e w' h => ?_
  have := fin e w' h
  obtain ⟨d, rfl, rfl⟩ := h
  exact this
end Go.Proofs.YtgkeplbnnjogiaaGreatR
namespace Go.Proofs.YtgkeplbnnjogiaaGreatR
open Go Go.RowKit Go.Proofs
open Nat (reduceEqDiff reduceLT reduceLeDiff reduceAdd reduceMul)
open List (reduceReplicate)
def delP (n : Int) : Bool := n == -1
theorem K6e (x : Int) (W : World) : FnGives Tryz.prog 151 #[] #[.int .i64 x] (.bool (delP x)) W := by
 show Calls Tryz.prog 151 #[.int .i64 x] W _
 unfold delP
 go_enter Tryz.func151, Tryz.ntmps151
 go_wp2
 go_ret
 exact ⟨rfl, 0, rfl⟩
theorem K4w {a b c : World} (h : Below a.heap.size a b) (k : Below b.heap.size b c) : Below a.heap.size a c :=
 ⟨k.os.trans h.os, k.tape.trans h.tape, k.output.trans h.output, Nat.le_trans h.size k.size, fun i hi => (k.block i (Nat.lt_of_lt_of_le hi h.size)).trans (h.block i hi)⟩
theorem del_none (A : Option Addr) (w : World) (ht : ∀ w', Below w.heap.size w w' → TabW w') : Calls Tryz.prog 149 #[.slice A 0 0, .func (.func N4) #[] #[]] w fun e w' => e = .returned (.slice A 0 0) ∧ Below w.heap.size w w' := by
 have hidx : ∀ W, Below w.heap.size w W → Calls Tryz.prog 270 #[.slice A 0 0, .func (.func N4) #[] #[]] W fun e w' => e = .returned (.int .i64 (-1)) ∧ Below w.heap.size w w' := fun W hW => by
  have h := (C4m [] N4 [] delP (by simp)).2 W (fun _ => True) [.slice A 0 0, .func (.func N4) #[] #[]] (fun w' h => ht w' (K4w hW h)) ⟨⟨_, rfl, A, 0, rfl, Ln.z 0, .inl rfl⟩, ⟨_, rfl, ⟨[], rfl, trivial⟩⟩, trivial⟩
  refine Calls.mono h ?_
  intro e w' h
  cases e with
  | returned v =>
   obtain ⟨hB, us, G, rfl, _, _, hr⟩ := h
   refine ⟨?_, K4w hW hB⟩
   match us, hr with
   | [v], ⟨G1, G2, ⟨_, ⟨h1, _⟩⟩, _, _⟩ =>
    obtain ⟨rfl, _⟩ := h1
    rfl
   | [], h => exact h.elim
   | _ :: _ :: _, ⟨_, _, _, h, _⟩ => exact h.elim
  | _ => exact h.elim
 have hW0 : Below w.heap.size w w := Below.refl _ _
 have hW1 : Below w.heap.size w w.drew := ⟨rfl, rfl, rfl, Nat.le_refl _, fun _ _ => rfl⟩
 go_enter Tryz.func149, Tryz.ntmps149
 go_wp2_with (go_at_call 270; refine (hidx _ (by assumption)).mono ?_; rintro e w' ⟨rfl, hB⟩)
 go_ret
 exact ⟨rfl, hB⟩
theorem argsI_fn {w : World} {X : Nat → Prop} {es : List (List T)} {sz : Nat} {f : FuncId} {vs : List Value} {G : List Nat} (h : ResVs w X [oL sz es, fI f] vs G) : ∃ v, vs = [v, .func (.func f) #[] #[]] ∧ Ow w (.sl sz es) v G := by
 match vs, h with
 | [v, v2], ⟨G1, G2, h1, h2, e⟩ =>
  obtain ⟨_, Ga, Gb, h3, h4, e2⟩ := h1
  obtain ⟨G3, G4, ⟨_, hf, h6⟩, h7, e3⟩ := h2
  simp only [ResVs] at h7
  simp only [ResC] at h4 h6
  obtain ⟨cvs, rfl, hl⟩ := hf
  cases cvs with
  | nil =>
   subst h4 h6 h7 e3 e2 e
   exact ⟨v, rfl, by simpa using h3⟩
  | cons c cs => exact hl.elim
 | [], h => exact h.elim
 | [_], ⟨_, _, _, h, _⟩ => exact h.elim
 | _ :: _ :: _ :: _, ⟨_, _, _, ⟨_, _, _, h, _⟩, _⟩ => exact h.elim
theorem filter_mem {zs : List Int} {x : Int} (h : x ∈ (zs.filter fun n => !delP n) ++ List.replicate (zs.length - (zs.filter fun n => !delP n).length) 0) : x ∈ zs ∨ x = 0 := by
 rcases List.mem_append.1 h with h | h
 ·exact .inl (List.mem_filter.1 h).1
 ·exact .inr (List.mem_replicate.1 h).2
theorem C40 (zs : List Int) : CtrI Tryz.prog Nc [oL 1 (zs.map encI), fI N4] [none] [rL 1 ((zs.filter fun n => !delP n).map encI)] := by
 refine ⟨⟨Tryz.f149, Tryz.func149, by kernel_rfl, by kernel_rfl⟩, fun w X vs G ht h hG hGb => ?_⟩
 obtain ⟨v, rfl, hr⟩ := argsI_fn h
 obtain ⟨A, cap, rfl, hln, hr⟩ := hr
 rw [List.length_map] at hln ⊢
 rcases hr with ⟨rfl, hz, rfl⟩ | ⟨b, off, row, ty, G1, rfl, hh, hc, hrow, rfl⟩
 ·obtain rfl : zs = [] := by simpa using hz
  refine (del_none A w fun w' h => ht w' ⟨h.os, h.tape, h.output, h.size, fun k hk => h.block k hk.1⟩).mono ?_
  rintro e w' ⟨rfl, hB⟩
  exact ⟨⟨hB.os, hB.tape, hB.output, hB.size, fun k hk => hB.block k hk.1⟩, [_], [], [], rfl, rfl, ⟨[], [], by simp [ResV, ResC]; exact ⟨A, 0, rfl, hln, .inl ⟨rfl, rfl, rfl⟩⟩, rfl, rfl⟩, by simp, by simp⟩
 ·obtain ⟨rfl, hz⟩ := K4k hrow
  have hb : b < w.heap.size := (hGb b (by simp)).1
  obtain ⟨K, hK⟩ : ∃ K, K = zs.filter fun n => !delP n := ⟨_, rfl⟩
  have hKl : K.length ≤ zs.length := by rw [hK]; exact List.length_filter_le _ _
  have hin : ∀ x ∈ K ++ List.replicate (zs.length - K.length) 0, oneW (.int .i64 x) = true := fun x hx => by
   rw [hK] at hx
   rcases filter_mem hx with hx | rfl
   ·obtain ⟨j, hj⟩ := List.getElem?_of_mem hx
    exact (hz j x hj).2
   ·rfl
  have eg : ∀ args w, (callFunc 151 args).run Tryz.prog w = .ok (.enter 151 args) w := enters_of Tryz.func151 (by kernel_rfl) rfl
  have hcon := Tryz.slices_DeleteFunc (Value.int .i64) (fun _ => rfl) delP 151 #[] eg 0 Tryz.zeroValue3 b off cap zs.toArray w (fun W x _ => K6e x W) (fun _ _ _ x _ => K6e x _) (K4m hh hz) (by have := hln.2.1; simp only [roomB] at this; simp only [List.size_toArray]; omega) (by simpa using hln.1)
  refine Calls.mono (show Calls Tryz.prog 149 _ _ _ from hcon) ?_
  rintro e w' ⟨rfl, q, rfl⟩
  have e1 : ((zs.toArray.toList.filter fun x => !delP x) ++ List.replicate (zs.toArray.size - (zs.toArray.toList.filter fun x => !delP x).length) 0) = K ++ List.replicate (zs.length - K.length) 0 := by rw [hK]; rfl
  have e2 : (zs.toArray.toList.filter fun x => !delP x).length = K.length := by rw [hK]
  rw [e1, e2, ← hK]
  have hB := bel_put (zs := K ++ List.replicate (zs.length - K.length) 0) (b := b) (off := off) (G := [b]) q #[] (by simp) hb
  have hO := ow_put (m := K.length) (n := q) (os := #[]) (ds := K ++ List.replicate (zs.length - K.length) 0) hb hh hc hln hz (by simp; omega) hin (by simp)
  rw [List.take_left] at hO
  rw [Go.Sort.grow_empty] at hB hO
  refine ⟨hB, [_], [], [b], rfl, rfl, ⟨[b], [], ?_, rfl, rfl⟩, by simp, fun b' hb' => ⟨.inl (by simpa using hb'), ?_⟩⟩
  ·exact ⟨⟨_, rfl⟩, [b], [], hO, rfl, rfl⟩
  ·rw [show b' = b by simpa using hb']
   exact Nat.lt_of_lt_of_le hb hB.size
end Go.Proofs.YtgkeplbnnjogiaaGreatR
namespace Go.Proofs.YtgkeplbnnjogiaaGreatR
open Go Go.RowKit Go.Proofs
open Nat (reduceEqDiff reduceLT reduceLeDiff reduceAdd reduceMul)
open List (reduceReplicate)
def M3y : MC :=
(Zs [.nilo 6 0 1] [0,1,2] (Zs [.lit 10 1 1 8 [.c (.int .i64 (-1))], mS 11 0, nS 12 11, .call 13 [0] (.f Nj) [.s 10, .s 12], mS 7 13] [0,1,2,7] (.seq (Zs [mS 14 1, nS 15 14, .mv 16 (ci 0)] [0,2,7,14,15,16] (.block 0 (.loop ([0,2,7,14,15,16], [1,2]) (Zs [bS 17 .lss 16 15] [0,2,7,14,15,16,17] (.seq (cX 17 0)
(.seq (.block 1 (Zs [xS 18 4 14 16, lT 19 4 18, .alloc 9 2 [pz, pz, pz, pz], sS 4 9 19] [0,2,7,9,14,15,16] (.seq (.dreg [Zc [22] (fS 20 9 1), Zd [22] [0] (lF 21 1 20), Zc [20,21] (mS 22 2), Ze [0,1,2] (bS 23 .eql 21 22), Ze (.range 4) (mS 24 23), { o := mS 25 0, g := some (24, true), hs := [26], bf := (.range 5) }, { o := lT 26 4 9, g := some (24, true), hs := [25], bf := (.range 5) }, { o := .call 27 [] (.f N1n) [.s 25, .s 26], g := some (24, true), bf := (.range 7) }, Ze (.range 8) (.pick 28 (.s 24) (.s 27) cF), Ze (.range 9) (mS 29 28), { o := mS 30 7, g := some (29, true), hs := [31,32], bf := (.range 10) }, { o := fS 31 9 0, g := some (29, true), hs := [30], bf := (.range 10) }, { o := lF 32 1 31, g := some (29, true), hs := [30], bf := [0,1,2,3,4,5,6,7,8,9,11] }, { o := xS 33 1 30 32, g := some (29, true), bf := (.range 13) }, { o := lF 34 1 33, g := some (29, true), bf := (.range 14) }, { o := bC 35 .lss 34 0, g := some (29, true), bf := (.range 15) }, { o := mS 36 35, g := some (29, true), bf := (.range 16) }, { o := fS 37 9 2, g := some (36, false), hs := [39,40,41,42,43], bf := (.range 17) }, { o := lF 38 1 37, g := some (36, false), hs := [39,40,41,42,43], bf := (.range 18) }, { o := mS 39 7, g := some (36, false), hs := [37,38,40,41], bf := (.range 17) }, { o := fS 40 9 0, g := some (36, false), hs := [37,38,39], bf := (.range 17) }, { o := lF 41 1 40, g := some (36, false), hs := [37,38,39], bf := [0,1,2,3,4,5,6,7,8,9,10,11,12,13,14,15,16,20] }, { o := xS 42 1 39 41, g := some (36, false), hs := [37,38], bf := [0,1,2,3,4,5,6,7,8,9,10,11,12,13,14,15,16,19,20,21] }, { o := lF 43 1 42, g := some (36, false), hs := [37,38], bf := [0,1,2,3,4,5,6,7,8,9,10,11,12,13,14,15,16,19,20,21,22] }, { o := bS 44 .lss 38 43, g := some (36, false), bf := (.range 24) }, { o := .pick 45 (.s 36) cT (.s 44), g := some (29, true), bf := (.range 25) }, Ze (.range 26) (.pick 46 (.s 29) (.s 45) cF)] [0,2,7,9,14,15,16,46])
(.cond (.s 46) (pr [mS 47 7, fS 48 9 0, lF 49 1 48, fS 50 9 2, lF 51 1 50, xS 52 1 47 49, sS 1 52 51] [0,2,7,14,15,16]) .skip))))
(pr [bC 53 .add 16 1, mS 16 53] [0,2,7,14,15,16])))))))
(Zs [mS 54 7, mS 6 54] [6] .ret))))
set_option maxHeartbeats 2000000 in
theorem C6s (keys : List Int) (l : List GStatement) (d : Int) (hk : keys.length ≤ 1073741824) (hl : l.length ≤ 1073741824) : Ctr Tryz.prog N3a [aL 1 (keys.map encI), aL 4 (l.map GStatement.enc), aI d] [rL 1 ((Ki keys l d).map encI)] := by
 refine cA M3y 3 55 [(.tmp 6, [true])] Tryz.func150 rfl rfl ?_; unfold M3y
 intro hb
 clear hb
 simp only [go_sem]
 refine ⟨by simp only [roomB]; omega, ?_⟩
 apply K0 (C5d (-1) keys.length hk)
 simp only [go_sem]
 intros
 refine K4 l (fun k => [(16, vI k)]) (fun k => [(0, ⟨0, .row true 1 ((Ki keys (l.take k) d).map encI)⟩)]) (fun _ => True) (by simp only [roomB]; omega) ?_
 simp only [go_sem, List.length_replicate]
 refine ⟨?_, trivial, ?_, ?_⟩
 ·simp only [go_sem, List.take_zero]
  rfl
 ·intro k s hx _ h0 h1 hw
  have hst := K3p (keys := keys) (digest := d) hx
  rw [hst]
  have hlen := K1f (keys := keys) (digest := d) (l := l.take k)
  generalize Ki keys (l.take k) d = out at *
  simp only [go_sem, K3 hx, h0, h1, hw]
  refine ⟨fun hd => ?_, fun hd => ?_⟩
  ·apply K0 (C5t keys s (by omega))
   simp only [go_sem, hw, hlen]
   refine ⟨fun hh => ?_, fun hh => ?_⟩
   ·have ho := K3z hh
    obtain ⟨y, hy⟩ := Ko (l := out) (k := s.Witness.toNat) (by omega)
    have hw0 : (0 : Int) ≤ s.Witness := ho.1
    have hw1 : s.Witness < (keys.length : Int) := ho.2.1
    have hz : zAt out s.Witness = y := by simp [zAt, hy]
    simp only [go_sem, hw0, hw1, K3 hy]
    have hyes : y < 0 ∨ s.Tick < y → Kn keys d out s = out.set s.Witness.toNat s.Tick := fun h => by unfold Kn; rw [if_pos ⟨hd, hh, by rw [hz]; exact h⟩]
    have hno : ¬ (y < 0 ∨ s.Tick < y) → Kn keys d out s = out := fun h => by unfold Kn; rw [if_neg (fun e => h (by have := e.2.2; rw [hz] at this; exact this))]
    refine ⟨fun a => ?_, fun a => ⟨fun b => ?_, fun b => ?_⟩⟩
    ·rw [hyes (.inl a), List.map_set]; rfl
    ·rw [hyes (.inr b), List.map_set]; rfl
    ·rw [hno (by omega)]
   ·rw [show Kn keys d out s = out by unfold Kn; rw [if_neg (by rw [hh]; simp)]]
  ·rw [show Kn keys d out s = out by unfold Kn; rw [if_neg (by simp [hd])]]
 ·intro _
  simp only [go_sem, List.take_length, K1f]
def M3z : MC :=
(Zs [.nilo 6 0 1] [0,1,2] (Zs [.lit 11 0 1 8 [], mS 7 11] [0,1,2,7] (.seq (Zs [.mv 8 (ci 0)] [0,1,2,7,8] (.block 0 (.loop ([0,1,2,7,8], [1]) (.seq (Zs [mS 12 8, mS 13 0, nS 14 13, bS 15 .lss 12 14] [0,1,2,7,8,15] (cX 15 0))
(.seq (.block 1 (pr [mS 18 7, .lit 19 1 1 8 [.c (.int .i64 (-1))], .app 20 0 1 8 (.s 18) (.s 19), mS 7 20] [0,1,2,7,8]))
(pr [mS 16 8, bC 17 .add 16 1, mS 8 17] [0,1,2,7,8]))))))
(.seq (Zs [.mv 9 (ci 0)] [0,1,2,7,9] (.block 2 (.loop ([0,1,2,7,9], [1]) (.seq (Zs [mS 21 9, mS 22 1, nS 23 22, bS 24 .lss 21 23] [0,1,2,7,9,24] (cX 24 2))
(.seq (.block 3 (.seq (.seq (.reg [Za (mS 27 0), Za (mS 28 1), Za (mS 29 9), Za (xS 30 4 28 29), Za (lT 31 4 30), Za (.call 32 [] (.f N1l) [.s 27, .s 31]), Za (.un 33 .not (.s 32)), Za (mS 34 33), Zb 34 false (mS 35 1), Zb 34 false (mS 36 9), Zb 34 false (xS 37 4 35 36), Zb 34 false (fS 38 37 1), Zb 34 false (lF 39 1 38), Zb 34 false (mS 40 2), Zb 34 false (bS 41 .neq 39 40), Za (.pick 42 (.s 34) cT (.s 41))] [0,1,2,7,9,42])
(.cond (.s 42) (.exit 3) .skip))
(Zs [mS 43 1, mS 44 9, xS 45 4 43 44, fS 46 45 0, lF 47 1 46, mS 10 47] [0,1,2,7,9,10] (.seq (.dreg [Zc [49] (mS 48 7), Zc [48] (mS 49 10), Ze [0,1] (xS 50 1 48 49), Ze [0,1,2] (lF 51 1 50), Ze (.range 4) (bC 52 .lss 51 0), Ze (.range 5) (mS 53 52), { o := mS 54 1, g := some (53, false), hs := [55,59,60,61,62], bf := (.range 6) }, { o := mS 55 9, g := some (53, false), hs := [54,59,60,61,62], bf := (.range 6) }, { o := xS 56 4 54 55, g := some (53, false), hs := [59,60,61,62], bf := (.range 8) }, { o := fS 57 56 2, g := some (53, false), hs := [59,60,61,62], bf := (.range 9) }, { o := lF 58 1 57, g := some (53, false), hs := [59,60,61,62], bf := (.range 10) }, { o := mS 59 7, g := some (53, false), hs := [54,55,56,57,58,60], bf := (.range 6) }, { o := mS 60 10, g := some (53, false), hs := [54,55,56,57,58,59], bf := (.range 6) }, { o := xS 61 1 59 60, g := some (53, false), hs := [54,55,56,57,58], bf := [0,1,2,3,4,5,11,12] }, { o := lF 62 1 61, g := some (53, false), hs := [54,55,56,57,58], bf := [0,1,2,3,4,5,11,12,13] }, { o := bS 63 .lss 58 62, g := some (53, false), bf := (.range 15) }, Ze (.range 16) (.pick 64 (.s 53) cT (.s 63))] [0,1,2,7,9,10,64])
(.cond (.s 64) (pr [mS 65 7, mS 66 10, mS 67 1, mS 68 9, xS 69 4 67 68, fS 70 69 2, lF 71 1 70, xS 72 1 65 66, sS 1 72 71] [0,1,2,7,9]) .skip)))))
(pr [mS 25 9, bC 26 .add 25 1, mS 9 26] [0,1,2,7,9]))))))
(Zs [mS 73 7, mS 6 73] [6] .ret)))))
set_option maxHeartbeats 2000000 in
theorem C6t (keys : List Int) (l : List GStatement) (d : Int) (hk : keys.length ≤ 1073741824) (hl : l.length ≤ 1073741824) : Ctr Tryz.prog N37 [aL 1 (keys.map encI), aL 4 (l.map GStatement.enc), aI d] [rL 1 ((Ki keys l d).map encI)] := by
 refine cA M3z 2 74 [(.tmp 6, [true])] Tryz.func140 rfl rfl ?_; unfold M3z
 intro hb
 clear hb
 simp only [go_sem]
 refine K4 keys (fun k => [(7, .val false [.ref 0 0 1 0 k]), (8, vI k)]) (fun k => [(0, ⟨0, .row true 1 ((List.replicate k (-1)).map encI)⟩)]) (fun _ => True) (by simp only [roomB]; omega) ?_
 simp only [go_sem]
 refine ⟨?_, trivial, ?_, ?_⟩
 ·simp only [go_sem]
  try rfl
 ·intro k x hx _ h0 h1 hw
  have hkl := Kq hx
  simp only [go_sem, h1, hw, List.length_replicate]
  refine ⟨by simp only [roomB]; omega, by simp only [roomB]; omega, ?_⟩
  rw [List.map_replicate]
  exact (List.replicate_succ' (n := k) (a := encI (-1))).symm.trans List.replicate_succ
 ·intro _
  simp only [go_sem]
  refine K4 l (fun k => [(9, vI k)]) (fun k => [(0, ⟨0, .row true 1 ((Ki keys (l.take k) d).map encI)⟩)]) (fun _ => True) (by simp only [roomB]; omega) ?_
  simp only [go_sem]
  refine ⟨?_, trivial, ?_, ?_⟩
  ·simp only [go_sem, List.take_zero]
   rfl
  ·intro k s hx _ h0 h1 hw
   have hst := K3p (keys := keys) (digest := d) hx
   rw [hst]
   have hlen := K1f (keys := keys) (digest := d) (l := l.take k)
   generalize Ki keys (l.take k) d = out at *
   simp only [go_sem, K3 hx, h0, h1]
   apply K0 (C5u keys s (by omega))
   simp only [go_sem, K3 hx, h0, h1, hw, hlen]
   refine ⟨fun hh => ?_, fun hh => ?_⟩
   ·rw [show Kn keys d out s = out by unfold Kn; rw [if_neg (by rw [hh]; simp)]]
   ·have ho := K3z hh
    obtain ⟨y, hy⟩ := Ko (l := out) (k := s.Witness.toNat) (by omega)
    have hw0 : (0 : Int) ≤ s.Witness := ho.1
    have hw1 : s.Witness < (keys.length : Int) := ho.2.1
    have hz : zAt out s.Witness = y := by simp [zAt, hy]
    simp only [go_sem, hw0, hw1, K3 hy]
    refine ⟨fun hd => ?_, fun hd => ?_⟩
    ·rw [show Kn keys d out s = out by unfold Kn; rw [if_neg (by simp [hd])]]
    ·have hyes : y < 0 ∨ s.Tick < y → Kn keys d out s = out.set s.Witness.toNat s.Tick := fun h => by unfold Kn; rw [if_pos ⟨hd, hh, by rw [hz]; exact h⟩]
     have hno : ¬ (y < 0 ∨ s.Tick < y) → Kn keys d out s = out := fun h => by unfold Kn; rw [if_neg (fun e => h (by have := e.2.2; rw [hz] at this; exact this))]
     refine ⟨fun a => ?_, fun a => ⟨fun b => ?_, fun b => ?_⟩⟩
     ·rw [hyes (.inl a), List.map_set]; rfl
     ·rw [hyes (.inr b), List.map_set]; rfl
     ·rw [hno (by omega)]
  ·intro _
   simp only [go_sem, List.take_length, K1f]
end Go.Proofs.YtgkeplbnnjogiaaGreatR
namespace Go.Proofs.YtgkeplbnnjogiaaGreatR
open Go Go.RowKit Go.Proofs
open Nat (reduceEqDiff reduceLT reduceLeDiff reduceAdd reduceMul)
open List (reduceReplicate)
theorem K6l (keys : List Int) (l : List GStatement) (d : Int) : (seenL keys l d).length ≤ keys.length := by
 unfold seenL
 have := K1f (keys := keys) (digest := d) (l := l)
 have := List.length_filter_le (fun n => !(n == -1)) (Ki keys l d)
 omega
def M4h : MC :=
(Zs [.mv 8 (ci 0)] [0,1,2,3] (Zs [mS 10 0, mS 11 1, mS 12 2, .call 13 [0] (.f N3a) [.s 10, .s 11, .s 12], .callI 14 [1] (.f Nc) [.s 13, .f N4] [0] [], mS 9 14] [3,9] (Zs [mS 15 9, .callI 16 [] (.f Nr) [.s 15] [1] []] [3,9] (.seq (Zs [mS 17 3, mS 18 9, nS 19 18, .call 20 [] (.f N5e) [.s 17, .s 19], .un 21 .not (.s 20)] [3,9,21] (.cond (.s 21) (Zs [.mv 8 (.c (.int .i64 (-1)))] [8] .ret) .skip))
(Zs [mS 22 9, mS 23 3, xS 24 1 22 23, lF 25 1 24, mS 8 25] [8] .ret)))))
set_option maxHeartbeats 2000000 in
theorem C74 (keys : List Int) (l : List GStatement) (d q : Int) (hk : keys.length ≤ 1073741824) (hl : l.length ≤ 1073741824) : Ctr Tryz.prog N44 [aL 1 (keys.map encI), aL 4 (l.map GStatement.enc), aI d, aI q] [rI (K1c keys l d q)] := by
 refine cA M4h 2 26 [(.tmp 8, [false])] Tryz.func68 rfl rfl ?_; unfold M4h
 intro hb
 clear hb
 have hsl := K6l keys l d
 simp only [go_sem]
 apply K0 (C6s keys l d hk hl)
 simp only [go_sem]
 intros
 apply K6a (C40 (Ki keys l d))
 simp only [go_sem]
 intros
 rw [show ((Ki keys l d).filter fun n => !delP n) = seenL keys l d from rfl]
 apply K6a (C64 (seenL keys l d))
 simp only [go_sem, K1p]
 try intros
 apply K0 (C5s q ((seenL keys l d).length : Int))
 simp only [go_sem, K1p]
 refine ⟨fun hn => ?_, fun hy => ⟨hy, ?_⟩⟩
 ·unfold K1c
  rw [K1p, if_neg hn]
 ·obtain ⟨y, hq⟩ := Ko (l := sortI (seenL keys l d)) (k := q.toNat) (by rw [K1p]; omega)
  unfold K1c
  rw [K1p, if_pos hy]
  simp only [go_sem, K3 hq]
  simp [zAt, hq]
def posL (f : List Int) : List Int := f.filter fun n => !(n == -1)
theorem posL_yes {f : List Int} {k : Nat} {y : Int} (h : f[k]? = some y) (u : 0 ≤ y) : posL (f.take (k + 1)) = posL (f.take k) ++ [y] := by
 rw [K1h h, posL, List.filter_append]
 have : (y == -1) = false := by simp; omega
 simp [posL, this]
theorem posL_no {f : List Int} {k : Nat} {y : Int} (h : f[k]? = some y) (u : y = -1) : posL (f.take (k + 1)) = posL (f.take k) := by
 rw [K1h h, posL, List.filter_append]
 simp [posL, u]
def M4i : MC :=
(Zs [.mv 8 (ci 0)] [0,1,2,3] (Zs [mS 13 0, mS 14 1, mS 15 2, .call 16 [0] (.f N37) [.s 13, .s 14, .s 15], mS 9 16] [3,9] (Zs [.lit 17 1 1 8 [], mS 10 17] [3,9,10] (.seq (Zs [.mv 11 (ci 0)] [3,9,10,11] (.block 0 (.loop ([3,9,10,11], [2,3]) (.seq (Zs [mS 18 11, mS 19 9, nS 20 19, bS 21 .lss 18 20] [3,9,10,11,21] (cX 21 0))
(.seq (.block 1 (.seq (Zs [mS 24 9, mS 25 11, xS 26 1 24 25, lF 27 1 26, bC 28 .lss 27 0] [3,9,10,11,28] (.cond (.s 28) (.exit 1) .skip))
(Zs [mS 29 10, nS 30 29, mS 12 30] [3,9,10,11,12] (.seq (.block 2 (.loop ([3,9,10,11,12], [2,3]) (.seq (.seq (.dreg [Za (mS 31 12), Ze [0] (bC 32 .gtr 31 0), Ze [0,1] (mS 33 32), { o := mS 34 10, g := some (33, true), hs := [35,36,39,40,41,42], bf := [0,1,2] }, { o := mS 35 12, g := some (33, true), hs := [34,39,40,41,42], bf := [0,1,2] }, { o := bC 36 .sub 35 1, g := some (33, true), hs := [34,39,40,41,42], bf := [0,1,2,4] }, { o := xS 37 1 34 36, g := some (33, true), hs := [39,40,41,42], bf := (.range 6) }, { o := lF 38 1 37, g := some (33, true), hs := [39,40,41,42], bf := (.range 7) }, { o := mS 39 9, g := some (33, true), hs := [34,35,36,37,38,40], bf := [0,1,2] }, { o := mS 40 11, g := some (33, true), hs := [34,35,36,37,38,39], bf := [0,1,2] }, { o := xS 41 1 39 40, g := some (33, true), hs := [34,35,36,37,38], bf := [0,1,2,8,9] }, { o := lF 42 1 41, g := some (33, true), hs := [34,35,36,37,38], bf := [0,1,2,8,9,10] }, { o := bS 43 .gtr 38 42, g := some (33, true), bf := (.range 12) }, Ze (.range 13) (.pick 44 (.s 33) (.s 43) cF)] [3,9,10,11,12,44])
(cX 44 2))
(.block 3 (pr [mS 45 12, bC 46 .sub 45 1, mS 12 46] [3,9,10,11,12])))))
(.dreg [{ o := .lit 47 2 1 8 [], hs := [48,49,50,52,53,54,55,56,58,59,60], ho := [3], ws := [2] }, Zf [47,49,52,53,54,55,56,58,59,60] [2,3] (mS 48 10), Zf [47,48,52,53,54,55,56,58,59,60] [2,3] (mS 49 12), Zg [47,52,53,54,55,56,58,59,60] [2,3] [1,2] (.slc 50 1 (.s 48) none (some (.s 49)) none), { o := .app 51 2 1 8 (.s 47) (.s 50), hs := [52,53,54,55,56,58,59,60], ho := [3], ws := [2], bf := (.range 4) }, Zf [47,48,49,50,51,53,58,59,60] [2] (mS 52 9), Zf [47,48,49,50,51,52,58,59,60] [2] (mS 53 11), Zg [47,48,49,50,51,58,59,60] [2] [5,6] (xS 54 1 52 53), Zg [47,48,49,50,51,58,59,60] [2] [5,6,7] (lF 55 1 54), { o := .lit 56 3 1 8 [.s 55], hs := [47,48,49,50,51,58,59,60], ho := [2], ws := [3], bf := [5,6,7,8] }, { o := .app 57 2 1 8 (.s 51) (.s 56), hs := [58,59,60], ws := [2], bf := (.range 10) }, Zf [47,48,49,50,51,52,53,54,55,56,57,59] [2,3] (mS 58 10), Zf [47,48,49,50,51,52,53,54,55,56,57,58] [2,3] (mS 59 12), Zg [47,48,49,50,51,52,53,54,55,56,57] [2,3] [11,12] (.slc 60 1 (.s 58) (some (.s 59)) none none), { o := .app 61 1 1 8 (.s 57) (.s 60), ws := [1,2], bf := (.range 14) }, Ze (.range 15) (mS 10 61)] [3,9,10,11])))))
(pr [mS 22 11, bC 23 .add 22 1, mS 11 23] [3,9,10,11]))))))
(.seq (Zs [mS 62 3, mS 63 10, nS 64 63, bC 65 .sub 64 1, .call 66 [] (.f N9) [.s 62, .c (.int .i64 0), .s 65], .un 67 .not (.s 66)] [3,10,67] (.cond (.s 67) (Zs [.mv 8 (.c (.int .i64 (-1)))] [8] .ret) .skip))
(Zs [mS 68 10, mS 69 3, xS 70 1 68 69, lF 71 1 70, mS 8 71] [8] .ret))))))
set_option maxHeartbeats 2000000 in
theorem C75 (keys : List Int) (l : List GStatement) (d q : Int) (hk : keys.length ≤ 1073741824) (hl : l.length ≤ 1073741824) : Ctr Tryz.prog N43 [aL 1 (keys.map encI), aL 4 (l.map GStatement.enc), aI d, aI q] [rI (K1c keys l d q)] := by
 refine cA M4i 4 72 [(.tmp 8, [false])] Tryz.func58 rfl rfl ?_; unfold M4i
 intro hb
 clear hb
 have hsl := K6l keys l d
 have hfl := K1f (keys := keys) (digest := d) (l := l)
 have hge := K7h (keys := keys) (digest := d) (l := l)
 unfold K1c
 rw [show seenL keys l d = posL (Ki keys l d) from rfl] at *
 simp only [go_sem]
 apply K0 (C6t keys l d hk hl)
 simp only [go_sem]
 intros
 generalize Ki keys l d = f at *
 rw [← K7o]
 refine K4 f (fun k => [(10, .val false [.ref 1 0 1 0 (Srt.isort ltI (posL (f.take k))).length]), (11, vI k)]) (fun k => [(1, ⟨0, .row true 1 ((Srt.isort ltI (posL (f.take k))).map encI)⟩)]) (fun _ => True) (by simp only [roomB]; omega) ?_
 simp only [go_sem]
 refine ⟨?_, trivial, ?_, ?_⟩
 ·simp only [go_sem, List.take_zero]
  exact ⟨rfl, rfl⟩
 ·intro i y hx _ g0 g1 gw
  have hi := Kq hx
  have hol : (Srt.isort ltI (posL (f.take i))).length ≤ f.length := by
   rw [Srt.len_isort]
   exact Nat.le_trans (List.length_filter_le _ _) (by rw [List.length_take]; omega)
  have hsr : Srt.srt ltI (Srt.isort ltI (posL (f.take i))) := Srt.srt_isort swoI _
  simp only [go_sem, K3 hx, g0, g1, gw]
  refine ⟨fun hneg => ?_, fun hpos => ?_⟩
  ·have e := posL_no hx (by rcases hge y (K20 hx) with e | e <;> omega)
   rw [e]
   exact ⟨rfl, rfl⟩
  ·have e := posL_yes hx (by omega)
   rw [e, Srt.isort_snoc]
   generalize Srt.isort ltI (posL (f.take i)) = out at *
   refine loopK_up (fun n : Nat => [(12, vI n)]) (fun n => []) (fun n => n ≤ out.length ∧ ∀ z ∈ out.drop n, ltI y z = true) (fun n => n) out.length ?_
   simp only [go_sem]
   refine ⟨?_, ⟨Nat.le_refl _, by simp⟩, ?_⟩
   ·simp only [go_sem]
   ·rintro n ⟨hn1, hn2⟩
    simp only [go_sem, K3 hx, g0, g1]
    refine ⟨fun hpos => ?_, fun hzero => ?_⟩
    ·obtain ⟨m, hm⟩ : ∃ m, m = n - 1 := ⟨_, rfl⟩
     obtain ⟨z, hz⟩ := Ko (show m < out.length by omega)
     have e1 : IntKind.i64.wrap ((n : Int) - 1) = (m : Int) := by rw [wI (by omega) (by omega)]; omega
     rw [e1]
     simp only [go_sem, K3 hz]
     refine ⟨⟨by omega, by omega⟩, ?_⟩
     refine ⟨fun ht => ⟨m, rfl, ⟨by omega, ?_⟩, by omega⟩, fun hf => ?_⟩
     ·rw [hm]
      exact Srt.drop_step (by omega) (hm ▸ hz) hn2 (by unfold ltI; exact decide_eq_true ht)
     ·have hstop : n = 0 ∨ ∃ y', out[n - 1]? = some y' ∧ ltI y y' = false := .inr ⟨z, hm ▸ hz, by unfold ltI; exact decide_eq_false hf⟩
      rw [cutA hn1]
      refine ⟨by omega, by omega, ?_⟩
      have hA : (out.take n).length = n := by rw [List.length_take]; omega
      have hB : out.length = n + (out.drop n).length := by rw [List.length_drop]; omega
      have eC := cutB (f := encI) hn1
      have e5 : List.map encI (out.take n) ++ [[T.sc (Value.int IntKind.i64 y)]] = (out.take n ++ [y]).map encI := by simp [encI]
      have e6 : ((out.take n ++ [y]).map encI).length = (out.take n).length + 1 := by simp
      simp only [go_sem, K3 hx, g0, g1, ↓K2y (f := encI) (fun _ => rfl) (out.take n), ↓eC, ↓e5, ↓K2y (f := encI) (fun _ => rfl) (out.drop n)]
      have e7 : ((out.take n).length + 1 = (out.take n ++ [y]).length) = True := by simp
      simp only [e7, if_true]
      rw [Srt.ins_at swoI hsr hn2 hstop]
      simp only [roomB]
      exact ⟨by omega, by omega, by omega, ⟨by omega, by omega, by omega⟩, by omega, by simp, by simp only [List.length_map, List.length_append, List.length_cons, List.length_nil]; omega, ⟨by simp only [List.length_map, List.length_append, List.length_cons, List.length_nil], gw⟩, by rw [← List.map_append]⟩
    ·have hstop : n = 0 ∨ ∃ y', out[n - 1]? = some y' ∧ ltI y y' = false := .inl (by omega)
     rw [cutA hn1]
     refine ⟨by omega, by omega, ?_⟩
     have hA : (out.take n).length = n := by rw [List.length_take]; omega
     have hB : out.length = n + (out.drop n).length := by rw [List.length_drop]; omega
     have eC := cutB (f := encI) hn1
     have e5 : List.map encI (out.take n) ++ [[T.sc (Value.int IntKind.i64 y)]] = (out.take n ++ [y]).map encI := by simp [encI]
     have e6 : ((out.take n ++ [y]).map encI).length = (out.take n).length + 1 := by simp
     simp only [go_sem, K3 hx, g0, g1, ↓K2y (f := encI) (fun _ => rfl) (out.take n), ↓eC, ↓e5, ↓K2y (f := encI) (fun _ => rfl) (out.drop n)]
     have e7 : ((out.take n).length + 1 = (out.take n ++ [y]).length) = True := by simp
     simp only [e7, if_true]
     rw [Srt.ins_at swoI hsr hn2 hstop]
     simp only [roomB]
     exact ⟨by omega, by omega, by omega, ⟨by omega, by omega, by omega⟩, by omega, by simp, by simp only [List.length_map, List.length_append, List.length_cons, List.length_nil]; omega, ⟨by simp only [List.length_map, List.length_append, List.length_cons, List.length_nil], gw⟩, by rw [← List.map_append]⟩
 ·intro _
  simp only [go_sem, List.take_length]
  have hsl' : (Srt.isort ltI (posL f)).length = (posL f).length := Srt.len_isort
  have e1 : IntKind.i64.wrap (((Srt.isort ltI (posL f)).length : Int) - 1) = ((Srt.isort ltI (posL f)).length : Int) - 1 := by rw [wI (by omega) (by omega)]
  rw [e1]
  apply K0 (Ca q 0 (((Srt.isort ltI (posL f)).length : Int) - 1))
  simp only [go_sem]
  refine ⟨fun hn => ?_, fun hy => ⟨⟨by omega, by omega⟩, ?_⟩⟩
  ·rw [if_neg (by omega)]
  ·obtain ⟨y, hq⟩ := Ko (l := Srt.isort ltI (posL f)) (k := q.toNat) (by omega)
   rw [if_pos ⟨by omega, by omega⟩]
   simp only [go_sem, K3 hq]
   simp [zAt, hq]
end Go.Proofs.YtgkeplbnnjogiaaGreatR
namespace Go.Proofs.YtgkeplbnnjogiaaGreatR
open Go Go.RowKit Go.Proofs
open Nat (reduceEqDiff reduceLT reduceLeDiff reduceAdd reduceMul)
open List (reduceReplicate)
def badP (a : GArchive) (q : Int) (x : GContainer) : Bool := !decide (0 ≤ K1c a.Keys a.Statements x.Root q ∧ K1c a.Keys a.Statements x.Root q ≤ a.Now)
theorem K4f (a : GArchive) (q : Int) : K3x a q = !(a.Disk.Containers.any (badP a q)) := by
 unfold K3x badP
 rw [List.not_any_eq_all_not]
 simp
def M2z : MC :=
(Zs [.box 3 0 (.s 0), .mv 4 cF] [1,2,3] (.seq (.dreg [Zc [7,8,9,10,11,13,14] (fS 5 1 7), Zd [7,8,9,10,11,13,14] [0] (lF 6 1 5), Zc [5,6,9,10,11,13,14] (fS 7 1 8), Zd [5,6,9,10,11,13,14] [2] (lF 8 1 7), Zc [5,6,7,8,11,13,14] (fS 9 3 3), Zd [5,6,7,8,11,13,14] [4] (lF 10 1 9), Zc [5,6,7,8,9,10,13,14] (lF 11 1 2), Zd [13,14] (.range 7) (.call 12 [] (.f N44) [.s 6, .s 8, .s 10, .s 11]), Zc [5,6,7,8,9,10,11,12] (fS 13 1 9), Zd [5,6,7,8,9,10,11,12] [8] (lF 14 1 13), Ze (.range 10) (.call 15 [] (.f Nb) [.s 12, .c (.int .i64 0), .s 14]), Ze (.range 11) (.un 16 .not (.s 15)), Ze (.range 12) (mS 4 16)] [4])
.ret))
set_option maxHeartbeats 2000000 in
theorem C65 (x : GContainer) (a : GArchive) (q : Int) (hs : a.size ≤ 268435456) : Ctr Tryz.prog N27 [aS x.enc, (false, [.pb a.enc]), (false, [.pb [tI q]])] [rB (badP a q x)] := by
 refine cA M2z 1 17 [(.tmp 4, [false])] Tryz.func66 rfl rfl ?_; unfold M2z
 intro hb
 clear hb
 have hk : a.Keys.length ≤ 1073741824 := by simp only [GArchive.size] at hs; omega
 have hl : a.Statements.length ≤ 1073741824 := by simp only [GArchive.size] at hs; omega
 simp only [go_sem]
 apply K0 (C74 a.Keys a.Statements x.Root q hk hl)
 simp only [go_sem]
 intros
 apply K0 (Ci (K1c a.Keys a.Statements x.Root q) 0 a.Now)
 simp only [go_sem]
 intros
 rfl
def M4j : MC :=
(Zs [.box 2 0 (.s 0), .box 3 1 (.s 1), .mv 4 cF] [2,3] (Zs [fS 5 2 2, fS 6 5 0, lF 7 1 6, .clos 8 N27 [2, 3], .call 9 [] (.f N0) [.s 7, .s 8], .un 10 .not (.s 9), mS 4 10] [4] .ret))
set_option maxHeartbeats 2000000 in
theorem C76 (a : GArchive) (q : Int) (hs : a.size ≤ 268435456) : Ctr Tryz.prog N42 [aS a.enc, aI q] [rB (K3x a q)] := by
 refine cA M4j 2 11 [(.tmp 4, [false])] Tryz.func16 rfl rfl ?_; unfold M4j
 intro hb
 clear hb
 rw [K4f]
 simp only [go_sem]
 apply K0 (Cs a.Disk.Containers _ [.pb a.enc, .pb [tI q]] (badP a q) fun x _ => C65 x a q hs)
 simp only [go_sem]
def M4k : MC :=
(Zs [.box 2 0 (.s 0), .mv 4 cF] [1,2] (.seq (Zs [.mv 5 (ci 0)] [1,2,5] (.block 0 (.loop ([1,2,5], []) (.seq (Zs [mS 6 5, fS 7 2 2, fS 8 7 0, lF 9 1 8, nS 10 9, bS 11 .lss 6 10] [1,2,5,11] (cX 11 0))
(.seq (.block 1 (.seq (.dreg [Zc [16,17,18,19,20,21,22,23,24,25,27,28] (fS 14 2 7), Zd [16,17,18,19,20,21,22,23,24,25,27,28] [0] (lF 15 1 14), Zc [14,15,18,19,20,21,22,23,24,25,27,28] (fS 16 2 8), Zd [14,15,18,19,20,21,22,23,24,25,27,28] [2] (lF 17 1 16), Zc [14,15,16,17,21,25,27,28] (fS 18 2 2), Zd [14,15,16,17,21,25,27,28] [4] (fS 19 18 0), Zd [14,15,16,17,21,25,27,28] [4,5] (lF 20 1 19), Zc [14,15,16,17,18,19,20,25,27,28] (mS 21 5), Zd [14,15,16,17,25,27,28] [4,5,6,7] (xS 22 4 20 21), Zd [14,15,16,17,25,27,28] [4,5,6,7,8] (fS 23 22 3), Zd [14,15,16,17,25,27,28] [4,5,6,7,8,9] (lF 24 1 23), Zc [14,15,16,17,18,19,20,21,22,23,24,27,28] (mS 25 1), Zd [27,28] (.range 12) (.call 26 [] (.f N43) [.s 15, .s 17, .s 24, .s 25]), Zc [14,15,16,17,18,19,20,21,22,23,24,25,26] (fS 27 2 9), Zd [14,15,16,17,18,19,20,21,22,23,24,25,26] [13] (lF 28 1 27), Ze (.range 15) (.call 29 [] (.f N9) [.s 26, .c (.int .i64 0), .s 28]), Ze (.range 16) (.un 30 .not (.s 29))] [1,2,5,30])
(.cond (.s 30) (Zs [.mv 4 cF] [4] .ret) .skip)))
(pr [mS 12 5, bC 13 .add 12 1, mS 5 13] [1,2,5]))))))
(Zs [.mv 4 cT] [4] .ret)))
set_option maxHeartbeats 2000000 in
theorem C77 (a : GArchive) (q : Int) (hs : a.size ≤ 268435456) : Ctr Tryz.prog N41 [aS a.enc, aI q] [rB (K3x a q)] := by
 refine cA M4k 1 31 [(.tmp 4, [false])] Tryz.func14 rfl rfl ?_; unfold M4k
 intro hb
 clear hb
 rw [K4f]
 have hk : a.Keys.length ≤ 1073741824 := by simp only [GArchive.size] at hs; omega
 have hl : a.Statements.length ≤ 1073741824 := by simp only [GArchive.size] at hs; omega
 have hcl : a.Disk.Containers.length ≤ roomB := by simp only [GArchive.size, GDisk.size] at hs; simp only [roomB]; omega
 simp only [go_sem]
 refine K4 a.Disk.Containers (fun k => [(5, vI k)]) (fun k => []) (fun k => ((a.Disk.Containers.take k).any (badP a q)) = false) hcl ?_
 simp only [go_sem]
 refine ⟨?_, by simp, ?_, ?_⟩
 ·simp only [go_sem]
  try trivial
 ·intro k x hx hI h0 h1 hw
  simp only [go_sem, K3 hx, h0, h1]
  apply K0 (C75 a.Keys a.Statements x.Root q hk hl)
  simp only [go_sem]
  intros
  apply K0 (Ca (K1c a.Keys a.Statements x.Root q) 0 a.Now)
  simp only [go_sem, hw]
  intro _
  refine ⟨fun h => ?_, fun h => ?_⟩
  ·rw [List.any_eq_true.2 ⟨x, K20 hx, by unfold badP; rw [decide_eq_false h]; rfl⟩]
   rfl
  ·exact K4a hx hI (by unfold badP; rw [decide_eq_true h]; rfl)
 ·intro hI
  simp only [go_sem]
  rw [List.take_length] at hI
  rw [hI]
  try rfl
end Go.Proofs.YtgkeplbnnjogiaaGreatR
namespace Go.Proofs.YtgkeplbnnjogiaaGreatR
open Go Go.RowKit Go.Proofs
open Nat (reduceEqDiff reduceLT reduceLeDiff reduceAdd reduceMul)
open List (reduceReplicate)
def Mm : MC :=
(Zs [.box 2 0 (.s 0), .mv 4 cF] [1,2] (Zs [.mv 5 (ci 1048576)] [1,2,5] (Zs [lT 9 10 2, mS 10 5, .call 11 [] (.f N30) [.s 9, .s 10], mS 5 11] [1,2,5] (.seq (Zs [mS 12 5, bC 13 .lss 12 0] [1,2,13] (.cond (.s 13) (Zs [.mv 4 cT] [4] .ret) .skip))
(Zs [lT 14 10 2, .call 15 [1, 2, 3, 4, 5, 6, 7, 8, 9] (.f Nd) [.s 14], mS 16 1, .call 17 [] (.f N41) [.s 15, .s 16], mS 6 17] [1,2,6] (Zs [lT 18 10 2, .call 19 [10, 11, 12, 13, 14, 15, 16, 17, 18] (.f Nd) [.s 18], .alloc 7 19 [.emp 9, .emp 4, .emp 4, .emp 6, .emp 4, .emp 5, .emp 4, .emp 1, .emp 4, pz], sS 10 7 19] [1,2,6,7] (Zs [lT 20 10 7, mS 21 1, .call 22 [] (.f N42) [.s 20, .s 21], mS 8 22] [2,6,7,8] (.seq (Zs [mS 23 8, mS 24 6, .bin 25 true .neq (.s 23) (.s 24)] [2,7,25] (.cond (.s 25) (Zs [.mv 4 cF] [4] .ret) .skip))
(.seq (.seq (.dreg [Zf [27,28] [20,21,22,23,24,25,26,27,28] (lT 26 10 7), Zc [26] (lT 27 10 2), { o := .call 28 [20, 21, 22, 23, 24, 25, 26, 27, 28] (.f Nd) [.s 27], hs := [26], ws := [20,21,22,23,24,25,26,27,28], bf := [1] }, Ze [0,1,2] (.call 29 [] (.f N31) [.s 26, .s 28]), Ze (.range 4) (.un 30 .not (.s 29))] [30])
(.cond (.s 30) (Zs [.mv 4 cF] [4] .ret) .skip))
(Zs [.mv 4 cT] [4] .ret))))))))))
theorem c_laws_FnExactIsProven (a : GArchive) (q : Int) : Ctr Tryz.prog N4l [aS a.enc, aI q] [rB true] := by
 refine cA Mm 29 31 [(.tmp 4, [false])] Tryz.func3 rfl rfl ?_; unfold Mm
 intro hb
 clear hb
 simp only [go_sem]
 apply K0 (C6o a _ (by omega))
 simp only [go_sem]
 intro _ hz
 have hs := szr_ok hz
 have hc_a := GArchive.cts_le a
 apply K0 (Cq a (by omega))
 simp only [go_sem]
 try intros
 apply K0 (C77 a q (by omega))
 simp only [go_sem]
 try intros
 apply K0 (Cq a (by omega))
 simp only [go_sem]
 try intros
 apply K0 (C76 a q (by omega))
 simp only [go_sem]
 try intros
 apply K0 (Cq a (by omega))
 simp only [go_sem]
 try intros
 apply K0 (C6p a a)
 simp only [go_sem]
 try intros
end Go.Proofs.YtgkeplbnnjogiaaGreatR
