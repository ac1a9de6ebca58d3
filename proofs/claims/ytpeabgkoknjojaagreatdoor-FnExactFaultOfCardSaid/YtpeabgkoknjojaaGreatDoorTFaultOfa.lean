/- What the functions compute that the laws of FaultOf reach: contracts. Conditions stand in each theorem. -/
import Derived.Test.YtpeabgkoknjojaaGreatDoorProg
import Derived.KernelRfl
import Derived.Shelf.Lay
import Derived.Shelf.LaySoft
import Derived.Shelf.LaysM
import Derived.Shelf.Strconv.Itoa3
import Derived.Shelf.Strings.OnBuilder
import Derived.Lib.IndexLaws
import Derived.Lib.Strings
import Derived.Shelf.Small.Wraps
import Derived.Shelf.Strings.Search2
import Derived.Test.YtpeabgkoknjojaaGreatDoorRFaultOfc
set_option linter.unusedVariables false
set_option linter.unusedSimpArgs false
namespace Go.Proofs.YtpeabgkoknjojaaGreatDoorR
open Go Go.RowKit
attribute [go_sem ↓] bk_bind K7d bk_ite K3o
def Za(o:MO):MOp:={o:=o}
def Zb(k:Nat)(b:Bool)(o:MO):MOp:={o:=o,g:=some (k,b)}
def Zc(h:List Nat)(o:MO):MOp:={o:=o,hs:=h}
def Zd(h b:List Nat)(o:MO):MOp:={o:=o,hs:=h,bf:=b}
def Ze(b:List Nat)(o:MO):MOp:={o:=o,bf:=b}
def Zf(h g:List Nat)(o:MO):MOp:={o:=o,hs:=h,ho:=g}
def Zg(h g b:List Nat)(o:MO):MOp:={o:=o,hs:=h,ho:=g,bf:=b}
def pz:SC:= .pl (.sc (.int .i64 0))
def ci(n:Int):Od:= .c (.int .i64 n)
def cT:Od:= .c (.bool true)
def cF:Od:= .c (.bool false)
attribute [go_sem] Nat.reduceEqDiff Nat.reduceLT Nat.reduceLeDiff Nat.reduceAdd Nat.reduceMul reduceCtorEq List.reduceReplicate
attribute [go_sem ↓] reduceIte
attribute [go_sem] Za Zb Zc Zd Ze Zf Zg pz ci cT cF
def mS(d a:Nat):MO:= .mv d (.s a)
def lF(d k a:Nat):MO:= .load d false k (.s a)
def lT(d k a:Nat):MO:= .load d true k (.s a)
def fS(d a k:Nat):MO:= .fld d (.s a) k
def xS(d k a b:Nat):MO:= .idx d k (.s a) (.s b)
def nS(d a:Nat):MO:= .len d false (.s a)
def bS(d:Nat)(o:BinOp)(a b:Nat):MO:= .bin d false o (.s a) (.s b)
def bC(d:Nat)(o:BinOp)(a:Nat)(b:Int):MO:= .bin d false o (.s a) (.c (.int .i64 b))
def sS(k a b:Nat):MO:= .store k (.s a) (.s b)
def cX(a k:Nat):MC:= .cond (.s a) .skip (.exit k)
def Zs(l:List MO)(h:List Nat)(c:MC):MC:= .seq (pr l h) c
attribute [go_sem] mS lF lT fS xS nS bS bC sS cX Zs
open Nat (reduceEqDiff reduceLT reduceLeDiff reduceAdd reduceMul)
open List (reduceReplicate)
def encI(n:Int):List T:=[tI n]
def encB(b:Bool):List T:=[tB b]
theorem K3i{ts:List T}(h:IsT .int ts):∃n,ts=encI n:=h
theorem Kl{α:Type}{enc:α→List T}{ty:DT}(h:∀ {ts},IsT ty ts→∃x,ts=enc x):∀ {es:List (List T)},(∀x∈es,IsT ty x)→∃xs:List α,es=xs.map enc
 | [],_=>⟨[],rfl⟩
 |e::es,k=>by
  obtain⟨x,rfl⟩:=h (k e (by simp))
  obtain⟨xs,hx⟩:=Kl h (es:=es) fun y hy=>k y (by simp[hy])
  subst hx
  exact⟨x::xs,rfl⟩
structure GAddress where
 Host:Int
 Path:Int
 Query:Int
 deriving DecidableEq
def GAddress.enc(x:GAddress):List T:=[tI x.Host,tI x.Path,tI x.Query]
def GAddress.dt:DT:= .st (.fc .int (.fc .int (.fc .int .fn)))
theorem GAddress.of{ts:List T}(h:IsT GAddress.dt ts):∃x:GAddress,ts=x.enc:=by
 simp only[GAddress.dt,IsT]at h
 obtain⟨_,_,rfl,⟨v0,rfl⟩,_,_,rfl,⟨v1,rfl⟩,_,_,rfl,⟨v2,rfl⟩,rfl⟩:=h
 exact⟨⟨v0,v1,v2⟩,rfl⟩
theorem GAddress.eqv{x y:GAddress}:x=y↔x.Host=y.Host∧x.Path=y.Path∧x.Query=y.Query:=by
 constructor
 ·rintro rfl;simp
 ·intro h
  rcases x with ⟨aHost,aPath,aQuery⟩
  rcases y with ⟨bHost,bPath,bQuery⟩
  simp only at h
  obtain⟨rfl,rfl,rfl⟩:=h
  rfl
structure GResource where
 Kind:Int
 Body:List Int
 To:GAddress
 deriving DecidableEq
def GResource.enc(x:GResource):List T:=[tI x.Kind,.sl 1 (x.Body.map encI),tI x.To.Host,tI x.To.Path,tI x.To.Query]
def GResource.dt:DT:= .st (.fc .int (.fc (.sl .int) (.fc GAddress.dt .fn)))
theorem GResource.of{ts:List T}(h:IsT GResource.dt ts):∃x:GResource,ts=x.enc:=by
 simp only[GResource.dt,IsT]at h
 obtain⟨_,_,rfl,⟨v0,rfl⟩,_,_,rfl,⟨l1,rfl,k1⟩,_,_,rfl,k2,rfl⟩:=h
 obtain⟨v1,rfl⟩:=Kl K3i k1
 obtain⟨v2,rfl⟩:=GAddress.of k2
 exact⟨⟨v0,v1,v2⟩,rfl⟩
theorem GResource.eqv{x y:GResource}:x=y↔x.Kind=y.Kind∧x.Body=y.Body∧x.To.Host=y.To.Host∧x.To.Path=y.To.Path∧x.To.Query=y.To.Query:=by
 constructor
 ·rintro rfl;simp
 ·intro h
  rcases x with ⟨aKind,aBody,⟨aToHost,aToPath,aToQuery⟩⟩
  rcases y with ⟨bKind,bBody,⟨bToHost,bToPath,bToQuery⟩⟩
  simp only at h
  obtain⟨rfl,rfl,rfl,rfl,rfl⟩:=h
  rfl
def GResource.size(x:GResource):Nat:=(x.Body.length)
structure GPart where
 Digest:Int
 Resource:GResource
 Uses:Int
 deriving DecidableEq
def GPart.enc(x:GPart):List T:=[tI x.Digest,tI x.Resource.Kind,.sl 1 (x.Resource.Body.map encI),tI x.Resource.To.Host,tI x.Resource.To.Path,tI x.Resource.To.Query,tI x.Uses]
def GPart.dt:DT:= .st (.fc .int (.fc GResource.dt (.fc .int .fn)))
theorem GPart.of{ts:List T}(h:IsT GPart.dt ts):∃x:GPart,ts=x.enc:=by
 simp only[GPart.dt,IsT]at h
 obtain⟨_,_,rfl,⟨v0,rfl⟩,_,_,rfl,k1,_,_,rfl,⟨v2,rfl⟩,rfl⟩:=h
 obtain⟨v1,rfl⟩:=GResource.of k1
 exact⟨⟨v0,v1,v2⟩,rfl⟩
theorem GPart.eqv{x y:GPart}:x=y↔x.Digest=y.Digest∧x.Resource.Kind=y.Resource.Kind∧x.Resource.Body=y.Resource.Body∧x.Resource.To.Host=y.Resource.To.Host∧x.Resource.To.Path=y.Resource.To.Path∧x.Resource.To.Query=y.Resource.To.Query∧x.Uses=y.Uses:=by
 constructor
 ·rintro rfl;simp
 ·intro h
  rcases x with ⟨aDigest,⟨aResourceKind,aResourceBody,⟨aResourceToHost,aResourceToPath,aResourceToQuery⟩⟩,aUses⟩
  rcases y with ⟨bDigest,⟨bResourceKind,bResourceBody,⟨bResourceToHost,bResourceToPath,bResourceToQuery⟩⟩,bUses⟩
  simp only at h
  obtain⟨rfl,rfl,rfl,rfl,rfl,rfl,rfl⟩:=h
  rfl
def GPart.size(x:GPart):Nat:=(x.Resource.size)
structure GPiece where
 From:Int
 Count:Int
 New:List Int
 deriving DecidableEq
def GPiece.enc(x:GPiece):List T:=[tI x.From,tI x.Count,.sl 1 (x.New.map encI)]
def GPiece.dt:DT:= .st (.fc .int (.fc .int (.fc (.sl .int) .fn)))
theorem GPiece.of{ts:List T}(h:IsT GPiece.dt ts):∃x:GPiece,ts=x.enc:=by
 simp only[GPiece.dt,IsT]at h
 obtain⟨_,_,rfl,⟨v0,rfl⟩,_,_,rfl,⟨v1,rfl⟩,_,_,rfl,⟨l2,rfl,k2⟩,rfl⟩:=h
 obtain⟨v2,rfl⟩:=Kl K3i k2
 exact⟨⟨v0,v1,v2⟩,rfl⟩
theorem GPiece.eqv{x y:GPiece}:x=y↔x.From=y.From∧x.Count=y.Count∧x.New=y.New:=by
 constructor
 ·rintro rfl;simp
 ·intro h
  rcases x with ⟨aFrom,aCount,aNew⟩
  rcases y with ⟨bFrom,bCount,bNew⟩
  simp only at h
  obtain⟨rfl,rfl,rfl⟩:=h
  rfl
def GPiece.size(x:GPiece):Nat:=(x.New.length)
structure GVersion where
 Address:GAddress
 From:Int
 Resource:GResource
 deriving DecidableEq
def GVersion.enc(x:GVersion):List T:=[tI x.Address.Host,tI x.Address.Path,tI x.Address.Query,tI x.From,tI x.Resource.Kind,.sl 1 (x.Resource.Body.map encI),tI x.Resource.To.Host,tI x.Resource.To.Path,tI x.Resource.To.Query]
def GVersion.dt:DT:= .st (.fc GAddress.dt (.fc .int (.fc GResource.dt .fn)))
theorem GVersion.of{ts:List T}(h:IsT GVersion.dt ts):∃x:GVersion,ts=x.enc:=by
 simp only[GVersion.dt,IsT]at h
 obtain⟨_,_,rfl,k0,_,_,rfl,⟨v1,rfl⟩,_,_,rfl,k2,rfl⟩:=h
 obtain⟨v0,rfl⟩:=GAddress.of k0
 obtain⟨v2,rfl⟩:=GResource.of k2
 exact⟨⟨v0,v1,v2⟩,rfl⟩
theorem GVersion.eqv{x y:GVersion}:x=y↔x.Address.Host=y.Address.Host∧x.Address.Path=y.Address.Path∧x.Address.Query=y.Address.Query∧x.From=y.From∧x.Resource.Kind=y.Resource.Kind∧x.Resource.Body=y.Resource.Body∧x.Resource.To.Host=y.Resource.To.Host∧x.Resource.To.Path=y.Resource.To.Path∧x.Resource.To.Query=y.Resource.To.Query:=by
 constructor
 ·rintro rfl;simp
 ·intro h
  rcases x with ⟨⟨aAddressHost,aAddressPath,aAddressQuery⟩,aFrom,⟨aResourceKind,aResourceBody,⟨aResourceToHost,aResourceToPath,aResourceToQuery⟩⟩⟩
  rcases y with ⟨⟨bAddressHost,bAddressPath,bAddressQuery⟩,bFrom,⟨bResourceKind,bResourceBody,⟨bResourceToHost,bResourceToPath,bResourceToQuery⟩⟩⟩
  simp only at h
  obtain⟨rfl,rfl,rfl,rfl,rfl,rfl,rfl,rfl,rfl⟩:=h
  rfl
def GVersion.size(x:GVersion):Nat:=(x.Resource.size)
structure GOp where
 Kind:Int
 A:Int
 B:Int
 C:Int
 deriving DecidableEq
def GOp.enc(x:GOp):List T:=[tI x.Kind,tI x.A,tI x.B,tI x.C]
def GOp.dt:DT:= .st (.fc .int (.fc .int (.fc .int (.fc .int .fn))))
theorem GOp.of{ts:List T}(h:IsT GOp.dt ts):∃x:GOp,ts=x.enc:=by
 simp only[GOp.dt,IsT]at h
 obtain⟨_,_,rfl,⟨v0,rfl⟩,_,_,rfl,⟨v1,rfl⟩,_,_,rfl,⟨v2,rfl⟩,_,_,rfl,⟨v3,rfl⟩,rfl⟩:=h
 exact⟨⟨v0,v1,v2,v3⟩,rfl⟩
theorem GOp.eqv{x y:GOp}:x=y↔x.Kind=y.Kind∧x.A=y.A∧x.B=y.B∧x.C=y.C:=by
 constructor
 ·rintro rfl;simp
 ·intro h
  rcases x with ⟨aKind,aA,aB,aC⟩
  rcases y with ⟨bKind,bA,bB,bC⟩
  simp only at h
  obtain⟨rfl,rfl,rfl,rfl⟩:=h
  rfl
structure GState where
 Pc:Int
 Regs:List Int
 Slots:List Int
 Nodes:List Int
 deriving DecidableEq
def GState.enc(x:GState):List T:=[tI x.Pc,.sl 1 (x.Regs.map encI),.sl 1 (x.Slots.map encI),.sl 1 (x.Nodes.map encI)]
def GState.dt:DT:= .st (.fc .int (.fc (.sl .int) (.fc (.sl .int) (.fc (.sl .int) .fn))))
theorem GState.of{ts:List T}(h:IsT GState.dt ts):∃x:GState,ts=x.enc:=by
 simp only[GState.dt,IsT]at h
 obtain⟨_,_,rfl,⟨v0,rfl⟩,_,_,rfl,⟨l1,rfl,k1⟩,_,_,rfl,⟨l2,rfl,k2⟩,_,_,rfl,⟨l3,rfl,k3⟩,rfl⟩:=h
 obtain⟨v1,rfl⟩:=Kl K3i k1
 obtain⟨v2,rfl⟩:=Kl K3i k2
 obtain⟨v3,rfl⟩:=Kl K3i k3
 exact⟨⟨v0,v1,v2,v3⟩,rfl⟩
theorem GState.eqv{x y:GState}:x=y↔x.Pc=y.Pc∧x.Regs=y.Regs∧x.Slots=y.Slots∧x.Nodes=y.Nodes:=by
 constructor
 ·rintro rfl;simp
 ·intro h
  rcases x with ⟨aPc,aRegs,aSlots,aNodes⟩
  rcases y with ⟨bPc,bRegs,bSlots,bNodes⟩
  simp only at h
  obtain⟨rfl,rfl,rfl,rfl⟩:=h
  rfl
def GState.size(x:GState):Nat:=(x.Regs.length)+(x.Slots.length)+(x.Nodes.length)
structure GVisit where
 Site:List GVersion
 Tick:Int
 Seed:Int
 Inputs:List Int
 deriving DecidableEq
def GVisit.enc(x:GVisit):List T:=[.sl 9 (x.Site.map GVersion.enc),tI x.Tick,tI x.Seed,.sl 1 (x.Inputs.map encI)]
def GVisit.dt:DT:= .st (.fc (.sl GVersion.dt) (.fc .int (.fc .int (.fc (.sl .int) .fn))))
theorem GVisit.of{ts:List T}(h:IsT GVisit.dt ts):∃x:GVisit,ts=x.enc:=by
 simp only[GVisit.dt,IsT]at h
 obtain⟨_,_,rfl,⟨l0,rfl,k0⟩,_,_,rfl,⟨v1,rfl⟩,_,_,rfl,⟨v2,rfl⟩,_,_,rfl,⟨l3,rfl,k3⟩,rfl⟩:=h
 obtain⟨v0,rfl⟩:=Kl GVersion.of k0
 obtain⟨v3,rfl⟩:=Kl K3i k3
 exact⟨⟨v0,v1,v2,v3⟩,rfl⟩
theorem GVisit.eqv{x y:GVisit}:x=y↔x.Site=y.Site∧x.Tick=y.Tick∧x.Seed=y.Seed∧x.Inputs=y.Inputs:=by
 constructor
 ·rintro rfl;simp
 ·intro h
  rcases x with ⟨aSite,aTick,aSeed,aInputs⟩
  rcases y with ⟨bSite,bTick,bSeed,bInputs⟩
  simp only at h
  obtain⟨rfl,rfl,rfl,rfl⟩:=h
  rfl
def GVisit.size(x:GVisit):Nat:=(x.Site.length+(x.Site.map GVersion.size).sum)+(x.Inputs.length)
structure GWant where
 Kind:Int
 Address:GAddress
 deriving DecidableEq
def GWant.enc(x:GWant):List T:=[tI x.Kind,tI x.Address.Host,tI x.Address.Path,tI x.Address.Query]
def GWant.dt:DT:= .st (.fc .int (.fc GAddress.dt .fn))
theorem GWant.of{ts:List T}(h:IsT GWant.dt ts):∃x:GWant,ts=x.enc:=by
 simp only[GWant.dt,IsT]at h
 obtain⟨_,_,rfl,⟨v0,rfl⟩,_,_,rfl,k1,rfl⟩:=h
 obtain⟨v1,rfl⟩:=GAddress.of k1
 exact⟨⟨v0,v1⟩,rfl⟩
theorem GWant.eqv{x y:GWant}:x=y↔x.Kind=y.Kind∧x.Address.Host=y.Address.Host∧x.Address.Path=y.Address.Path∧x.Address.Query=y.Address.Query:=by
 constructor
 ·rintro rfl;simp
 ·intro h
  rcases x with ⟨aKind,⟨aAddressHost,aAddressPath,aAddressQuery⟩⟩
  rcases y with ⟨bKind,⟨bAddressHost,bAddressPath,bAddressQuery⟩⟩
  simp only at h
  obtain⟨rfl,rfl,rfl,rfl⟩:=h
  rfl
structure GEntry where
 Kind:Int
 Address:GAddress
 Value:Int
 deriving DecidableEq
def GEntry.enc(x:GEntry):List T:=[tI x.Kind,tI x.Address.Host,tI x.Address.Path,tI x.Address.Query,tI x.Value]
def GEntry.dt:DT:= .st (.fc .int (.fc GAddress.dt (.fc .int .fn)))
theorem GEntry.of{ts:List T}(h:IsT GEntry.dt ts):∃x:GEntry,ts=x.enc:=by
 simp only[GEntry.dt,IsT]at h
 obtain⟨_,_,rfl,⟨v0,rfl⟩,_,_,rfl,k1,_,_,rfl,⟨v2,rfl⟩,rfl⟩:=h
 obtain⟨v1,rfl⟩:=GAddress.of k1
 exact⟨⟨v0,v1,v2⟩,rfl⟩
theorem GEntry.eqv{x y:GEntry}:x=y↔x.Kind=y.Kind∧x.Address.Host=y.Address.Host∧x.Address.Path=y.Address.Path∧x.Address.Query=y.Address.Query∧x.Value=y.Value:=by
 constructor
 ·rintro rfl;simp
 ·intro h
  rcases x with ⟨aKind,⟨aAddressHost,aAddressPath,aAddressQuery⟩,aValue⟩
  rcases y with ⟨bKind,⟨bAddressHost,bAddressPath,bAddressQuery⟩,bValue⟩
  simp only at h
  obtain⟨rfl,rfl,rfl,rfl,rfl⟩:=h
  rfl
structure GCapture where
 Address:GAddress
 Tick:Int
 Resource:GResource
 deriving DecidableEq
def GCapture.enc(x:GCapture):List T:=[tI x.Address.Host,tI x.Address.Path,tI x.Address.Query,tI x.Tick,tI x.Resource.Kind,.sl 1 (x.Resource.Body.map encI),tI x.Resource.To.Host,tI x.Resource.To.Path,tI x.Resource.To.Query]
def GCapture.dt:DT:= .st (.fc GAddress.dt (.fc .int (.fc GResource.dt .fn)))
theorem GCapture.of{ts:List T}(h:IsT GCapture.dt ts):∃x:GCapture,ts=x.enc:=by
 simp only[GCapture.dt,IsT]at h
 obtain⟨_,_,rfl,k0,_,_,rfl,⟨v1,rfl⟩,_,_,rfl,k2,rfl⟩:=h
 obtain⟨v0,rfl⟩:=GAddress.of k0
 obtain⟨v2,rfl⟩:=GResource.of k2
 exact⟨⟨v0,v1,v2⟩,rfl⟩
theorem GCapture.eqv{x y:GCapture}:x=y↔x.Address.Host=y.Address.Host∧x.Address.Path=y.Address.Path∧x.Address.Query=y.Address.Query∧x.Tick=y.Tick∧x.Resource.Kind=y.Resource.Kind∧x.Resource.Body=y.Resource.Body∧x.Resource.To.Host=y.Resource.To.Host∧x.Resource.To.Path=y.Resource.To.Path∧x.Resource.To.Query=y.Resource.To.Query:=by
 constructor
 ·rintro rfl;simp
 ·intro h
  rcases x with ⟨⟨aAddressHost,aAddressPath,aAddressQuery⟩,aTick,⟨aResourceKind,aResourceBody,⟨aResourceToHost,aResourceToPath,aResourceToQuery⟩⟩⟩
  rcases y with ⟨⟨bAddressHost,bAddressPath,bAddressQuery⟩,bTick,⟨bResourceKind,bResourceBody,⟨bResourceToHost,bResourceToPath,bResourceToQuery⟩⟩⟩
  simp only at h
  obtain⟨rfl,rfl,rfl,rfl,rfl,rfl,rfl,rfl,rfl⟩:=h
  rfl
def GCapture.size(x:GCapture):Nat:=(x.Resource.size)
structure GChoice where
 Rule:Int
 At:Int
 deriving DecidableEq
def GChoice.enc(x:GChoice):List T:=[tI x.Rule,tI x.At]
def GChoice.dt:DT:= .st (.fc .int (.fc .int .fn))
theorem GChoice.of{ts:List T}(h:IsT GChoice.dt ts):∃x:GChoice,ts=x.enc:=by
 simp only[GChoice.dt,IsT]at h
 obtain⟨_,_,rfl,⟨v0,rfl⟩,_,_,rfl,⟨v1,rfl⟩,rfl⟩:=h
 exact⟨⟨v0,v1⟩,rfl⟩
theorem GChoice.eqv{x y:GChoice}:x=y↔x.Rule=y.Rule∧x.At=y.At:=by
 constructor
 ·rintro rfl;simp
 ·intro h
  rcases x with ⟨aRule,aAt⟩
  rcases y with ⟨bRule,bAt⟩
  simp only at h
  obtain⟨rfl,rfl⟩:=h
  rfl
structure GWander where
 State:GState
 Choices:List GChoice
 Labels:List Int
 Missing:Int
 deriving DecidableEq
def GWander.enc(x:GWander):List T:=[tI x.State.Pc,.sl 1 (x.State.Regs.map encI),.sl 1 (x.State.Slots.map encI),.sl 1 (x.State.Nodes.map encI),.sl 2 (x.Choices.map GChoice.enc),.sl 1 (x.Labels.map encI),tI x.Missing]
def GWander.dt:DT:= .st (.fc GState.dt (.fc (.sl GChoice.dt) (.fc (.sl .int) (.fc .int .fn))))
theorem GWander.of{ts:List T}(h:IsT GWander.dt ts):∃x:GWander,ts=x.enc:=by
 simp only[GWander.dt,IsT]at h
 obtain⟨_,_,rfl,k0,_,_,rfl,⟨l1,rfl,k1⟩,_,_,rfl,⟨l2,rfl,k2⟩,_,_,rfl,⟨v3,rfl⟩,rfl⟩:=h
 obtain⟨v0,rfl⟩:=GState.of k0
 obtain⟨v1,rfl⟩:=Kl GChoice.of k1
 obtain⟨v2,rfl⟩:=Kl K3i k2
 exact⟨⟨v0,v1,v2,v3⟩,rfl⟩
theorem GWander.eqv{x y:GWander}:x=y↔x.State.Pc=y.State.Pc∧x.State.Regs=y.State.Regs∧x.State.Slots=y.State.Slots∧x.State.Nodes=y.State.Nodes∧x.Choices=y.Choices∧x.Labels=y.Labels∧x.Missing=y.Missing:=by
 constructor
 ·rintro rfl;simp
 ·intro h
  rcases x with ⟨⟨aStatePc,aStateRegs,aStateSlots,aStateNodes⟩,aChoices,aLabels,aMissing⟩
  rcases y with ⟨⟨bStatePc,bStateRegs,bStateSlots,bStateNodes⟩,bChoices,bLabels,bMissing⟩
  simp only at h
  obtain⟨rfl,rfl,rfl,rfl,rfl,rfl,rfl⟩:=h
  rfl
def GWander.size(x:GWander):Nat:=(x.State.size)+(x.Choices.length)+(x.Labels.length)
structure GModel where
 Base:Int
 Step:Int
 Seen:Int
 Fits:Bool
 deriving DecidableEq
def GModel.enc(x:GModel):List T:=[tI x.Base,tI x.Step,tI x.Seen,tB x.Fits]
def GModel.dt:DT:= .st (.fc .int (.fc .int (.fc .int (.fc .bool .fn))))
theorem GModel.of{ts:List T}(h:IsT GModel.dt ts):∃x:GModel,ts=x.enc:=by
 simp only[GModel.dt,IsT]at h
 obtain⟨_,_,rfl,⟨v0,rfl⟩,_,_,rfl,⟨v1,rfl⟩,_,_,rfl,⟨v2,rfl⟩,_,_,rfl,⟨v3,rfl⟩,rfl⟩:=h
 exact⟨⟨v0,v1,v2,v3⟩,rfl⟩
theorem GModel.eqv{x y:GModel}:x=y↔x.Base=y.Base∧x.Step=y.Step∧x.Seen=y.Seen∧x.Fits=y.Fits:=by
 constructor
 ·rintro rfl;simp
 ·intro h
  rcases x with ⟨aBase,aStep,aSeen,aFits⟩
  rcases y with ⟨bBase,bStep,bSeen,bFits⟩
  simp only at h
  obtain⟨rfl,rfl,rfl,rfl⟩:=h
  rfl
structure GShown where
 Tick:Int
 Address:GAddress
 deriving DecidableEq
def GShown.enc(x:GShown):List T:=[tI x.Tick,tI x.Address.Host,tI x.Address.Path,tI x.Address.Query]
def GShown.dt:DT:= .st (.fc .int (.fc GAddress.dt .fn))
theorem GShown.of{ts:List T}(h:IsT GShown.dt ts):∃x:GShown,ts=x.enc:=by
 simp only[GShown.dt,IsT]at h
 obtain⟨_,_,rfl,⟨v0,rfl⟩,_,_,rfl,k1,rfl⟩:=h
 obtain⟨v1,rfl⟩:=GAddress.of k1
 exact⟨⟨v0,v1⟩,rfl⟩
theorem GShown.eqv{x y:GShown}:x=y↔x.Tick=y.Tick∧x.Address.Host=y.Address.Host∧x.Address.Path=y.Address.Path∧x.Address.Query=y.Address.Query:=by
 constructor
 ·rintro rfl;simp
 ·intro h
  rcases x with ⟨aTick,⟨aAddressHost,aAddressPath,aAddressQuery⟩⟩
  rcases y with ⟨bTick,⟨bAddressHost,bAddressPath,bAddressQuery⟩⟩
  simp only at h
  obtain⟨rfl,rfl,rfl,rfl⟩:=h
  rfl
structure GLeaf where
 Value:Int
 Salt:Int
 Hidden:Bool
 Seal:Int
 deriving DecidableEq
def GLeaf.enc(x:GLeaf):List T:=[tI x.Value,tI x.Salt,tB x.Hidden,tI x.Seal]
def GLeaf.dt:DT:= .st (.fc .int (.fc .int (.fc .bool (.fc .int .fn))))
theorem GLeaf.of{ts:List T}(h:IsT GLeaf.dt ts):∃x:GLeaf,ts=x.enc:=by
 simp only[GLeaf.dt,IsT]at h
 obtain⟨_,_,rfl,⟨v0,rfl⟩,_,_,rfl,⟨v1,rfl⟩,_,_,rfl,⟨v2,rfl⟩,_,_,rfl,⟨v3,rfl⟩,rfl⟩:=h
 exact⟨⟨v0,v1,v2,v3⟩,rfl⟩
theorem GLeaf.eqv{x y:GLeaf}:x=y↔x.Value=y.Value∧x.Salt=y.Salt∧x.Hidden=y.Hidden∧x.Seal=y.Seal:=by
 constructor
 ·rintro rfl;simp
 ·intro h
  rcases x with ⟨aValue,aSalt,aHidden,aSeal⟩
  rcases y with ⟨bValue,bSalt,bHidden,bSeal⟩
  simp only at h
  obtain⟨rfl,rfl,rfl,rfl⟩:=h
  rfl
structure GEdition where
 Captures:List GCapture
 From:Int
 Until:Int
 Hidden:List GAddress
 deriving DecidableEq
def GEdition.enc(x:GEdition):List T:=[.sl 9 (x.Captures.map GCapture.enc),tI x.From,tI x.Until,.sl 3 (x.Hidden.map GAddress.enc)]
def GEdition.dt:DT:= .st (.fc (.sl GCapture.dt) (.fc .int (.fc .int (.fc (.sl GAddress.dt) .fn))))
theorem GEdition.of{ts:List T}(h:IsT GEdition.dt ts):∃x:GEdition,ts=x.enc:=by
 simp only[GEdition.dt,IsT]at h
 obtain⟨_,_,rfl,⟨l0,rfl,k0⟩,_,_,rfl,⟨v1,rfl⟩,_,_,rfl,⟨v2,rfl⟩,_,_,rfl,⟨l3,rfl,k3⟩,rfl⟩:=h
 obtain⟨v0,rfl⟩:=Kl GCapture.of k0
 obtain⟨v3,rfl⟩:=Kl GAddress.of k3
 exact⟨⟨v0,v1,v2,v3⟩,rfl⟩
theorem GEdition.eqv{x y:GEdition}:x=y↔x.Captures=y.Captures∧x.From=y.From∧x.Until=y.Until∧x.Hidden=y.Hidden:=by
 constructor
 ·rintro rfl;simp
 ·intro h
  rcases x with ⟨aCaptures,aFrom,aUntil,aHidden⟩
  rcases y with ⟨bCaptures,bFrom,bUntil,bHidden⟩
  simp only at h
  obtain⟨rfl,rfl,rfl,rfl⟩:=h
  rfl
def GEdition.size(x:GEdition):Nat:=(x.Captures.length+(x.Captures.map GCapture.size).sum)+(x.Hidden.length)
structure GExclusion where
 Host:Int
 Path:Int
 From:Int
 Until:Int
 Asked:Int
 deriving DecidableEq
def GExclusion.enc(x:GExclusion):List T:=[tI x.Host,tI x.Path,tI x.From,tI x.Until,tI x.Asked]
def GExclusion.dt:DT:= .st (.fc .int (.fc .int (.fc .int (.fc .int (.fc .int .fn)))))
theorem GExclusion.of{ts:List T}(h:IsT GExclusion.dt ts):∃x:GExclusion,ts=x.enc:=by
 simp only[GExclusion.dt,IsT]at h
 obtain⟨_,_,rfl,⟨v0,rfl⟩,_,_,rfl,⟨v1,rfl⟩,_,_,rfl,⟨v2,rfl⟩,_,_,rfl,⟨v3,rfl⟩,_,_,rfl,⟨v4,rfl⟩,rfl⟩:=h
 exact⟨⟨v0,v1,v2,v3,v4⟩,rfl⟩
theorem GExclusion.eqv{x y:GExclusion}:x=y↔x.Host=y.Host∧x.Path=y.Path∧x.From=y.From∧x.Until=y.Until∧x.Asked=y.Asked:=by
 constructor
 ·rintro rfl;simp
 ·intro h
  rcases x with ⟨aHost,aPath,aFrom,aUntil,aAsked⟩
  rcases y with ⟨bHost,bPath,bFrom,bUntil,bAsked⟩
  simp only at h
  obtain⟨rfl,rfl,rfl,rfl,rfl⟩:=h
  rfl
structure GStatement where
 Witness:Int
 Digest:Int
 Tick:Int
 Seal:Int
 deriving DecidableEq
def GStatement.enc(x:GStatement):List T:=[tI x.Witness,tI x.Digest,tI x.Tick,tI x.Seal]
def GStatement.dt:DT:= .st (.fc .int (.fc .int (.fc .int (.fc .int .fn))))
theorem GStatement.of{ts:List T}(h:IsT GStatement.dt ts):∃x:GStatement,ts=x.enc:=by
 simp only[GStatement.dt,IsT]at h
 obtain⟨_,_,rfl,⟨v0,rfl⟩,_,_,rfl,⟨v1,rfl⟩,_,_,rfl,⟨v2,rfl⟩,_,_,rfl,⟨v3,rfl⟩,rfl⟩:=h
 exact⟨⟨v0,v1,v2,v3⟩,rfl⟩
theorem GStatement.eqv{x y:GStatement}:x=y↔x.Witness=y.Witness∧x.Digest=y.Digest∧x.Tick=y.Tick∧x.Seal=y.Seal:=by
 constructor
 ·rintro rfl;simp
 ·intro h
  rcases x with ⟨aWitness,aDigest,aTick,aSeal⟩
  rcases y with ⟨bWitness,bDigest,bTick,bSeal⟩
  simp only at h
  obtain⟨rfl,rfl,rfl,rfl⟩:=h
  rfl
structure GLibrary where
 Id:Int
 Digests:List Int
 Up:Bool
 Lies:Bool
 deriving DecidableEq
def GLibrary.enc(x:GLibrary):List T:=[tI x.Id,.sl 1 (x.Digests.map encI),tB x.Up,tB x.Lies]
def GLibrary.dt:DT:= .st (.fc .int (.fc (.sl .int) (.fc .bool (.fc .bool .fn))))
theorem GLibrary.of{ts:List T}(h:IsT GLibrary.dt ts):∃x:GLibrary,ts=x.enc:=by
 simp only[GLibrary.dt,IsT]at h
 obtain⟨_,_,rfl,⟨v0,rfl⟩,_,_,rfl,⟨l1,rfl,k1⟩,_,_,rfl,⟨v2,rfl⟩,_,_,rfl,⟨v3,rfl⟩,rfl⟩:=h
 obtain⟨v1,rfl⟩:=Kl K3i k1
 exact⟨⟨v0,v1,v2,v3⟩,rfl⟩
theorem GLibrary.eqv{x y:GLibrary}:x=y↔x.Id=y.Id∧x.Digests=y.Digests∧x.Up=y.Up∧x.Lies=y.Lies:=by
 constructor
 ·rintro rfl;simp
 ·intro h
  rcases x with ⟨aId,aDigests,aUp,aLies⟩
  rcases y with ⟨bId,bDigests,bUp,bLies⟩
  simp only at h
  obtain⟨rfl,rfl,rfl,rfl⟩:=h
  rfl
def GLibrary.size(x:GLibrary):Nat:=(x.Digests.length)
structure GContainer where
 Script:List GOp
 Entries:List GEntry
 Captures:List GCapture
 Root:Int
 deriving DecidableEq
def GContainer.enc(x:GContainer):List T:=[.sl 4 (x.Script.map GOp.enc),.sl 5 (x.Entries.map GEntry.enc),.sl 9 (x.Captures.map GCapture.enc),tI x.Root]
def GContainer.dt:DT:= .st (.fc (.sl GOp.dt) (.fc (.sl GEntry.dt) (.fc (.sl GCapture.dt) (.fc .int .fn))))
theorem GContainer.of{ts:List T}(h:IsT GContainer.dt ts):∃x:GContainer,ts=x.enc:=by
 simp only[GContainer.dt,IsT]at h
 obtain⟨_,_,rfl,⟨l0,rfl,k0⟩,_,_,rfl,⟨l1,rfl,k1⟩,_,_,rfl,⟨l2,rfl,k2⟩,_,_,rfl,⟨v3,rfl⟩,rfl⟩:=h
 obtain⟨v0,rfl⟩:=Kl GOp.of k0
 obtain⟨v1,rfl⟩:=Kl GEntry.of k1
 obtain⟨v2,rfl⟩:=Kl GCapture.of k2
 exact⟨⟨v0,v1,v2,v3⟩,rfl⟩
theorem GContainer.eqv{x y:GContainer}:x=y↔x.Script=y.Script∧x.Entries=y.Entries∧x.Captures=y.Captures∧x.Root=y.Root:=by
 constructor
 ·rintro rfl;simp
 ·intro h
  rcases x with ⟨aScript,aEntries,aCaptures,aRoot⟩
  rcases y with ⟨bScript,bEntries,bCaptures,bRoot⟩
  simp only at h
  obtain⟨rfl,rfl,rfl,rfl⟩:=h
  rfl
def GContainer.size(x:GContainer):Nat:=(x.Script.length)+(x.Entries.length)+(x.Captures.length+(x.Captures.map GCapture.size).sum)
structure GFound where
 Address:GAddress
 Tick:Int
 Container:Int
 At:Int
 deriving DecidableEq
def GFound.enc(x:GFound):List T:=[tI x.Address.Host,tI x.Address.Path,tI x.Address.Query,tI x.Tick,tI x.Container,tI x.At]
def GFound.dt:DT:= .st (.fc GAddress.dt (.fc .int (.fc .int (.fc .int .fn))))
theorem GFound.of{ts:List T}(h:IsT GFound.dt ts):∃x:GFound,ts=x.enc:=by
 simp only[GFound.dt,IsT]at h
 obtain⟨_,_,rfl,k0,_,_,rfl,⟨v1,rfl⟩,_,_,rfl,⟨v2,rfl⟩,_,_,rfl,⟨v3,rfl⟩,rfl⟩:=h
 obtain⟨v0,rfl⟩:=GAddress.of k0
 exact⟨⟨v0,v1,v2,v3⟩,rfl⟩
theorem GFound.eqv{x y:GFound}:x=y↔x.Address.Host=y.Address.Host∧x.Address.Path=y.Address.Path∧x.Address.Query=y.Address.Query∧x.Tick=y.Tick∧x.Container=y.Container∧x.At=y.At:=by
 constructor
 ·rintro rfl;simp
 ·intro h
  rcases x with ⟨⟨aAddressHost,aAddressPath,aAddressQuery⟩,aTick,aContainer,aAt⟩
  rcases y with ⟨⟨bAddressHost,bAddressPath,bAddressQuery⟩,bTick,bContainer,bAt⟩
  simp only at h
  obtain⟨rfl,rfl,rfl,rfl,rfl,rfl⟩:=h
  rfl
structure GDisk where
 Containers:List GContainer
 Index:List GFound
 Wanted:List GContainer
 deriving DecidableEq
def GDisk.enc(x:GDisk):List T:=[.sl 4 (x.Containers.map GContainer.enc),.sl 6 (x.Index.map GFound.enc),.sl 4 (x.Wanted.map GContainer.enc)]
def GDisk.dt:DT:= .st (.fc (.sl GContainer.dt) (.fc (.sl GFound.dt) (.fc (.sl GContainer.dt) .fn)))
theorem GDisk.of{ts:List T}(h:IsT GDisk.dt ts):∃x:GDisk,ts=x.enc:=by
 simp only[GDisk.dt,IsT]at h
 obtain⟨_,_,rfl,⟨l0,rfl,k0⟩,_,_,rfl,⟨l1,rfl,k1⟩,_,_,rfl,⟨l2,rfl,k2⟩,rfl⟩:=h
 obtain⟨v0,rfl⟩:=Kl GContainer.of k0
 obtain⟨v1,rfl⟩:=Kl GFound.of k1
 obtain⟨v2,rfl⟩:=Kl GContainer.of k2
 exact⟨⟨v0,v1,v2⟩,rfl⟩
theorem GDisk.eqv{x y:GDisk}:x=y↔x.Containers=y.Containers∧x.Index=y.Index∧x.Wanted=y.Wanted:=by
 constructor
 ·rintro rfl;simp
 ·intro h
  rcases x with ⟨aContainers,aIndex,aWanted⟩
  rcases y with ⟨bContainers,bIndex,bWanted⟩
  simp only at h
  obtain⟨rfl,rfl,rfl⟩:=h
  rfl
def GDisk.size(x:GDisk):Nat:=(x.Containers.length+(x.Containers.map GContainer.size).sum)+(x.Index.length)+(x.Wanted.length+(x.Wanted.map GContainer.size).sum)
structure GArchive where
 Site:List GVersion
 Script:List GOp
 Disk:GDisk
 Exclusions:List GExclusion
 Libraries:List GLibrary
 Keys:List Int
 Statements:List GStatement
 Now:Int
 deriving DecidableEq
def GArchive.enc(x:GArchive):List T:=[.sl 9 (x.Site.map GVersion.enc),.sl 4 (x.Script.map GOp.enc),.sl 4 (x.Disk.Containers.map GContainer.enc),.sl 6 (x.Disk.Index.map GFound.enc),.sl 4 (x.Disk.Wanted.map GContainer.enc),.sl 5 (x.Exclusions.map GExclusion.enc),.sl 4 (x.Libraries.map GLibrary.enc),.sl 1 (x.Keys.map encI),.sl 4 (x.Statements.map GStatement.enc),tI x.Now]
def GArchive.dt:DT:= .st (.fc (.sl GVersion.dt) (.fc (.sl GOp.dt) (.fc GDisk.dt (.fc (.sl GExclusion.dt) (.fc (.sl GLibrary.dt) (.fc (.sl .int) (.fc (.sl GStatement.dt) (.fc .int .fn))))))))
theorem GArchive.of{ts:List T}(h:IsT GArchive.dt ts):∃x:GArchive,ts=x.enc:=by
 simp only[GArchive.dt,IsT]at h
 obtain⟨_,_,rfl,⟨l0,rfl,k0⟩,_,_,rfl,⟨l1,rfl,k1⟩,_,_,rfl,k2,_,_,rfl,⟨l3,rfl,k3⟩,_,_,rfl,⟨l4,rfl,k4⟩,_,_,rfl,⟨l5,rfl,k5⟩,_,_,rfl,⟨l6,rfl,k6⟩,_,_,rfl,⟨v7,rfl⟩,rfl⟩:=h
 obtain⟨v0,rfl⟩:=Kl GVersion.of k0
 obtain⟨v1,rfl⟩:=Kl GOp.of k1
 obtain⟨v2,rfl⟩:=GDisk.of k2
 obtain⟨v3,rfl⟩:=Kl GExclusion.of k3
 obtain⟨v4,rfl⟩:=Kl GLibrary.of k4
 obtain⟨v5,rfl⟩:=Kl K3i k5
 obtain⟨v6,rfl⟩:=Kl GStatement.of k6
 exact⟨⟨v0,v1,v2,v3,v4,v5,v6,v7⟩,rfl⟩
theorem GArchive.eqv{x y:GArchive}:x=y↔x.Site=y.Site∧x.Script=y.Script∧x.Disk.Containers=y.Disk.Containers∧x.Disk.Index=y.Disk.Index∧x.Disk.Wanted=y.Disk.Wanted∧x.Exclusions=y.Exclusions∧x.Libraries=y.Libraries∧x.Keys=y.Keys∧x.Statements=y.Statements∧x.Now=y.Now:=by
 constructor
 ·rintro rfl;simp
 ·intro h
  rcases x with ⟨aSite,aScript,⟨aDiskContainers,aDiskIndex,aDiskWanted⟩,aExclusions,aLibraries,aKeys,aStatements,aNow⟩
  rcases y with ⟨bSite,bScript,⟨bDiskContainers,bDiskIndex,bDiskWanted⟩,bExclusions,bLibraries,bKeys,bStatements,bNow⟩
  simp only at h
  obtain⟨rfl,rfl,rfl,rfl,rfl,rfl,rfl,rfl,rfl,rfl⟩:=h
  rfl
def GArchive.size(x:GArchive):Nat:=(x.Site.length+(x.Site.map GVersion.size).sum)+(x.Script.length)+(x.Disk.size)+(x.Exclusions.length)+(x.Libraries.length+(x.Libraries.map GLibrary.size).sum)+(x.Keys.length)+(x.Statements.length)
structure GEvent where
 Kind:Int
 N:Int
 Inputs:List Int
 Version:GVersion
 Exclusion:GExclusion
 deriving DecidableEq
def GEvent.enc(x:GEvent):List T:=[tI x.Kind,tI x.N,.sl 1 (x.Inputs.map encI),tI x.Version.Address.Host,tI x.Version.Address.Path,tI x.Version.Address.Query,tI x.Version.From,tI x.Version.Resource.Kind,.sl 1 (x.Version.Resource.Body.map encI),tI x.Version.Resource.To.Host,tI x.Version.Resource.To.Path,tI x.Version.Resource.To.Query,tI x.Exclusion.Host,tI x.Exclusion.Path,tI x.Exclusion.From,tI x.Exclusion.Until,tI x.Exclusion.Asked]
def GEvent.dt:DT:= .st (.fc .int (.fc .int (.fc (.sl .int) (.fc GVersion.dt (.fc GExclusion.dt .fn)))))
theorem GEvent.of{ts:List T}(h:IsT GEvent.dt ts):∃x:GEvent,ts=x.enc:=by
 simp only[GEvent.dt,IsT]at h
 obtain⟨_,_,rfl,⟨v0,rfl⟩,_,_,rfl,⟨v1,rfl⟩,_,_,rfl,⟨l2,rfl,k2⟩,_,_,rfl,k3,_,_,rfl,k4,rfl⟩:=h
 obtain⟨v2,rfl⟩:=Kl K3i k2
 obtain⟨v3,rfl⟩:=GVersion.of k3
 obtain⟨v4,rfl⟩:=GExclusion.of k4
 exact⟨⟨v0,v1,v2,v3,v4⟩,rfl⟩
theorem GEvent.eqv{x y:GEvent}:x=y↔x.Kind=y.Kind∧x.N=y.N∧x.Inputs=y.Inputs∧x.Version.Address.Host=y.Version.Address.Host∧x.Version.Address.Path=y.Version.Address.Path∧x.Version.Address.Query=y.Version.Address.Query∧x.Version.From=y.Version.From∧x.Version.Resource.Kind=y.Version.Resource.Kind∧x.Version.Resource.Body=y.Version.Resource.Body∧x.Version.Resource.To.Host=y.Version.Resource.To.Host∧x.Version.Resource.To.Path=y.Version.Resource.To.Path∧x.Version.Resource.To.Query=y.Version.Resource.To.Query∧x.Exclusion.Host=y.Exclusion.Host∧x.Exclusion.Path=y.Exclusion.Path∧x.Exclusion.From=y.Exclusion.From∧x.Exclusion.Until=y.Exclusion.Until∧x.Exclusion.Asked=y.Exclusion.Asked:=by
 constructor
 ·rintro rfl;simp
 ·intro h
  rcases x with ⟨aKind,aN,aInputs,⟨⟨aVersionAddressHost,aVersionAddressPath,aVersionAddressQuery⟩,aVersionFrom,⟨aVersionResourceKind,aVersionResourceBody,⟨aVersionResourceToHost,aVersionResourceToPath,aVersionResourceToQuery⟩⟩⟩,⟨aExclusionHost,aExclusionPath,aExclusionFrom,aExclusionUntil,aExclusionAsked⟩⟩
  rcases y with ⟨bKind,bN,bInputs,⟨⟨bVersionAddressHost,bVersionAddressPath,bVersionAddressQuery⟩,bVersionFrom,⟨bVersionResourceKind,bVersionResourceBody,⟨bVersionResourceToHost,bVersionResourceToPath,bVersionResourceToQuery⟩⟩⟩,⟨bExclusionHost,bExclusionPath,bExclusionFrom,bExclusionUntil,bExclusionAsked⟩⟩
  simp only at h
  obtain⟨rfl,rfl,rfl,rfl,rfl,rfl,rfl,rfl,rfl,rfl,rfl,rfl,rfl,rfl,rfl,rfl,rfl⟩:=h
  rfl
def GEvent.size(x:GEvent):Nat:=(x.Inputs.length)+(x.Version.size)
structure GChange where
 Tick:Int
 Digest:Int
 deriving DecidableEq
def GChange.enc(x:GChange):List T:=[tI x.Tick,tI x.Digest]
def GChange.dt:DT:= .st (.fc .int (.fc .int .fn))
theorem GChange.of{ts:List T}(h:IsT GChange.dt ts):∃x:GChange,ts=x.enc:=by
 simp only[GChange.dt,IsT]at h
 obtain⟨_,_,rfl,⟨v0,rfl⟩,_,_,rfl,⟨v1,rfl⟩,rfl⟩:=h
 exact⟨⟨v0,v1⟩,rfl⟩
theorem GChange.eqv{x y:GChange}:x=y↔x.Tick=y.Tick∧x.Digest=y.Digest:=by
 constructor
 ·rintro rfl;simp
 ·intro h
  rcases x with ⟨aTick,aDigest⟩
  rcases y with ⟨bTick,bDigest⟩
  simp only at h
  obtain⟨rfl,rfl⟩:=h
  rfl
structure GPlayed where
 Code:Int
 At:Int
 State:GState
 deriving DecidableEq
def GPlayed.enc(x:GPlayed):List T:=[tI x.Code,tI x.At,tI x.State.Pc,.sl 1 (x.State.Regs.map encI),.sl 1 (x.State.Slots.map encI),.sl 1 (x.State.Nodes.map encI)]
def GPlayed.dt:DT:= .st (.fc .int (.fc .int (.fc GState.dt .fn)))
theorem GPlayed.of{ts:List T}(h:IsT GPlayed.dt ts):∃x:GPlayed,ts=x.enc:=by
 simp only[GPlayed.dt,IsT]at h
 obtain⟨_,_,rfl,⟨v0,rfl⟩,_,_,rfl,⟨v1,rfl⟩,_,_,rfl,k2,rfl⟩:=h
 obtain⟨v2,rfl⟩:=GState.of k2
 exact⟨⟨v0,v1,v2⟩,rfl⟩
theorem GPlayed.eqv{x y:GPlayed}:x=y↔x.Code=y.Code∧x.At=y.At∧x.State.Pc=y.State.Pc∧x.State.Regs=y.State.Regs∧x.State.Slots=y.State.Slots∧x.State.Nodes=y.State.Nodes:=by
 constructor
 ·rintro rfl;simp
 ·intro h
  rcases x with ⟨aCode,aAt,⟨aStatePc,aStateRegs,aStateSlots,aStateNodes⟩⟩
  rcases y with ⟨bCode,bAt,⟨bStatePc,bStateRegs,bStateSlots,bStateNodes⟩⟩
  simp only at h
  obtain⟨rfl,rfl,rfl,rfl,rfl,rfl⟩:=h
  rfl
def GPlayed.size(x:GPlayed):Nat:=(x.State.size)
attribute [go_sem] encI encB GAddress.enc GResource.enc GPart.enc GPiece.enc GVersion.enc GOp.enc GState.enc GVisit.enc GWant.enc GEntry.enc GCapture.enc GChoice.enc GWander.enc GModel.enc GShown.enc GLeaf.enc GEdition.enc GExclusion.enc GStatement.enc GLibrary.enc GContainer.enc GFound.enc GDisk.enc GArchive.enc GEvent.enc GChange.enc GPlayed.enc
end Go.Proofs.YtpeabgkoknjojaaGreatDoorR
namespace Go.Proofs.YtpeabgkoknjojaaGreatDoorR
open Go Go.RowKit
open Nat (reduceEqDiff reduceLT reduceLeDiff reduceAdd reduceMul)
open List (reduceReplicate)
def szr(n:Nat)(left:Int):Int:=if (n:Int)≤left then left-n else -1
theorem K6o{n:Nat}{left:Int}(_:0≤left):szr n left<0↔left<n:=by unfold szr;split<;>omega
theorem K1w{n m:Nat}{left:Int}(_:0≤left)(h1:¬szr n left<0):0≤szr n left∧szr n left≤left∧szr (n+m) left=szr m (szr n left):=by
 unfold szr at*
 split at h1
 ·rename_i h2
  simp only[h2,if_true]
  refine⟨by omega,by omega,?_⟩
  split<;>split<;>omega
 ·omega
def own:List T→List (Bool×T)
 | []=>[]
 |.sl k es::l=>(true,.sl k es)::own l
 |t::l=>(false,t)::own l
@[go_sem] theorem own_nil:own []=[]:=rfl
@[go_sem] theorem own_sl {k es l}:own (.sl k es::l)=(true,.sl k es)::own l:=rfl
@[go_sem] theorem own_sc {v l}:own (.sc v::l)=(false,.sc v)::own l:=rfl
abbrev rS(ts:List T):RV:=⟨true,own ts⟩
abbrev rL(k:Nat)(es:List (List T)):RV:=⟨false,[(true,.sl k es)]⟩
abbrev aS(ts:List T):Bool×List T:=(true,ts)
attribute [go_sem] rS rL aS
def filled{α:Type}(f:α→List T)(z:List T)(xs:List α)(k:Nat):List (List T):=(xs.take k).map f++List.replicate (xs.length-k) z
section
variable {α:Type} {f:α→List T} {z:List T} {xs:List α} {k:Nat}
@[go_sem] theorem K1o (h:k≤xs.length):(filled f z xs k).length=xs.length:=by simp[filled];omega
theorem K1d:filled f z xs 0=List.replicate xs.length z:=by simp[filled]
theorem K1m:filled f z xs xs.length=xs.map f:=by simp[filled]
theorem K1n(h:k<xs.length):(filled f z xs k)[k]? =some z:=by
 unfold filled
 rw[List.getElem?_append_right (by simp;omega),List.getElem?_replicate,if_pos (by simp;omega)]
theorem K1p{x:α}(h:xs[k]? =some x):(filled f z xs k).set k (f x)=filled f z xs (k+1):=by
 have hk:=K9 h
 unfold filled
 rw[List.set_append_right _ _ (by simp;omega),K8 h]
 have e:xs.length-k=(xs.length-(k+1))+1:=by omega
 rw[e,List.replicate_succ]
 have e2:k-(List.map f (List.take k xs)).length=0:=by simp;omega
 rw[e2]
 simp
end
theorem Ku{α:Type}{xs ys:List α}{k:Nat}{x y:α}(hx:xs[k]? =some x)(hy:ys[k]? =some y)(h:xs.take k=ys.take k):xs.take (k+1)=ys.take (k+1)↔x=y:=by
 rw[K8 hx,K8 hy,h]
 simp
theorem K3d{α:Type} [DecidableEq α] {xs ys:List α}{k:Nat}{x y:α}(hx:xs[k]? =some x)(hy:ys[k]? =some y)(h:¬x=y):false=decide (xs=ys):=by
 symm
 rw[decide_eq_false_iff_not]
 rintro rfl
 rw[hx]at hy
 exact h (Option.some.inj hy)
theorem K2t{α:Type} [DecidableEq α] {xs ys:List α}(h:¬(xs.length:Int)=ys.length):false=decide (xs=ys):=by
 symm
 rw[decide_eq_false_iff_not]
 rintro rfl
 exact h rfl
theorem K2s{α:Type} [DecidableEq α] {xs ys:List α}(he:xs.take xs.length=ys.take xs.length)(hl:xs.length=ys.length):true=decide (xs=ys):=by
 symm
 rw[decide_eq_true_iff]
 rw[List.take_length]at he
 rw[he,hl,List.take_length]
theorem szr_bad'{n N:Nat}{left:Int}(h0:0≤left)(h:szr n left<0)(hn:n≤N): -1=szr N left:=by
 rw[K6o h0]at h
 unfold szr
 rw[if_neg (by omega)]
theorem szr_ok{n:Nat}{left:Int}(h:¬szr n left<0):(n:Int)≤left:=by
 unfold szr at h
 split at h<;>omega
theorem K77{α:Type}{f:α→Nat}{l:List α}{k:Nat}{x:α}(h:l[k]? =some x):((l.take (k+1)).map f).sum=((l.take k).map f).sum+f x:=by
 rw[K8 h];simp
theorem K2a{α:Type}{f:α→Nat}(l:List α)(k:Nat):((l.take k).map f).sum≤(l.map f).sum:=by
 have h:(l.map f).sum=((l.take k).map f).sum+((l.drop k).map f).sum:=by
  rw[←List.sum_append,←List.map_append,List.take_append_drop]
 omega
theorem K1i{α:Type}{f:α→Nat}{l:List α}{x:α}(h:x∈l):f x≤(l.map f).sum:=by
 induction l with
 |nil=>simp at h
 |cons y l ih=>
  rcases List.mem_cons.1 h with rfl|h
  ·simp
  ·have:=ih h;simp;omega
theorem Kby{α:Type}{l:List α}{k:Nat}{x:α}(h:l[k]? =some x):(l.take k).length+1=(l.take (k+1)).length:=by
 rw[K8 h];simp
theorem Kbz{α:Type}{f:α→List T}{l:List α}{k:Nat}{x:α}(h:l[k]? =some x):(l.take k).map f++[f x]=(l.take (k+1)).map f:=by
 rw[K8 h];simp
end Go.Proofs.YtpeabgkoknjojaaGreatDoorR
namespace Go.Proofs.YtpeabgkoknjojaaGreatDoorR
open Go Go.RowKit Go.Proofs
open Nat (reduceEqDiff reduceLT reduceLeDiff reduceAdd reduceMul)
open List (reduceReplicate)
theorem hmix:Tryz.prog.follows .mixedOrders=true:=by kernel_rfl
theorem cA{f:FuncId}{fn:Func}{c:Code}{args:List (Bool×List T)}{rs:List RV}(M:MC)(m n:Nat)(res:List (MR×List Bool))(hf:Tryz.prog.funcs[f]? =some fn)(hb:fn.body=some c)(hnt:fn.ntmps=n)
    (h : bdA args → wpC Tryz.prog M (kF res rs) (startS args n m)) (hname : (fn.name == "runtime.NumGoroutine") = false := by kernel_rfl) (hc : chkC Tryz.prog c M = true := by kernel_rfl) (hres : K1s Tryz.prog fn.results.toList (res.map (·.1)) = true := by kernel_rfl) (hn : args.length ≤ n := by exact Nat.le_of_ble_eq_true rfl) : Ctr Tryz.prog f args rs :=
  ctr_at hmix hf hb hname hnt hc hres hn h
abbrev Ne7:Nat:=3
abbrev Nbx:Nat:=4
abbrev Nec:Nat:=5
abbrev N2p:Nat:=6
abbrev Ne4:Nat:=7
abbrev Nbs:Nat:=8
abbrev Na2:Nat:=9
abbrev Nc0:Nat:=10
abbrev Nfq:Nat:=11
abbrev N63:Nat:=12
abbrev Na0:Nat:=13
abbrev N88:Nat:=14
abbrev N64:Nat:=15
abbrev Nc7:Nat:=16
abbrev Na9:Nat:=17
abbrev Nda:Nat:=18
abbrev Na8:Nat:=19
abbrev Na6:Nat:=20
abbrev Nc4:Nat:=21
abbrev Nfr:Nat:=22
abbrev N65:Nat:=23
abbrev Na4:Nat:=24
abbrev N42:Nat:=25
abbrev N66:Nat:=26
abbrev Nbp:Nat:=27
abbrev N9o:Nat:=28
abbrev Nd0:Nat:=29
abbrev N9n:Nat:=30
abbrev N9y:Nat:=31
abbrev Nbv:Nat:=32
abbrev Nfp:Nat:=33
abbrev N61:Nat:=34
abbrev N9w:Nat:=35
abbrev N41:Nat:=36
abbrev N62:Nat:=37
abbrev Nc1:Nat:=38
abbrev N2x:Nat:=39
abbrev Nd7:Nat:=40
abbrev Nbz:Nat:=41
abbrev N3d:Nat:=42
abbrev N3e:Nat:=43
abbrev Nfu:Nat:=44
abbrev N2a:Nat:=45
abbrev Nfs:Nat:=46
abbrev N67:Nat:=47
abbrev N0:Nat:=48
abbrev N4z:Nat:=49
abbrev Ndb:Nat:=50
abbrev N7z:Nat:=51
abbrev N2j:Nat:=52
abbrev N80:Nat:=53
abbrev Nac:Nat:=54
abbrev Nc5:Nat:=55
abbrev Nig:Nat:=56
abbrev N2y:Nat:=57
abbrev Nd9:Nat:=58
abbrev N7u:Nat:=59
abbrev Nc3:Nat:=60
abbrev N7v:Nat:=61
abbrev Nfk:Nat:=62
abbrev N28:Nat:=63
abbrev Nfi:Nat:=64
abbrev N5w:Nat:=65
abbrev N6:Nat:=66
abbrev N7l:Nat:=67
abbrev N37:Nat:=68
abbrev N7j:Nat:=69
abbrev N1:Nat:=70
abbrev N2:Nat:=71
abbrev N5y:Nat:=72
abbrev N4u:Nat:=73
abbrev N9p:Nat:=74
abbrev Nd2:Nat:=75
abbrev N7k:Nat:=76
abbrev N2g:Nat:=77
abbrev N7n:Nat:=78
abbrev N9t:Nat:=79
abbrev Nbw:Nat:=80
abbrev Nif:Nat:=81
abbrev N2w:Nat:=82
abbrev Nd5:Nat:=83
abbrev N7q:Nat:=84
abbrev Nbu:Nat:=85
abbrev N7r:Nat:=86
abbrev Na1:Nat:=87
abbrev N7s:Nat:=88
abbrev N3p:Nat:=89
abbrev N51:Nat:=90
abbrev Nz:Nat:=91
abbrev N2f:Nat:=92
abbrev Nhb:Nat:=93
abbrev N3c:Nat:=94
abbrev N52:Nat:=95
abbrev N6e:Nat:=96
abbrev N3o:Nat:=97
abbrev Nfv:Nat:=98
abbrev Nc6:Nat:=99
abbrev N4a:Nat:=100
abbrev N7w:Nat:=101
abbrev N2k:Nat:=102
abbrev Nes:Nat:=103
abbrev Naa:Nat:=104
abbrev Ndc:Nat:=105
abbrev N21:Nat:=106
abbrev Na5:Nat:=107
abbrev N7t:Nat:=108
abbrev Neb:Nat:=109
abbrev Nn:Nat:=110
abbrev Nd1:Nat:=111
abbrev N18:Nat:=112
abbrev N3l:Nat:=113
abbrev N1b:Nat:=114
abbrev N9q:Nat:=115
abbrev Nie:Nat:=116
abbrev N2v:Nat:=117
abbrev N2t:Nat:=118
abbrev Nh:Nat:=119
abbrev N3k:Nat:=120
abbrev Ne6:Nat:=121
abbrev Nj:Nat:=122
abbrev N38:Nat:=123
abbrev Ni:Nat:=124
abbrev Nfl:Nat:=125
abbrev N2m:Nat:=126
abbrev Nbo:Nat:=127
abbrev N13:Nat:=128
abbrev N2i:Nat:=129
abbrev N2l:Nat:=130
abbrev N47:Nat:=131
abbrev N7g:Nat:=132
abbrev Np:Nat:=133
abbrev N4x:Nat:=134
abbrev N9r:Nat:=135
abbrev Nd3:Nat:=136
abbrev N20:Nat:=137
abbrev N9x:Nat:=138
abbrev N7p:Nat:=139
abbrev Ne9:Nat:=140
abbrev Nd6:Nat:=141
abbrev N9z:Nat:=142
abbrev Nc8:Nat:=143
abbrev Nee:Nat:=144
abbrev N3n:Nat:=145
abbrev N7x:Nat:=146
abbrev N50:Nat:=147
abbrev Ncb:Nat:=148
abbrev Nfx:Nat:=149
abbrev N6d:Nat:=150
abbrev Nca:Nat:=151
abbrev Nfy:Nat:=152
abbrev N2b:Nat:=153
abbrev N68:Nat:=154
abbrev N49:Nat:=155
abbrev Nd8:Nat:=156
abbrev Na3:Nat:=157
abbrev Nv:Nat:=158
abbrev N39:Nat:=159
abbrev N1o:Nat:=160
abbrev N7m:Nat:=161
abbrev Nr:Nat:=162
abbrev N5x:Nat:=163
abbrev N2o:Nat:=164
abbrev N9l:Nat:=165
abbrev N3w:Nat:=166
abbrev Nfo:Nat:=167
abbrev N3m:Nat:=168
abbrev N4w:Nat:=169
abbrev Nfn:Nat:=170
abbrev N48:Nat:=171
abbrev N89:Nat:=172
abbrev N3f:Nat:=173
abbrev N7o:Nat:=176
abbrev N9m:Nat:=177
abbrev N24:Nat:=178
abbrev N22:Nat:=179
abbrev N2z:Nat:=180
abbrev N26:Nat:=181
abbrev N1l:Nat:=182
abbrev N2u:Nat:=183
abbrev N46:Nat:=184
abbrev Nd4:Nat:=185
abbrev N9v:Nat:=186
abbrev Nby:Nat:=187
abbrev N2s:Nat:=188
abbrev Ndj:Nat:=189
abbrev N43:Nat:=190
abbrev Nab:Nat:=191
abbrev Nae:Nat:=192
abbrev N81:Nat:=193
abbrev N4y:Nat:=194
abbrev Nad:Nat:=195
abbrev Nft:Nat:=196
abbrev Nfw:Nat:=197
abbrev Nc9:Nat:=198
abbrev Na7:Nat:=199
abbrev N19:Nat:=200
abbrev N3b:Nat:=201
abbrev Nea:Nat:=202
abbrev Nc2:Nat:=203
abbrev N3j:Nat:=204
abbrev N7h:Nat:=205
abbrev N4v:Nat:=206
abbrev N1t:Nat:=207
abbrev N4s:Nat:=208
abbrev Nb:Nat:=209
abbrev N3a:Nat:=210
abbrev Nbq:Nat:=211
abbrev N9u:Nat:=212
abbrev Nfj:Nat:=213
abbrev Nfm:Nat:=214
abbrev Nbr:Nat:=215
abbrev N3v:Nat:=228
abbrev N60:Nat:=229
abbrev N1m:Nat:=231
abbrev N17:Nat:=232
abbrev N36:Nat:=233
abbrev Ne8:Nat:=234
abbrev Nbt:Nat:=235
abbrev Njl:Nat:=236
abbrev N7y:Nat:=237
abbrev N34:Nat:=238
abbrev N8a:Nat:=239
abbrev Njk:Nat:=240
abbrev Ndd:Nat:=241
abbrev Ny:Nat:=242
abbrev N5v:Nat:=243
abbrev Ndi:Nat:=244
abbrev Nm:Nat:=245
abbrev N4t:Nat:=246
abbrev N2r:Nat:=247
abbrev N7i:Nat:=248
abbrev N29:Nat:=249
abbrev N1h:Nat:=250
abbrev N40:Nat:=251
abbrev N9s:Nat:=252
abbrev N9:Nat:=253
abbrev N5:Nat:=254
abbrev N6c:Nat:=255
abbrev N2h:Nat:=264
abbrev Nef:Nat:=265
abbrev N69:Nat:=266
abbrev Ned:Nat:=267
abbrev N12:Nat:=268
abbrev Nu:Nat:=269
abbrev Njj:Nat:=270
abbrev N5z:Nat:=271
abbrev N1s:Nat:=272
abbrev Ne5:Nat:=273
abbrev N44:Nat:=280
abbrev N8:Nat:=281
def Y0:MC:=
(Zs [.mv 4 (ci 0)] [0,1] (Zs [mS 5 1,mS 6 0,nS 7 6,bS 8 .sub 5 7,mS 1 8] [1] (.seq (Zs [mS 9 1,bC 10 .lss 9 0] [1,10] (.cond (.s 10) (Zs [.mv 4 (.c (.int .i64 (-1)))] [4] .ret) .skip))
(Zs [mS 11 1,mS 4 11] [4] .ret))))
attribute [go_sem] Y0
def Mf6:MC:=Y0
theorem C83(xs:List Int)(left:Int)(h0:0≤left):Ctr Tryz.prog N88 [aL 1 (xs.map encI),aI left] [rI (szr xs.length left)]:=by
 refine cA Mf6 0 12 [(.tmp 4,[false])] Tryz.func14 rfl rfl ?_;unfold Mf6
 intro hb
 simp only[bdA,bdL,bdT,K7,K15,roomB,and_true,List.length_map]at hb
 obtain⟨⟨hl,-⟩,hn⟩:=hb
 simp only[go_sem]
 rw[wI (by omega) (by omega)]
 unfold szr
 refine⟨fun h=>?_,fun h=>?_⟩
 ·rw[if_neg (by omega)]
 ·rw[if_pos (by omega)]
def Mf8:MC:=
(Zs [.nilo 2 0 1] [0] (Zs [mS 5 0,nS 6 5,.mk 7 0 1 8 [.sc (.int .i64 0)] (.s 6),mS 3 7] [0,3] (.seq (Zs [.mv 4 (ci 0)] [0,3,4] (.block 0 (.loop ([0,3,4],[]) (.seq (Zs [mS 8 4,mS 9 0,nS 10 9,bS 11 .lss 8 10] [0,3,4,11] (cX 11 0))
(.seq (.block 1 (pr [mS 14 3,mS 15 4,mS 16 0,mS 17 4,xS 18 1 16 17,lF 19 1 18,xS 20 1 14 15,sS 1 20 19] [0,3,4]))
(pr [mS 12 4,bC 13 .add 12 1,mS 4 13] [0,3,4]))))))
(Zs [mS 21 3,mS 2 21] [2] .ret))))
theorem C84(xs:List Int)(hs:xs.length≤1073741824):Ctr Tryz.prog N42 [aL 1 (xs.map encI)] [rL 1 (xs.map encI)]:=by
 refine cA Mf8 1 22 [(.tmp 2,[true])] Tryz.func25 rfl rfl ?_;unfold Mf8
 intro hb
 simp only[go_sem]
 refine⟨⟨by omega,by simp only[roomB];omega⟩,?_⟩
 refine K3 xs (fun k=>[(4,vI k)]) (fun k=>[(0,⟨0,.row true 1 (filled encI [tI 0] xs k)⟩)]) (fun _=>True) (by simp only[roomB];omega) ?_
 simp only[go_sem]
 refine⟨?_,trivial,?_,?_⟩
 ·simp only[go_sem,K1d]
  all_goals rfl
 ·intro k x hx _ h0 h1 hw
  have h:k<xs.length:=by omega
  simp only[go_sem,K1 hx,K1 (K1n h),K1o (Nat.le_of_lt h),h0,h1,hw]
  exact K1p hx
 ·intro _
  simp only[go_sem,K1m]
def Mf4:MC:=
(Zs [.mv 4 cF] [0,1] (.seq (Zs [mS 6 0,nS 7 6,mS 8 1,nS 9 8,bS 10 .neq 7 9] [0,1,10] (.cond (.s 10) (Zs [.mv 4 cF] [4] .ret) .skip))
(.seq (Zs [.mv 5 (ci 0)] [0,1,5] (.block 0 (.loop ([0,1,5],[]) (.seq (Zs [mS 11 5,mS 12 0,nS 13 12,bS 14 .lss 11 13] [0,1,5,14] (cX 14 0))
(.seq (.block 1 (.seq (.dreg [Zc [18,21,22,23,24] (mS 17 0),Zc [17,21,22,23,24] (mS 18 5),Zd [21,22,23,24] [0,1] (xS 19 1 17 18),Zd [21,22,23,24] [0,1,2] (lF 20 1 19),Zc [17,18,19,20,22] (mS 21 1),Zc [17,18,19,20,21] (mS 22 5),Zd [17,18,19,20] [4,5] (xS 23 1 21 22),Zd [17,18,19,20] [4,5,6] (lF 24 1 23),Ze (.range 8) (bS 25 .neq 20 24)] [0,1,5,25])
(.cond (.s 25) (Zs [.mv 4 cF] [4] .ret) .skip)))
(pr [mS 15 5,bC 16 .add 15 1,mS 5 16] [0,1,5]))))))
(Zs [.mv 4 cT] [4] .ret))))
theorem C82(xs ys:List Int):Ctr Tryz.prog N41 [aL 1 (xs.map encI),aL 1 (ys.map encI)] [rB (decide (xs=ys))]:=by
 refine cA Mf4 0 26 [(.tmp 4,[false])] Tryz.func36 rfl rfl ?_;unfold Mf4
 intro hb
 simp only[bdA,bdL,bdT,K7,roomB,and_true,List.length_map]at hb
 obtain⟨⟨hl,-⟩,⟨hl2,-⟩⟩:=hb
 simp only[go_sem]
 refine⟨fun h=>K2t h,fun h=>?_⟩
 have hle:xs.length=ys.length:=by omega
 refine K3 xs (fun k=>[(5,vI k)]) (fun k=>[]) (fun k=>xs.take k=ys.take k) hl ?_
 simp only[go_sem]
 refine⟨?_,rfl,?_,?_⟩
 ·simp only[go_sem]
 ·intro k x hx he h0 h1 hw
  obtain⟨y,hy⟩:=K5 (show k<ys.length by omega)
  have h2:(k:Int)<ys.length:=by omega
  simp only[go_sem,K1 hx,K1 hy,h0,h1,h2,hw]
  exact⟨fun hn=>K3d hx hy hn,fun hn=>(Ku hx hy he).2 hn⟩
 ·intro he
  simp only[go_sem]
  exact K2s he hle
def Mb9:MC:=
(Zs [.box 1 0 (.s 0),.alloc 2 1 [pz,pz,pz]] [1,2] (Zs [.alloc 3 2 [pz,pz,pz]] [1,2,3] (Zs [fS 4 1 0,lF 5 1 4,fS 6 3 0,sS 1 6 5] [1,2,3] (Zs [fS 7 1 1,lF 8 1 7,fS 9 3 1,sS 1 9 8] [1,2,3] (Zs [fS 10 1 2,lF 11 1 10,fS 12 3 2,sS 1 12 11] [2,3] (Zs [lT 13 3 3,sS 3 2 13] [2] .ret))))))
theorem C1x(x:GAddress):Ctr Tryz.prog N21 [aS x.enc] [rS x.enc]:=by
 refine cA Mb9 3 14 [(.cell 2 true 3,[false,false,false])] Tryz.func106 rfl rfl ?_;unfold Mb9
 intro hb
 simp only[go_sem]
def Mb0:MC:=
(Zs [.box 2 0 (.s 0),.box 3 1 (.s 1),.mv 4 cF] [2,3] (.seq (Zs [fS 5 2 0,lF 6 1 5,fS 7 3 0,lF 8 1 7,bS 9 .neq 6 8] [2,3,9] (.cond (.s 9) (Zs [.mv 4 cF] [4] .ret) .skip))
(.seq (Zs [fS 10 2 1,lF 11 1 10,fS 12 3 1,lF 13 1 12,bS 14 .neq 11 13] [2,3,14] (.cond (.s 14) (Zs [.mv 4 cF] [4] .ret) .skip))
(.seq (Zs [fS 15 2 2,lF 16 1 15,fS 17 3 2,lF 18 1 17,bS 19 .neq 16 18] [19] (.cond (.s 19) (Zs [.mv 4 cF] [4] .ret) .skip))
(Zs [.mv 4 cT] [4] .ret)))))
theorem C1w(x y:GAddress):Ctr Tryz.prog N20 [aS x.enc,aS y.enc] [rB (decide (x=y))]:=by
 refine cA Mb0 2 20 [(.tmp 4,[false])] Tryz.func137 rfl rfl ?_;unfold Mb0
 intro hb
 clear hb
 simp only[go_sem]
 refine⟨fun h=>?_,fun h_Host=>?_⟩
 ·symm
  rw[decide_eq_false_iff_not]
  rintro rfl
  exact h rfl
 refine⟨fun h=>?_,fun h_Path=>?_⟩
 ·symm
  rw[decide_eq_false_iff_not]
  rintro rfl
  exact h rfl
 refine⟨fun h=>?_,fun h_Query=>?_⟩
 ·symm
  rw[decide_eq_false_iff_not]
  rintro rfl
  exact h rfl
 cases x;cases y;simp_all
def Y1:MC:=
(Zs [.box 2 0 (.s 0),.mv 4 (ci 0)] [1,2] (Zs [fS 5 2 1,lF 6 1 5,mS 7 1,.call 8 [] (.f N88) [.s 6,.s 7],mS 1 8] [1] (.seq (Zs [mS 9 1,bC 10 .lss 9 0] [1,10] (.cond (.s 10) (Zs [.mv 4 (.c (.int .i64 (-1)))] [4] .ret) .skip))
(Zs [mS 11 1,mS 4 11] [4] .ret))))
attribute [go_sem] Y1
def M94:MC:=Y1
theorem C8f(x:GResource)(left:Int)(h0:0≤left):Ctr Tryz.prog Na1 [aS x.enc,aI left] [rI (szr x.size left)]:=by
 refine cA M94 1 12 [(.tmp 4,[false])] Tryz.func87 rfl rfl ?_;unfold M94
 intro hb
 simp only[go_sem]
 refine K0 (C83 x.Body left h0) ?_
 simp only[go_sem]
 intro _
 refine⟨fun h=>szr_bad' h0 h (by simp only[GResource.size];omega),fun h1=>?_⟩
 rfl
def M98:MC:=
(Zs [.box 1 0 (.s 0),.alloc 2 1 [pz,.emp 1,pz,pz,pz]] [1,2] (Zs [.alloc 3 2 [pz,.emp 1,pz,pz,pz]] [1,2,3] (Zs [fS 4 1 0,lF 5 1 4,fS 6 3 0,sS 1 6 5] [1,2,3] (Zs [fS 7 1 1,lF 8 1 7,.call 9 [3] (.f N42) [.s 8],fS 10 3 1,sS 1 10 9] [1,2,3] (Zs [fS 11 1 2,lT 12 3 11,.call 13 [] (.f N21) [.s 12],fS 14 3 2,sS 3 14 13] [2,3] (Zs [lT 15 5 3,sS 5 2 15] [2] .ret))))))
theorem C8g(x:GResource)(hs:x.size≤1073741824):Ctr Tryz.prog Na5 [aS x.enc] [rS x.enc]:=by
 refine cA M98 4 16 [(.cell 2 true 5,[false,true,false,false,false])] Tryz.func107 rfl rfl ?_;unfold M98
 intro hb
 simp only[GResource.size]at hs
 simp only[go_sem]
 refine K0 (C84 x.Body (by omega)) ?_
 simp only[go_sem]
 try intros
 refine K0 (C1x x.To) ?_
 simp only[go_sem]
 try intros
def M90:MC:=
(Zs [.box 2 0 (.s 0),.box 3 1 (.s 1),.mv 4 cF] [2,3] (.seq (Zs [fS 5 2 0,lF 6 1 5,fS 7 3 0,lF 8 1 7,bS 9 .neq 6 8] [2,3,9] (.cond (.s 9) (Zs [.mv 4 cF] [4] .ret) .skip))
(.seq (Zs [fS 10 2 1,lF 11 1 10,fS 12 3 1,lF 13 1 12,.call 14 [] (.f N41) [.s 11,.s 13],.un 15 .not (.s 14)] [2,3,15] (.cond (.s 15) (Zs [.mv 4 cF] [4] .ret) .skip))
(.seq (Zs [fS 16 2 2,lT 17 3 16,fS 18 3 2,lT 19 3 18,.call 20 [] (.f N20) [.s 17,.s 19],.un 21 .not (.s 20)] [21] (.cond (.s 21) (Zs [.mv 4 cF] [4] .ret) .skip))
(Zs [.mv 4 cT] [4] .ret)))))
theorem C8e(x y:GResource):Ctr Tryz.prog N9x [aS x.enc,aS y.enc] [rB (decide (x=y))]:=by
 refine cA M90 2 22 [(.tmp 4,[false])] Tryz.func138 rfl rfl ?_;unfold M90
 intro hb
 clear hb
 simp only[go_sem]
 refine⟨fun h=>?_,fun h_Kind=>?_⟩
 ·symm
  rw[decide_eq_false_iff_not]
  rintro rfl
  exact h rfl
 refine K0 (C82 x.Body y.Body) ?_
 simp only[go_sem]
 refine⟨fun h=>?_,fun h_Body=>?_⟩
 ·symm
  rw[decide_eq_false_iff_not]
  rintro rfl
  exact h rfl
 refine K0 (C1w x.To y.To) ?_
 simp only[go_sem]
 refine⟨fun h=>?_,fun h_To=>?_⟩
 ·symm
  rw[decide_eq_false_iff_not]
  rintro rfl
  exact h rfl
 cases x;cases y;simp_all
def Y2:MC:=
(Zs [.box 2 0 (.s 0),.mv 4 (ci 0)] [1,2] (Zs [fS 5 2 4,lT 6 5 5,mS 7 1,.call 8 [] (.f Na1) [.s 6,.s 7],mS 1 8] [1] (.seq (Zs [mS 9 1,bC 10 .lss 9 0] [1,10] (.cond (.s 10) (Zs [.mv 4 (.c (.int .i64 (-1)))] [4] .ret) .skip))
(Zs [mS 11 1,mS 4 11] [4] .ret))))
attribute [go_sem] Y2
def Mb8:MC:=Y2
theorem Cir(x:GVersion)(left:Int)(h0:0≤left):Ctr Tryz.prog Nc1 [aS x.enc,aI left] [rI (szr x.size left)]:=by
 refine cA Mb8 1 12 [(.tmp 4,[false])] Tryz.func38 rfl rfl ?_;unfold Mb8
 intro hb
 simp only[go_sem]
 refine K0 (C8f x.Resource left h0) ?_
 simp only[go_sem]
 intro _
 refine⟨fun h=>szr_bad' h0 h (by simp only[GVersion.size];omega),fun h1=>?_⟩
 rfl
def Y3:MC:=
(Zs [.box 1 0 (.s 0),.alloc 2 1 [pz,pz,pz,pz,pz,.emp 1,pz,pz,pz]] [1,2] (Zs [.alloc 3 2 [pz,pz,pz,pz,pz,.emp 1,pz,pz,pz]] [1,2,3] (Zs [fS 4 1 0,lT 5 3 4,.call 6 [] (.f N21) [.s 5],fS 7 3 0,sS 3 7 6] [1,2,3] (Zs [fS 8 1 3,lF 9 1 8,fS 10 3 3,sS 1 10 9] [1,2,3] (Zs [fS 11 1 4,lT 12 5 11,.call 13 [3] (.f Na5) [.s 12],fS 14 3 4,sS 5 14 13] [2,3] (Zs [lT 15 9 3,sS 9 2 15] [2] .ret))))))
attribute [go_sem] Y3
def Mbd:MC:=Y3
theorem Ciu(x:GVersion)(hs:x.size≤1073741824):Ctr Tryz.prog Nc5 [aS x.enc] [rS x.enc]:=by
 refine cA Mbd 4 16 [(.cell 2 true 9,[false,false,false,false,false,true,false,false,false])] Tryz.func55 rfl rfl ?_;unfold Mbd
 intro hb
 simp only[GVersion.size]at hs
 simp only[go_sem]
 refine K0 (C1x x.Address) ?_
 simp only[go_sem]
 try intros
 refine K0 (C8g x.Resource (by omega)) ?_
 simp only[go_sem]
 try intros
def Y4:MC:=
(Zs [.box 2 0 (.s 0),.box 3 1 (.s 1),.mv 4 cF] [2,3] (.seq (Zs [fS 5 2 0,lT 6 3 5,fS 7 3 0,lT 8 3 7,.call 9 [] (.f N20) [.s 6,.s 8],.un 10 .not (.s 9)] [2,3,10] (.cond (.s 10) (Zs [.mv 4 cF] [4] .ret) .skip))
(.seq (Zs [fS 11 2 3,lF 12 1 11,fS 13 3 3,lF 14 1 13,bS 15 .neq 12 14] [2,3,15] (.cond (.s 15) (Zs [.mv 4 cF] [4] .ret) .skip))
(.seq (Zs [fS 16 2 4,lT 17 5 16,fS 18 3 4,lT 19 5 18,.call 20 [] (.f N9x) [.s 17,.s 19],.un 21 .not (.s 20)] [21] (.cond (.s 21) (Zs [.mv 4 cF] [4] .ret) .skip))
(Zs [.mv 4 cT] [4] .ret)))))
attribute [go_sem] Y4
def Mb4:MC:=Y4
theorem Cin(x y:GVersion):Ctr Tryz.prog Nbw [aS x.enc,aS y.enc] [rB (decide (x=y))]:=by
 refine cA Mb4 2 22 [(.tmp 4,[false])] Tryz.func80 rfl rfl ?_;unfold Mb4
 intro hb
 clear hb
 simp only[go_sem]
 refine K0 (C1w x.Address y.Address) ?_
 simp only[go_sem]
 refine⟨fun h=>?_,fun h_Address=>?_⟩
 ·symm
  rw[decide_eq_false_iff_not]
  rintro rfl
  exact h rfl
 refine⟨fun h=>?_,fun h_From=>?_⟩
 ·symm
  rw[decide_eq_false_iff_not]
  rintro rfl
  exact h rfl
 refine K0 (C8e x.Resource y.Resource) ?_
 simp only[go_sem]
 refine⟨fun h=>?_,fun h_Resource=>?_⟩
 ·symm
  rw[decide_eq_false_iff_not]
  rintro rfl
  exact h rfl
 cases x;cases y;simp_all
def Y5(v0:Nat)(v1:Nat):MC:=
(Zs [.mv 4 (ci 0)] [0,1] (Zs [mS 6 1,mS 7 0,nS 8 7,bS 9 .sub 6 8,mS 1 9] [0,1] (.seq (Zs [mS 10 1,bC 11 .lss 10 0] [0,1,11] (.cond (.s 11) (Zs [.mv 4 (.c (.int .i64 (-1)))] [4] .ret) .skip))
(.seq (Zs [.mv 5 (ci 0)] [0,1,5] (.block 0 (.loop ([0,1,5],[]) (.seq (Zs [mS 12 5,mS 13 0,nS 14 13,bS 15 .lss 12 14] [0,1,5,15] (cX 15 0))
(.seq (.block 1 (Zs [mS 18 0,mS 19 5,xS 20 v0 18 19,lT 21 v0 20,mS 22 1,.call 23 [] (.f v1) [.s 21,.s 22],mS 1 23] [0,1,5] (Zs [mS 24 1,bC 25 .lss 24 0] [0,1,5,25] (.cond (.s 25) (Zs [.mv 4 (.c (.int .i64 (-1)))] [4] .ret) .skip))))
(pr [mS 16 5,bC 17 .add 16 1,mS 5 17] [0,1,5]))))))
(Zs [mS 26 1,mS 4 26] [4] .ret)))))
attribute [go_sem] Y5
def M95:MC:=Y5 9 Nc1
theorem Chq(xs:List GVersion)(left:Int)(h0:0≤left):Ctr Tryz.prog Na2 [aL 9 (xs.map GVersion.enc),aI left] [rI (szr (xs.length+(xs.map GVersion.size).sum) left)]:=by
 refine cA M95 0 27 [(.tmp 4,[false])] Tryz.func9 rfl rfl ?_;unfold M95
 intro hb
 simp only[bdA,bdL,bdT,K7,K15,roomB,and_true,List.length_map]at hb
 obtain⟨⟨hl,-⟩,hn⟩:=hb
 simp only[go_sem]
 rw[wI (by omega) (by omega)]
 refine⟨fun h=>?_,fun h=>?_⟩
 ·exact szr_bad' (n:=xs.length) h0 ((K6o h0).2 (by omega)) (by omega)
 ·have hz:szr xs.length left=left-xs.length:=by unfold szr;rw[if_pos (by omega)]
  rw[←hz]at h ⊢
  refine K3 xs (fun k=>[(1,vI (szr (xs.length+((xs.take k).map GVersion.size).sum) left)),(5,vI k)]) (fun k=>[]) (fun k=>¬szr (xs.length+((xs.take k).map GVersion.size).sum) left<0) hl ?_
  simp only[go_sem]
  refine⟨?_,by simpa using h,?_,?_⟩
  ·simp only[go_sem,List.take_zero,List.map_nil,List.sum_nil,Nat.add_zero]
   all_goals rfl
  ·intro k x hx hs hk0 h1 hw
   obtain⟨a1,a2,a3⟩:=K1w (m:=x.size) h0 hs
   rw[Nat.add_assoc,←K77 hx]at a3
   simp only[go_sem,K1 hx,hk0,h1]
   refine K0 (Cir x _ a1) ?_
   rw[←a3]
   simp only[go_sem,hw]
   intro _
   refine⟨fun hn=>?_,fun hn=>hn⟩
   have:=K2a (f:=GVersion.size) xs (k+1)
   exact szr_bad' h0 hn (by omega)
  ·intro _
   simp only[go_sem,List.take_length]
def Y6(v0:Nat):MC:=
(Zs [.nilo 2 0 9] [0] (.seq (pr [mS 5 0,nS 6 5,.mk 7 0 9 88 [.sc (.int .i64 0),.sc (.int .i64 0),.sc (.int .i64 0),.sc (.int .i64 0),.sc (.int .i64 0),.sl 1 [],.sc (.int .i64 0),.sc (.int .i64 0),.sc (.int .i64 0)] (.s 6),mS 3 7] [0,3])
(.seq (Zs [.mv 4 (ci 0)] [0,3,4] (.block 0 (.loop ([0,3,4],[1]) (.seq (Zs [mS 8 4,mS 9 0,nS 10 9,bS 11 .lss 8 10] [0,3,4,11] (cX 11 0))
(.seq (.block 1 (pr [mS 14 3,mS 15 4,mS 16 0,mS 17 4,xS 18 9 16 17,lT 19 9 18,.call 20 [1] (.f v0) [.s 19],xS 21 9 14 15,sS 9 21 20] [0,3,4]))
(pr [mS 12 4,bC 13 .add 12 1,mS 4 13] [0,3,4]))))))
(Zs [mS 22 3,mS 2 22] [2] .ret))))
attribute [go_sem] Y6
def M99:MC:=Y6 Nc5
theorem Cht(xs:List GVersion)(hs:xs.length+(xs.map GVersion.size).sum≤1073741824):Ctr Tryz.prog Na6 [aL 9 (xs.map GVersion.enc)] [rL 9 (xs.map GVersion.enc)]:=by
 refine cA M99 2 23 [(.tmp 2,[true])] Tryz.func20 rfl rfl ?_;unfold M99
 intro hb
 simp only[go_sem]
 refine⟨⟨by omega,by simp only[roomB];omega⟩,?_⟩
 refine K3 xs (fun k=>[(4,vI k)]) (fun k=>[(0,⟨0,.row true 9 (filled GVersion.enc [tI 0,tI 0,tI 0,tI 0,tI 0,.sl 1 [],tI 0,tI 0,tI 0] xs k)⟩)]) (fun _=>True) (by simp only[roomB];omega) ?_
 simp only[go_sem]
 refine⟨?_,trivial,?_,?_⟩
 ·simp only[go_sem,K1d]
  all_goals rfl
 ·intro k x hx _ h0 h1 hw
  have h:k<xs.length:=by omega
  simp only[go_sem,K1 hx,h0,h1]
  have hx1:=K1i (f:=GVersion.size) (Ki hx)
  refine K0 (Ciu x (by omega)) ?_
  simp only[go_sem,K1 (K1n h),K1o (Nat.le_of_lt h),h0,h1,hw]
  intros;exact K1p hx
 ·intro _
  simp only[go_sem,K1m]
def Y7(v0:Nat)(v1:Nat):MC:=
(Zs [.mv 4 cF] [0,1] (.seq (Zs [mS 6 0,nS 7 6,mS 8 1,nS 9 8,bS 10 .neq 7 9] [0,1,10] (.cond (.s 10) (Zs [.mv 4 cF] [4] .ret) .skip))
(.seq (Zs [.mv 5 (ci 0)] [0,1,5] (.block 0 (.loop ([0,1,5],[]) (.seq (Zs [mS 11 5,mS 12 0,nS 13 12,bS 14 .lss 11 13] [0,1,5,14] (cX 14 0))
(.seq (.block 1 (.seq (.dreg [Zc [18,21,22,23,24] (mS 17 0),Zc [17,21,22,23,24] (mS 18 5),Zd [21,22,23,24] [0,1] (xS 19 v0 17 18),Zd [21,22,23,24] [0,1,2] (lT 20 v0 19),Zc [17,18,19,20,22] (mS 21 1),Zc [17,18,19,20,21] (mS 22 5),Zd [17,18,19,20] [4,5] (xS 23 v0 21 22),Zd [17,18,19,20] [4,5,6] (lT 24 v0 23),Ze (.range 8) (.call 25 [] (.f v1) [.s 20,.s 24]),Ze (.range 9) (.un 26 .not (.s 25))] [0,1,5,26])
(.cond (.s 26) (Zs [.mv 4 cF] [4] .ret) .skip)))
(pr [mS 15 5,bC 16 .add 15 1,mS 5 16] [0,1,5]))))))
(Zs [.mv 4 cT] [4] .ret))))
attribute [go_sem] Y7
def M91:MC:=Y7 9 Nbw
theorem Chn(xs ys:List GVersion):Ctr Tryz.prog N9y [aL 9 (xs.map GVersion.enc),aL 9 (ys.map GVersion.enc)] [rB (decide (xs=ys))]:=by
 refine cA M91 0 27 [(.tmp 4,[false])] Tryz.func31 rfl rfl ?_;unfold M91
 intro hb
 simp only[bdA,bdL,bdT,K7,roomB,and_true,List.length_map]at hb
 obtain⟨⟨hl,-⟩,⟨hl2,-⟩⟩:=hb
 simp only[go_sem]
 refine⟨fun h=>K2t h,fun h=>?_⟩
 have hle:xs.length=ys.length:=by omega
 refine K3 xs (fun k=>[(5,vI k)]) (fun k=>[]) (fun k=>xs.take k=ys.take k) hl ?_
 simp only[go_sem]
 refine⟨?_,rfl,?_,?_⟩
 ·simp only[go_sem]
 ·intro k x hx he h0 h1 hw
  obtain⟨y,hy⟩:=K5 (show k<ys.length by omega)
  have h2:(k:Int)<ys.length:=by omega
  simp only[go_sem,K1 hx,K1 hy,h0,h1,h2]
  refine K0 (Cin x y) ?_
  simp only[go_sem,hw]
  exact⟨fun hn=>K3d hx hy hn,fun hn=>(Ku hx hy he).2 hn⟩
 ·intro he
  simp only[go_sem]
  exact K2s he hle
def Y8:MC:=
(Zs [.box 1 0 (.s 0),.alloc 2 1 [pz,pz,pz,pz]] [1,2] (Zs [.alloc 3 2 [pz,pz,pz,pz]] [1,2,3] (Zs [fS 4 1 0,lF 5 1 4,fS 6 3 0,sS 1 6 5] [1,2,3] (Zs [fS 7 1 1,lF 8 1 7,fS 9 3 1,sS 1 9 8] [1,2,3] (Zs [fS 10 1 2,lF 11 1 10,fS 12 3 2,sS 1 12 11] [1,2,3] (Zs [fS 13 1 3,lF 14 1 13,fS 15 3 3,sS 1 15 14] [2,3] (Zs [lT 16 4 3,sS 4 2 16] [2] .ret)))))))
attribute [go_sem] Y8
def Mia:MC:=Y8
theorem Ckm(x:GOp):Ctr Tryz.prog Nig [aS x.enc] [rS x.enc]:=by
 refine cA Mia 3 17 [(.cell 2 true 4,[false,false,false,false])] Tryz.func56 rfl rfl ?_;unfold Mia
 intro hb
 simp only[go_sem]
def Y9:MC:=
(Zs [.box 2 0 (.s 0),.box 3 1 (.s 1),.mv 4 cF] [2,3] (.seq (Zs [fS 5 2 0,lF 6 1 5,fS 7 3 0,lF 8 1 7,bS 9 .neq 6 8] [2,3,9] (.cond (.s 9) (Zs [.mv 4 cF] [4] .ret) .skip))
(.seq (Zs [fS 10 2 1,lF 11 1 10,fS 12 3 1,lF 13 1 12,bS 14 .neq 11 13] [2,3,14] (.cond (.s 14) (Zs [.mv 4 cF] [4] .ret) .skip))
(.seq (Zs [fS 15 2 2,lF 16 1 15,fS 17 3 2,lF 18 1 17,bS 19 .neq 16 18] [2,3,19] (.cond (.s 19) (Zs [.mv 4 cF] [4] .ret) .skip))
(.seq (Zs [fS 20 2 3,lF 21 1 20,fS 22 3 3,lF 23 1 22,bS 24 .neq 21 23] [24] (.cond (.s 24) (Zs [.mv 4 cF] [4] .ret) .skip))
(Zs [.mv 4 cT] [4] .ret))))))
attribute [go_sem] Y9
def Mi9:MC:=Y9
theorem Ckl(x y:GOp):Ctr Tryz.prog Nif [aS x.enc,aS y.enc] [rB (decide (x=y))]:=by
 refine cA Mi9 2 25 [(.tmp 4,[false])] Tryz.func81 rfl rfl ?_;unfold Mi9
 intro hb
 clear hb
 simp only[go_sem]
 refine⟨fun h=>?_,fun h_Kind=>?_⟩
 ·symm
  rw[decide_eq_false_iff_not]
  rintro rfl
  exact h rfl
 refine⟨fun h=>?_,fun h_A=>?_⟩
 ·symm
  rw[decide_eq_false_iff_not]
  rintro rfl
  exact h rfl
 refine⟨fun h=>?_,fun h_B=>?_⟩
 ·symm
  rw[decide_eq_false_iff_not]
  rintro rfl
  exact h rfl
 refine⟨fun h=>?_,fun h_C=>?_⟩
 ·symm
  rw[decide_eq_false_iff_not]
  rintro rfl
  exact h rfl
 cases x;cases y;simp_all
def Mh8:MC:=Y0
theorem Cgu(xs:List GOp)(left:Int)(h0:0≤left):Ctr Tryz.prog Nc0 [aL 4 (xs.map GOp.enc),aI left] [rI (szr xs.length left)]:=by
 refine cA Mh8 0 12 [(.tmp 4,[false])] Tryz.func10 rfl rfl ?_;unfold Mh8
 intro hb
 simp only[bdA,bdL,bdT,K7,K15,roomB,and_true,List.length_map]at hb
 obtain⟨⟨hl,-⟩,hn⟩:=hb
 simp only[go_sem]
 rw[wI (by omega) (by omega)]
 unfold szr
 refine⟨fun h=>?_,fun h=>?_⟩
 ·rw[if_neg (by omega)]
 ·rw[if_pos (by omega)]
def Y10(v0:Nat):MC:=
(Zs [.nilo 2 0 4] [0] (Zs [mS 5 0,nS 6 5,.mk 7 0 4 32 [.sc (.int .i64 0),.sc (.int .i64 0),.sc (.int .i64 0),.sc (.int .i64 0)] (.s 6),mS 3 7] [0,3] (.seq (Zs [.mv 4 (ci 0)] [0,3,4] (.block 0 (.loop ([0,3,4],[]) (.seq (Zs [mS 8 4,mS 9 0,nS 10 9,bS 11 .lss 8 10] [0,3,4,11] (cX 11 0))
(.seq (.block 1 (pr [mS 14 3,mS 15 4,mS 16 0,mS 17 4,xS 18 4 16 17,lT 19 4 18,.call 20 [] (.f v0) [.s 19],xS 21 4 14 15,sS 4 21 20] [0,3,4]))
(pr [mS 12 4,bC 13 .add 12 1,mS 4 13] [0,3,4]))))))
(Zs [mS 22 3,mS 2 22] [2] .ret))))
attribute [go_sem] Y10
def Mh9:MC:=Y10 Nig
theorem Cgx(xs:List GOp)(hs:xs.length≤1073741824):Ctr Tryz.prog Nc4 [aL 4 (xs.map GOp.enc)] [rL 4 (xs.map GOp.enc)]:=by
 refine cA Mh9 1 23 [(.tmp 2,[true])] Tryz.func21 rfl rfl ?_;unfold Mh9
 intro hb
 simp only[go_sem]
 refine⟨⟨by omega,by simp only[roomB];omega⟩,?_⟩
 refine K3 xs (fun k=>[(4,vI k)]) (fun k=>[(0,⟨0,.row true 4 (filled GOp.enc [tI 0,tI 0,tI 0,tI 0] xs k)⟩)]) (fun _=>True) (by simp only[roomB];omega) ?_
 simp only[go_sem]
 refine⟨?_,trivial,?_,?_⟩
 ·simp only[go_sem,K1d]
  all_goals rfl
 ·intro k x hx _ h0 h1 hw
  have h:k<xs.length:=by omega
  simp only[go_sem,K1 hx,h0,h1]
  refine K0 (Ckm x) ?_
  simp only[go_sem,K1 (K1n h),K1o (Nat.le_of_lt h),h0,h1,hw]
  intros;exact K1p hx
 ·intro _
  simp only[go_sem,K1m]
def Mh7:MC:=Y7 4 Nif
theorem Cgr(xs ys:List GOp):Ctr Tryz.prog Nbv [aL 4 (xs.map GOp.enc),aL 4 (ys.map GOp.enc)] [rB (decide (xs=ys))]:=by
 refine cA Mh7 0 27 [(.tmp 4,[false])] Tryz.func32 rfl rfl ?_;unfold Mh7
 intro hb
 simp only[bdA,bdL,bdT,K7,roomB,and_true,List.length_map]at hb
 obtain⟨⟨hl,-⟩,⟨hl2,-⟩⟩:=hb
 simp only[go_sem]
 refine⟨fun h=>K2t h,fun h=>?_⟩
 have hle:xs.length=ys.length:=by omega
 refine K3 xs (fun k=>[(5,vI k)]) (fun k=>[]) (fun k=>xs.take k=ys.take k) hl ?_
 simp only[go_sem]
 refine⟨?_,rfl,?_,?_⟩
 ·simp only[go_sem]
 ·intro k x hx he h0 h1 hw
  obtain⟨y,hy⟩:=K5 (show k<ys.length by omega)
  have h2:(k:Int)<ys.length:=by omega
  simp only[go_sem,K1 hx,K1 hy,h0,h1,h2]
  refine K0 (Ckl x y) ?_
  simp only[go_sem,hw]
  exact⟨fun hn=>K3d hx hy hn,fun hn=>(Ku hx hy he).2 hn⟩
 ·intro he
  simp only[go_sem]
  exact K2s he hle
def Mdw:MC:=
(Zs [.box 1 0 (.s 0),.alloc 2 1 [pz,pz,pz,pz,pz]] [1,2] (Zs [.alloc 3 2 [pz,pz,pz,pz,pz]] [1,2,3] (Zs [fS 4 1 0,lF 5 1 4,fS 6 3 0,sS 1 6 5] [1,2,3] (Zs [fS 7 1 1,lT 8 3 7,.call 9 [] (.f N21) [.s 8],fS 10 3 1,sS 3 10 9] [1,2,3] (Zs [fS 11 1 4,lF 12 1 11,fS 13 3 4,sS 1 13 12] [2,3] (Zs [lT 14 5 3,sS 5 2 14] [2] .ret))))))
theorem Cjr(x:GEntry):Ctr Tryz.prog Nea [aS x.enc] [rS x.enc]:=by
 refine cA Mdw 3 15 [(.cell 2 true 5,[false,false,false,false,false])] Tryz.func202 rfl rfl ?_;unfold Mdw
 intro hb
 simp only[go_sem]
 refine K0 (C1x x.Address) ?_
 simp only[go_sem]
 try intros
def Mdu:MC:=
(Zs [.box 2 0 (.s 0),.box 3 1 (.s 1),.mv 4 cF] [2,3] (.seq (Zs [fS 5 2 0,lF 6 1 5,fS 7 3 0,lF 8 1 7,bS 9 .neq 6 8] [2,3,9] (.cond (.s 9) (Zs [.mv 4 cF] [4] .ret) .skip))
(.seq (Zs [fS 10 2 1,lT 11 3 10,fS 12 3 1,lT 13 3 12,.call 14 [] (.f N20) [.s 11,.s 13],.un 15 .not (.s 14)] [2,3,15] (.cond (.s 15) (Zs [.mv 4 cF] [4] .ret) .skip))
(.seq (Zs [fS 16 2 4,lF 17 1 16,fS 18 3 4,lF 19 1 18,bS 20 .neq 17 19] [20] (.cond (.s 20) (Zs [.mv 4 cF] [4] .ret) .skip))
(Zs [.mv 4 cT] [4] .ret)))))
theorem Cjp(x y:GEntry):Ctr Tryz.prog Ne8 [aS x.enc,aS y.enc] [rB (decide (x=y))]:=by
 refine cA Mdu 2 21 [(.tmp 4,[false])] Tryz.func234 rfl rfl ?_;unfold Mdu
 intro hb
 clear hb
 simp only[go_sem]
 refine⟨fun h=>?_,fun h_Kind=>?_⟩
 ·symm
  rw[decide_eq_false_iff_not]
  rintro rfl
  exact h rfl
 refine K0 (C1w x.Address y.Address) ?_
 simp only[go_sem]
 refine⟨fun h=>?_,fun h_Address=>?_⟩
 ·symm
  rw[decide_eq_false_iff_not]
  rintro rfl
  exact h rfl
 refine⟨fun h=>?_,fun h_Value=>?_⟩
 ·symm
  rw[decide_eq_false_iff_not]
  rintro rfl
  exact h rfl
 cases x;cases y;simp_all
def Mco:MC:=Y0
theorem Cj6(xs:List GEntry)(left:Int)(h0:0≤left):Ctr Tryz.prog Nd6 [aL 5 (xs.map GEntry.enc),aI left] [rI (szr xs.length left)]:=by
 refine cA Mco 0 12 [(.tmp 4,[false])] Tryz.func141 rfl rfl ?_;unfold Mco
 intro hb
 simp only[bdA,bdL,bdT,K7,K15,roomB,and_true,List.length_map]at hb
 obtain⟨⟨hl,-⟩,hn⟩:=hb
 simp only[go_sem]
 rw[wI (by omega) (by omega)]
 unfold szr
 refine⟨fun h=>?_,fun h=>?_⟩
 ·rw[if_neg (by omega)]
 ·rw[if_pos (by omega)]
def Y11(v0:Nat):MC:=
(Zs [.nilo 2 0 5] [0] (Zs [mS 5 0,nS 6 5,.mk 7 0 5 40 [.sc (.int .i64 0),.sc (.int .i64 0),.sc (.int .i64 0),.sc (.int .i64 0),.sc (.int .i64 0)] (.s 6),mS 3 7] [0,3] (.seq (Zs [.mv 4 (ci 0)] [0,3,4] (.block 0 (.loop ([0,3,4],[]) (.seq (Zs [mS 8 4,mS 9 0,nS 10 9,bS 11 .lss 8 10] [0,3,4,11] (cX 11 0))
(.seq (.block 1 (pr [mS 14 3,mS 15 4,mS 16 0,mS 17 4,xS 18 5 16 17,lT 19 5 18,.call 20 [] (.f v0) [.s 19],xS 21 5 14 15,sS 5 21 20] [0,3,4]))
(pr [mS 12 4,bC 13 .add 12 1,mS 4 13] [0,3,4]))))))
(Zs [mS 22 3,mS 2 22] [2] .ret))))
attribute [go_sem] Y11
def Mcq:MC:=Y11 Nea
theorem Cj8(xs:List GEntry)(hs:xs.length≤1073741824):Ctr Tryz.prog Nd8 [aL 5 (xs.map GEntry.enc)] [rL 5 (xs.map GEntry.enc)]:=by
 refine cA Mcq 1 23 [(.tmp 2,[true])] Tryz.func156 rfl rfl ?_;unfold Mcq
 intro hb
 simp only[go_sem]
 refine⟨⟨by omega,by simp only[roomB];omega⟩,?_⟩
 refine K3 xs (fun k=>[(4,vI k)]) (fun k=>[(0,⟨0,.row true 5 (filled GEntry.enc [tI 0,tI 0,tI 0,tI 0,tI 0] xs k)⟩)]) (fun _=>True) (by simp only[roomB];omega) ?_
 simp only[go_sem]
 refine⟨?_,trivial,?_,?_⟩
 ·simp only[go_sem,K1d]
  all_goals rfl
 ·intro k x hx _ h0 h1 hw
  have h:k<xs.length:=by omega
  simp only[go_sem,K1 hx,h0,h1]
  refine K0 (Cjr x) ?_
  simp only[go_sem,K1 (K1n h),K1o (Nat.le_of_lt h),h0,h1,hw]
  intros;exact K1p hx
 ·intro _
  simp only[go_sem,K1m]
def Mcm:MC:=Y7 5 Ne8
theorem Cj4(xs ys:List GEntry):Ctr Tryz.prog Nd4 [aL 5 (xs.map GEntry.enc),aL 5 (ys.map GEntry.enc)] [rB (decide (xs=ys))]:=by
 refine cA Mcm 0 27 [(.tmp 4,[false])] Tryz.func185 rfl rfl ?_;unfold Mcm
 intro hb
 simp only[bdA,bdL,bdT,K7,roomB,and_true,List.length_map]at hb
 obtain⟨⟨hl,-⟩,⟨hl2,-⟩⟩:=hb
 simp only[go_sem]
 refine⟨fun h=>K2t h,fun h=>?_⟩
 have hle:xs.length=ys.length:=by omega
 refine K3 xs (fun k=>[(5,vI k)]) (fun k=>[]) (fun k=>xs.take k=ys.take k) hl ?_
 simp only[go_sem]
 refine⟨?_,rfl,?_,?_⟩
 ·simp only[go_sem]
 ·intro k x hx he h0 h1 hw
  obtain⟨y,hy⟩:=K5 (show k<ys.length by omega)
  have h2:(k:Int)<ys.length:=by omega
  simp only[go_sem,K1 hx,K1 hy,h0,h1,h2]
  refine K0 (Cjp x y) ?_
  simp only[go_sem,hw]
  exact⟨fun hn=>K3d hx hy hn,fun hn=>(Ku hx hy he).2 hn⟩
 ·intro he
  simp only[go_sem]
  exact K2s he hle
def Mb6:MC:=Y2
theorem Cip(x:GCapture)(left:Int)(h0:0≤left):Ctr Tryz.prog Nby [aS x.enc,aI left] [rI (szr x.size left)]:=by
 refine cA Mb6 1 12 [(.tmp 4,[false])] Tryz.func187 rfl rfl ?_;unfold Mb6
 intro hb
 simp only[go_sem]
 refine K0 (C8f x.Resource left h0) ?_
 simp only[go_sem]
 intro _
 refine⟨fun h=>szr_bad' h0 h (by simp only[GCapture.size];omega),fun h1=>?_⟩
 rfl
def Mbb:MC:=Y3
theorem Cis(x:GCapture)(hs:x.size≤1073741824):Ctr Tryz.prog Nc2 [aS x.enc] [rS x.enc]:=by
 refine cA Mbb 4 16 [(.cell 2 true 9,[false,false,false,false,false,true,false,false,false])] Tryz.func203 rfl rfl ?_;unfold Mbb
 intro hb
 simp only[GCapture.size]at hs
 simp only[go_sem]
 refine K0 (C1x x.Address) ?_
 simp only[go_sem]
 try intros
 refine K0 (C8g x.Resource (by omega)) ?_
 simp only[go_sem]
 try intros
def Mb2:MC:=Y4
theorem Cil(x y:GCapture):Ctr Tryz.prog Nbt [aS x.enc,aS y.enc] [rB (decide (x=y))]:=by
 refine cA Mb2 2 22 [(.tmp 4,[false])] Tryz.func235 rfl rfl ?_;unfold Mb2
 intro hb
 clear hb
 simp only[go_sem]
 refine K0 (C1w x.Address y.Address) ?_
 simp only[go_sem]
 refine⟨fun h=>?_,fun h_Address=>?_⟩
 ·symm
  rw[decide_eq_false_iff_not]
  rintro rfl
  exact h rfl
 refine⟨fun h=>?_,fun h_Tick=>?_⟩
 ·symm
  rw[decide_eq_false_iff_not]
  rintro rfl
  exact h rfl
 refine K0 (C8e x.Resource y.Resource) ?_
 simp only[go_sem]
 refine⟨fun h=>?_,fun h_Resource=>?_⟩
 ·symm
  rw[decide_eq_false_iff_not]
  rintro rfl
  exact h rfl
 cases x;cases y;simp_all
def M92:MC:=Y5 9 Nby
theorem Cho(xs:List GCapture)(left:Int)(h0:0≤left):Ctr Tryz.prog N9z [aL 9 (xs.map GCapture.enc),aI left] [rI (szr (xs.length+(xs.map GCapture.size).sum) left)]:=by
 refine cA M92 0 27 [(.tmp 4,[false])] Tryz.func142 rfl rfl ?_;unfold M92
 intro hb
 simp only[bdA,bdL,bdT,K7,K15,roomB,and_true,List.length_map]at hb
 obtain⟨⟨hl,-⟩,hn⟩:=hb
 simp only[go_sem]
 rw[wI (by omega) (by omega)]
 refine⟨fun h=>?_,fun h=>?_⟩
 ·exact szr_bad' (n:=xs.length) h0 ((K6o h0).2 (by omega)) (by omega)
 ·have hz:szr xs.length left=left-xs.length:=by unfold szr;rw[if_pos (by omega)]
  rw[←hz]at h ⊢
  refine K3 xs (fun k=>[(1,vI (szr (xs.length+((xs.take k).map GCapture.size).sum) left)),(5,vI k)]) (fun k=>[]) (fun k=>¬szr (xs.length+((xs.take k).map GCapture.size).sum) left<0) hl ?_
  simp only[go_sem]
  refine⟨?_,by simpa using h,?_,?_⟩
  ·simp only[go_sem,List.take_zero,List.map_nil,List.sum_nil,Nat.add_zero]
   all_goals rfl
  ·intro k x hx hs hk0 h1 hw
   obtain⟨a1,a2,a3⟩:=K1w (m:=x.size) h0 hs
   rw[Nat.add_assoc,←K77 hx]at a3
   simp only[go_sem,K1 hx,hk0,h1]
   refine K0 (Cip x _ a1) ?_
   rw[←a3]
   simp only[go_sem,hw]
   intro _
   refine⟨fun hn=>?_,fun hn=>hn⟩
   have:=K2a (f:=GCapture.size) xs (k+1)
   exact szr_bad' h0 hn (by omega)
  ·intro _
   simp only[go_sem,List.take_length]
def M96:MC:=Y6 Nc2
theorem Chr(xs:List GCapture)(hs:xs.length+(xs.map GCapture.size).sum≤1073741824):Ctr Tryz.prog Na3 [aL 9 (xs.map GCapture.enc)] [rL 9 (xs.map GCapture.enc)]:=by
 refine cA M96 2 23 [(.tmp 2,[true])] Tryz.func157 rfl rfl ?_;unfold M96
 intro hb
 simp only[go_sem]
 refine⟨⟨by omega,by simp only[roomB];omega⟩,?_⟩
 refine K3 xs (fun k=>[(4,vI k)]) (fun k=>[(0,⟨0,.row true 9 (filled GCapture.enc [tI 0,tI 0,tI 0,tI 0,tI 0,.sl 1 [],tI 0,tI 0,tI 0] xs k)⟩)]) (fun _=>True) (by simp only[roomB];omega) ?_
 simp only[go_sem]
 refine⟨?_,trivial,?_,?_⟩
 ·simp only[go_sem,K1d]
  all_goals rfl
 ·intro k x hx _ h0 h1 hw
  have h:k<xs.length:=by omega
  simp only[go_sem,K1 hx,h0,h1]
  have hx1:=K1i (f:=GCapture.size) (Ki hx)
  refine K0 (Cis x (by omega)) ?_
  simp only[go_sem,K1 (K1n h),K1o (Nat.le_of_lt h),h0,h1,hw]
  intros;exact K1p hx
 ·intro _
  simp only[go_sem,K1m]
def M8y:MC:=Y7 9 Nbt
theorem Chl(xs ys:List GCapture):Ctr Tryz.prog N9v [aL 9 (xs.map GCapture.enc),aL 9 (ys.map GCapture.enc)] [rB (decide (xs=ys))]:=by
 refine cA M8y 0 27 [(.tmp 4,[false])] Tryz.func186 rfl rfl ?_;unfold M8y
 intro hb
 simp only[bdA,bdL,bdT,K7,roomB,and_true,List.length_map]at hb
 obtain⟨⟨hl,-⟩,⟨hl2,-⟩⟩:=hb
 simp only[go_sem]
 refine⟨fun h=>K2t h,fun h=>?_⟩
 have hle:xs.length=ys.length:=by omega
 refine K3 xs (fun k=>[(5,vI k)]) (fun k=>[]) (fun k=>xs.take k=ys.take k) hl ?_
 simp only[go_sem]
 refine⟨?_,rfl,?_,?_⟩
 ·simp only[go_sem]
 ·intro k x hx he h0 h1 hw
  obtain⟨y,hy⟩:=K5 (show k<ys.length by omega)
  have h2:(k:Int)<ys.length:=by omega
  simp only[go_sem,K1 hx,K1 hy,h0,h1,h2]
  refine K0 (Cil x y) ?_
  simp only[go_sem,hw]
  exact⟨fun hn=>K3d hx hy hn,fun hn=>(Ku hx hy he).2 hn⟩
 ·intro he
  simp only[go_sem]
  exact K2s he hle
def M74:MC:=
(Zs [.box 1 0 (.s 0),.alloc 2 1 [pz,pz,pz,pz,pz]] [1,2] (Zs [.alloc 3 2 [pz,pz,pz,pz,pz]] [1,2,3] (Zs [fS 4 1 0,lF 5 1 4,fS 6 3 0,sS 1 6 5] [1,2,3] (Zs [fS 7 1 1,lF 8 1 7,fS 9 3 1,sS 1 9 8] [1,2,3] (Zs [fS 10 1 2,lF 11 1 10,fS 12 3 2,sS 1 12 11] [1,2,3] (Zs [fS 13 1 3,lF 14 1 13,fS 15 3 3,sS 1 15 14] [1,2,3] (Zs [fS 16 1 4,lF 17 1 16,fS 18 3 4,sS 1 18 17] [2,3] (Zs [lT 19 5 3,sS 5 2 19] [2] .ret))))))))
theorem Cgw(x:GExclusion):Ctr Tryz.prog N7u [aS x.enc] [rS x.enc]:=by
 refine cA M74 3 20 [(.cell 2 true 5,[false,false,false,false,false])] Tryz.func59 rfl rfl ?_;unfold M74
 intro hb
 simp only[go_sem]
def M70:MC:=
(Zs [.box 2 0 (.s 0),.box 3 1 (.s 1),.mv 4 cF] [2,3] (.seq (Zs [fS 5 2 0,lF 6 1 5,fS 7 3 0,lF 8 1 7,bS 9 .neq 6 8] [2,3,9] (.cond (.s 9) (Zs [.mv 4 cF] [4] .ret) .skip))
(.seq (Zs [fS 10 2 1,lF 11 1 10,fS 12 3 1,lF 13 1 12,bS 14 .neq 11 13] [2,3,14] (.cond (.s 14) (Zs [.mv 4 cF] [4] .ret) .skip))
(.seq (Zs [fS 15 2 2,lF 16 1 15,fS 17 3 2,lF 18 1 17,bS 19 .neq 16 18] [2,3,19] (.cond (.s 19) (Zs [.mv 4 cF] [4] .ret) .skip))
(.seq (Zs [fS 20 2 3,lF 21 1 20,fS 22 3 3,lF 23 1 22,bS 24 .neq 21 23] [2,3,24] (.cond (.s 24) (Zs [.mv 4 cF] [4] .ret) .skip))
(.seq (Zs [fS 25 2 4,lF 26 1 25,fS 27 3 4,lF 28 1 27,bS 29 .neq 26 28] [29] (.cond (.s 29) (Zs [.mv 4 cF] [4] .ret) .skip))
(Zs [.mv 4 cT] [4] .ret)))))))
theorem Cgq(x y:GExclusion):Ctr Tryz.prog N7q [aS x.enc,aS y.enc] [rB (decide (x=y))]:=by
 refine cA M70 2 30 [(.tmp 4,[false])] Tryz.func84 rfl rfl ?_;unfold M70
 intro hb
 clear hb
 simp only[go_sem]
 refine⟨fun h=>?_,fun h_Host=>?_⟩
 ·symm
  rw[decide_eq_false_iff_not]
  rintro rfl
  exact h rfl
 refine⟨fun h=>?_,fun h_Path=>?_⟩
 ·symm
  rw[decide_eq_false_iff_not]
  rintro rfl
  exact h rfl
 refine⟨fun h=>?_,fun h_From=>?_⟩
 ·symm
  rw[decide_eq_false_iff_not]
  rintro rfl
  exact h rfl
 refine⟨fun h=>?_,fun h_Until=>?_⟩
 ·symm
  rw[decide_eq_false_iff_not]
  rintro rfl
  exact h rfl
 refine⟨fun h=>?_,fun h_Asked=>?_⟩
 ·symm
  rw[decide_eq_false_iff_not]
  rintro rfl
  exact h rfl
 cases x;cases y;simp_all
def M5n:MC:=Y0
theorem Cg8(xs:List GExclusion)(left:Int)(h0:0≤left):Ctr Tryz.prog N63 [aL 5 (xs.map GExclusion.enc),aI left] [rI (szr xs.length left)]:=by
 refine cA M5n 0 12 [(.tmp 4,[false])] Tryz.func12 rfl rfl ?_;unfold M5n
 intro hb
 simp only[bdA,bdL,bdT,K7,K15,roomB,and_true,List.length_map]at hb
 obtain⟨⟨hl,-⟩,hn⟩:=hb
 simp only[go_sem]
 rw[wI (by omega) (by omega)]
 unfold szr
 refine⟨fun h=>?_,fun h=>?_⟩
 ·rw[if_neg (by omega)]
 ·rw[if_pos (by omega)]
def M5q:MC:=Y11 N7u
theorem Cga(xs:List GExclusion)(hs:xs.length≤1073741824):Ctr Tryz.prog N65 [aL 5 (xs.map GExclusion.enc)] [rL 5 (xs.map GExclusion.enc)]:=by
 refine cA M5q 1 23 [(.tmp 2,[true])] Tryz.func23 rfl rfl ?_;unfold M5q
 intro hb
 simp only[go_sem]
 refine⟨⟨by omega,by simp only[roomB];omega⟩,?_⟩
 refine K3 xs (fun k=>[(4,vI k)]) (fun k=>[(0,⟨0,.row true 5 (filled GExclusion.enc [tI 0,tI 0,tI 0,tI 0,tI 0] xs k)⟩)]) (fun _=>True) (by simp only[roomB];omega) ?_
 simp only[go_sem]
 refine⟨?_,trivial,?_,?_⟩
 ·simp only[go_sem,K1d]
  all_goals rfl
 ·intro k x hx _ h0 h1 hw
  have h:k<xs.length:=by omega
  simp only[go_sem,K1 hx,h0,h1]
  refine K0 (Cgw x) ?_
  simp only[go_sem,K1 (K1n h),K1o (Nat.le_of_lt h),h0,h1,hw]
  intros;exact K1p hx
 ·intro _
  simp only[go_sem,K1m]
def M5k:MC:=Y7 5 N7q
theorem Cg6(xs ys:List GExclusion):Ctr Tryz.prog N61 [aL 5 (xs.map GExclusion.enc),aL 5 (ys.map GExclusion.enc)] [rB (decide (xs=ys))]:=by
 refine cA M5k 0 27 [(.tmp 4,[false])] Tryz.func34 rfl rfl ?_;unfold M5k
 intro hb
 simp only[bdA,bdL,bdT,K7,roomB,and_true,List.length_map]at hb
 obtain⟨⟨hl,-⟩,⟨hl2,-⟩⟩:=hb
 simp only[go_sem]
 refine⟨fun h=>K2t h,fun h=>?_⟩
 have hle:xs.length=ys.length:=by omega
 refine K3 xs (fun k=>[(5,vI k)]) (fun k=>[]) (fun k=>xs.take k=ys.take k) hl ?_
 simp only[go_sem]
 refine⟨?_,rfl,?_,?_⟩
 ·simp only[go_sem]
 ·intro k x hx he h0 h1 hw
  obtain⟨y,hy⟩:=K5 (show k<ys.length by omega)
  have h2:(k:Int)<ys.length:=by omega
  simp only[go_sem,K1 hx,K1 hy,h0,h1,h2]
  refine K0 (Cgq x y) ?_
  simp only[go_sem,hw]
  exact⟨fun hn=>K3d hx hy hn,fun hn=>(Ku hx hy he).2 hn⟩
 ·intro he
  simp only[go_sem]
  exact K2s he hle
def M75:MC:=Y8
theorem Cgy(x:GStatement):Ctr Tryz.prog N7v [aS x.enc] [rS x.enc]:=by
 refine cA M75 3 17 [(.cell 2 true 4,[false,false,false,false])] Tryz.func61 rfl rfl ?_;unfold M75
 intro hb
 simp only[go_sem]
def M71:MC:=Y9
theorem Cgs(x y:GStatement):Ctr Tryz.prog N7r [aS x.enc,aS y.enc] [rB (decide (x=y))]:=by
 refine cA M71 2 25 [(.tmp 4,[false])] Tryz.func86 rfl rfl ?_;unfold M71
 intro hb
 clear hb
 simp only[go_sem]
 refine⟨fun h=>?_,fun h_Witness=>?_⟩
 ·symm
  rw[decide_eq_false_iff_not]
  rintro rfl
  exact h rfl
 refine⟨fun h=>?_,fun h_Digest=>?_⟩
 ·symm
  rw[decide_eq_false_iff_not]
  rintro rfl
  exact h rfl
 refine⟨fun h=>?_,fun h_Tick=>?_⟩
 ·symm
  rw[decide_eq_false_iff_not]
  rintro rfl
  exact h rfl
 refine⟨fun h=>?_,fun h_Seal=>?_⟩
 ·symm
  rw[decide_eq_false_iff_not]
  rintro rfl
  exact h rfl
 cases x;cases y;simp_all
def M5o:MC:=Y0
theorem Cg9(xs:List GStatement)(left:Int)(h0:0≤left):Ctr Tryz.prog N64 [aL 4 (xs.map GStatement.enc),aI left] [rI (szr xs.length left)]:=by
 refine cA M5o 0 12 [(.tmp 4,[false])] Tryz.func15 rfl rfl ?_;unfold M5o
 intro hb
 simp only[bdA,bdL,bdT,K7,K15,roomB,and_true,List.length_map]at hb
 obtain⟨⟨hl,-⟩,hn⟩:=hb
 simp only[go_sem]
 rw[wI (by omega) (by omega)]
 unfold szr
 refine⟨fun h=>?_,fun h=>?_⟩
 ·rw[if_neg (by omega)]
 ·rw[if_pos (by omega)]
def M5r:MC:=Y10 N7v
theorem Cgb(xs:List GStatement)(hs:xs.length≤1073741824):Ctr Tryz.prog N66 [aL 4 (xs.map GStatement.enc)] [rL 4 (xs.map GStatement.enc)]:=by
 refine cA M5r 1 23 [(.tmp 2,[true])] Tryz.func26 rfl rfl ?_;unfold M5r
 intro hb
 simp only[go_sem]
 refine⟨⟨by omega,by simp only[roomB];omega⟩,?_⟩
 refine K3 xs (fun k=>[(4,vI k)]) (fun k=>[(0,⟨0,.row true 4 (filled GStatement.enc [tI 0,tI 0,tI 0,tI 0] xs k)⟩)]) (fun _=>True) (by simp only[roomB];omega) ?_
 simp only[go_sem]
 refine⟨?_,trivial,?_,?_⟩
 ·simp only[go_sem,K1d]
  all_goals rfl
 ·intro k x hx _ h0 h1 hw
  have h:k<xs.length:=by omega
  simp only[go_sem,K1 hx,h0,h1]
  refine K0 (Cgy x) ?_
  simp only[go_sem,K1 (K1n h),K1o (Nat.le_of_lt h),h0,h1,hw]
  intros;exact K1p hx
 ·intro _
  simp only[go_sem,K1m]
def M5l:MC:=Y7 4 N7r
theorem Cg7(xs ys:List GStatement):Ctr Tryz.prog N62 [aL 4 (xs.map GStatement.enc),aL 4 (ys.map GStatement.enc)] [rB (decide (xs=ys))]:=by
 refine cA M5l 0 27 [(.tmp 4,[false])] Tryz.func37 rfl rfl ?_;unfold M5l
 intro hb
 simp only[bdA,bdL,bdT,K7,roomB,and_true,List.length_map]at hb
 obtain⟨⟨hl,-⟩,⟨hl2,-⟩⟩:=hb
 simp only[go_sem]
 refine⟨fun h=>K2t h,fun h=>?_⟩
 have hle:xs.length=ys.length:=by omega
 refine K3 xs (fun k=>[(5,vI k)]) (fun k=>[]) (fun k=>xs.take k=ys.take k) hl ?_
 simp only[go_sem]
 refine⟨?_,rfl,?_,?_⟩
 ·simp only[go_sem]
 ·intro k x hx he h0 h1 hw
  obtain⟨y,hy⟩:=K5 (show k<ys.length by omega)
  have h2:(k:Int)<ys.length:=by omega
  simp only[go_sem,K1 hx,K1 hy,h0,h1,h2]
  refine K0 (Cgs x y) ?_
  simp only[go_sem,hw]
  exact⟨fun hn=>K3d hx hy hn,fun hn=>(Ku hx hy he).2 hn⟩
 ·intro he
  simp only[go_sem]
  exact K2s he hle
def Mb7:MC:=Y1
theorem Ciq(x:GLibrary)(left:Int)(h0:0≤left):Ctr Tryz.prog Nbz [aS x.enc,aI left] [rI (szr x.size left)]:=by
 refine cA Mb7 1 12 [(.tmp 4,[false])] Tryz.func41 rfl rfl ?_;unfold Mb7
 intro hb
 simp only[go_sem]
 refine K0 (C83 x.Digests left h0) ?_
 simp only[go_sem]
 intro _
 refine⟨fun h=>szr_bad' h0 h (by simp only[GLibrary.size];omega),fun h1=>?_⟩
 rfl
def Mbc:MC:=
(Zs [.box 1 0 (.s 0),.alloc 2 1 [pz,.emp 1,.pl (.sc (.bool false)),.pl (.sc (.bool false))]] [1,2] (Zs [.alloc 3 2 [pz,.emp 1,.pl (.sc (.bool false)),.pl (.sc (.bool false))]] [1,2,3] (Zs [fS 4 1 0,lF 5 1 4,fS 6 3 0,sS 1 6 5] [1,2,3] (Zs [fS 7 1 1,lF 8 1 7,.call 9 [3] (.f N42) [.s 8],fS 10 3 1,sS 1 10 9] [1,2,3] (Zs [fS 11 1 2,lF 12 1 11,fS 13 3 2,sS 1 13 12] [1,2,3] (Zs [fS 14 1 3,lF 15 1 14,fS 16 3 3,sS 1 16 15] [2,3] (Zs [lT 17 4 3,sS 4 2 17] [2] .ret)))))))
theorem Cit(x:GLibrary)(hs:x.size≤1073741824):Ctr Tryz.prog Nc3 [aS x.enc] [rS x.enc]:=by
 refine cA Mbc 4 18 [(.cell 2 true 4,[false,true,false,false])] Tryz.func60 rfl rfl ?_;unfold Mbc
 intro hb
 simp only[GLibrary.size]at hs
 simp only[go_sem]
 refine K0 (C84 x.Digests (by omega)) ?_
 simp only[go_sem]
 try intros
def Mb3:MC:=
(Zs [.box 2 0 (.s 0),.box 3 1 (.s 1),.mv 4 cF] [2,3] (.seq (Zs [fS 5 2 0,lF 6 1 5,fS 7 3 0,lF 8 1 7,bS 9 .neq 6 8] [2,3,9] (.cond (.s 9) (Zs [.mv 4 cF] [4] .ret) .skip))
(.seq (Zs [fS 10 2 1,lF 11 1 10,fS 12 3 1,lF 13 1 12,.call 14 [] (.f N41) [.s 11,.s 13],.un 15 .not (.s 14)] [2,3,15] (.cond (.s 15) (Zs [.mv 4 cF] [4] .ret) .skip))
(.seq (Zs [fS 16 2 2,lF 17 1 16,fS 18 3 2,lF 19 1 18,.bin 20 true .neq (.s 17) (.s 19)] [2,3,20] (.cond (.s 20) (Zs [.mv 4 cF] [4] .ret) .skip))
(.seq (Zs [fS 21 2 3,lF 22 1 21,fS 23 3 3,lF 24 1 23,.bin 25 true .neq (.s 22) (.s 24)] [25] (.cond (.s 25) (Zs [.mv 4 cF] [4] .ret) .skip))
(Zs [.mv 4 cT] [4] .ret))))))
theorem Cim(x y:GLibrary):Ctr Tryz.prog Nbu [aS x.enc,aS y.enc] [rB (decide (x=y))]:=by
 refine cA Mb3 2 26 [(.tmp 4,[false])] Tryz.func85 rfl rfl ?_;unfold Mb3
 intro hb
 clear hb
 simp only[go_sem]
 refine⟨fun h=>?_,fun h_Id=>?_⟩
 ·symm
  rw[decide_eq_false_iff_not]
  rintro rfl
  exact h rfl
 refine K0 (C82 x.Digests y.Digests) ?_
 simp only[go_sem]
 refine⟨fun h=>?_,fun h_Digests=>?_⟩
 ·symm
  rw[decide_eq_false_iff_not]
  rintro rfl
  exact h rfl
 refine⟨fun h=>?_,fun h_Up=>?_⟩
 ·symm
  rw[decide_eq_false_iff_not]
  rintro rfl
  exact h rfl
 refine⟨fun h=>?_,fun h_Lies=>?_⟩
 ·symm
  rw[decide_eq_false_iff_not]
  rintro rfl
  exact h rfl
 cases x;cases y;simp_all
def M93:MC:=Y5 4 Nbz
theorem Chp(xs:List GLibrary)(left:Int)(h0:0≤left):Ctr Tryz.prog Na0 [aL 4 (xs.map GLibrary.enc),aI left] [rI (szr (xs.length+(xs.map GLibrary.size).sum) left)]:=by
 refine cA M93 0 27 [(.tmp 4,[false])] Tryz.func13 rfl rfl ?_;unfold M93
 intro hb
 simp only[bdA,bdL,bdT,K7,K15,roomB,and_true,List.length_map]at hb
 obtain⟨⟨hl,-⟩,hn⟩:=hb
 simp only[go_sem]
 rw[wI (by omega) (by omega)]
 refine⟨fun h=>?_,fun h=>?_⟩
 ·exact szr_bad' (n:=xs.length) h0 ((K6o h0).2 (by omega)) (by omega)
 ·have hz:szr xs.length left=left-xs.length:=by unfold szr;rw[if_pos (by omega)]
  rw[←hz]at h ⊢
  refine K3 xs (fun k=>[(1,vI (szr (xs.length+((xs.take k).map GLibrary.size).sum) left)),(5,vI k)]) (fun k=>[]) (fun k=>¬szr (xs.length+((xs.take k).map GLibrary.size).sum) left<0) hl ?_
  simp only[go_sem]
  refine⟨?_,by simpa using h,?_,?_⟩
  ·simp only[go_sem,List.take_zero,List.map_nil,List.sum_nil,Nat.add_zero]
   all_goals rfl
  ·intro k x hx hs hk0 h1 hw
   obtain⟨a1,a2,a3⟩:=K1w (m:=x.size) h0 hs
   rw[Nat.add_assoc,←K77 hx]at a3
   simp only[go_sem,K1 hx,hk0,h1]
   refine K0 (Ciq x _ a1) ?_
   rw[←a3]
   simp only[go_sem,hw]
   intro _
   refine⟨fun hn=>?_,fun hn=>hn⟩
   have:=K2a (f:=GLibrary.size) xs (k+1)
   exact szr_bad' h0 hn (by omega)
  ·intro _
   simp only[go_sem,List.take_length]
def M97:MC:=
(Zs [.nilo 2 0 4] [0] (.seq (pr [mS 5 0,nS 6 5,.mk 7 0 4 40 [.sc (.int .i64 0),.sl 1 [],.sc (.bool false),.sc (.bool false)] (.s 6),mS 3 7] [0,3])
(.seq (Zs [.mv 4 (ci 0)] [0,3,4] (.block 0 (.loop ([0,3,4],[1]) (.seq (Zs [mS 8 4,mS 9 0,nS 10 9,bS 11 .lss 8 10] [0,3,4,11] (cX 11 0))
(.seq (.block 1 (pr [mS 14 3,mS 15 4,mS 16 0,mS 17 4,xS 18 4 16 17,lT 19 4 18,.call 20 [1] (.f Nc3) [.s 19],xS 21 4 14 15,sS 4 21 20] [0,3,4]))
(pr [mS 12 4,bC 13 .add 12 1,mS 4 13] [0,3,4]))))))
(Zs [mS 22 3,mS 2 22] [2] .ret))))
theorem Chs(xs:List GLibrary)(hs:xs.length+(xs.map GLibrary.size).sum≤1073741824):Ctr Tryz.prog Na4 [aL 4 (xs.map GLibrary.enc)] [rL 4 (xs.map GLibrary.enc)]:=by
 refine cA M97 2 23 [(.tmp 2,[true])] Tryz.func24 rfl rfl ?_;unfold M97
 intro hb
 simp only[go_sem]
 refine⟨⟨by omega,by simp only[roomB];omega⟩,?_⟩
 refine K3 xs (fun k=>[(4,vI k)]) (fun k=>[(0,⟨0,.row true 4 (filled GLibrary.enc [tI 0,.sl 1 [],tB false,tB false] xs k)⟩)]) (fun _=>True) (by simp only[roomB];omega) ?_
 simp only[go_sem]
 refine⟨?_,trivial,?_,?_⟩
 ·simp only[go_sem,K1d]
  all_goals rfl
 ·intro k x hx _ h0 h1 hw
  have h:k<xs.length:=by omega
  simp only[go_sem,K1 hx,h0,h1]
  have hx1:=K1i (f:=GLibrary.size) (Ki hx)
  refine K0 (Cit x (by omega)) ?_
  simp only[go_sem,K1 (K1n h),K1o (Nat.le_of_lt h),h0,h1,hw]
  intros;exact K1p hx
 ·intro _
  simp only[go_sem,K1m]
def M8z:MC:=Y7 4 Nbu
theorem Chm(xs ys:List GLibrary):Ctr Tryz.prog N9w [aL 4 (xs.map GLibrary.enc),aL 4 (ys.map GLibrary.enc)] [rB (decide (xs=ys))]:=by
 refine cA M8z 0 27 [(.tmp 4,[false])] Tryz.func35 rfl rfl ?_;unfold M8z
 intro hb
 simp only[bdA,bdL,bdT,K7,roomB,and_true,List.length_map]at hb
 obtain⟨⟨hl,-⟩,⟨hl2,-⟩⟩:=hb
 simp only[go_sem]
 refine⟨fun h=>K2t h,fun h=>?_⟩
 have hle:xs.length=ys.length:=by omega
 refine K3 xs (fun k=>[(5,vI k)]) (fun k=>[]) (fun k=>xs.take k=ys.take k) hl ?_
 simp only[go_sem]
 refine⟨?_,rfl,?_,?_⟩
 ·simp only[go_sem]
 ·intro k x hx he h0 h1 hw
  obtain⟨y,hy⟩:=K5 (show k<ys.length by omega)
  have h2:(k:Int)<ys.length:=by omega
  simp only[go_sem,K1 hx,K1 hy,h0,h1,h2]
  refine K0 (Cim x y) ?_
  simp only[go_sem,hw]
  exact⟨fun hn=>K3d hx hy hn,fun hn=>(Ku hx hy he).2 hn⟩
 ·intro he
  simp only[go_sem]
  exact K2s he hle
def Y12(v0:Nat)(v1:Nat)(v2:Nat):MC:=
(Zs [.box 2 0 (.s 0),.mv 4 (ci 0)] [1,2] (Zs [fS 5 2 0,lF 6 1 5,mS 7 1,.call 8 [] (.f v0) [.s 6,.s 7],mS 1 8] [1,2] (.seq (Zs [mS 9 1,bC 10 .lss 9 0] [1,2,10] (.cond (.s 10) (Zs [.mv 4 (.c (.int .i64 (-1)))] [4] .ret) .skip))
(Zs [fS 11 2 1,lF 12 1 11,mS 13 1,.call 14 [] (.f v1) [.s 12,.s 13],mS 1 14] [1,2] (.seq (Zs [mS 15 1,bC 16 .lss 15 0] [1,2,16] (.cond (.s 16) (Zs [.mv 4 (.c (.int .i64 (-1)))] [4] .ret) .skip))
(Zs [fS 17 2 2,lF 18 1 17,mS 19 1,.call 20 [] (.f v2) [.s 18,.s 19],mS 1 20] [1] (.seq (Zs [mS 21 1,bC 22 .lss 21 0] [1,22] (.cond (.s 22) (Zs [.mv 4 (.c (.int .i64 (-1)))] [4] .ret) .skip))
(Zs [mS 23 1,mS 4 23] [4] .ret))))))))
attribute [go_sem] Y12
def M72:MC:=Y12 Nc0 Nd6 N9z
theorem Cgt(x:GContainer)(left:Int)(h0:0≤left):Ctr Tryz.prog N7s [aS x.enc,aI left] [rI (szr x.size left)]:=by
 refine cA M72 1 24 [(.tmp 4,[false])] Tryz.func88 rfl rfl ?_;unfold M72
 intro hb
 simp only[go_sem]
 refine K0 (Cgu x.Script left h0) ?_
 simp only[go_sem]
 intro _
 refine⟨fun h=>szr_bad' h0 h (by simp only[GContainer.size];omega),fun h1=>?_⟩
 obtain⟨a1,b1,e1⟩:=K1w (m:=x.Entries.length) h0 h1
 refine K0 (Cj6 x.Entries _ a1) ?_
 rw[←e1]
 simp only[go_sem]
 intro _
 refine⟨fun h=>szr_bad' h0 h (by simp only[GContainer.size];omega),fun h2=>?_⟩
 obtain⟨a2,b2,e2⟩:=K1w (m:=x.Captures.length+(x.Captures.map GCapture.size).sum) h0 h2
 refine K0 (Cho x.Captures _ a2) ?_
 rw[←e2]
 simp only[go_sem]
 intro _
 refine⟨fun h=>szr_bad' h0 h (by simp only[GContainer.size];omega),fun h3=>?_⟩
 rfl
def M73:MC:=
(Zs [.box 1 0 (.s 0),.alloc 2 1 [.emp 4,.emp 5,.emp 9,pz]] [1,2] (Zs [.alloc 3 2 [.emp 4,.emp 5,.emp 9,pz]] [1,2,3] (Zs [fS 4 1 0,lF 5 1 4,.call 6 [3] (.f Nc4) [.s 5],fS 7 3 0,sS 1 7 6] [1,2,3] (Zs [fS 8 1 1,lF 9 1 8,.call 10 [4] (.f Nd8) [.s 9],fS 11 3 1,sS 1 11 10] [1,2,3] (Zs [fS 12 1 2,lF 13 1 12,.call 14 [5] (.f Na3) [.s 13],fS 15 3 2,sS 1 15 14] [1,2,3] (Zs [fS 16 1 3,lF 17 1 16,fS 18 3 3,sS 1 18 17] [2,3] (Zs [lT 19 4 3,sS 4 2 19] [2] .ret)))))))
theorem Cgv(x:GContainer)(hs:x.size≤1073741824):Ctr Tryz.prog N7t [aS x.enc] [rS x.enc]:=by
 refine cA M73 6 20 [(.cell 2 true 4,[true,true,true,false])] Tryz.func108 rfl rfl ?_;unfold M73
 intro hb
 simp only[GContainer.size]at hs
 simp only[go_sem]
 refine K0 (Cgx x.Script (by omega)) ?_
 simp only[go_sem]
 try intros
 refine K0 (Cj8 x.Entries (by omega)) ?_
 simp only[go_sem]
 try intros
 refine K0 (Chr x.Captures (by omega)) ?_
 simp only[go_sem]
 try intros
def M6z:MC:=
(Zs [.box 2 0 (.s 0),.box 3 1 (.s 1),.mv 4 cF] [2,3] (.seq (Zs [fS 5 2 0,lF 6 1 5,fS 7 3 0,lF 8 1 7,.call 9 [] (.f Nbv) [.s 6,.s 8],.un 10 .not (.s 9)] [2,3,10] (.cond (.s 10) (Zs [.mv 4 cF] [4] .ret) .skip))
(.seq (Zs [fS 11 2 1,lF 12 1 11,fS 13 3 1,lF 14 1 13,.call 15 [] (.f Nd4) [.s 12,.s 14],.un 16 .not (.s 15)] [2,3,16] (.cond (.s 16) (Zs [.mv 4 cF] [4] .ret) .skip))
(.seq (Zs [fS 17 2 2,lF 18 1 17,fS 19 3 2,lF 20 1 19,.call 21 [] (.f N9v) [.s 18,.s 20],.un 22 .not (.s 21)] [2,3,22] (.cond (.s 22) (Zs [.mv 4 cF] [4] .ret) .skip))
(.seq (Zs [fS 23 2 3,lF 24 1 23,fS 25 3 3,lF 26 1 25,bS 27 .neq 24 26] [27] (.cond (.s 27) (Zs [.mv 4 cF] [4] .ret) .skip))
(Zs [.mv 4 cT] [4] .ret))))))
theorem Cgp(x y:GContainer):Ctr Tryz.prog N7p [aS x.enc,aS y.enc] [rB (decide (x=y))]:=by
 refine cA M6z 2 28 [(.tmp 4,[false])] Tryz.func139 rfl rfl ?_;unfold M6z
 intro hb
 clear hb
 simp only[go_sem]
 refine K0 (Cgr x.Script y.Script) ?_
 simp only[go_sem]
 refine⟨fun h=>?_,fun h_Script=>?_⟩
 ·symm
  rw[decide_eq_false_iff_not]
  rintro rfl
  exact h rfl
 refine K0 (Cj4 x.Entries y.Entries) ?_
 simp only[go_sem]
 refine⟨fun h=>?_,fun h_Entries=>?_⟩
 ·symm
  rw[decide_eq_false_iff_not]
  rintro rfl
  exact h rfl
 refine K0 (Chl x.Captures y.Captures) ?_
 simp only[go_sem]
 refine⟨fun h=>?_,fun h_Captures=>?_⟩
 ·symm
  rw[decide_eq_false_iff_not]
  rintro rfl
  exact h rfl
 refine⟨fun h=>?_,fun h_Root=>?_⟩
 ·symm
  rw[decide_eq_false_iff_not]
  rintro rfl
  exact h rfl
 cases x;cases y;simp_all
def M5m:MC:=Y5 4 N7s
theorem C57(xs:List GContainer)(left:Int)(h0:0≤left):Ctr Tryz.prog N2x [aL 4 (xs.map GContainer.enc),aI left] [rI (szr (xs.length+(xs.map GContainer.size).sum) left)]:=by
 refine cA M5m 0 27 [(.tmp 4,[false])] Tryz.func39 rfl rfl ?_;unfold M5m
 intro hb
 simp only[bdA,bdL,bdT,K7,K15,roomB,and_true,List.length_map]at hb
 obtain⟨⟨hl,-⟩,hn⟩:=hb
 simp only[go_sem]
 rw[wI (by omega) (by omega)]
 refine⟨fun h=>?_,fun h=>?_⟩
 ·exact szr_bad' (n:=xs.length) h0 ((K6o h0).2 (by omega)) (by omega)
 ·have hz:szr xs.length left=left-xs.length:=by unfold szr;rw[if_pos (by omega)]
  rw[←hz]at h ⊢
  refine K3 xs (fun k=>[(1,vI (szr (xs.length+((xs.take k).map GContainer.size).sum) left)),(5,vI k)]) (fun k=>[]) (fun k=>¬szr (xs.length+((xs.take k).map GContainer.size).sum) left<0) hl ?_
  simp only[go_sem]
  refine⟨?_,by simpa using h,?_,?_⟩
  ·simp only[go_sem,List.take_zero,List.map_nil,List.sum_nil,Nat.add_zero]
   all_goals rfl
  ·intro k x hx hs hk0 h1 hw
   obtain⟨a1,a2,a3⟩:=K1w (m:=x.size) h0 hs
   rw[Nat.add_assoc,←K77 hx]at a3
   simp only[go_sem,K1 hx,hk0,h1]
   refine K0 (Cgt x _ a1) ?_
   rw[←a3]
   simp only[go_sem,hw]
   intro _
   refine⟨fun hn=>?_,fun hn=>hn⟩
   have:=K2a (f:=GContainer.size) xs (k+1)
   exact szr_bad' h0 hn (by omega)
  ·intro _
   simp only[go_sem,List.take_length]
def M5p:MC:=
(Zs [.nilo 2 0 4] [0] (.seq (pr [mS 5 0,nS 6 5,.mk 7 0 4 80 [.sl 4 [],.sl 5 [],.sl 9 [],.sc (.int .i64 0)] (.s 6),mS 3 7] [0,3])
(.seq (Zs [.mv 4 (ci 0)] [0,3,4] (.block 0 (.loop ([0,3,4],[1,2,3]) (.seq (Zs [mS 8 4,mS 9 0,nS 10 9,bS 11 .lss 8 10] [0,3,4,11] (cX 11 0))
(.seq (.block 1 (pr [mS 14 3,mS 15 4,mS 16 0,mS 17 4,xS 18 4 16 17,lT 19 4 18,.call 20 [1,2,3] (.f N7t) [.s 19],xS 21 4 14 15,sS 4 21 20] [0,3,4]))
(pr [mS 12 4,bC 13 .add 12 1,mS 4 13] [0,3,4]))))))
(Zs [mS 22 3,mS 2 22] [2] .ret))))
theorem C58(xs:List GContainer)(hs:xs.length+(xs.map GContainer.size).sum≤1073741824):Ctr Tryz.prog N2y [aL 4 (xs.map GContainer.enc)] [rL 4 (xs.map GContainer.enc)]:=by
 refine cA M5p 4 23 [(.tmp 2,[true])] Tryz.func57 rfl rfl ?_;unfold M5p
 intro hb
 simp only[go_sem]
 refine⟨⟨by omega,by simp only[roomB];omega⟩,?_⟩
 refine K3 xs (fun k=>[(4,vI k)]) (fun k=>[(0,⟨0,.row true 4 (filled GContainer.enc [.sl 4 [],.sl 5 [],.sl 9 [],tI 0] xs k)⟩)]) (fun _=>True) (by simp only[roomB];omega) ?_
 simp only[go_sem]
 refine⟨?_,trivial,?_,?_⟩
 ·simp only[go_sem,K1d]
  all_goals rfl
 ·intro k x hx _ h0 h1 hw
  have h:k<xs.length:=by omega
  simp only[go_sem,K1 hx,h0,h1]
  have hx1:=K1i (f:=GContainer.size) (Ki hx)
  refine K0 (Cgv x (by omega)) ?_
  simp only[go_sem,K1 (K1n h),K1o (Nat.le_of_lt h),h0,h1,hw]
  intros;exact K1p hx
 ·intro _
  simp only[go_sem,K1m]
def M5j:MC:=Y7 4 N7p
theorem C56(xs ys:List GContainer):Ctr Tryz.prog N2w [aL 4 (xs.map GContainer.enc),aL 4 (ys.map GContainer.enc)] [rB (decide (xs=ys))]:=by
 refine cA M5j 0 27 [(.tmp 4,[false])] Tryz.func82 rfl rfl ?_;unfold M5j
 intro hb
 simp only[bdA,bdL,bdT,K7,roomB,and_true,List.length_map]at hb
 obtain⟨⟨hl,-⟩,⟨hl2,-⟩⟩:=hb
 simp only[go_sem]
 refine⟨fun h=>K2t h,fun h=>?_⟩
 have hle:xs.length=ys.length:=by omega
 refine K3 xs (fun k=>[(5,vI k)]) (fun k=>[]) (fun k=>xs.take k=ys.take k) hl ?_
 simp only[go_sem]
 refine⟨?_,rfl,?_,?_⟩
 ·simp only[go_sem]
 ·intro k x hx he h0 h1 hw
  obtain⟨y,hy⟩:=K5 (show k<ys.length by omega)
  have h2:(k:Int)<ys.length:=by omega
  simp only[go_sem,K1 hx,K1 hy,h0,h1,h2]
  refine K0 (Cgp x y) ?_
  simp only[go_sem,hw]
  exact⟨fun hn=>K3d hx hy hn,fun hn=>(Ku hx hy he).2 hn⟩
 ·intro he
  simp only[go_sem]
  exact K2s he hle
def Mdx:MC:=
(Zs [.box 1 0 (.s 0),.alloc 2 1 [pz,pz,pz,pz,pz,pz]] [1,2] (Zs [.alloc 3 2 [pz,pz,pz,pz,pz,pz]] [1,2,3] (Zs [fS 4 1 0,lT 5 3 4,.call 6 [] (.f N21) [.s 5],fS 7 3 0,sS 3 7 6] [1,2,3] (Zs [fS 8 1 3,lF 9 1 8,fS 10 3 3,sS 1 10 9] [1,2,3] (Zs [fS 11 1 4,lF 12 1 11,fS 13 3 4,sS 1 13 12] [1,2,3] (Zs [fS 14 1 5,lF 15 1 14,fS 16 3 5,sS 1 16 15] [2,3] (Zs [lT 17 6 3,sS 6 2 17] [2] .ret)))))))
theorem Cjs(x:GFound):Ctr Tryz.prog Neb [aS x.enc] [rS x.enc]:=by
 refine cA Mdx 3 18 [(.cell 2 true 6,[false,false,false,false,false,false])] Tryz.func109 rfl rfl ?_;unfold Mdx
 intro hb
 simp only[go_sem]
 refine K0 (C1x x.Address) ?_
 simp only[go_sem]
 try intros
def Mdv:MC:=
(Zs [.box 2 0 (.s 0),.box 3 1 (.s 1),.mv 4 cF] [2,3] (.seq (Zs [fS 5 2 0,lT 6 3 5,fS 7 3 0,lT 8 3 7,.call 9 [] (.f N20) [.s 6,.s 8],.un 10 .not (.s 9)] [2,3,10] (.cond (.s 10) (Zs [.mv 4 cF] [4] .ret) .skip))
(.seq (Zs [fS 11 2 3,lF 12 1 11,fS 13 3 3,lF 14 1 13,bS 15 .neq 12 14] [2,3,15] (.cond (.s 15) (Zs [.mv 4 cF] [4] .ret) .skip))
(.seq (Zs [fS 16 2 4,lF 17 1 16,fS 18 3 4,lF 19 1 18,bS 20 .neq 17 19] [2,3,20] (.cond (.s 20) (Zs [.mv 4 cF] [4] .ret) .skip))
(.seq (Zs [fS 21 2 5,lF 22 1 21,fS 23 3 5,lF 24 1 23,bS 25 .neq 22 24] [25] (.cond (.s 25) (Zs [.mv 4 cF] [4] .ret) .skip))
(Zs [.mv 4 cT] [4] .ret))))))
theorem Cjq(x y:GFound):Ctr Tryz.prog Ne9 [aS x.enc,aS y.enc] [rB (decide (x=y))]:=by
 refine cA Mdv 2 26 [(.tmp 4,[false])] Tryz.func140 rfl rfl ?_;unfold Mdv
 intro hb
 clear hb
 simp only[go_sem]
 refine K0 (C1w x.Address y.Address) ?_
 simp only[go_sem]
 refine⟨fun h=>?_,fun h_Address=>?_⟩
 ·symm
  rw[decide_eq_false_iff_not]
  rintro rfl
  exact h rfl
 refine⟨fun h=>?_,fun h_Tick=>?_⟩
 ·symm
  rw[decide_eq_false_iff_not]
  rintro rfl
  exact h rfl
 refine⟨fun h=>?_,fun h_Container=>?_⟩
 ·symm
  rw[decide_eq_false_iff_not]
  rintro rfl
  exact h rfl
 refine⟨fun h=>?_,fun h_At=>?_⟩
 ·symm
  rw[decide_eq_false_iff_not]
  rintro rfl
  exact h rfl
 cases x;cases y;simp_all
def Mcp:MC:=Y0
theorem Cj7(xs:List GFound)(left:Int)(h0:0≤left):Ctr Tryz.prog Nd7 [aL 6 (xs.map GFound.enc),aI left] [rI (szr xs.length left)]:=by
 refine cA Mcp 0 12 [(.tmp 4,[false])] Tryz.func40 rfl rfl ?_;unfold Mcp
 intro hb
 simp only[bdA,bdL,bdT,K7,K15,roomB,and_true,List.length_map]at hb
 obtain⟨⟨hl,-⟩,hn⟩:=hb
 simp only[go_sem]
 rw[wI (by omega) (by omega)]
 unfold szr
 refine⟨fun h=>?_,fun h=>?_⟩
 ·rw[if_neg (by omega)]
 ·rw[if_pos (by omega)]
def Mcr:MC:=
(Zs [.nilo 2 0 6] [0] (Zs [mS 5 0,nS 6 5,.mk 7 0 6 48 [.sc (.int .i64 0),.sc (.int .i64 0),.sc (.int .i64 0),.sc (.int .i64 0),.sc (.int .i64 0),.sc (.int .i64 0)] (.s 6),mS 3 7] [0,3] (.seq (Zs [.mv 4 (ci 0)] [0,3,4] (.block 0 (.loop ([0,3,4],[]) (.seq (Zs [mS 8 4,mS 9 0,nS 10 9,bS 11 .lss 8 10] [0,3,4,11] (cX 11 0))
(.seq (.block 1 (pr [mS 14 3,mS 15 4,mS 16 0,mS 17 4,xS 18 6 16 17,lT 19 6 18,.call 20 [] (.f Neb) [.s 19],xS 21 6 14 15,sS 6 21 20] [0,3,4]))
(pr [mS 12 4,bC 13 .add 12 1,mS 4 13] [0,3,4]))))))
(Zs [mS 22 3,mS 2 22] [2] .ret))))
theorem Cj9(xs:List GFound)(hs:xs.length≤1073741824):Ctr Tryz.prog Nd9 [aL 6 (xs.map GFound.enc)] [rL 6 (xs.map GFound.enc)]:=by
 refine cA Mcr 1 23 [(.tmp 2,[true])] Tryz.func58 rfl rfl ?_;unfold Mcr
 intro hb
 simp only[go_sem]
 refine⟨⟨by omega,by simp only[roomB];omega⟩,?_⟩
 refine K3 xs (fun k=>[(4,vI k)]) (fun k=>[(0,⟨0,.row true 6 (filled GFound.enc [tI 0,tI 0,tI 0,tI 0,tI 0,tI 0] xs k)⟩)]) (fun _=>True) (by simp only[roomB];omega) ?_
 simp only[go_sem]
 refine⟨?_,trivial,?_,?_⟩
 ·simp only[go_sem,K1d]
  all_goals rfl
 ·intro k x hx _ h0 h1 hw
  have h:k<xs.length:=by omega
  simp only[go_sem,K1 hx,h0,h1]
  refine K0 (Cjs x) ?_
  simp only[go_sem,K1 (K1n h),K1o (Nat.le_of_lt h),h0,h1,hw]
  intros;exact K1p hx
 ·intro _
  simp only[go_sem,K1m]
def Mcn:MC:=Y7 6 Ne9
theorem Cj5(xs ys:List GFound):Ctr Tryz.prog Nd5 [aL 6 (xs.map GFound.enc),aL 6 (ys.map GFound.enc)] [rB (decide (xs=ys))]:=by
 refine cA Mcn 0 27 [(.tmp 4,[false])] Tryz.func83 rfl rfl ?_;unfold Mcn
 intro hb
 simp only[bdA,bdL,bdT,K7,roomB,and_true,List.length_map]at hb
 obtain⟨⟨hl,-⟩,⟨hl2,-⟩⟩:=hb
 simp only[go_sem]
 refine⟨fun h=>K2t h,fun h=>?_⟩
 have hle:xs.length=ys.length:=by omega
 refine K3 xs (fun k=>[(5,vI k)]) (fun k=>[]) (fun k=>xs.take k=ys.take k) hl ?_
 simp only[go_sem]
 refine⟨?_,rfl,?_,?_⟩
 ·simp only[go_sem]
 ·intro k x hx he h0 h1 hw
  obtain⟨y,hy⟩:=K5 (show k<ys.length by omega)
  have h2:(k:Int)<ys.length:=by omega
  simp only[go_sem,K1 hx,K1 hy,h0,h1,h2]
  refine K0 (Cjq x y) ?_
  simp only[go_sem,hw]
  exact⟨fun hn=>K3d hx hy hn,fun hn=>(Ku hx hy he).2 hn⟩
 ·intro he
  simp only[go_sem]
  exact K2s he hle
def Mf5:MC:=Y12 N2x Nd7 N2x
theorem Ck7(x:GDisk)(left:Int)(h0:0≤left):Ctr Tryz.prog Nfq [aS x.enc,aI left] [rI (szr x.size left)]:=by
 refine cA Mf5 1 24 [(.tmp 4,[false])] Tryz.func11 rfl rfl ?_;unfold Mf5
 intro hb
 simp only[go_sem]
 refine K0 (C57 x.Containers left h0) ?_
 simp only[go_sem]
 intro _
 refine⟨fun h=>szr_bad' h0 h (by simp only[GDisk.size];omega),fun h1=>?_⟩
 obtain⟨a1,b1,e1⟩:=K1w (m:=x.Index.length) h0 h1
 refine K0 (Cj7 x.Index _ a1) ?_
 rw[←e1]
 simp only[go_sem]
 intro _
 refine⟨fun h=>szr_bad' h0 h (by simp only[GDisk.size];omega),fun h2=>?_⟩
 obtain⟨a2,b2,e2⟩:=K1w (m:=x.Wanted.length+(x.Wanted.map GContainer.size).sum) h0 h2
 refine K0 (C57 x.Wanted _ a2) ?_
 rw[←e2]
 simp only[go_sem]
 intro _
 refine⟨fun h=>szr_bad' h0 h (by simp only[GDisk.size];omega),fun h3=>?_⟩
 rfl
def Mf7:MC:=
(Zs [.box 1 0 (.s 0),.alloc 2 1 [.emp 4,.emp 6,.emp 4]] [1,2] (Zs [.alloc 3 2 [.emp 4,.emp 6,.emp 4]] [1,2,3] (Zs [fS 4 1 0,lF 5 1 4,.call 6 [3] (.f N2y) [.s 5],fS 7 3 0,sS 1 7 6] [1,2,3] (Zs [fS 8 1 1,lF 9 1 8,.call 10 [4] (.f Nd9) [.s 9],fS 11 3 1,sS 1 11 10] [1,2,3] (Zs [fS 12 1 2,lF 13 1 12,.call 14 [5] (.f N2y) [.s 13],fS 15 3 2,sS 1 15 14] [2,3] (Zs [lT 16 3 3,sS 3 2 16] [2] .ret))))))
theorem Ck8(x:GDisk)(hs:x.size≤1073741824):Ctr Tryz.prog Nfr [aS x.enc] [rS x.enc]:=by
 refine cA Mf7 6 17 [(.cell 2 true 3,[true,true,true])] Tryz.func22 rfl rfl ?_;unfold Mf7
 intro hb
 simp only[GDisk.size]at hs
 simp only[go_sem]
 refine K0 (C58 x.Containers (by omega)) ?_
 simp only[go_sem]
 try intros
 refine K0 (Cj9 x.Index (by omega)) ?_
 simp only[go_sem]
 try intros
 refine K0 (C58 x.Wanted (by omega)) ?_
 simp only[go_sem]
 try intros
def Mf3:MC:=
(Zs [.box 2 0 (.s 0),.box 3 1 (.s 1),.mv 4 cF] [2,3] (.seq (Zs [fS 5 2 0,lF 6 1 5,fS 7 3 0,lF 8 1 7,.call 9 [] (.f N2w) [.s 6,.s 8],.un 10 .not (.s 9)] [2,3,10] (.cond (.s 10) (Zs [.mv 4 cF] [4] .ret) .skip))
(.seq (Zs [fS 11 2 1,lF 12 1 11,fS 13 3 1,lF 14 1 13,.call 15 [] (.f Nd5) [.s 12,.s 14],.un 16 .not (.s 15)] [2,3,16] (.cond (.s 16) (Zs [.mv 4 cF] [4] .ret) .skip))
(.seq (Zs [fS 17 2 2,lF 18 1 17,fS 19 3 2,lF 20 1 19,.call 21 [] (.f N2w) [.s 18,.s 20],.un 22 .not (.s 21)] [22] (.cond (.s 22) (Zs [.mv 4 cF] [4] .ret) .skip))
(Zs [.mv 4 cT] [4] .ret)))))
theorem Ck6(x y:GDisk):Ctr Tryz.prog Nfp [aS x.enc,aS y.enc] [rB (decide (x=y))]:=by
 refine cA Mf3 2 23 [(.tmp 4,[false])] Tryz.func33 rfl rfl ?_;unfold Mf3
 intro hb
 clear hb
 simp only[go_sem]
 refine K0 (C56 x.Containers y.Containers) ?_
 simp only[go_sem]
 refine⟨fun h=>?_,fun h_Containers=>?_⟩
 ·symm
  rw[decide_eq_false_iff_not]
  rintro rfl
  exact h rfl
 refine K0 (Cj5 x.Index y.Index) ?_
 simp only[go_sem]
 refine⟨fun h=>?_,fun h_Index=>?_⟩
 ·symm
  rw[decide_eq_false_iff_not]
  rintro rfl
  exact h rfl
 refine K0 (C56 x.Wanted y.Wanted) ?_
 simp only[go_sem]
 refine⟨fun h=>?_,fun h_Wanted=>?_⟩
 ·symm
  rw[decide_eq_false_iff_not]
  rintro rfl
  exact h rfl
 cases x;cases y;simp_all
def Mb5:MC:=
(Zs [.box 2 0 (.s 0),.mv 4 (ci 0)] [1,2] (Zs [fS 5 2 0,lF 6 1 5,mS 7 1,.call 8 [] (.f Na2) [.s 6,.s 7],mS 1 8] [1,2] (.seq (Zs [mS 9 1,bC 10 .lss 9 0] [1,2,10] (.cond (.s 10) (Zs [.mv 4 (.c (.int .i64 (-1)))] [4] .ret) .skip))
(Zs [fS 11 2 1,lF 12 1 11,mS 13 1,.call 14 [] (.f Nc0) [.s 12,.s 13],mS 1 14] [1,2] (.seq (Zs [mS 15 1,bC 16 .lss 15 0] [1,2,16] (.cond (.s 16) (Zs [.mv 4 (.c (.int .i64 (-1)))] [4] .ret) .skip))
(Zs [fS 17 2 2,lT 18 3 17,mS 19 1,.call 20 [] (.f Nfq) [.s 18,.s 19],mS 1 20] [1,2] (.seq (Zs [mS 21 1,bC 22 .lss 21 0] [1,2,22] (.cond (.s 22) (Zs [.mv 4 (.c (.int .i64 (-1)))] [4] .ret) .skip))
(Zs [fS 23 2 5,lF 24 1 23,mS 25 1,.call 26 [] (.f N63) [.s 24,.s 25],mS 1 26] [1,2] (.seq (Zs [mS 27 1,bC 28 .lss 27 0] [1,2,28] (.cond (.s 28) (Zs [.mv 4 (.c (.int .i64 (-1)))] [4] .ret) .skip))
(Zs [fS 29 2 6,lF 30 1 29,mS 31 1,.call 32 [] (.f Na0) [.s 30,.s 31],mS 1 32] [1,2] (.seq (Zs [mS 33 1,bC 34 .lss 33 0] [1,2,34] (.cond (.s 34) (Zs [.mv 4 (.c (.int .i64 (-1)))] [4] .ret) .skip))
(Zs [fS 35 2 7,lF 36 1 35,mS 37 1,.call 38 [] (.f N88) [.s 36,.s 37],mS 1 38] [1,2] (.seq (Zs [mS 39 1,bC 40 .lss 39 0] [1,2,40] (.cond (.s 40) (Zs [.mv 4 (.c (.int .i64 (-1)))] [4] .ret) .skip))
(Zs [fS 41 2 8,lF 42 1 41,mS 43 1,.call 44 [] (.f N64) [.s 42,.s 43],mS 1 44] [1] (.seq (Zs [mS 45 1,bC 46 .lss 45 0] [1,46] (.cond (.s 46) (Zs [.mv 4 (.c (.int .i64 (-1)))] [4] .ret) .skip))
(Zs [mS 47 1,mS 4 47] [4] .ret))))))))))))))))
theorem Cio(x:GArchive)(left:Int)(h0:0≤left):Ctr Tryz.prog Nbx [aS x.enc,aI left] [rI (szr x.size left)]:=by
 refine cA Mb5 1 48 [(.tmp 4,[false])] Tryz.func4 rfl rfl ?_;unfold Mb5
 intro hb
 simp only[go_sem]
 refine K0 (Chq x.Site left h0) ?_
 simp only[go_sem]
 intro _
 refine⟨fun h=>szr_bad' h0 h (by simp only[GArchive.size];omega),fun h1=>?_⟩
 obtain⟨a1,b1,e1⟩:=K1w (m:=x.Script.length) h0 h1
 refine K0 (Cgu x.Script _ a1) ?_
 rw[←e1]
 simp only[go_sem]
 intro _
 refine⟨fun h=>szr_bad' h0 h (by simp only[GArchive.size];omega),fun h2=>?_⟩
 obtain⟨a2,b2,e2⟩:=K1w (m:=x.Disk.size) h0 h2
 refine K0 (Ck7 x.Disk _ a2) ?_
 rw[←e2]
 simp only[go_sem]
 intro _
 refine⟨fun h=>szr_bad' h0 h (by simp only[GArchive.size];omega),fun h3=>?_⟩
 obtain⟨a3,b3,e3⟩:=K1w (m:=x.Exclusions.length) h0 h3
 refine K0 (Cg8 x.Exclusions _ a3) ?_
 rw[←e3]
 simp only[go_sem]
 intro _
 refine⟨fun h=>szr_bad' h0 h (by simp only[GArchive.size];omega),fun h4=>?_⟩
 obtain⟨a4,b4,e4⟩:=K1w (m:=x.Libraries.length+(x.Libraries.map GLibrary.size).sum) h0 h4
 refine K0 (Chp x.Libraries _ a4) ?_
 rw[←e4]
 simp only[go_sem]
 intro _
 refine⟨fun h=>szr_bad' h0 h (by simp only[GArchive.size];omega),fun h5=>?_⟩
 obtain⟨a5,b5,e5⟩:=K1w (m:=x.Keys.length) h0 h5
 refine K0 (C83 x.Keys _ a5) ?_
 rw[←e5]
 simp only[go_sem]
 intro _
 refine⟨fun h=>szr_bad' h0 h (by simp only[GArchive.size];omega),fun h6=>?_⟩
 obtain⟨a6,b6,e6⟩:=K1w (m:=x.Statements.length) h0 h6
 refine K0 (Cg9 x.Statements _ a6) ?_
 rw[←e6]
 simp only[go_sem]
 intro _
 refine⟨fun h=>szr_bad' h0 h (by simp only[GArchive.size];omega),fun h7=>?_⟩
 rfl
def Mba:MC:=
(Zs [.box 1 0 (.s 0),.alloc 2 1 [.emp 9,.emp 4,.emp 4,.emp 6,.emp 4,.emp 5,.emp 4,.emp 1,.emp 4,pz]] [1,2] (Zs [.alloc 3 2 [.emp 9,.emp 4,.emp 4,.emp 6,.emp 4,.emp 5,.emp 4,.emp 1,.emp 4,pz]] [1,2,3] (Zs [fS 4 1 0,lF 5 1 4,.call 6 [3] (.f Na6) [.s 5],fS 7 3 0,sS 1 7 6] [1,2,3] (Zs [fS 8 1 1,lF 9 1 8,.call 10 [4] (.f Nc4) [.s 9],fS 11 3 1,sS 1 11 10] [1,2,3] (Zs [fS 12 1 2,lT 13 3 12,.call 14 [5,6,7] (.f Nfr) [.s 13],fS 15 3 2,sS 3 15 14] [1,2,3] (Zs [fS 16 1 5,lF 17 1 16,.call 18 [8] (.f N65) [.s 17],fS 19 3 5,sS 1 19 18] [1,2,3] (Zs [fS 20 1 6,lF 21 1 20,.call 22 [9] (.f Na4) [.s 21],fS 23 3 6,sS 1 23 22] [1,2,3] (Zs [fS 24 1 7,lF 25 1 24,.call 26 [10] (.f N42) [.s 25],fS 27 3 7,sS 1 27 26] [1,2,3] (Zs [fS 28 1 8,lF 29 1 28,.call 30 [11] (.f N66) [.s 29],fS 31 3 8,sS 1 31 30] [1,2,3] (Zs [fS 32 1 9,lF 33 1 32,fS 34 3 9,sS 1 34 33] [2,3] (Zs [lT 35 10 3,sS 10 2 35] [2] .ret)))))))))))
theorem C45(x:GArchive)(hs:x.size≤1073741824):Ctr Tryz.prog N2p [aS x.enc] [rS x.enc]:=by
 refine cA Mba 12 36 [(.cell 2 true 10,[true,true,true,true,true,true,true,true,true,false])] Tryz.func6 rfl rfl ?_;unfold Mba
 intro hb
 simp only[GArchive.size]at hs
 simp only[go_sem]
 refine K0 (Cht x.Site (by omega)) ?_
 simp only[go_sem]
 try intros
 refine K0 (Cgx x.Script (by omega)) ?_
 simp only[go_sem]
 try intros
 refine K0 (Ck8 x.Disk (by omega)) ?_
 simp only[go_sem]
 try intros
 refine K0 (Cga x.Exclusions (by omega)) ?_
 simp only[go_sem]
 try intros
 refine K0 (Chs x.Libraries (by omega)) ?_
 simp only[go_sem]
 try intros
 refine K0 (C84 x.Keys (by omega)) ?_
 simp only[go_sem]
 try intros
 refine K0 (Cgb x.Statements (by omega)) ?_
 simp only[go_sem]
 try intros
def Mb1:MC:=
(Zs [.box 2 0 (.s 0),.box 3 1 (.s 1),.mv 4 cF] [2,3] (.seq (Zs [fS 5 2 0,lF 6 1 5,fS 7 3 0,lF 8 1 7,.call 9 [] (.f N9y) [.s 6,.s 8],.un 10 .not (.s 9)] [2,3,10] (.cond (.s 10) (Zs [.mv 4 cF] [4] .ret) .skip))
(.seq (Zs [fS 11 2 1,lF 12 1 11,fS 13 3 1,lF 14 1 13,.call 15 [] (.f Nbv) [.s 12,.s 14],.un 16 .not (.s 15)] [2,3,16] (.cond (.s 16) (Zs [.mv 4 cF] [4] .ret) .skip))
(.seq (Zs [fS 17 2 2,lT 18 3 17,fS 19 3 2,lT 20 3 19,.call 21 [] (.f Nfp) [.s 18,.s 20],.un 22 .not (.s 21)] [2,3,22] (.cond (.s 22) (Zs [.mv 4 cF] [4] .ret) .skip))
(.seq (Zs [fS 23 2 5,lF 24 1 23,fS 25 3 5,lF 26 1 25,.call 27 [] (.f N61) [.s 24,.s 26],.un 28 .not (.s 27)] [2,3,28] (.cond (.s 28) (Zs [.mv 4 cF] [4] .ret) .skip))
(.seq (Zs [fS 29 2 6,lF 30 1 29,fS 31 3 6,lF 32 1 31,.call 33 [] (.f N9w) [.s 30,.s 32],.un 34 .not (.s 33)] [2,3,34] (.cond (.s 34) (Zs [.mv 4 cF] [4] .ret) .skip))
(.seq (Zs [fS 35 2 7,lF 36 1 35,fS 37 3 7,lF 38 1 37,.call 39 [] (.f N41) [.s 36,.s 38],.un 40 .not (.s 39)] [2,3,40] (.cond (.s 40) (Zs [.mv 4 cF] [4] .ret) .skip))
(.seq (Zs [fS 41 2 8,lF 42 1 41,fS 43 3 8,lF 44 1 43,.call 45 [] (.f N62) [.s 42,.s 44],.un 46 .not (.s 45)] [2,3,46] (.cond (.s 46) (Zs [.mv 4 cF] [4] .ret) .skip))
(.seq (Zs [fS 47 2 9,lF 48 1 47,fS 49 3 9,lF 50 1 49,bS 51 .neq 48 50] [51] (.cond (.s 51) (Zs [.mv 4 cF] [4] .ret) .skip))
(Zs [.mv 4 cT] [4] .ret))))))))))
theorem Cik(x y:GArchive):Ctr Tryz.prog Nbs [aS x.enc,aS y.enc] [rB (decide (x=y))]:=by
 refine cA Mb1 2 52 [(.tmp 4,[false])] Tryz.func8 rfl rfl ?_;unfold Mb1
 intro hb
 clear hb
 simp only[go_sem]
 refine K0 (Chn x.Site y.Site) ?_
 simp only[go_sem]
 refine⟨fun h=>?_,fun h_Site=>?_⟩
 ·symm
  rw[decide_eq_false_iff_not]
  rintro rfl
  exact h rfl
 refine K0 (Cgr x.Script y.Script) ?_
 simp only[go_sem]
 refine⟨fun h=>?_,fun h_Script=>?_⟩
 ·symm
  rw[decide_eq_false_iff_not]
  rintro rfl
  exact h rfl
 refine K0 (Ck6 x.Disk y.Disk) ?_
 simp only[go_sem]
 refine⟨fun h=>?_,fun h_Disk=>?_⟩
 ·symm
  rw[decide_eq_false_iff_not]
  rintro rfl
  exact h rfl
 refine K0 (Cg6 x.Exclusions y.Exclusions) ?_
 simp only[go_sem]
 refine⟨fun h=>?_,fun h_Exclusions=>?_⟩
 ·symm
  rw[decide_eq_false_iff_not]
  rintro rfl
  exact h rfl
 refine K0 (Chm x.Libraries y.Libraries) ?_
 simp only[go_sem]
 refine⟨fun h=>?_,fun h_Libraries=>?_⟩
 ·symm
  rw[decide_eq_false_iff_not]
  rintro rfl
  exact h rfl
 refine K0 (C82 x.Keys y.Keys) ?_
 simp only[go_sem]
 refine⟨fun h=>?_,fun h_Keys=>?_⟩
 ·symm
  rw[decide_eq_false_iff_not]
  rintro rfl
  exact h rfl
 refine K0 (Cg7 x.Statements y.Statements) ?_
 simp only[go_sem]
 refine⟨fun h=>?_,fun h_Statements=>?_⟩
 ·symm
  rw[decide_eq_false_iff_not]
  rintro rfl
  exact h rfl
 refine⟨fun h=>?_,fun h_Now=>?_⟩
 ·symm
  rw[decide_eq_false_iff_not]
  rintro rfl
  exact h rfl
 cases x;cases y;simp_all
end Go.Proofs.YtpeabgkoknjojaaGreatDoorR
namespace Go.Proofs
open Go.Shelf
def Tryz.laysM171_ren:Go.Shelf.Ren:=⟨fun|171=>265|243=>279|246=>284|283=>285|284=>286|285=>287|286=>288|129=>227|317=>289|318=>290|319=>291|320=>292|337=>293|338=>294|n=>n,fun|3=>3|9=>9|2=>2|4=>4|171=>297|0=>0|53=>258|37=>265|5=>5|173=>299|212=>302|51=>256|20=>20|213=>303|46=>216|232=>304|233=>305|n=>n,fun|17=>1|18=>2|19=>3|n=>n⟩
theorem Tryz.laysM171:Go.Proofs.LaysM.n171 Tryz.prog Tryz.laysM171_ren:={
 mixed:=by kernel_rfl
 f129:=Tryz.func227.trans (congrArg some (by kernel_rfl))
 f171:=Tryz.func265.trans (congrArg some (by kernel_rfl))
 f243:=Tryz.func279.trans (congrArg some (by kernel_rfl))
 f246:=Tryz.func284.trans (congrArg some (by kernel_rfl))
 f283:=Tryz.func285.trans (congrArg some (by kernel_rfl))
 f284:=Tryz.func286.trans (congrArg some (by kernel_rfl))
 f285:=Tryz.func287.trans (congrArg some (by kernel_rfl))
 f286:=Tryz.func288.trans (congrArg some (by kernel_rfl))
 f317:=Tryz.func289.trans (congrArg some (by kernel_rfl))
 f318:=Tryz.func290.trans (congrArg some (by kernel_rfl))
 f319:=Tryz.func291.trans (congrArg some (by kernel_rfl))
 f320:=Tryz.func292.trans (congrArg some (by kernel_rfl))
 f337:=Tryz.func293.trans (congrArg some (by kernel_rfl))
 f338:=Tryz.func294.trans (congrArg some (by kernel_rfl))
 t0:=Tryz.underlying0
 a0:=Tryz.isAgg0
 z0:=Tryz.sizeOf0
 v0:=Tryz.zeroValue0
 t2:=Tryz.underlying2
 a2:=Tryz.isAgg2
 z2:=Tryz.sizeOf2
 v2:=Tryz.zeroValue2
 t3:=Tryz.underlying3
 a3:=Tryz.isAgg3
 z3:=Tryz.sizeOf3
 v3:=Tryz.zeroValue3
 t4:=Tryz.underlying4
 a4:=Tryz.isAgg4
 z4:=Tryz.sizeOf4
 v4:=Tryz.zeroValue4
 t5:=Tryz.underlying5
 a5:=Tryz.isAgg5
 z5:=Tryz.sizeOf5
 v5:=Tryz.zeroValue5
 t9:=Tryz.underlying9
 a9:=Tryz.isAgg9
 z9:=Tryz.sizeOf9
 v9:=Tryz.zeroValue9
 t20:=Tryz.underlying20
 a20:=Tryz.isAgg20
 z20:=Tryz.sizeOf20
 v20:=Tryz.zeroValue20
 t37:=Tryz.underlying265
 a37:=Tryz.isAgg265
 z37:=Tryz.sizeOf265
 v37:=Tryz.zeroValue265
 t46:=Tryz.underlying216
 a46:=Tryz.isAgg216
 z46:=Tryz.sizeOf216
 v46:=Tryz.zeroValue216
 t51:=Tryz.underlying256
 a51:=Tryz.isAgg256
 z51:=Tryz.sizeOf256
 v51:=Tryz.zeroValue256
 t53:=Tryz.underlying258
 a53:=Tryz.isAgg258
 z53:=Tryz.sizeOf258
 v53:=Tryz.zeroValue258
 t171:=Tryz.underlying297
 a171:=Tryz.isAgg297
 z171:=Tryz.sizeOf297
 v171:=Tryz.zeroValue297
 t173:=Tryz.underlying299
 a173:=Tryz.isAgg299
 z173:=Tryz.sizeOf299
 v173:=Tryz.zeroValue299
 t212:=Tryz.underlying302
 a212:=Tryz.isAgg302
 z212:=Tryz.sizeOf302
 v212:=Tryz.zeroValue302
 t213:=Tryz.underlying303
 a213:=Tryz.isAgg303
 z213:=Tryz.sizeOf303
 t232:=Tryz.underlying304
 a232:=Tryz.isAgg304
 z232:=Tryz.sizeOf304
 v232:=Tryz.zeroValue304
 t233:=Tryz.underlying305
 a233:=Tryz.isAgg305
 z233:=Tryz.sizeOf305
 v233:=Tryz.zeroValue305
 g17:=by kernel_rfl
 g18:=by kernel_rfl
 g19:=by kernel_rfl
 i0:=by kernel_rfl
 i2:=by kernel_rfl
 i3:=by kernel_rfl
 i4:=by kernel_rfl
 i5:=by kernel_rfl
 i9:=by kernel_rfl
 i20:=by kernel_rfl
 i37:=by kernel_rfl
 i46:=by kernel_rfl
 i51:=by kernel_rfl
 i53:=by kernel_rfl
 i171:=by kernel_rfl
 i173:=by kernel_rfl
 i212:=by kernel_rfl
 i232:=by kernel_rfl
 i233:=by kernel_rfl
 m17:=by kernel_rfl
 m18:=by kernel_rfl
 m19:=by kernel_rfl}
open Go.RowKit Go.Sort Go.Lib in
theorem Tryz.strconv_Itoa (n : Int) (h0 : -9223372036854775808 ≤ n) (h1 : n ≤ 9223372036854775807) (w : World) (htab : Lib.TabIs Tryz.prog w "internal/strconv.uint64pow10" .u64 Lib.pow10Tab) :
  Calls Tryz.prog 265 #[.int .i64 n] w fun e w'=>e= .returned (.string ⟨(Lib.itoa n).toArray⟩)∧∃k os,w'=grow (w.drewN k) os:=Any.strconv_Itoa Tryz.laysM171 n h0 h1 w htab
end Go.Proofs
namespace Go.Proofs.YtpeabgkoknjojaaGreatDoorR
open Go Go.RowKit Go.Proofs
open Nat (reduceEqDiff reduceLT reduceLeDiff reduceAdd reduceMul)
open List (reduceReplicate)
def bs(l:List UInt8):ByteArray:=⟨l.toArray⟩
theorem K67{l:List UInt8}:(bs l).size=l.length:=by simp[bs,ByteArray.size]
theorem bs_app{l m:List UInt8}:bs l++bs m=bs (l++m):=by
 apply ByteArray.ext
 simp[bs]
@[go_sem] theorem bs_mk {l:List UInt8}:(⟨l.toArray⟩:ByteArray)=bs l:=rfl
attribute [go_sem] K67 bs_app
abbrev rStr(s:ByteArray):RV:=⟨false,[(false,tS s)]⟩
attribute [go_sem] rStr
theorem below_grow(w:World)(k:Nat)(os:Array Obj):Below w.heap.size w (Go.Sort.grow (w.drewN k) os):=by
 refine⟨rfl,rfl,rfl,?_,fun i hi=>?_⟩
 ·simp[Go.Sort.grow,World.drewN]
 ·show(w.heap++os)[i]? =_
  rw[Array.getElem?_append_left hi]
theorem ctr_str{w w':World}{X:Nat→Prop}{s:ByteArray}(hs:s.size≤9223372036854775807)(hb:Below w.heap.size w w'):
  Below w.heap.size w w'∧∃us G,Value.string s=tupV us∧G.Nodup∧(∀b∈G,w.heap.size≤b)∧ResVs w' (fun b=>(b<w.heap.size→X b)∧b∉G) [rStr s] us G:=
 ⟨hb,[.string s],[],rfl,List.nodup_nil,by simp,[],[],⟨⟨_,rfl⟩,⟨rfl,K4h hs⟩,rfl⟩,rfl,rfl⟩
theorem Kb4{w:World}{X:Nat→Prop}{t:T}{vs:List Value}(h:ArgsR w X [(false,[t])] vs):∃v,vs=[v]∧Rd w X t v:=by
 cases vs with
 |nil=>exact h.elim
 |cons v vs=>
  cases vs with
  |cons _ _=>exact h.2.elim
  |nil=>
   obtain⟨t',e,h1⟩:=h.1
   obtain rfl:=(List.cons.inj e).1
   exact⟨v,rfl,h1⟩
theorem Kb5{w:World}{X:Nat→Prop}{t u:T}{vs:List Value}(h:ArgsR w X [(false,[t]),(false,[u])] vs):∃v v',vs=[v,v']∧Rd w X t v∧Rd w X u v':=by
 cases vs with
 |nil=>exact h.elim
 |cons v vs=>
  obtain⟨t',e,h1⟩:=h.1
  obtain rfl:=(List.cons.inj e).1
  obtain⟨v',rfl,h2⟩:=Kb4 h.2
  exact⟨v,v',rfl,h1,h2⟩
theorem decDigits_len':∀(k u:Nat),u<10^(k+1)→(Lib.decDigits u).length≤k+1
 |0,u,h=>by
  unfold Lib.decDigits
  rw[dif_pos (by omega)]
  simp
 |k+1,u,h=>by
  unfold Lib.decDigits
  split
  ·simp
  ·have h2:u/10<10^(k+1):=by
    rw[Nat.div_lt_iff_lt_mul (by omega)]
    rw[Nat.pow_succ]at h
    exact h
   have:=decDigits_len' k (u/10) h2
   simp only[List.length_append,List.length_cons,List.length_nil]
   omega
theorem itoa_len'{n:Int}(h0: -9223372036854775808≤n)(h1:n≤9223372036854775807):(Lib.itoa n).length≤20:=by
 unfold Lib.itoa
 split
 ·have:=decDigits_len' 18 n.natAbs (by have:(10:Nat)^(18+1)=10000000000000000000:=rfl;omega);simp only[List.length_cons];omega
 ·have:=decDigits_len' 18 n.toNat (by have:(10:Nat)^(18+1)=10000000000000000000:=rfl;omega);omega
theorem Cjw(n:Int):Ctr Tryz.prog Nef [aI n] [rStr (bs (Lib.itoa n))]:=by
 refine⟨⟨Tryz.f265,Tryz.func265,by kernel_rfl,by kernel_rfl⟩,fun w X vs ht h=>?_⟩
 obtain⟨v,rfl,hr⟩:=Kb4 h
 simp only[Rd]at hr
 obtain⟨rfl,h1⟩:=hr
 have h2:=K3v (K2i h1)
 simp only[K81,K80]at h2
 refine(Tryz.strconv_Itoa n h2.1 h2.2 w (ht w (Below.refl _ _))).mono ?_
 rintro e w' ⟨rfl,k,os,rfl⟩
 refine ctr_str (s:=bs (Lib.itoa n)) ?_ (below_grow w k os)
 rw[K67]
 have h3:=itoa_len' h2.1 h2.2
 omega
end Go.Proofs.YtpeabgkoknjojaaGreatDoorR
namespace Go.Proofs.YtpeabgkoknjojaaGreatDoorR
open Go Go.RowKit Go.Proofs
open Nat (reduceEqDiff reduceLT reduceLeDiff reduceAdd reduceMul)
open List (reduceReplicate)
abbrev vStr'(s:List UInt8):SV:= .val false [.pl (tS (bs s))]
attribute [go_sem] vStr'
def Mas:MC:=
(Zs [.mv 2 (.c (.string ⟨#[]⟩))] [0] (Zs [mS 3 0,.call 4 [] (.f Nef) [.s 3],mS 2 4] [2] .ret))
theorem C1v(n:Int):Ctr Tryz.prog N17 [aI n] [rStr (bs (Lib.itoa n))]:=by
 refine cA Mas 0 5 [(.tmp 2,[false])] Tryz.func232 rfl rfl ?_;unfold Mas
 intro hb
 clear hb
 simp only[go_sem]
 refine K0 (Cjw n) ?_
 simp only[go_sem]
theorem byteOf_nat{k:Nat}(h:k<256):K7e [.sc (.int .u8 (k:Int))]=some (UInt8.ofNat k):=by
 show(if 0≤(k:Int)∧(k:Int)<256 then some (UInt8.ofNat (k:Int).toNat)else none)=_
 rw[if_pos (by omega)]
 simp
theorem tmod_ten(x:Int):(x.tmod 10).natAbs=x.natAbs%10∧(x.tdiv 10).natAbs=x.natAbs/10∧(x.tmod 10<0→x.tmod 10= -((x.natAbs%10:Nat):Int))∧(¬x.tmod 10<0→x.tmod 10=((x.natAbs%10:Nat):Int)):=by
 have h1:(x.tmod 10).natAbs=x.natAbs%10:=by rw[Int.natAbs_tmod];rfl
 have h2:(x.tdiv 10).natAbs=x.natAbs/10:=by rw[Int.natAbs_tdiv];rfl
 exact⟨h1,h2,fun h=>by omega,fun h=>by omega⟩
theorem u8_wrap{k:Nat}(h:k<256):IntKind.u8.wrap (k:Int)=k:=by
 rw[IntKind.wrap_u8];omega
def Mbf:MC:=
(Zs [.mv 2 (.c (.string ⟨#[]⟩))] [0] (.seq (Zs [mS 6 0,bC 7 .eql 6 0] [0,7] (.cond (.s 7) (Zs [.mv 2 (.c (.string ⟨#[48]⟩))] [2] .ret) .skip))
(Zs [.mv 3 (.c (.string ⟨#[]⟩))] [0,3] (.seq (Zs [mS 8 0,mS 4 8] [0,3,4] (.block 0 (.loop ([0,3,4],[0]) (.seq (Zs [mS 9 4,bC 10 .neq 9 0] [0,3,4,10] (cX 10 0))
(.seq (.block 1 (Zs [mS 13 4,bC 14 .rem 13 10,mS 5 14] [0,3,4,5] (.seq (Zs [mS 15 5,bC 16 .lss 15 0] [0,3,4,5,16] (.cond (.s 16) (pr [mS 17 5,.un 18 .neg (.s 17),mS 5 18] [0,3,4,5]) .skip))
(pr [mS 19 5,.bin 20 false .add (ci 48) (.s 19),.convI 21 .u8 (.s 20),.lit 22 0 1 1 [.s 21],.convS 23 (.s 22),mS 24 3,bS 25 .add 23 24,mS 3 25] [0,3,4]))))
(pr [mS 11 4,bC 12 .quo 11 10,mS 4 12] [0,3,4]))))))
(.seq (Zs [mS 26 0,bC 27 .lss 26 0] [3,27] (.cond (.s 27) (Zs [mS 28 3,.bin 29 false .add (.c (.string ⟨#[45]⟩)) (.s 28),mS 2 29] [2] .ret) .skip))
(Zs [mS 30 3,mS 2 30] [2] .ret))))))
theorem C1y(n:Int):Ctr Tryz.prog N19 [aI n] [rStr (bs (Lib.itoa n))]:=by
 refine cA Mbf 1 31 [(.tmp 2,[false])] Tryz.func200 rfl rfl ?_;unfold Mbf
 intro hb
 simp only[bdA,bdL,bdT,K15,and_true]at hb
 simp only[go_sem]
 refine⟨fun h=>by subst h;congr 1;unfold Lib.itoa Lib.decDigits;rfl,fun h=>?_⟩
 refine Kq (ι:=Int×List UInt8) (fun i=>[(3,vStr' i.2),(4,vI i.1)]) (fun _=>[]) (fun i=>(i.1=0→i.2=Lib.decDigits n.natAbs)∧(i.1≠0→Lib.decDigits i.1.natAbs++i.2=Lib.decDigits n.natAbs)∧ -9223372036854775808≤i.1∧i.1≤9223372036854775807) (fun i=>i.1.natAbs) (n,[]) ?_
 simp only[go_sem]
 refine⟨?_,⟨fun h2=>absurd h2 h,fun _=>by simp,hb⟩,?_⟩
 ·simp only[go_sem]
 ·rintro ⟨x,s⟩ ⟨h1,h2,h3,h4⟩
  simp only at h1 h2 h3 h4
  simp only[go_sem,Int.reduceEq]
  refine⟨fun hx=>?_,fun hx=>?_⟩
  ·obtain⟨t1,t2,t3,t4⟩:=tmod_ten x
   have hd:=h2 hx
   have hlen:s.length≤20:=by
    have e1:=congrArg List.length hd
    have e2:=decDigits_len' 18 n.natAbs (by have:(10:Nat)^(18+1)=10000000000000000000:=rfl;omega)
    simp only[List.length_append]at e1
    omega
   have key:∀m:Int,m=((48+x.natAbs%10:Nat):Int)→1≤roomB∧bk (K7e [.sc (.int .u8 (IntKind.u8.wrap (IntKind.i64.wrap m)))]) fun a=>1+s.length≤9223372036854775807∧∃j:Int×List UInt8,(bs (a::s)=bs j.snd∧IntKind.i64.wrap (x.tdiv 10)=j.fst)∧
     ((j.fst=0→j.snd=Lib.decDigits n.natAbs)∧(¬j.fst=0→Lib.decDigits j.fst.natAbs++j.snd=Lib.decDigits n.natAbs)∧ -9223372036854775808≤j.fst∧j.fst≤9223372036854775807)∧j.fst.natAbs<x.natAbs:=by
    rintro m rfl
    rw[wI (by omega) (by omega),u8_wrap (by omega),byteOf_nat (by omega)]
    have hb2: -9223372036854775808≤x.tdiv 10∧x.tdiv 10≤9223372036854775807:=by omega
    refine⟨by decide,_,rfl,by omega,(x.tdiv 10,_::s),⟨rfl,wI hb2.1 hb2.2⟩,⟨fun h0=>?_,fun h0=>?_,hb2⟩,by show(x.tdiv 10).natAbs<_;omega⟩
    ·have h0':x.tdiv 10=0:=h0
     have hlt:x.natAbs<10:=by rw[h0']at t2;simp at t2;omega
     rw[←hd,Lib.decDigits,dif_pos hlt,Nat.mod_eq_of_lt hlt]
     rfl
    ·have h0':¬x.tdiv 10=0:=h0
     show Lib.decDigits (x.tdiv 10).natAbs++_::s=_
     rw[←hd,t2]
     conv=>rhs;rw[Lib.decDigits,dif_neg (by omega)]
     simp
   exact⟨fun h0=>key _ (by rw[wI (by omega) (by omega),t3 h0];omega),fun h0=>key _ (by rw[t4 h0];omega)⟩
  ·have h5:=h1 hx
   subst h5
   have e2:=decDigits_len' 18 n.natAbs (by have:(10:Nat)^(18+1)=10000000000000000000:=rfl;omega)
   refine⟨fun hn=>⟨by omega,?_⟩,fun hn=>?_⟩
   ·unfold Lib.itoa;rw[if_pos hn]
   ·unfold Lib.itoa;rw[if_neg hn,show n.toNat=n.natAbs by omega]
end Go.Proofs.YtpeabgkoknjojaaGreatDoorR
namespace Go.Proofs.YtpeabgkoknjojaaGreatDoorR
open Go Go.RowKit Go.Proofs
open Nat (reduceEqDiff reduceLT reduceLeDiff reduceAdd reduceMul)
open List (reduceReplicate)
end Go.Proofs.YtpeabgkoknjojaaGreatDoorR
namespace Go.Proofs.YtpeabgkoknjojaaGreatDoorR
open Go Go.RowKit Go.Proofs
open Nat (reduceEqDiff reduceLT reduceLeDiff reduceAdd reduceMul)
open List (reduceReplicate)
theorem tt{p:Prop} [Decidable p] (h:p):true=decide p:=(decide_eq_true h).symm
theorem K1k{α:Type}{p:α→Bool}{l:List α}{k:Nat}{x:α}(hx:l[k]? =some x)(h:(l.take k).any p=false)(hn:p x=false):(l.take (k+1)).any p=false:=by
 rw[K8 hx,List.any_append,h]
 simp[hn]
theorem K8n{α:Type}{p:α→Bool}{l:List α}{k:Nat}{x:α}(hx:l[k]? =some x)(hn:p x=true):l.any p=true:=List.any_eq_true.2 ⟨x,Ki hx,hn⟩
def idxF{α:Type}(p:α→Bool)(l:List α):Int:=if l.any p then(l.takeWhile fun x=> !p x).length else -1
theorem K2v{α:Type}{p:α→Bool}{l:List α}{k:Nat}{x:α}(hx:l[k]? =some x)(h:(l.take k).any p=false)(hn:p x=true):idxF p l=k:=by
 unfold idxF
 rw[K8n hx hn,if_pos rfl]
 congr 1
 have e:l=l.take k++x::l.drop (k+1):=K2f hx
 rw[e,List.takeWhile_append_of_pos]
 ·simp[hn]
  have:=K9 hx
  omega
 ·intro a ha
  have:=List.any_eq_false.1 h a ha
  simpa using this
theorem K2w{α:Type}{p:α→Bool}{l:List α}(h:l.any p=false):idxF p l= -1:=by
 unfold idxF;rw[h];rfl
theorem K4e{α:Type}{p:α→Bool}{l:List α}:decide (idxF p l≥0)=l.any p:=by
 unfold idxF
 cases l.any p<;>simp
def Y13:MC:=
(Zs [.mv 4 (ci 0)] [0,1] (.seq (Zs [mS 6 0,nS 7 6,.mv 8 (ci 0)] [0,1,7,8] (.block 0 (.loop ([0,1,7,8],[]) (Zs [bS 9 .lss 8 7] [0,1,7,8,9] (.seq (cX 9 0)
(.seq (.block 1 (Zs [mS 10 8,mS 5 10] [0,1,5,7,8] (Zs [mS 11 1,mS 12 0,mS 13 5,xS 14 1 12 13,lF 15 1 14,.call 16 [] (.s 11) [.s 15]] [0,1,5,7,8,16] (.cond (.s 16) (Zs [mS 17 5,mS 4 17] [4] .ret) .skip))))
(pr [bC 18 .add 8 1,mS 8 18] [0,1,7,8])))))))
(Zs [.mv 4 (.c (.int .i64 (-1)))] [4] .ret)))
attribute [go_sem] Y13
def M2q:MC:=Y13
theorem Cdf(xs:List Int)(f:FuncId)(cs:List T)(p:Int→Bool)(hp:∀x,x∈xs→Ctr Tryz.prog f (aI x::cs.map (fun t=>(false,[t]))) [rB (p x)]):Ctr Tryz.prog N89 [aL 1 (xs.map encI),(false,[.fn f cs])] [rI (idxF p xs)]:=by
 refine cA M2q 0 19 [(.tmp 4,[false])] Tryz.func172 rfl rfl ?_;unfold M2q
 intro hb
 simp only[bdA,bdL,bdT,K7,roomB,and_true,List.length_map]at hb
 obtain⟨⟨hl,-⟩,-⟩:=hb
 simp only[go_sem]
 refine K3 xs (fun k=>[(8,vI k)]) (fun k=>[]) (fun k=>(xs.take k).any p=false) hl ?_
 simp only[go_sem]
 refine⟨?_,by simp,?_,?_⟩
 ·simp only[go_sem]
 ·intro k x hx h h0 h1 hw
  simp only[go_sem,K1 hx,h0,h1]
  refine K0 (hp x (Ki hx)) ?_
  simp only[go_sem,hw]
  exact⟨fun hn=>(K2v hx h hn).symm,fun hn=>K1k hx h hn⟩
 ·intro h
  simp only[go_sem]
  rw[List.take_length]at h
  rw[K2w h]
def M3u:MC:=
(Zs [.mv 4 cF] [0,1] (.seq (Zs [mS 6 0,nS 7 6,mS 8 1,nS 9 8,bS 10 .neq 7 9] [0,1,10] (.cond (.s 10) (Zs [.mv 4 cF] [4] .ret) .skip))
(.seq (Zs [mS 11 0,nS 12 11,.mv 13 (ci 0)] [0,1,12,13] (.block 0 (.loop ([0,1,12,13],[]) (Zs [bS 14 .lss 13 12] [0,1,12,13,14] (.seq (cX 14 0)
(.seq (.block 1 (Zs [mS 15 13,mS 5 15] [0,1,5,12,13] (.seq (.dreg [Zc [17,20,21,22,23] (mS 16 0),Zc [16,20,21,22,23] (mS 17 5),Zd [20,21,22,23] [0,1] (xS 18 1 16 17),Zd [20,21,22,23] [0,1,2] (lF 19 1 18),Zc [16,17,18,19,21] (mS 20 1),Zc [16,17,18,19,20] (mS 21 5),Zd [16,17,18,19] [4,5] (xS 22 1 20 21),Zd [16,17,18,19] [4,5,6] (lF 23 1 22),Ze (.range 8) (bS 24 .neq 19 23)] [0,1,12,13,24])
(.cond (.s 24) (Zs [.mv 4 cF] [4] .ret) .skip))))
(pr [bC 25 .add 13 1,mS 13 25] [0,1,12,13])))))))
(Zs [.mv 4 cT] [4] .ret))))
theorem Cgz(xs ys:List Int):Ctr Tryz.prog N3w [aL 1 (xs.map encI),aL 1 (ys.map encI)] [rB (decide (xs=ys))]:=by
 refine cA M3u 0 26 [(.tmp 4,[false])] Tryz.func166 rfl rfl ?_;unfold M3u
 intro hb
 simp only[bdA,bdL,bdT,K7,roomB,and_true,List.length_map]at hb
 obtain⟨⟨hl,-⟩,⟨hl2,-⟩⟩:=hb
 simp only[go_sem]
 refine⟨fun h=>K2t h,fun h=>?_⟩
 have hle:xs.length=ys.length:=by omega
 refine K3 xs (fun k=>[(13,vI k)]) (fun k=>[]) (fun k=>xs.take k=ys.take k) hl ?_
 simp only[go_sem]
 refine⟨?_,rfl,?_,?_⟩
 ·simp only[go_sem]
 ·intro k x hx he h0 h1 hw
  obtain⟨y,hy⟩:=K5 (show k<ys.length by omega)
  have h2:(k:Int)<ys.length:=by omega
  simp only[go_sem,K1 hx,K1 hy,h0,h1,h2,hw]
  exact⟨fun hn=>K3d hx hy (by simpa using hn),fun hn=>(Ku hx hy he).2 (by simpa using hn)⟩
 ·intro he
  simp only[go_sem]
  exact K2s he hle
def encS(s:ByteArray):List T:=[tS s]
attribute [go_sem] encS
abbrev aStr(s:ByteArray):Bool×List T:=(false,[tS s])
attribute [go_sem] aStr
def M1z:MC:=Y13
theorem Cdg(xs:List ByteArray)(f:FuncId)(cs:List T)(p:ByteArray→Bool)(hp:∀x,x∈xs→Ctr Tryz.prog f (aStr x::cs.map (fun t=>(false,[t]))) [rB (p x)]):Ctr Tryz.prog N22 [aL 1 (xs.map encS),(false,[.fn f cs])] [rI (idxF p xs)]:=by
 refine cA M1z 0 19 [(.tmp 4,[false])] Tryz.func179 rfl rfl ?_;unfold M1z
 intro hb
 simp only[bdA,bdL,bdT,K7,roomB,and_true,List.length_map]at hb
 obtain⟨⟨hl,-⟩,-⟩:=hb
 simp only[go_sem]
 refine K3 xs (fun k=>[(8,vI k)]) (fun k=>[]) (fun k=>(xs.take k).any p=false) hl ?_
 simp only[go_sem]
 refine⟨?_,by simp,?_,?_⟩
 ·simp only[go_sem]
 ·intro k x hx h h0 h1 hw
  simp only[go_sem,K1 hx,h0,h1]
  refine K0 (hp x (Ki hx)) ?_
  simp only[go_sem,hw]
  exact⟨fun hn=>(K2v hx h hn).symm,fun hn=>K1k hx h hn⟩
 ·intro h
  simp only[go_sem]
  rw[List.take_length]at h
  rw[K2w h]
def Y14(v0:Nat):MC:=
(Zs [.mv 4 cF] [0,1] (Zs [mS 5 0,mS 6 1,.call 7 [] (.f v0) [.s 5,.s 6],bC 8 .geq 7 0,mS 4 8] [4] .ret))
attribute [go_sem] Y14
def M1j:MC:=Y14 N22
theorem Caf(xs:List ByteArray)(f:FuncId)(cs:List T)(p:ByteArray→Bool)(hp:∀x,x∈xs→Ctr Tryz.prog f (aStr x::cs.map (fun t=>(false,[t]))) [rB (p x)]):Ctr Tryz.prog Np [aL 1 (xs.map encS),(false,[.fn f cs])] [rB (xs.any p)]:=by
 refine cA M1j 0 9 [(.tmp 4,[false])] Tryz.func133 rfl rfl ?_;unfold M1j
 intro hb
 clear hb
 simp only[go_sem]
 refine K0 (Cdg xs f cs p hp) ?_
 simp only[go_sem]
 intros
 exact K4e
def Y15(v0:Nat):MC:=
(Zs [.mv 4 (ci 0)] [0,1] (.seq (Zs [mS 6 0,nS 7 6,.mv 8 (ci 0)] [0,1,7,8] (.block 0 (.loop ([0,1,7,8],[]) (Zs [bS 9 .lss 8 7] [0,1,7,8,9] (.seq (cX 9 0)
(.seq (.block 1 (Zs [mS 10 8,mS 5 10] [0,1,5,7,8] (Zs [mS 11 1,mS 12 0,mS 13 5,xS 14 v0 12 13,lT 15 v0 14,.call 16 [] (.s 11) [.s 15]] [0,1,5,7,8,16] (.cond (.s 16) (Zs [mS 17 5,mS 4 17] [4] .ret) .skip))))
(pr [bC 18 .add 8 1,mS 8 18] [0,1,7,8])))))))
(Zs [.mv 4 (.c (.int .i64 (-1)))] [4] .ret)))
attribute [go_sem] Y15
def Mt:MC:=Y15 9
theorem C86(xs:List GVersion)(f:FuncId)(cs:List T)(p:GVersion→Bool)(hp:∀x,x∈xs→Ctr Tryz.prog f (aS (GVersion.enc x)::cs.map (fun t=>(false,[t]))) [rB (p x)]):Ctr Tryz.prog Nv [aL 9 (xs.map GVersion.enc),(false,[.fn f cs])] [rI (idxF p xs)]:=by
 refine cA Mt 0 19 [(.tmp 4,[false])] Tryz.func158 rfl rfl ?_;unfold Mt
 intro hb
 simp only[bdA,bdL,bdT,K7,roomB,and_true,List.length_map]at hb
 obtain⟨⟨hl,-⟩,-⟩:=hb
 simp only[go_sem]
 refine K3 xs (fun k=>[(8,vI k)]) (fun k=>[]) (fun k=>(xs.take k).any p=false) hl ?_
 simp only[go_sem]
 refine⟨?_,by simp,?_,?_⟩
 ·simp only[go_sem]
 ·intro k x hx h h0 h1 hw
  simp only[go_sem,K1 hx,h0,h1]
  refine K0 (hp x (Ki hx)) ?_
  simp only[go_sem,hw]
  exact⟨fun hn=>(K2v hx h hn).symm,fun hn=>K1k hx h hn⟩
 ·intro h
  simp only[go_sem]
  rw[List.take_length]at h
  rw[K2w h]
def Ml:MC:=Y14 Nv
theorem C54(xs:List GVersion)(f:FuncId)(cs:List T)(p:GVersion→Bool)(hp:∀x,x∈xs→Ctr Tryz.prog f (aS (GVersion.enc x)::cs.map (fun t=>(false,[t]))) [rB (p x)]):Ctr Tryz.prog Nn [aL 9 (xs.map GVersion.enc),(false,[.fn f cs])] [rB (xs.any p)]:=by
 refine cA Ml 0 9 [(.tmp 4,[false])] Tryz.func110 rfl rfl ?_;unfold Ml
 intro hb
 clear hb
 simp only[go_sem]
 refine K0 (C86 xs f cs p hp) ?_
 simp only[go_sem]
 intros
 exact K4e
def M1n:MC:=Y15 4
theorem Cdm(xs:List GOp)(f:FuncId)(cs:List T)(p:GOp→Bool)(hp:∀x,x∈xs→Ctr Tryz.prog f (aS (GOp.enc x)::cs.map (fun t=>(false,[t]))) [rB (p x)]):Ctr Tryz.prog N1o [aL 4 (xs.map GOp.enc),(false,[.fn f cs])] [rI (idxF p xs)]:=by
 refine cA M1n 0 19 [(.tmp 4,[false])] Tryz.func160 rfl rfl ?_;unfold M1n
 intro hb
 simp only[bdA,bdL,bdT,K7,roomB,and_true,List.length_map]at hb
 obtain⟨⟨hl,-⟩,-⟩:=hb
 simp only[go_sem]
 refine K3 xs (fun k=>[(8,vI k)]) (fun k=>[]) (fun k=>(xs.take k).any p=false) hl ?_
 simp only[go_sem]
 refine⟨?_,by simp,?_,?_⟩
 ·simp only[go_sem]
 ·intro k x hx h h0 h1 hw
  simp only[go_sem,K1 hx,h0,h1]
  refine K0 (hp x (Ki hx)) ?_
  simp only[go_sem,hw]
  exact⟨fun hn=>(K2v hx h hn).symm,fun hn=>K1k hx h hn⟩
 ·intro h
  simp only[go_sem]
  rw[List.take_length]at h
  rw[K2w h]
def M1a:MC:=Y14 N1o
theorem Cal(xs:List GOp)(f:FuncId)(cs:List T)(p:GOp→Bool)(hp:∀x,x∈xs→Ctr Tryz.prog f (aS (GOp.enc x)::cs.map (fun t=>(false,[t]))) [rB (p x)]):Ctr Tryz.prog N1b [aL 4 (xs.map GOp.enc),(false,[.fn f cs])] [rB (xs.any p)]:=by
 refine cA M1a 0 9 [(.tmp 4,[false])] Tryz.func114 rfl rfl ?_;unfold M1a
 intro hb
 clear hb
 simp only[go_sem]
 refine K0 (Cdm xs f cs p hp) ?_
 simp only[go_sem]
 intros
 exact K4e
def M10:MC:=Y15 5
theorem Can(xs:List GEntry)(f:FuncId)(cs:List T)(p:GEntry→Bool)(hp:∀x,x∈xs→Ctr Tryz.prog f (aS (GEntry.enc x)::cs.map (fun t=>(false,[t]))) [rB (p x)]):Ctr Tryz.prog N12 [aL 5 (xs.map GEntry.enc),(false,[.fn f cs])] [rI (idxF p xs)]:=by
 refine cA M10 0 19 [(.tmp 4,[false])] Tryz.func268 rfl rfl ?_;unfold M10
 intro hb
 simp only[bdA,bdL,bdT,K7,roomB,and_true,List.length_map]at hb
 obtain⟨⟨hl,-⟩,-⟩:=hb
 simp only[go_sem]
 refine K3 xs (fun k=>[(8,vI k)]) (fun k=>[]) (fun k=>(xs.take k).any p=false) hl ?_
 simp only[go_sem]
 refine⟨?_,by simp,?_,?_⟩
 ·simp only[go_sem]
 ·intro k x hx h h0 h1 hw
  simp only[go_sem,K1 hx,h0,h1]
  refine K0 (hp x (Ki hx)) ?_
  simp only[go_sem,hw]
  exact⟨fun hn=>(K2v hx h hn).symm,fun hn=>K1k hx h hn⟩
 ·intro h
  simp only[go_sem]
  rw[List.take_length]at h
  rw[K2w h]
def Mx:MC:=Y14 N12
theorem C6i(xs:List GEntry)(f:FuncId)(cs:List T)(p:GEntry→Bool)(hp:∀x,x∈xs→Ctr Tryz.prog f (aS (GEntry.enc x)::cs.map (fun t=>(false,[t]))) [rB (p x)]):Ctr Tryz.prog Ny [aL 5 (xs.map GEntry.enc),(false,[.fn f cs])] [rB (xs.any p)]:=by
 refine cA Mx 0 9 [(.tmp 4,[false])] Tryz.func242 rfl rfl ?_;unfold Mx
 intro hb
 clear hb
 simp only[go_sem]
 refine K0 (Can xs f cs p hp) ?_
 simp only[go_sem]
 intros
 exact K4e
def Ms:MC:=Y15 9
theorem C85(xs:List GCapture)(f:FuncId)(cs:List T)(p:GCapture→Bool)(hp:∀x,x∈xs→Ctr Tryz.prog f (aS (GCapture.enc x)::cs.map (fun t=>(false,[t]))) [rB (p x)]):Ctr Tryz.prog Nu [aL 9 (xs.map GCapture.enc),(false,[.fn f cs])] [rI (idxF p xs)]:=by
 refine cA Ms 0 19 [(.tmp 4,[false])] Tryz.func269 rfl rfl ?_;unfold Ms
 intro hb
 simp only[bdA,bdL,bdT,K7,roomB,and_true,List.length_map]at hb
 obtain⟨⟨hl,-⟩,-⟩:=hb
 simp only[go_sem]
 refine K3 xs (fun k=>[(8,vI k)]) (fun k=>[]) (fun k=>(xs.take k).any p=false) hl ?_
 simp only[go_sem]
 refine⟨?_,by simp,?_,?_⟩
 ·simp only[go_sem]
 ·intro k x hx h h0 h1 hw
  simp only[go_sem,K1 hx,h0,h1]
  refine K0 (hp x (Ki hx)) ?_
  simp only[go_sem,hw]
  exact⟨fun hn=>(K2v hx h hn).symm,fun hn=>K1k hx h hn⟩
 ·intro h
  simp only[go_sem]
  rw[List.take_length]at h
  rw[K2w h]
def Mk:MC:=Y14 Nu
theorem C53(xs:List GCapture)(f:FuncId)(cs:List T)(p:GCapture→Bool)(hp:∀x,x∈xs→Ctr Tryz.prog f (aS (GCapture.enc x)::cs.map (fun t=>(false,[t]))) [rB (p x)]):Ctr Tryz.prog Nm [aL 9 (xs.map GCapture.enc),(false,[.fn f cs])] [rB (xs.any p)]:=by
 refine cA Mk 0 9 [(.tmp 4,[false])] Tryz.func245 rfl rfl ?_;unfold Mk
 intro hb
 clear hb
 simp only[go_sem]
 refine K0 (C85 xs f cs p hp) ?_
 simp only[go_sem]
 intros
 exact K4e
def Mg:MC:=Y15 5
theorem C6b(xs:List GExclusion)(f:FuncId)(cs:List T)(p:GExclusion→Bool)(hp:∀x,x∈xs→Ctr Tryz.prog f (aS (GExclusion.enc x)::cs.map (fun t=>(false,[t]))) [rB (p x)]):Ctr Tryz.prog Nj [aL 5 (xs.map GExclusion.enc),(false,[.fn f cs])] [rI (idxF p xs)]:=by
 refine cA Mg 0 19 [(.tmp 4,[false])] Tryz.func122 rfl rfl ?_;unfold Mg
 intro hb
 simp only[bdA,bdL,bdT,K7,roomB,and_true,List.length_map]at hb
 obtain⟨⟨hl,-⟩,-⟩:=hb
 simp only[go_sem]
 refine K3 xs (fun k=>[(8,vI k)]) (fun k=>[]) (fun k=>(xs.take k).any p=false) hl ?_
 simp only[go_sem]
 refine⟨?_,by simp,?_,?_⟩
 ·simp only[go_sem]
 ·intro k x hx h h0 h1 hw
  simp only[go_sem,K1 hx,h0,h1]
  refine K0 (hp x (Ki hx)) ?_
  simp only[go_sem,hw]
  exact⟨fun hn=>(K2v hx h hn).symm,fun hn=>K1k hx h hn⟩
 ·intro h
  simp only[go_sem]
  rw[List.take_length]at h
  rw[K2w h]
def Me:MC:=Y14 Nj
theorem C25(xs:List GExclusion)(f:FuncId)(cs:List T)(p:GExclusion→Bool)(hp:∀x,x∈xs→Ctr Tryz.prog f (aS (GExclusion.enc x)::cs.map (fun t=>(false,[t]))) [rB (p x)]):Ctr Tryz.prog N6 [aL 5 (xs.map GExclusion.enc),(false,[.fn f cs])] [rB (xs.any p)]:=by
 refine cA Me 0 9 [(.tmp 4,[false])] Tryz.func66 rfl rfl ?_;unfold Me
 intro hb
 clear hb
 simp only[go_sem]
 refine K0 (C6b xs f cs p hp) ?_
 simp only[go_sem]
 intros
 exact K4e
def Mf:MC:=Y15 4
theorem C6a(xs:List GContainer)(f:FuncId)(cs:List T)(p:GContainer→Bool)(hp:∀x,x∈xs→Ctr Tryz.prog f (aS (GContainer.enc x)::cs.map (fun t=>(false,[t]))) [rB (p x)]):Ctr Tryz.prog Ni [aL 4 (xs.map GContainer.enc),(false,[.fn f cs])] [rI (idxF p xs)]:=by
 refine cA Mf 0 19 [(.tmp 4,[false])] Tryz.func124 rfl rfl ?_;unfold Mf
 intro hb
 simp only[bdA,bdL,bdT,K7,roomB,and_true,List.length_map]at hb
 obtain⟨⟨hl,-⟩,-⟩:=hb
 simp only[go_sem]
 refine K3 xs (fun k=>[(8,vI k)]) (fun k=>[]) (fun k=>(xs.take k).any p=false) hl ?_
 simp only[go_sem]
 refine⟨?_,by simp,?_,?_⟩
 ·simp only[go_sem]
 ·intro k x hx h h0 h1 hw
  simp only[go_sem,K1 hx,h0,h1]
  refine K0 (hp x (Ki hx)) ?_
  simp only[go_sem,hw]
  exact⟨fun hn=>(K2v hx h hn).symm,fun hn=>K1k hx h hn⟩
 ·intro h
  simp only[go_sem]
  rw[List.take_length]at h
  rw[K2w h]
def Mc:MC:=Y14 Ni
theorem Ca(xs:List GContainer)(f:FuncId)(cs:List T)(p:GContainer→Bool)(hp:∀x,x∈xs→Ctr Tryz.prog f (aS (GContainer.enc x)::cs.map (fun t=>(false,[t]))) [rB (p x)]):Ctr Tryz.prog N2 [aL 4 (xs.map GContainer.enc),(false,[.fn f cs])] [rB (xs.any p)]:=by
 refine cA Mc 0 9 [(.tmp 4,[false])] Tryz.func71 rfl rfl ?_;unfold Mc
 intro hb
 clear hb
 simp only[go_sem]
 refine K0 (C6a xs f cs p hp) ?_
 simp only[go_sem]
 intros
 exact K4e
def M1f:MC:=
(Zs [.mv 4 cF] [0,1] (.seq (Zs [mS 6 0,nS 7 6,mS 8 1,nS 9 8,bS 10 .neq 7 9] [0,1,10] (.cond (.s 10) (Zs [.mv 4 cF] [4] .ret) .skip))
(.seq (Zs [mS 11 0,nS 12 11,.mv 13 (ci 0)] [0,1,12,13] (.block 0 (.loop ([0,1,12,13],[]) (Zs [bS 14 .lss 13 12] [0,1,12,13,14] (.seq (cX 14 0)
(.seq (.block 1 (Zs [mS 15 13,mS 5 15] [0,1,5,12,13] (.seq (.dreg [Zc [17,20,21,22,23] (mS 16 0),Zc [16,20,21,22,23] (mS 17 5),Zd [20,21,22,23] [0,1] (xS 18 6 16 17),Zd [20,21,22,23] [0,1,2] (lT 19 6 18),Zc [16,17,18,19,21] (mS 20 1),Zc [16,17,18,19,20] (mS 21 5),Zd [16,17,18,19] [4,5] (xS 22 6 20 21),Zd [16,17,18,19] [4,5,6] (lT 23 6 22),Ze (.range 8) (.eqA 24 true [.i .i64,.i .i64,.i .i64,.i .i64,.i .i64,.i .i64] (.s 19) (.s 23))] [0,1,12,13,24])
(.cond (.s 24) (Zs [.mv 4 cF] [4] .ret) .skip))))
(pr [bC 25 .add 13 1,mS 13 25] [0,1,12,13])))))))
(Zs [.mv 4 cT] [4] .ret))))
theorem C4g(xs ys:List GFound):Ctr Tryz.prog Nh [aL 6 (xs.map GFound.enc),aL 6 (ys.map GFound.enc)] [rB (decide (xs=ys))]:=by
 refine cA M1f 0 26 [(.tmp 4,[false])] Tryz.func119 rfl rfl ?_;unfold M1f
 intro hb
 simp only[bdA,bdL,bdT,K7,roomB,and_true,List.length_map]at hb
 obtain⟨⟨hl,-⟩,⟨hl2,-⟩⟩:=hb
 simp only[go_sem]
 refine⟨fun h=>K2t h,fun h=>?_⟩
 have hle:xs.length=ys.length:=by omega
 refine K3 xs (fun k=>[(13,vI k)]) (fun k=>[]) (fun k=>xs.take k=ys.take k) hl ?_
 simp only[go_sem]
 refine⟨?_,rfl,?_,?_⟩
 ·simp only[go_sem]
 ·intro k x hx he h0 h1 hw
  obtain⟨y,hy⟩:=K5 (show k<ys.length by omega)
  have h2:(k:Int)<ys.length:=by omega
  simp only[go_sem,K1 hx,K1 hy,h0,h1,h2,hw,eqB]
  exact⟨fun hn=>K3d hx hy (by rintro rfl;simp at hn),fun hn=>(Ku hx hy he).2 (by exact GFound.eqv.2 (by simpa using hn))⟩
 ·intro he
  simp only[go_sem]
  exact K2s he hle
end Go.Proofs.YtpeabgkoknjojaaGreatDoorR
namespace Go.Proofs.YtpeabgkoknjojaaGreatDoorR
open Go Go.RowKit Go.Proofs
open Nat (reduceEqDiff reduceLT reduceLeDiff reduceAdd reduceMul)
open List (reduceReplicate)
attribute [go_sem] eqB
def Mid:MC:=
(Zs [.mv 6 cF] [0,1,2] (.seq (.reg [Za (mS 7 0),Za (mS 8 1),Za (bS 9 .geq 7 8),Za (mS 10 9),Zb 10 true (mS 11 0),Zb 10 true (mS 12 2),Zb 10 true (bS 13 .leq 11 12),Za (.pick 14 (.s 10) (.s 13) cF),Za (mS 6 14)] [6])
.ret))
theorem C3(x a b:Int):Ctr Tryz.prog N0 [aI x,aI a,aI b] [rB (decide (a≤x∧x≤b))]:=by
 refine cA Mid 0 15 [(.tmp 6,[false])] Tryz.func48 rfl rfl ?_;unfold Mid
 intro hb
 clear hb
 simp only[go_sem]
 exact⟨fun h=>by simp[h],fun h=>by simp;omega⟩
def Mjx:MC:=
(Zs [.mv 4 cF] [0,1] (.seq (.reg [Za (mS 5 0),Za (bC 6 .geq 5 0),Za (mS 7 6),Zb 7 true (mS 8 0),Zb 7 true (mS 9 1),Zb 7 true (bS 10 .lss 8 9),Za (.pick 11 (.s 7) (.s 10) cF),Za (mS 4 11)] [4])
.ret))
theorem Cce(x n:Int):Ctr Tryz.prog N2l [aI x,aI n] [rB (decide (0≤x∧x<n))]:=by
 refine cA Mjx 0 12 [(.tmp 4,[false])] Tryz.func130 rfl rfl ?_;unfold Mjx
 intro hb
 clear hb
 simp only[go_sem]
 exact⟨fun h=>by simp[h],fun h=>by simp;omega⟩
def Mdq:MC:=
(Zs [.mv 6 cF] [0,1,2] (.seq (.reg [Za (mS 7 1),Za (mS 8 0),Za (bS 9 .leq 7 8),Za (mS 10 9),Zb 10 true (mS 11 0),Zb 10 true (mS 12 2),Zb 10 true (bS 13 .leq 11 12),Za (.pick 14 (.s 10) (.s 13) cF),Za (mS 6 14)] [6])
.ret))
theorem C4(x a b:Int):Ctr Tryz.prog N1 [aI x,aI a,aI b] [rB (decide (a≤x∧x≤b))]:=by
 refine cA Mdq 0 15 [(.tmp 6,[false])] Tryz.func70 rfl rfl ?_;unfold Mdq
 intro hb
 clear hb
 simp only[go_sem]
 exact⟨fun h=>by simp[h],fun h=>by simp;omega⟩
def K22(l:List Int)(a b:Int):Bool:=l.all fun x=>decide (a≤x∧x≤b)
theorem K2b{α:Type}{p:α→Bool}{l:List α}{k:Nat}{x:α}(hx:l[k]? =some x)(h:(l.take k).all p=true)(hn:p x=true):(l.take (k+1)).all p=true:=by
 rw[K8 hx,List.all_append,h];simp[hn]
theorem K7w{α:Type}{p:α→Bool}{l:List α}{k:Nat}{x:α}(hx:l[k]? =some x)(hn:p x=false):false=l.all p:=by
 symm;rw[List.all_eq_false];exact⟨x,Ki hx,by simp[hn]⟩
def Mh6:MC:=
(Zs [.mv 6 cF] [0,1,2] (.seq (Zs [mS 9 0,nS 10 9,.mv 11 (ci 0)] [1,2,9,10,11] (.block 0 (.loop ([1,2,9,10,11],[]) (Zs [bS 12 .lss 11 10] [1,2,9,10,11,12] (.seq (cX 12 0)
(.seq (.block 1 (Zs [xS 13 1 9 11,lF 14 1 13,mS 8 14] [1,2,8,9,10,11] (Zs [mS 15 8,mS 16 1,mS 17 2,.call 18 [] (.f N1) [.s 15,.s 16,.s 17],.un 19 .not (.s 18)] [1,2,9,10,11,19] (.cond (.s 19) (Zs [.mv 6 cF] [6] .ret) .skip))))
(pr [bC 20 .add 11 1,mS 11 20] [1,2,9,10,11])))))))
(Zs [.mv 6 cT] [6] .ret)))
theorem Caj(l:List Int)(a b:Int):Ctr Tryz.prog N39 [aL 1 (l.map encI),aI a,aI b] [rB (K22 l a b)]:=by
 refine cA Mh6 0 21 [(.tmp 6,[false])] Tryz.func159 rfl rfl ?_;unfold Mh6
 intro hb
 simp only[bdA,bdL,bdT,K7,K15,roomB,and_true,List.length_map]at hb
 obtain⟨⟨hl,-⟩,-⟩:=hb
 simp only[go_sem]
 refine K3 l (fun k=>[(11,vI k)]) (fun k=>[]) (fun k=>((l.take k).all fun x=>decide (a≤x∧x≤b))=true) hl ?_
 simp only[go_sem]
 refine⟨?_,by simp,?_,?_⟩
 ·simp only[go_sem]
 ·intro k x hx h h0 h1 hw
  simp only[go_sem,K1 hx,h0,h1]
  refine K0 (C4 _ _ _) ?_
  simp only[go_sem,hw]
  exact⟨fun hn=>K7w hx (by simpa using hn),fun hn=>K2b hx h (by simpa using hn)⟩
 ·intro h
  simp only[go_sem]
  rw[List.take_length]at h
  exact h.symm
def Me3:MC:=
(Zs [.mv 2 cF] [0] (.seq (Zs [.mv 3 (ci 0)] [0,3] (.block 0 (.loop ([0,3],[]) (.seq (Zs [mS 4 3,mS 5 0,nS 6 5,bS 7 .lss 4 6] [0,3,7] (cX 7 0))
(.seq (.block 1 (Zs [mS 10 0,mS 11 3,xS 12 1 10 11,lF 13 1 12,.call 14 [] (.f N0) [.s 13,.c (.int .i64 0),.c (.int .i64 255)],.un 15 .not (.s 14)] [0,3,15] (.cond (.s 15) (Zs [.mv 2 cF] [2] .ret) .skip)))
(pr [mS 8 3,bC 9 .add 8 1,mS 3 9] [0,3]))))))
(Zs [.mv 2 cT] [2] .ret)))
theorem Cjv(l:List Int):Ctr Tryz.prog Nee [aL 1 (l.map encI)] [rB (K22 l 0 255)]:=by
 refine cA Me3 0 16 [(.tmp 2,[false])] Tryz.func144 rfl rfl ?_;unfold Me3
 intro hb
 simp only[bdA,bdL,bdT,K7,roomB,and_true,List.length_map]at hb
 obtain⟨hl,-⟩:=hb
 simp only[go_sem]
 refine K3 l (fun k=>[(3,vI k)]) (fun k=>[]) (fun k=>((l.take k).all fun x=>decide (0≤x∧x≤255))=true) hl ?_
 simp only[go_sem]
 refine⟨?_,by simp,?_,?_⟩
 ·simp only[go_sem]
 ·intro k x hx h h0 h1 hw
  simp only[go_sem,K1 hx,h0,h1]
  refine K0 (C3 _ _ _) ?_
  simp only[go_sem,hw]
  exact⟨fun hn=>K7w hx (by simpa using hn),fun hn=>K2b hx h (by simpa using hn)⟩
 ·intro h
  simp only[go_sem]
  rw[List.take_length]at h
  exact h.symm
def K11(a:GAddress):Bool:=decide (1≤a.Host∧a.Host≤9)&&(decide (0≤a.Path∧a.Path≤99)&&decide (0≤a.Query∧a.Query≤99))
def Y16(v0:Nat):MC:=
(Zs [.box 1 0 (.s 0),.mv 2 cF] [1] (.seq (.reg [Za (fS 3 1 0),Za (lF 4 1 3),Za (.call 5 [] (.f v0) [.s 4,.c (.int .i64 1),.c (.int .i64 9)]),Za (mS 6 5),Zb 6 true (fS 7 1 1),Zb 6 true (lF 8 1 7),Zb 6 true (.call 9 [] (.f v0) [.s 8,.c (.int .i64 0),.c (.int .i64 99)]),Za (.pick 10 (.s 6) (.s 9) cF),Za (mS 11 10),Zb 11 true (fS 12 1 2),Zb 11 true (lF 13 1 12),Zb 11 true (.call 14 [] (.f v0) [.s 13,.c (.int .i64 0),.c (.int .i64 99)]),Za (.pick 15 (.s 11) (.s 14) cF),Za (mS 2 15)] [2])
.ret))
attribute [go_sem] Y16
def Mat:MC:=Y16 N1
theorem C15(a:GAddress):Ctr Tryz.prog N18 [aS a.enc] [rB (K11 a)]:=by
 refine cA Mat 1 16 [(.tmp 2,[false])] Tryz.func112 rfl rfl ?_;unfold Mat
 intro hb
 clear hb
 simp only[go_sem]
 refine K0 (C4 _ _ _) ?_
 simp only[go_sem]
 refine⟨fun h=>?_,fun h=>by unfold K11;rw[decide_eq_false h];rfl⟩
 refine K0 (C4 _ _ _) ?_
 simp only[go_sem]
 refine⟨fun h2=>?_,fun h2=>by unfold K11;rw[decide_eq_false h2];simp⟩
 refine K0 (C4 _ _ _) ?_
 simp only[go_sem]
 unfold K11;rw[decide_eq_true h,decide_eq_true h2];rfl
def Mbg:MC:=Y16 N0
theorem C16(a:GAddress):Ctr Tryz.prog Nz [aS a.enc] [rB (K11 a)]:=by
 refine cA Mbg 1 16 [(.tmp 2,[false])] Tryz.func91 rfl rfl ?_;unfold Mbg
 intro hb
 clear hb
 simp only[go_sem]
 refine K0 (C3 _ _ _) ?_
 simp only[go_sem]
 refine⟨fun h=>?_,fun h=>by unfold K11;rw[decide_eq_false h];rfl⟩
 refine K0 (C3 _ _ _) ?_
 simp only[go_sem]
 refine⟨fun h2=>?_,fun h2=>by unfold K11;rw[decide_eq_false h2];simp⟩
 refine K0 (C3 _ _ _) ?_
 simp only[go_sem]
 unfold K11;rw[decide_eq_true h,decide_eq_true h2];rfl
def K21(a:GAddress):Bool:=a.Host==0&&(a.Path==0&&a.Query==0)
def K14(r:GResource):Bool:=
 if r.Kind=1∨r.Kind=2 then decide (r.Body.length≤6)&&(K22 r.Body 0 255&&K21 r.To)
 else if r.Kind=3 then decide (r.Body.length=0)&&K11 r.To
 else if r.Kind=4 then decide (r.Body.length=0)&&K21 r.To else false
def M8s:MC:=
(Zs [.box 1 0 (.s 0),.mv 2 cF] [1] (.seq (Zs [fS 3 1 0,lF 4 1 3] [1,4] (.block 0 (.seq (Zs [bC 6 .eql 4 1,mS 5 6] [1,4,5] (.cond (.s 5) .skip (pr [bC 7 .eql 4 2,mS 5 7] [1,4,5])))
(.cond (.s 5) (.seq (.reg [Za (fS 8 1 1),Za (lF 9 1 8),Za (nS 10 9),Za (bC 11 .leq 10 6),Za (mS 12 11),Zb 12 true (fS 13 1 1),Zb 12 true (lF 14 1 13),Zb 12 true (.call 15 [] (.f N39) [.s 14,.c (.int .i64 0),.c (.int .i64 255)]),Za (.pick 16 (.s 12) (.s 15) cF),Za (mS 17 16),Zb 17 true (fS 18 1 2),Zb 17 true (lT 19 3 18),Zb 17 true (.build 20 [pz,pz,pz] []),Zb 17 true (.eqA 21 false [.i .i64,.i .i64,.i .i64] (.s 19) (.s 20)),Za (.pick 22 (.s 17) (.s 21) cF),Za (mS 2 22)] [2])
.ret) (Zs [bC 24 .eql 4 3,mS 23 24] [1,4,23] (.cond (.s 23) (.seq (.reg [Za (fS 25 1 1),Za (lF 26 1 25),Za (nS 27 26),Za (bC 28 .eql 27 0),Za (mS 29 28),Zb 29 true (fS 30 1 2),Zb 29 true (lT 31 3 30),Zb 29 true (.call 32 [] (.f N18) [.s 31]),Za (.pick 33 (.s 29) (.s 32) cF),Za (mS 2 33)] [2])
.ret) (Zs [bC 35 .eql 4 4,mS 34 35] [1,34] (.cond (.s 34) (.seq (.reg [Za (fS 36 1 1),Za (lF 37 1 36),Za (nS 38 37),Za (bC 39 .eql 38 0),Za (mS 40 39),Zb 40 true (fS 41 1 2),Zb 40 true (lT 42 3 41),Zb 40 true (.build 43 [pz,pz,pz] []),Zb 40 true (.eqA 44 false [.i .i64,.i .i64,.i .i64] (.s 42) (.s 43)),Za (.pick 45 (.s 40) (.s 44) cF),Za (mS 2 45)] [2])
.ret) .skip))))))))
(Zs [.mv 2 cF] [2] .ret)))
theorem C3g(r:GResource):Ctr Tryz.prog N3l [aS r.enc] [rB (K14 r)]:=by
 refine cA M8s 1 46 [(.tmp 2,[false])] Tryz.func113 rfl rfl ?_;unfold M8s
 intro hb
 clear hb
 have hcase:r.Kind=1∨r.Kind=2∨r.Kind=3∨r.Kind=4∨(¬r.Kind=1∧¬r.Kind=2∧¬r.Kind=3∧¬r.Kind=4):=by omega
 rcases hcase with hk|hk|hk|hk|⟨h1,h2,h3,h4⟩
 ·simp only[go_sem,hk]
  refine⟨fun h=>?_,fun h=>?_⟩
  ·have h':r.Body.length≤6:=by omega
   refine K0 (Caj _ _ _) ?_
   simp only[go_sem]
   exact⟨fun h2=>by simp[K14,K21,hk,h2,h'],fun h2=>by simp[K14,K21,hk,h2]⟩
  ·have h':¬r.Body.length≤6:=by omega
   simp[K14,K21,hk,h']
 ·simp only[go_sem,hk,Int.reduceEq]
  refine⟨fun h=>?_,fun h=>?_⟩
  ·have h':r.Body.length≤6:=by omega
   refine K0 (Caj _ _ _) ?_
   simp only[go_sem]
   exact⟨fun h2=>by simp[K14,K21,hk,h2,h'],fun h2=>by simp[K14,K21,hk,h2]⟩
  ·have h':¬r.Body.length≤6:=by omega
   simp[K14,K21,hk,h']
 ·simp only[go_sem,hk,Int.reduceEq]
  refine⟨fun h=>?_,fun h=>?_⟩
  ·have h':r.Body.length=0:=by omega
   refine K0 (C15 r.To) ?_
   simp only[go_sem]
   simp[K14,hk,h']
  ·have h':¬r.Body.length=0:=by omega
   unfold K14
   rw[if_neg (by omega),if_pos hk,decide_eq_false h']
   rfl
 ·simp only[go_sem,hk,Int.reduceEq]
  refine⟨fun h=>?_,fun h=>?_⟩
  ·have h':r.Body.length=0:=by omega
   unfold K14
   rw[if_neg (by omega),if_neg (by omega),if_pos hk,decide_eq_true h']
   simp[K21]
  ·have h':¬r.Body.length=0:=by omega
   unfold K14
   rw[if_neg (by omega),if_neg (by omega),if_pos hk,decide_eq_false h']
   rfl
 ·simp only[go_sem,h1,h2,h3,h4]
  unfold K14
  rw[if_neg (by omega),if_neg (by omega),if_neg (by omega)]
def M9f:MC:=
(Zs [.box 1 0 (.s 0),.mv 2 cF] [1] (.seq (.seq (.reg [Za (fS 3 1 0),Za (lF 4 1 3),Za (.call 5 [] (.f N0) [.s 4,.c (.int .i64 1),.c (.int .i64 4)]),Za (.un 6 .not (.s 5)),Za (mS 7 6),Zb 7 false (fS 8 1 1),Zb 7 false (lF 9 1 8),Zb 7 false (.call 10 [] (.f Nee) [.s 9]),Zb 7 false (.un 11 .not (.s 10)),Za (.pick 12 (.s 7) cT (.s 11)),Za (mS 13 12),Zb 13 false (fS 14 1 1),Zb 13 false (lF 15 1 14),Zb 13 false (nS 16 15),Zb 13 false (bC 17 .gtr 16 6),Za (.pick 18 (.s 13) cT (.s 17))] [1,18])
(.cond (.s 18) (Zs [.mv 2 cF] [2] .ret) .skip))
(.seq (Zs [fS 19 1 0,lF 20 1 19,bC 21 .eql 20 3] [1,21] (.cond (.s 21) (.seq (.reg [Za (fS 22 1 2),Za (lT 23 3 22),Za (.call 24 [] (.f Nz) [.s 23]),Za (mS 25 24),Zb 25 true (fS 26 1 1),Zb 25 true (lF 27 1 26),Zb 25 true (nS 28 27),Zb 25 true (bC 29 .eql 28 0),Za (.pick 30 (.s 25) (.s 29) cF),Za (mS 2 30)] [2])
.ret) .skip))
(.seq (.reg [Za (fS 31 1 2),Za (lT 32 3 31),Za (.build 33 [pz,pz,pz] []),Za (.eqA 34 false [.i .i64,.i .i64,.i .i64] (.s 32) (.s 33)),Za (mS 35 34),Zb 35 true (fS 36 1 0),Zb 35 true (lF 37 1 36),Zb 35 true (bC 38 .neq 37 4),Zb 35 true (mS 39 38),Zb 39 false (fS 40 1 1),Zb 39 false (lF 41 1 40),Zb 39 false (nS 42 41),Zb 39 false (bC 43 .eql 42 0),Zb 35 true (.pick 44 (.s 39) cT (.s 43)),Za (.pick 45 (.s 35) (.s 44) cF),Za (mS 2 45)] [2])
.ret))))
theorem C3h(r:GResource):Ctr Tryz.prog N2f [aS r.enc] [rB (K14 r)]:=by
 refine cA M9f 1 46 [(.tmp 2,[false])] Tryz.func92 rfl rfl ?_;unfold M9f
 intro hb
 clear hb
 simp only[go_sem]
 refine K0 (C3 _ _ _) ?_
 simp only[go_sem]
 refine⟨fun h=>?_,fun h=>?_⟩
 ·unfold K14
  rw[if_neg (by omega),if_neg (by omega),if_neg (by omega)]
 ·refine K0 (Cjv r.Body) ?_
  simp only[go_sem]
  refine⟨fun ha=>?_,fun ha=>⟨fun hl=>?_,fun hl=>⟨fun hk=>?_,fun hk=>?_⟩⟩⟩
  ·have h0:¬r.Body.length=0:=fun e=>by
    rw[List.eq_nil_of_length_eq_zero e]at ha
    simp[K22]at ha
   simp[K14,ha,h0]
  ·have h0:¬r.Body.length=0:=by omega
   have h1:¬r.Body.length≤6:=by omega
   simp[K14,h0,h1]
  ·refine K0 (C16 r.To) ?_
   simp only[go_sem]
   refine⟨fun hi=>?_,fun hi=>by simp[K14,hk,hi]⟩
   unfold K14
   rw[if_neg (by omega),if_pos hk,hi,Bool.and_true,Bool.eq_iff_iff]
   simp
  ·have h1:r.Body.length≤6:=by omega
   refine⟨fun ht=>?_,fun ht=>?_⟩
   ·have hn:K21 r.To=true:=by
     unfold K21
     exact(Bool.eq_false_or_eq_true _).resolve_right fun e=>ht e.symm
    refine⟨fun k4=>?_,fun k4=>?_⟩
    ·unfold K14
     rw[if_pos (by omega),ha,hn,decide_eq_true h1]
     rfl
    ·unfold K14
     rw[if_neg (by omega),if_neg hk,if_pos k4,hn,Bool.and_true,Bool.eq_iff_iff]
     simp
   ·have hn:K21 r.To=false:=ht.symm
    unfold K14
    rw[hn,if_neg hk]
    split
    ·simp
    ·split<;>simp
end Go.Proofs.YtpeabgkoknjojaaGreatDoorR
namespace Go.Proofs.YtpeabgkoknjojaaGreatDoorR
open Go Go.RowKit Go.Proofs
open Nat (reduceEqDiff reduceLT reduceLeDiff reduceAdd reduceMul)
open List (reduceReplicate)
end Go.Proofs.YtpeabgkoknjojaaGreatDoorR
namespace Go.Proofs.YtpeabgkoknjojaaGreatDoorR
open Go Go.RowKit Go.Proofs
open Nat (reduceEqDiff reduceLT reduceLeDiff reduceAdd reduceMul)
open List (reduceReplicate)
def Kg(a:GAddress):List UInt8:=if K11 a=true then Lib.itoa a.Host++47::Lib.itoa a.Path++(if a.Query=0 then []else 63::Lib.itoa a.Query)else []
def M6n:MC:=
(Zs [.box 1 0 (.s 0),.mv 2 (.c (.string ⟨#[]⟩))] [1] (.seq (Zs [lT 4 3 1,.call 5 [] (.f N18) [.s 4],.un 6 .not (.s 5)] [1,6] (.cond (.s 6) (Zs [.mv 2 (.c (.string ⟨#[]⟩))] [2] .ret) .skip))
(.seq (.dreg [Zc [11,12] (fS 7 1 0),Zd [11,12] [0] (lF 8 1 7),Zd [11,12] [0,1] (.call 9 [] (.f N17) [.s 8]),Zd [11,12,13] [0,1,2] (.bin 10 false .add (.s 9) (.c (.string ⟨#[47]⟩))),Zc [7,8,9,10] (fS 11 1 1),Zd [7,8,9,10] [4] (lF 12 1 11),Zd [10] [0,1,2,4,5] (.call 13 [] (.f N17) [.s 12]),Ze (.range 7) (bS 14 .add 10 13),Ze (.range 8) (mS 3 14)] [1,3])
(.seq (Zs [fS 15 1 2,lF 16 1 15,bC 17 .neq 16 0] [1,3,17] (.cond (.s 17) (pr [mS 18 3,fS 19 1 2,lF 20 1 19,.call 21 [] (.f N17) [.s 20],.bin 22 false .add (.c (.string ⟨#[63]⟩)) (.s 21),bS 23 .add 18 22,mS 3 23] [3]) .skip))
(Zs [mS 24 3,mS 2 24] [2] .ret)))))
theorem C6f(a:GAddress):Ctr Tryz.prog N36 [aS a.enc] [rStr (bs (Kg a))]:=by
 refine cA M6n 1 25 [(.tmp 2,[false])] Tryz.func233 rfl rfl ?_;unfold M6n
 intro hb
 simp only[GAddress.enc,bdA,bdL,bdT,K15,and_true]at hb
 obtain⟨b1,b2,b3⟩:=hb
 have i1:=itoa_len' b1.1 b1.2
 have i2:=itoa_len' b2.1 b2.2
 have i3:=itoa_len' b3.1 b3.2
 simp only[go_sem]
 refine K0 (C15 a) ?_
 simp only[go_sem]
 refine⟨fun h=>by simp[Kg,h],fun h=>?_⟩
 refine K0 (C1v _) ?_
 simp only[go_sem]
 refine⟨by omega,?_⟩
 refine K0 (C1v _) ?_
 simp only[go_sem,List.length_append]
 refine⟨by omega,?_⟩
 intro _
 refine⟨fun hq=>?_,fun hq=>by simp[Kg,h,hq]⟩
 refine K0 (C1v _) ?_
 simp only[go_sem,List.length_append]
 exact⟨by omega,by omega,fun _=>by simp[Kg,h,hq]⟩
def M76:MC:=
(Zs [.box 1 0 (.s 0),.mv 2 (.c (.string ⟨#[]⟩))] [1] (.seq (Zs [lT 4 3 1,.call 5 [] (.f Nz) [.s 4],.un 6 .not (.s 5)] [1,6] (.cond (.s 6) (Zs [.mv 2 (.c (.string ⟨#[]⟩))] [2] .ret) .skip))
(.seq (.dreg [Zc [11,12] (fS 7 1 0),Zd [11,12] [0] (lF 8 1 7),Zd [11,12] [0,1] (.call 9 [] (.f N19) [.s 8]),Zd [11,12,13] [0,1,2] (.bin 10 false .add (.s 9) (.c (.string ⟨#[47]⟩))),Zc [7,8,9,10] (fS 11 1 1),Zd [7,8,9,10] [4] (lF 12 1 11),Zd [10] [0,1,2,4,5] (.call 13 [] (.f N19) [.s 12]),Ze (.range 7) (bS 14 .add 10 13),Ze (.range 8) (mS 3 14)] [1,3])
(.seq (Zs [fS 15 1 2,lF 16 1 15,bC 17 .neq 16 0] [1,3,17] (.cond (.s 17) (pr [mS 18 3,.bin 19 false .add (.s 18) (.c (.string ⟨#[63]⟩)),fS 20 1 2,lF 21 1 20,.call 22 [] (.f N19) [.s 21],bS 23 .add 19 22,mS 3 23] [3]) .skip))
(Zs [mS 24 3,mS 2 24] [2] .ret)))))
theorem C6j(a:GAddress):Ctr Tryz.prog N3b [aS a.enc] [rStr (bs (Kg a))]:=by
 refine cA M76 1 25 [(.tmp 2,[false])] Tryz.func201 rfl rfl ?_;unfold M76
 intro hb
 simp only[GAddress.enc,bdA,bdL,bdT,K15,and_true]at hb
 obtain⟨b1,b2,b3⟩:=hb
 have i1:=itoa_len' b1.1 b1.2
 have i2:=itoa_len' b2.1 b2.2
 have i3:=itoa_len' b3.1 b3.2
 simp only[go_sem]
 refine K0 (C16 a) ?_
 simp only[go_sem]
 refine⟨fun h=>by simp[Kg,h],fun h=>?_⟩
 refine K0 (C1y _) ?_
 simp only[go_sem]
 refine⟨by omega,?_⟩
 refine K0 (C1y _) ?_
 simp only[go_sem,List.length_append]
 refine⟨by omega,?_⟩
 intro _
 refine⟨fun hq=>⟨by omega,?_⟩,fun hq=>by simp[Kg,h,hq]⟩
 refine K0 (C1y _) ?_
 simp only[go_sem,List.length_append]
 exact⟨by omega,fun _=>by simp[Kg,h,hq]⟩
end Go.Proofs.YtpeabgkoknjojaaGreatDoorR
namespace Go.Proofs
open Go.Shelf
def Tryz.lays103_ren:Go.Shelf.Ren:=⟨fun|103=>180|210=>230|206=>263|n=>n,fun|9=>9|4=>4|24=>219|3=>3|n=>n,fun|n=>n⟩
theorem Tryz.lays103:Go.Proofs.Lays.n103 Tryz.prog Tryz.lays103_ren:={
 mixed:=by kernel_rfl
 f103:=Tryz.func180.trans (congrArg some (by kernel_rfl))
 f206:=Tryz.func263.trans (congrArg some (by kernel_rfl))
 f210:=Tryz.func230.trans (congrArg some (by kernel_rfl))
 t3:=Tryz.underlying3
 a3:=Tryz.isAgg3
 z3:=Tryz.sizeOf3
 v3:=Tryz.zeroValue3
 t4:=Tryz.underlying4
 a4:=Tryz.isAgg4
 z4:=Tryz.sizeOf4
 v4:=Tryz.zeroValue4
 t9:=Tryz.underlying9
 a9:=Tryz.isAgg9
 z9:=Tryz.sizeOf9
 v9:=Tryz.zeroValue9
 t24:=Tryz.underlying219
 a24:=Tryz.isAgg219
 z24:=Tryz.sizeOf219
 v24:=Tryz.zeroValue219}
open Go.RowKit in
theorem Tryz.strings_CutPrefix(s p:ByteArray)(w:World):
  Calls Tryz.prog 180 #[.string s,.string p] w fun e w'=>e= .returned (.tuple #[.string ⟨(Lib.trimPrefix s.data.toList p.data.toList).toArray⟩,.bool (Lib.hasPrefix s.data.toList p.data.toList)])∧w'=w:=Any.strings_CutPrefix Tryz.lays103 s p w
def Tryz.lays219_ren:Go.Shelf.Ren:=⟨fun|219=>264|217=>275|225=>276|224=>277|267=>278|266=>282|314=>283|n=>n,fun|9=>9|3=>3|4=>4|5=>5|46=>216|146=>273|51=>256|n=>n,fun|1=>0|n=>n⟩
theorem Tryz.lays219:Go.Proofs.Lays.n219 Tryz.prog Tryz.lays219_ren:={
 mixed:=by kernel_rfl
 f217:=Tryz.func275.trans (congrArg some (by kernel_rfl))
 f219:=Tryz.func264.trans (congrArg some (by kernel_rfl))
 f224:=Tryz.func277.trans (congrArg some (by kernel_rfl))
 f225:=Tryz.func276.trans (congrArg some (by kernel_rfl))
 f266:=Tryz.func282.trans (congrArg some (by kernel_rfl))
 f267:=Tryz.func278.trans (congrArg some (by kernel_rfl))
 f314:=Tryz.func283.trans (congrArg some (by kernel_rfl))
 t3:=Tryz.underlying3
 a3:=Tryz.isAgg3
 z3:=Tryz.sizeOf3
 v3:=Tryz.zeroValue3
 t4:=Tryz.underlying4
 a4:=Tryz.isAgg4
 z4:=Tryz.sizeOf4
 v4:=Tryz.zeroValue4
 t5:=Tryz.underlying5
 a5:=Tryz.isAgg5
 z5:=Tryz.sizeOf5
 v5:=Tryz.zeroValue5
 t9:=Tryz.underlying9
 a9:=Tryz.isAgg9
 z9:=Tryz.sizeOf9
 v9:=Tryz.zeroValue9
 t46:=Tryz.underlying216
 a46:=Tryz.isAgg216
 z46:=Tryz.sizeOf216
 v46:=Tryz.zeroValue216
 t51:=Tryz.underlying256
 a51:=Tryz.isAgg256
 z51:=Tryz.sizeOf256
 v51:=Tryz.zeroValue256
 t146:=Tryz.underlying273
 a146:=Tryz.isAgg273
 z146:=Tryz.sizeOf273
 v146:=Tryz.zeroValue273
 g1:=by kernel_rfl}
open Go.RowKit Go.Lib in
theorem Tryz.stringslite_Index_one(s:ByteArray)(c:UInt8)(w:World):
  Calls Tryz.prog 264 #[.string s,.string ⟨#[c]⟩] w fun e w'=>e= .returned (.int .i64 (Lib.indexByte s.data.toList c))∧w'=w:=Any.stringslite_Index_one Tryz.lays219 s c w
end Go.Proofs
namespace Go.Proofs.YtpeabgkoknjojaaGreatDoorR
open Go Go.RowKit Go.Proofs
open Nat (reduceEqDiff reduceLT reduceLeDiff reduceAdd reduceMul)
open List (reduceReplicate)
def K1z(l:List UInt8):Nat:=l.foldl (fun v b=>v*10+(b.toNat-48)) 0
theorem K6v(l:List UInt8)(b:UInt8):K1z (l++[b])=K1z l*10+(b.toNat-48):=by
 unfold K1z
 rw[List.foldl_append]
 rfl
theorem Kcb{l:List UInt8}{k:Nat}{b:UInt8}(h:l[k]? =some b):K1z (l.take (k+1))=K1z (l.take k)*10+(b.toNat-48):=by rw[K8 h,K6v]
theorem digB{d:Nat}(h:d<10):(UInt8.ofNat (48+d)).toNat=48+d:=by
 rw[UInt8.toNat_ofNat']
 omega
theorem K7b(n:Nat):K1z (Lib.decDigits n)=n:=by
 induction n using Nat.strongRecOn with
 |_ u ih=>
  unfold Lib.decDigits
  split
  ·rename_i h
   show 0*10+((UInt8.ofNat (48+u)).toNat-48)=u
   rw[digB h]
   omega
  ·rename_i h
   rw[K6v,ih (u/10) (by omega),digB (by omega)]
   omega
theorem K3m(n:Nat):∀b∈Lib.decDigits n,48≤b.toNat∧b.toNat≤57:=by
 induction n using Nat.strongRecOn with
 |_ u ih=>
  unfold Lib.decDigits
  split
  ·rename_i h
   intro b hb
   rw[List.mem_singleton.1 hb,digB h]
   omega
  ·rename_i h
   intro b hb
   rcases List.mem_append.1 hb with hb|hb
   ·exact ih (u/10) (by omega) b hb
   ·rw[List.mem_singleton.1 hb,digB (by omega)]
    omega
theorem K6y(n:Nat):Lib.itoa (n:Int)=Lib.decDigits n:=by
 unfold Lib.itoa
 rw[if_neg (by omega)]
 rfl
theorem K2g(n:Nat):0<(Lib.decDigits n).length:=by
 unfold Lib.decDigits
 split<;>simp
theorem digVal_le{l:List UInt8}(h:∀b∈l,48≤b.toNat∧b.toNat≤57):K1z l<10^l.length:=by
 suffices H:∀r:List UInt8,(∀b∈r,48≤b.toNat∧b.toNat≤57)→K1z r.reverse<10^r.length by
  have:=H l.reverse (fun b hb=>h b (List.mem_reverse.1 hb))
  simpa using this
 intro r
 induction r with
 |nil=>intro _;decide
 |cons b r ih=>
  intro hb
  have h1:=ih fun x hx=>hb x (List.mem_cons_of_mem _ hx)
  have h2:=hb b (List.mem_cons_self ..)
  rw[List.reverse_cons,K6v,List.length_cons,Nat.pow_succ]
  omega
theorem bs_get{l:List UInt8}{k:Nat}:(bs l)[k]? =l[k]? :=by
 rw[show(bs l)[k]? =(bs l).data[k]? from rfl]
 simp[bs]
attribute [go_sem] bs_get
theorem bs_cut{l:List UInt8}{a b:Nat}:(bs l).extract a b=bs ((l.take b).drop a):=by
 apply ByteArray.ext
 rw[ByteArray.data_extract]
 simp[bs,List.drop_take]
attribute [go_sem] bs_cut
theorem bs_eq{l m:List UInt8}:((bs l).toList==(bs m).toList)=decide (l=m):=by
 have h:∀l:List UInt8,(bs l).toList=l:=fun l=>by
  rw[ByteArray.toList_eq]
  simp[bs]
 rw[h,h]
 by_cases e:l=m<;>simp[e]
attribute [go_sem] bs_eq
end Go.Proofs.YtpeabgkoknjojaaGreatDoorR
namespace Go.Proofs.YtpeabgkoknjojaaGreatDoorR
open Go Go.RowKit Go.Proofs
open Nat (reduceEqDiff reduceLT reduceLeDiff reduceAdd reduceMul)
open List (reduceReplicate)
theorem K7f{n:Nat}{k:Nat}{b:UInt8}(hn:n<10^12)(h:(Lib.decDigits n)[k]? =some b):48≤b.toNat∧b.toNat≤57∧k<12∧K1z ((Lib.decDigits n).take k)<10^12:=by
 have h1:=K3m n b (Ki h)
 have h2:=K9 h
 have h3:=decDigits_len' 11 n hn
 have h4:=digVal_le (l:=(Lib.decDigits n).take k) fun b hb=>K3m n b (List.mem_of_mem_take hb)
 have h5:((Lib.decDigits n).take k).length≤12:=by rw[List.length_take];omega
 have h6:10^((Lib.decDigits n).take k).length≤10^12:=Nat.pow_le_pow_right (by omega) h5
 omega
theorem u8_sub{b:UInt8}(h:48≤b.toNat∧b.toNat≤57):IntKind.u8.wrap ((b.toNat:Int)-48)=((b.toNat-48:Nat):Int):=by
 rw[IntKind.wrap_u8]
 omega
theorem Kb8{n k:Nat}{b:UInt8}(hn:n<10^12)(h:(Lib.decDigits n)[k]? =some b):IntKind.i64.wrap (IntKind.i64.wrap (((K1z ((Lib.decDigits n).take k):Nat):Int)*10)+IntKind.i64.wrap (IntKind.u8.wrap ((b.toNat:Int)-48)))=((K1z ((Lib.decDigits n).take (k+1)):Nat):Int):=by
 obtain⟨h1,h2,h3,h4⟩:=K7f hn h
 rw[u8_sub ⟨h1,h2⟩,Kcb h,wI (n:=((K1z ((Lib.decDigits n).take k):Nat):Int)*10) (by omega) (by omega),wI (n:=((b.toNat-48:Nat):Int)) (by omega) (by omega),wI (by omega) (by omega)]
 omega
theorem dig_step2{n k:Nat}{b:UInt8}(hn:n<10^12)(h:(Lib.decDigits n)[k]? =some b):IntKind.i64.wrap (IntKind.i64.wrap (10*((K1z ((Lib.decDigits n).take k):Nat):Int))+IntKind.i64.wrap (IntKind.u8.wrap ((b.toNat:Int)-48)))=((K1z ((Lib.decDigits n).take (k+1)):Nat):Int):=by
 rw[Int.mul_comm]
 exact Kb8 hn h
def M33:MC:=
(Zs [.mv 2 (ci 0),.mv 3 cF] [0] (.seq (.seq (.reg [Za (mS 6 0),Za (.len 7 true (.s 6)),Za (bC 8 .eql 7 0),Za (mS 9 8),Zb 9 false (mS 10 0),Zb 9 false (.len 11 true (.s 10)),Zb 9 false (bC 12 .gtr 11 13),Za (.pick 13 (.s 9) cT (.s 12))] [0,13])
(.cond (.s 13) (Zs [.mv 2 (ci 0),.mv 3 cF] [2,3] .ret) .skip))
(Zs [.mv 4 (ci 0)] [0,4] (.seq (Zs [mS 14 0,.len 15 true (.s 14),.mv 16 (ci 0)] [0,4,15,16] (.block 0 (.loop ([0,4,15,16],[]) (Zs [bS 17 .lss 16 15] [0,4,15,16,17] (.seq (cX 17 0)
(.seq (.block 1 (Zs [mS 18 16,mS 5 18] [0,4,5,15,16] (.seq (.seq (.reg [Za (mS 19 0),Za (mS 20 5),Za (.idxs 21 (.s 19) (.s 20)),Za (.bin 22 false .lss (.s 21) (.c (.int .u8 48))),Za (mS 23 22),Zb 23 false (mS 24 0),Zb 23 false (mS 25 5),Zb 23 false (.idxs 26 (.s 24) (.s 25)),Zb 23 false (.bin 27 false .gtr (.s 26) (.c (.int .u8 57))),Za (.pick 28 (.s 23) cT (.s 27))] [0,4,5,15,16,28])
(.cond (.s 28) (Zs [.mv 2 (ci 0),.mv 3 cF] [2,3] .ret) .skip))
(pr [mS 29 4,bC 30 .mul 29 10,mS 31 0,mS 32 5,.idxs 33 (.s 31) (.s 32),.bin 34 false .sub (.s 33) (.c (.int .u8 48)),.convI 35 .i64 (.s 34),bS 36 .add 30 35,mS 4 36] [0,4,15,16]))))
(pr [bC 37 .add 16 1,mS 16 37] [0,4,15,16])))))))
(.seq (.seq (.reg [Za (mS 38 4),Za (bC 39 .gtr 38 1000000000000),Za (mS 40 39),Zb 40 false (mS 41 4),Zb 40 false (.call 42 [] (.f N17) [.s 41]),Zb 40 false (mS 43 0),Zb 40 false (bS 44 .neq 42 43),Za (.pick 45 (.s 40) cT (.s 44))] [4,45])
(.cond (.s 45) (Zs [.mv 2 (ci 0),.mv 3 cF] [2,3] .ret) .skip))
(Zs [mS 46 4,mS 2 46,.mv 3 cT] [2,3] .ret))))))
theorem C1c:Ctr Tryz.prog N1l [(false,[tS (bs [])])] [rI 0,rB false]:=by
 refine cA M33 0 47 [(.tmp 2,[false]),(.tmp 3,[false])] Tryz.func182 rfl rfl ?_;unfold M33
 intro hb
 clear hb
 simp only[go_sem,List.length_nil]
theorem C1i(n:Nat)(hn:n<10^12):Ctr Tryz.prog N1l [(false,[tS (bs (Lib.decDigits n))])] [rI n,rB true]:=by
 refine cA M33 0 47 [(.tmp 2,[false]),(.tmp 3,[false])] Tryz.func182 rfl rfl ?_;unfold M33
 intro hb
 clear hb
 have hl:=decDigits_len' 11 n hn
 have hp:=K2g n
 have q1:¬((Lib.decDigits n).length:Int)=0:=by omega
 have q2:¬((Lib.decDigits n).length:Int)>13:=by omega
 simp only[go_sem,q1,q2]
 refine K3 (Lib.decDigits n) (fun k=>[(4,vI (K1z ((Lib.decDigits n).take k):Nat)),(16,vI k)]) (fun k=>[]) (fun _=>True) (by simp only[roomB];omega) ?_
 simp only[go_sem]
 refine⟨?_,trivial,?_,?_⟩
 ·simp only[go_sem,List.take_zero]
  try trivial
 ·intro k b hx _ h0 h1 hw
  obtain⟨d1,d2,d3,d4⟩:=K7f hn hx
  have e1:¬(b.toNat:Int)<48:=by omega
  have e2:¬(b.toNat:Int)>57:=by omega
  have ds:=Kb8 hn hx
  simp only[go_sem,K1 hx,h0,h1,hw,e1,e2,ds,Int.toNat_natCast]
 ·intro _
  have hv:=K7b n
  have q3:¬(n:Int)>1000000000000:=by omega
  have hc:=C1v n
  rw[K6y]at hc
  simp only[go_sem,List.take_length,hv,q3]
  apply K0 hc
  simp only[go_sem]
  try trivial
def Mcu:MC:=
(Zs [.mv 2 (ci 0),.mv 3 cF] [0] (.seq (Zs [mS 6 0,.len 7 true (.s 6),.call 8 [] (.f N0) [.s 7,.c (.int .i64 1),.c (.int .i64 13)],.un 9 .not (.s 8)] [0,9] (.cond (.s 9) (Zs [.mv 2 (ci 0),.mv 3 cF] [2,3] .ret) .skip))
(Zs [.mv 4 (ci 0)] [0,4] (.seq (Zs [.mv 5 (ci 0)] [0,4,5] (.block 0 (.loop ([0,4,5],[]) (.seq (Zs [mS 10 5,mS 11 0,.len 12 true (.s 11),bS 13 .lss 10 12] [0,4,5,13] (cX 13 0))
(.seq (.block 1 (.seq (Zs [mS 16 0,mS 17 5,.idxs 18 (.s 16) (.s 17),.convI 19 .i64 (.s 18),.call 20 [] (.f N0) [.s 19,.c (.int .i64 48),.c (.int .i64 57)],.un 21 .not (.s 20)] [0,4,5,21] (.cond (.s 21) (Zs [.mv 2 (ci 0),.mv 3 cF] [2,3] .ret) .skip))
(pr [mS 22 4,.bin 23 false .mul (ci 10) (.s 22),mS 24 0,mS 25 5,.idxs 26 (.s 24) (.s 25),.bin 27 false .sub (.s 26) (.c (.int .u8 48)),.convI 28 .i64 (.s 27),bS 29 .add 23 28,mS 4 29] [0,4,5])))
(pr [mS 14 5,bC 15 .add 14 1,mS 5 15] [0,4,5]))))))
(.seq (.seq (.reg [Za (mS 30 4),Za (bC 31 .gtr 30 1000000000000),Za (mS 32 31),Zb 32 false (mS 33 4),Zb 32 false (.call 34 [] (.f N19) [.s 33]),Zb 32 false (mS 35 0),Zb 32 false (bS 36 .neq 34 35),Za (.pick 37 (.s 32) cT (.s 36))] [4,37])
(.cond (.s 37) (Zs [.mv 2 (ci 0),.mv 3 cF] [2,3] .ret) .skip))
(Zs [mS 38 4,mS 2 38,.mv 3 cT] [2,3] .ret))))))
theorem C32(n:Nat)(hn:n<10^12):Ctr Tryz.prog N2b [(false,[tS (bs (Lib.decDigits n))])] [rI n,rB true]:=by
 refine cA Mcu 0 39 [(.tmp 2,[false]),(.tmp 3,[false])] Tryz.func153 rfl rfl ?_;unfold Mcu
 intro hb
 clear hb
 have hl:=decDigits_len' 11 n hn
 have hp:=K2g n
 simp only[go_sem]
 apply K0 (C3 (Lib.decDigits n).length 1 13)
 have q1:1≤((Lib.decDigits n).length:Int)∧((Lib.decDigits n).length:Int)≤13:=by omega
 simp only[go_sem,q1]
 try intro _
 refine K3 (Lib.decDigits n) (fun k=>[(4,vI (K1z ((Lib.decDigits n).take k):Nat)),(5,vI k)]) (fun k=>[]) (fun _=>True) (by simp only[roomB];omega) ?_
 simp only[go_sem]
 refine⟨?_,trivial,?_,?_⟩
 ·simp only[go_sem,List.take_zero]
  try trivial
 ·intro k b hx _ h0 h1 hw
  obtain⟨d1,d2,d3,d4⟩:=K7f hn hx
  have ds:=dig_step2 hn hx
  have e3:IntKind.i64.wrap (b.toNat:Int)=(b.toNat:Int):=wI (by omega) (by omega)
  have e4:48≤(b.toNat:Int)∧(b.toNat:Int)≤57:=by omega
  simp only[go_sem,K1 hx,h0,h1,e3,Int.toNat_natCast]
  apply K0 (C3 (b.toNat:Int) 48 57)
  simp only[go_sem,K1 hx,h0,hw,ds,e4,Int.toNat_natCast]
 ·intro _
  have hv:=K7b n
  have q3:¬(n:Int)>1000000000000:=by omega
  have hc:=C1y n
  rw[K6y]at hc
  simp only[go_sem,List.take_length,hv,q3]
  apply K0 hc
  simp only[go_sem]
  try trivial
end Go.Proofs.YtpeabgkoknjojaaGreatDoorR
namespace Go.Proofs.YtpeabgkoknjojaaGreatDoorR
open Go Go.RowKit Go.Proofs
open Nat (reduceEqDiff reduceLT reduceLeDiff reduceAdd reduceMul)
open List (reduceReplicate)
theorem idxB_no{c:UInt8}:∀ {u:List UInt8},(∀b∈u,b≠c)→Lib.indexByte u c= -1
 | [],_=>rfl
 |b::u,h=>by
  have h1:(b==c)=false:=by simpa using h b (List.mem_cons_self ..)
  have h2:=idxB_no (u:=u) fun x hx=>h x (List.mem_cons_of_mem _ hx)
  rw[Lib.indexByte,h1,h2]
  rfl
theorem Kbi{c:UInt8}{v:List UInt8}:∀ {u:List UInt8},(∀b∈u,b≠c)→Lib.indexByte (u++c::v) c=(u.length:Int)
 | [],_=>by
  rw[List.nil_append,Lib.indexByte,beq_self_eq_true]
  rfl
 |b::u,h=>by
  have h1:(b==c)=false:=by simpa using h b (List.mem_cons_self ..)
  have h2:=Kbi (v:=v) (u:=u) fun x hx=>h x (List.mem_cons_of_mem _ hx)
  have h3:((u.length:Int)== -1)=false:=by simp
  rw[List.cons_append,Lib.indexByte,h1,h2,h3]
  simp
theorem ctr_int{w:World}{X:Nat→Prop}{n:Int}(hn: -9223372036854775808≤n∧n≤9223372036854775807):
  Below w.heap.size w w∧∃us G,Value.int .i64 n=tupV us∧G.Nodup∧(∀b∈G,w.heap.size≤b)∧ResVs w (fun b=>(b<w.heap.size→X b)∧b∉G) [rI n] us G:=
 ⟨Below.refl _ _,[.int .i64 n],[],rfl,List.nodup_nil,by simp,[],[],⟨⟨_,rfl⟩,⟨rfl,K1f hn⟩,rfl⟩,rfl,rfl⟩
theorem Ci3(l:List UInt8)(c:UInt8)(n:Int)(h:Lib.indexByte l c=n)(hn: -9223372036854775808≤n∧n≤9223372036854775807):Ctr Tryz.prog N2h [(false,[tS (bs l)]),(false,[tS (bs [c])])] [rI n]:=by
 refine⟨⟨Tryz.f264,Tryz.func264,by kernel_rfl,by kernel_rfl⟩,fun w X vs ht h=>?_⟩
 obtain⟨v,v',rfl,hr,hr'⟩:=Kb5 h
 simp only[Rd]at hr hr'
 obtain⟨rfl,h1⟩:=hr
 obtain⟨rfl,h2⟩:=hr'
 refine(Tryz.stringslite_Index_one (bs l) c w).mono ?_
 rintro e w' ⟨rfl,rfl⟩
 rw[show(bs l).data.toList=l by simp[bs],‹Lib.indexByte l c=n›]
 exact ctr_int hn
def Mw:MC:=
(Zs [.mv 4 (.c (.string ⟨#[]⟩)),.mv 5 (.c (.string ⟨#[]⟩)),.mv 6 cF] [0,1] (.seq (Zs [mS 8 0,mS 9 1,.call 10 [] (.f N2h) [.s 8,.s 9],mS 7 10] [0,1,7] (Zs [mS 11 7,bC 12 .geq 11 0] [0,1,7,12] (.cond (.s 12) (.seq (.dreg [Zc [14,16,17,18,19,20,21] (mS 13 0),Zc [13,16,17,18,19,20,21] (mS 14 7),Zd [16,17,18,19,20,21] [0,1] (.slcs 15 (.s 13) none (some (.s 14))),Zc [4,13,14,15,17,18,19,20] (mS 16 0),Zc [4,13,14,15,16,18,19] (mS 17 7),Zc [4,13,14,15,16,17] (mS 18 1),Zd [4,13,14,15,16,17] [5] (.len 19 true (.s 18)),Zd [4,13,14,15,16] [4,5,6] (bS 20 .add 17 19),Zd [4,13,14,15] [3,4,5,6,7] (.slcs 21 (.s 16) (some (.s 20)) none),Zd [16,17,18,19,20,21] [0,1,2] (mS 4 15),Ze (.range 10) (mS 5 21),Ze (.range 11) (.mv 6 cT)] [4,5,6])
.ret) .skip)))
(Zs [mS 22 0,mS 4 22,.mv 5 (.c (.string ⟨#[]⟩)),.mv 6 cF] [4,5,6] .ret)))
theorem Ckh(u v:List UInt8)(c:UInt8)(h:∀b∈u,b≠c)(hl:u.length+v.length≤1000):Ctr Tryz.prog N1m [(false,[tS (bs (u++c::v))]),(false,[tS (bs [c])])] [rStr (bs u),rStr (bs v),rB true]:=by
 refine cA Mw 0 23 [(.tmp 4,[false]),(.tmp 5,[false]),(.tmp 6,[false])] Tryz.func231 rfl rfl ?_;unfold Mw
 intro hb
 clear hb
 simp only[go_sem]
 apply K0 (Ci3 _ _ _ (Kbi h) (by omega))
 have q1:(u.length:Int)≥0:=by omega
 have q2:IntKind.i64.wrap ((u.length:Int)+((1:Nat):Int))=((u.length+1:Nat):Int):=by rw[wI (by omega) (by omega)];omega
 have q3:(u++c::v).length=u.length+1+v.length:=by rw[List.length_append,List.length_cons];omega
 simp only[go_sem,q1]
 intro _
 rw[q2]
 refine⟨⟨by omega,by omega⟩,⟨by omega,by omega,by omega⟩,by rw[List.take_left],?_⟩
 rw[Int.toNat_natCast,List.take_length]
 congr 1
 simp
theorem Ckn(u:List UInt8)(c:UInt8)(h:∀b∈u,b≠c):Ctr Tryz.prog N1m [(false,[tS (bs u)]),(false,[tS (bs [c])])] [rStr (bs u),rStr (bs []),rB false]:=by
 refine cA Mw 0 23 [(.tmp 4,[false]),(.tmp 5,[false]),(.tmp 6,[false])] Tryz.func231 rfl rfl ?_;unfold Mw
 intro hb
 clear hb
 simp only[go_sem]
 apply K0 (Ci3 _ _ _ (idxB_no h) (by omega))
 have q1:¬(-1:Int)≥0:=by omega
 simp only[go_sem,q1]
 try trivial
def M3z:MC:=
(Zs [.mv 4 (.c (.string ⟨#[]⟩)),.mv 5 (.c (.string ⟨#[]⟩)),.mv 6 cF] [0,1] (Zs [mS 7 0,mS 8 1,.call 9 [] (.f N1m) [.s 7,.s 8],.ext 10 (.s 9) 0,.ext 11 (.s 9) 1,.ext 12 (.s 9) 2,mS 4 10,mS 5 11,mS 6 12] [4,5,6] .ret))
theorem C3i(u v:List UInt8)(c:UInt8)(h:∀b∈u,b≠c)(hl:u.length+v.length≤1000):Ctr Tryz.prog N26 [(false,[tS (bs (u++c::v))]),(false,[tS (bs [c])])] [rStr (bs u),rStr (bs v),rB true]:=by
 refine cA M3z 0 13 [(.tmp 4,[false]),(.tmp 5,[false]),(.tmp 6,[false])] Tryz.func181 rfl rfl ?_;unfold M3z
 intro hb
 clear hb
 simp only[go_sem]
 apply K0 (Ckh u v c h hl)
 simp only[go_sem]
theorem C2n(u:List UInt8)(c:UInt8)(h:∀b∈u,b≠c):Ctr Tryz.prog N26 [(false,[tS (bs u)]),(false,[tS (bs [c])])] [rStr (bs u),rStr (bs []),rB false]:=by
 refine cA M3z 0 13 [(.tmp 4,[false]),(.tmp 5,[false]),(.tmp 6,[false])] Tryz.func181 rfl rfl ?_;unfold M3z
 intro hb
 clear hb
 simp only[go_sem]
 apply K0 (Ckn u c h)
 simp only[go_sem]
theorem C59(l p r:List UInt8)(q:Bool)(h1:Lib.trimPrefix l p=r)(h2:Lib.hasPrefix l p=q)(hl:r.length≤1000):Ctr Tryz.prog N2z [(false,[tS (bs l)]),(false,[tS (bs p)])] [rStr (bs r),rB q]:=by
 refine⟨⟨Tryz.f180,Tryz.func180,by kernel_rfl,by kernel_rfl⟩,fun w X vs ht h=>?_⟩
 obtain⟨v,v',rfl,hr,hr'⟩:=Kb5 h
 simp only[Rd]at hr hr'
 obtain⟨rfl,-⟩:=hr
 obtain⟨rfl,-⟩:=hr'
 refine(Tryz.strings_CutPrefix (bs l) (bs p) w).mono ?_
 rintro e w' ⟨rfl,rfl⟩
 rw[show(bs l).data.toList=l by simp[bs],show(bs p).data.toList=p by simp[bs],h1,h2]
 exact⟨Below.refl _ _,[.string (bs r),.bool q],[],rfl,List.nodup_nil,by simp,[],[],⟨⟨_,rfl⟩,⟨rfl,K4h (by rw[K67];omega)⟩,rfl⟩,⟨[],[],⟨⟨_,rfl⟩,⟨rfl,K5s q⟩,rfl⟩,rfl,rfl⟩,rfl⟩
theorem K8l{a:GAddress}(h:K11 a=true):∃x y z:Nat,a=⟨x,y,z⟩∧x<100∧y<100∧z<100:=by
 obtain⟨x,y,z⟩:=a
 simp only[K11,Bool.and_eq_true,decide_eq_true_eq]at h
 refine⟨x.toNat,y.toNat,z.toNat,?_,by omega,by omega,by omega⟩
 rw[Int.toNat_of_nonneg (by omega),Int.toNat_of_nonneg (by omega),Int.toNat_of_nonneg (by omega)]
def tailQ(z:Nat):List UInt8:=if z=0 then []else 63::Lib.decDigits z
theorem K40{x y z:Nat}(h:K11 ⟨x,y,z⟩=true):Kg ⟨x,y,z⟩=Lib.decDigits x++47::(Lib.decDigits y++tailQ z):=by
 unfold Kg tailQ
 rw[if_pos h]
 simp only[K6y]
 by_cases hz:z=0
 ·subst hz;simp
 ·rw[if_neg (by omega),if_neg hz];simp
theorem K6a{n:Nat}{c:UInt8}(hc:c.toNat<48∨57<c.toNat):∀b∈Lib.decDigits n,b≠c:=fun b hb e=>by
 have:=K3m n b hb
 rw[e]at this
 omega
theorem K1v{n:Nat}(h:n<10000):(Lib.decDigits n).length≤4:=decDigits_len' 3 n h
def M23:MC:=
(Zs [.alloc 2 0 [pz,pz,pz],.mv 3 cF] [0,2] (.seq (pr [mS 12 0,.call 13 [] (.f N26) [.s 12,.c (.string ⟨#[47]⟩)],mS 11 13,.ext 14 (.s 11) 0,.ext 15 (.s 11) 1,.ext 16 (.s 11) 2,mS 4 14,mS 5 15,mS 6 16] [0,2,4,5])
(.seq (pr [mS 18 5,.call 19 [] (.f N26) [.s 18,.c (.string ⟨#[63]⟩)],mS 17 19,.ext 20 (.s 17) 0,.ext 21 (.s 17) 1,.ext 22 (.s 17) 2,mS 7 20,mS 8 21,mS 9 22] [0,2,4,7,8])
(Zs [.build 23 [pz,pz,pz] [],.alloc 10 1 [pz,pz,pz],sS 3 10 23] [0,2,4,7,8,10] (Zs [mS 25 4,.call 26 [] (.f N1l) [.s 25],mS 24 26,.ext 27 (.s 24) 0,.ext 28 (.s 24) 1,fS 29 10 0,sS 1 29 27] [0,2,7,8,10] (Zs [mS 31 7,.call 32 [] (.f N1l) [.s 31],mS 30 32,.ext 33 (.s 30) 0,.ext 34 (.s 30) 1,fS 35 10 1,sS 1 35 33] [0,2,8,10] (Zs [mS 37 8,.call 38 [] (.f N1l) [.s 37],mS 36 38,.ext 39 (.s 36) 0,.ext 40 (.s 36) 1,fS 41 10 2,sS 1 41 39] [0,2,10] (.seq (.seq (.reg [Za (mS 42 0),Za (.bin 43 false .eql (.s 42) (.c (.string ⟨#[]⟩))),Za (mS 44 43),Zb 44 false (lT 45 3 10),Zb 44 false (.call 46 [] (.f N36) [.s 45]),Zb 44 false (mS 47 0),Zb 44 false (bS 48 .neq 46 47),Za (.pick 49 (.s 44) cT (.s 48))] [2,10,49])
(.cond (.s 49) (Zs [.build 50 [pz,pz,pz] [],sS 3 2 50,.mv 3 cF] [2,3] .ret) .skip))
(Zs [lT 51 3 10,sS 3 2 51,.mv 3 cT] [2,3] .ret)))))))))
theorem Cde:Ctr Tryz.prog N2u [(false,[tS (bs [])])] [rS (GAddress.enc ⟨0,0,0⟩),rB false]:=by
 refine cA M23 2 52 [(.cell 2 true 3,[false,false,false]),(.tmp 3,[false])] Tryz.func183 rfl rfl ?_;unfold M23
 intro hb
 clear hb
 simp only[go_sem]
 try intros
 apply K0 (C2n [] 47 (by simp))
 simp only[go_sem]
 try intros
 apply K0 (C2n [] 63 (by simp))
 simp only[go_sem]
 try intros
 apply K0 C1c
 simp only[go_sem]
 try intros
 apply K0 C1c
 simp only[go_sem]
 try intros
 apply K0 C1c
 simp only[go_sem]
 try exact⟨rfl,rfl,rfl⟩
set_option maxHeartbeats 1000000 in
theorem Cg3(a:GAddress)(h:K11 a=true):Ctr Tryz.prog N2u [(false,[tS (bs (Kg a))])] [rS a.enc,rB true]:=by
 obtain⟨x,y,z,rfl,hx,hy,hz⟩:=K8l h
 have ht:=K40 h
 have hp:=K2g x
 have l1:=K1v (n:=x) (by omega)
 have l2:=K1v (n:=y) (by omega)
 have l3:=K1v (n:=z) (by omega)
 have hA:=C6f ⟨x,y,z⟩
 have hne:¬Kg ⟨x,y,z⟩=[]:=by
  rw[ht]
  simp
 have lT:(tailQ z).length≤5:=by unfold tailQ;split<;>simp<;>omega
 have hC1:Ctr Tryz.prog N26 [(false,[tS (bs (Kg ⟨x,y,z⟩))]),(false,[tS (bs [47])])] [rStr (bs (Lib.decDigits x)),rStr (bs (Lib.decDigits y++tailQ z)),rB true]:=by
  rw[ht]
  exact C3i _ _ 47 (K6a (by decide)) (by rw[List.length_append];omega)
 generalize Kg ⟨x,y,z⟩=s at*
 refine cA M23 2 52 [(.cell 2 true 3,[false,false,false]),(.tmp 3,[false])] Tryz.func183 rfl rfl ?_;unfold M23
 intro hb
 clear hb
 simp only[go_sem]
 try intros
 apply K0 hC1
 simp only[go_sem]
 try intros
 by_cases hz0:z=0
 ·subst hz0
  rw[show tailQ 0=[]from rfl,List.append_nil]
  apply K0 (C2n (Lib.decDigits y) 63 (K6a (by decide)))
  simp only[go_sem]
  try intros
  apply K0 (C1i x (by omega))
  simp only[go_sem]
  try intros
  apply K0 (C1i y (by omega))
  simp only[go_sem]
  try intros
  apply K0 C1c
  simp only[go_sem,hne]
  try intros
  apply K0 hA
  simp only[go_sem]
  try trivial
 ·rw[show tailQ z=63::Lib.decDigits z by unfold tailQ;rw[if_neg hz0]]
  apply K0 (C3i (Lib.decDigits y) (Lib.decDigits z) 63 (K6a (by decide)) (by omega))
  simp only[go_sem]
  try intros
  apply K0 (C1i x (by omega))
  simp only[go_sem]
  try intros
  apply K0 (C1i y (by omega))
  simp only[go_sem]
  try intros
  apply K0 (C1i z (by omega))
  simp only[go_sem,hne]
  try intros
  apply K0 hA
  simp only[go_sem]
  try trivial
end Go.Proofs.YtpeabgkoknjojaaGreatDoorR
namespace Go.Proofs.YtpeabgkoknjojaaGreatDoorR
open Go Go.RowKit Go.Proofs
open Nat (reduceEqDiff reduceLT reduceLeDiff reduceAdd reduceMul)
open List (reduceReplicate)
def Kj(st:List UInt8×List UInt8×List UInt8×Nat)(b:UInt8):List UInt8×List UInt8×List UInt8×Nat:=
 if b=47∧st.2.2.2=0 then(st.1,st.2.1,st.2.2.1,1)
 else if b=63∧st.2.2.2=1 then(st.1,st.2.1,st.2.2.1,2)
 else if st.2.2.2=0 then(st.1++[b],st.2.1,st.2.2.1,0)
 else if st.2.2.2=1 then(st.1,st.2.1++[b],st.2.2.1,1)
 else(st.1,st.2.1,st.2.2.1++[b],2)
def paF(l:List UInt8):List UInt8×List UInt8×List UInt8×Nat:=l.foldl Kj ([],[],[],0)
theorem paF_snoc{l:List UInt8}{k:Nat}{b:UInt8}(h:l[k]? =some b):paF (l.take (k+1))=Kj (paF (l.take k)) b:=by
 rw[K8 h,paF,List.foldl_append];rfl
theorem paF_ok(l:List UInt8):(paF l).2.2.2≤2∧(paF l).1.length+(paF l).2.1.length+(paF l).2.2.1.length≤l.length:=by
 suffices H:∀(l:List UInt8) (st:List UInt8×List UInt8×List UInt8×Nat),st.2.2.2≤2→(l.foldl Kj st).2.2.2≤2∧(l.foldl Kj st).1.length+(l.foldl Kj st).2.1.length+(l.foldl Kj st).2.2.1.length≤st.1.length+st.2.1.length+st.2.2.1.length+l.length by simpa[paF]using H l ([],[],[],0) (by decide)
 intro l
 induction l with
 |nil=>intro st h;exact⟨h,Nat.le_refl _⟩
 |cons b l ih=>
  intro st h
  have h1:(Kj st b).2.2.2≤2∧(Kj st b).1.length+(Kj st b).2.1.length+(Kj st b).2.2.1.length≤st.1.length+st.2.1.length+st.2.2.1.length+1:=by
   unfold Kj
   split
   ·exact⟨by simp,by simp⟩
   ·split
    ·exact⟨by simp,by simp⟩
    ·split
     ·exact⟨by simp,by simp only[List.length_append,List.length_singleton];omega⟩
     ·split
      ·exact⟨by simp,by simp only[List.length_append,List.length_singleton];omega⟩
      ·exact⟨by simp,by simp only[List.length_append,List.length_singleton];omega⟩
  have h2:=ih (Kj st b) h1.1
  rw[List.foldl_cons,List.length_cons]
  exact⟨h2.1,by omega⟩
theorem pa_dig0:∀(l:List UInt8) (p q r:List UInt8),(∀b∈l,b≠47)→l.foldl Kj (p,q,r,0)=(p++l,q,r,0)
 | [],p,q,r,_=>by simp
 |b::l,p,q,r,h=>by
  have h1:=h b (List.mem_cons_self ..)
  rw[List.foldl_cons,show Kj (p,q,r,0) b=(p++[b],q,r,0)by simp[Kj,h1],pa_dig0 l _ _ _ fun x hx=>h x (List.mem_cons_of_mem _ hx)]
  simp
theorem pa_dig1:∀(l:List UInt8) (p q r:List UInt8),(∀b∈l,b≠63)→l.foldl Kj (p,q,r,1)=(p,q++l,r,1)
 | [],p,q,r,_=>by simp
 |b::l,p,q,r,h=>by
  have h1:=h b (List.mem_cons_self ..)
  rw[List.foldl_cons,show Kj (p,q,r,1) b=(p,q++[b],r,1)by simp[Kj,h1],pa_dig1 l _ _ _ fun x hx=>h x (List.mem_cons_of_mem _ hx)]
  simp
theorem pa_dig2:∀(l:List UInt8) (p q r:List UInt8),l.foldl Kj (p,q,r,2)=(p,q,r++l,2)
 | [],p,q,r=>by simp
 |b::l,p,q,r=>by
  rw[List.foldl_cons,show Kj (p,q,r,2) b=(p,q,r++[b],2)by simp[Kj],pa_dig2 l]
  simp
theorem paF_addr{x y z:Nat}(h:K11 ⟨x,y,z⟩=true):paF (Kg ⟨x,y,z⟩)=(Lib.decDigits x,Lib.decDigits y,if z=0 then []else Lib.decDigits z,if z=0 then 1 else 2):=by
 rw[K40 h,paF,List.foldl_append,pa_dig0 _ _ _ _ (K6a (by decide)),List.nil_append,List.foldl_cons,
  show Kj (Lib.decDigits x,[],[],0) 47=(Lib.decDigits x,[],[],1)by simp[Kj],List.foldl_append,pa_dig1 _ _ _ _ (K6a (by decide)),List.nil_append]
 unfold tailQ
 by_cases hz:z=0
 ·simp[hz]
 ·rw[if_neg hz,if_neg hz,if_neg hz,List.foldl_cons,show Kj (Lib.decDigits x,Lib.decDigits y,[],1) 63=(Lib.decDigits x,Lib.decDigits y,[],2)by simp[Kj],pa_dig2,List.nil_append]
theorem one_byte{l:List UInt8}{k:Nat}{b:UInt8}(h:l[k]? =some b):(l.take (k+1)).drop k=[b]:=by
 have hk:=K9 h
 rw[K8 h,List.drop_append,List.drop_eq_nil_of_le (by rw[List.length_take];omega),List.length_take,show k-min k l.length=0 by omega]
 rfl
theorem at3_1{α:Type}{a b c:α}:[a,b,c][Int.toNat 1]? =some b:=rfl
theorem at3_2{α:Type}{a b c:α}:[a,b,c][Int.toNat 2]? =some c:=rfl
theorem at3_1'{α:Type}{a b c:α}:[a,b,c][1]? =some b:=rfl
theorem at3_2'{α:Type}{a b c:α}:[a,b,c][2]? =some c:=rfl
def M5t:MC:=
(Zs [.alloc 2 0 [pz,pz,pz],.mv 3 cF] [0,2] (.seq (pr [.lit 14 1 1 16 [.c (.string ⟨#[]⟩),.c (.string ⟨#[]⟩),.c (.string ⟨#[]⟩)],mS 4 14] [0,2,4])
(Zs [.mv 5 (ci 0)] [0,2,4,5] (.seq (Zs [.mv 6 (ci 0)] [0,2,4,5,6] (.block 0 (.loop ([0,2,4,5,6],[2]) (.seq (Zs [mS 15 6,mS 16 0,.len 17 true (.s 16),bS 18 .lss 15 17] [0,2,4,5,6,18] (cX 18 0))
(.seq (.block 1 (.seq (.seq (.reg [Za (mS 21 0),Za (mS 22 6),Za (.idxs 23 (.s 21) (.s 22)),Za (.bin 24 false .eql (.s 23) (.c (.int .u8 47))),Za (mS 25 24),Zb 25 true (mS 26 5),Zb 25 true (bC 27 .eql 26 0),Za (.pick 28 (.s 25) (.s 27) cF),Za (mS 29 28),Zb 29 false (mS 30 0),Zb 29 false (mS 31 6),Zb 29 false (.idxs 32 (.s 30) (.s 31)),Zb 29 false (.bin 33 false .eql (.s 32) (.c (.int .u8 63))),Zb 29 false (mS 34 33),Zb 34 true (mS 35 5),Zb 34 true (bC 36 .eql 35 1),Zb 29 false (.pick 37 (.s 34) (.s 36) cF),Za (.pick 38 (.s 29) cT (.s 37))] [0,2,4,5,6,38])
(.cond (.s 38) (Zs [mS 39 5,bC 40 .add 39 1,mS 5 40] [0,2,4,5,6] (.exit 1)) .skip))
(.dreg [Zc [42,43,44,45,46,47,48,49,50,51,52] (mS 41 4),Zc [41,43,44,45,46,47,48,49,50,51,52] (mS 42 5),Zc [41,42,44,47,48,49,50,51] (mS 43 4),Zc [41,42,43,47,48,49,50,51] (mS 44 5),Zd [41,42,47,48,49,50,51] [2,3] (xS 45 1 43 44),Zd [41,42,47,48,49,50,51] [2,3,4] (lF 46 1 45),Zc [41,42,43,44,45,46,48,49,50] (mS 47 0),Zc [41,42,43,44,45,46,47,49,50] (mS 48 6),Zc [41,42,43,44,45,46,47,48] (mS 49 6),Zd [41,42,43,44,45,46,47,48] [8] (bC 50 .add 49 1),Zd [41,42,43,44,45,46] [6,7,8,9] (.slcs 51 (.s 47) (some (.s 48)) (some (.s 50))),Zd [41,42] [2,3,4,5,6,7,8,9,10] (bS 52 .add 46 51),Ze (.range 12) (xS 53 1 41 42),{o:=sS 1 53 52,ws:=[1],bf:=(.range 13)}] [0,2,4,5,6])))
(pr [mS 19 6,bC 20 .add 19 1,mS 6 20] [0,2,4,5,6]))))))
(Zs [mS 55 4,.idx 56 1 (.s 55) (ci 0),lF 57 1 56,.call 58 [] (.f N2b) [.s 57],mS 54 58,.ext 59 (.s 54) 0,.ext 60 (.s 54) 1,mS 7 59,mS 8 60] [0,2,4,5,7,8] (Zs [mS 62 4,.idx 63 1 (.s 62) (ci 1),lF 64 1 63,.call 65 [] (.f N2b) [.s 64],mS 61 65,.ext 66 (.s 61) 0,.ext 67 (.s 61) 1,mS 9 66,mS 10 67] [0,2,4,5,7,8,9,10] (Zs [.mv 11 (ci 0)] [0,2,4,5,7,8,9,10,11] (Zs [.mv 12 cT] [0,2,4,5,7,8,9,10,11,12] (.seq (Zs [mS 68 5,bC 69 .eql 68 2] [0,2,4,7,8,9,10,11,12,69] (.cond (.s 69) (pr [mS 71 4,.idx 72 1 (.s 71) (ci 2),lF 73 1 72,.call 74 [] (.f N2b) [.s 73],mS 70 74,.ext 75 (.s 70) 0,.ext 76 (.s 70) 1,mS 11 75,mS 12 76] [0,2,7,8,9,10,11,12]) .skip))
(Zs [mS 77 7,mS 78 9,mS 79 11,.build 80 [pz,pz,pz] [(0,1,.s 77),(1,1,.s 78),(2,1,.s 79)],.alloc 13 2 [pz,pz,pz],sS 3 13 80] [0,2,8,10,12,13] (.seq (.seq (.reg [Za (mS 81 8),Za (.un 82 .not (.s 81)),Za (mS 83 82),Zb 83 false (mS 84 10),Zb 83 false (.un 85 .not (.s 84)),Za (.pick 86 (.s 83) cT (.s 85)),Za (mS 87 86),Zb 87 false (mS 88 12),Zb 87 false (.un 89 .not (.s 88)),Za (.pick 90 (.s 87) cT (.s 89)),Za (mS 91 90),Zb 91 false (lT 92 3 13),Zb 91 false (.call 93 [] (.f N3b) [.s 92]),Zb 91 false (mS 94 0),Zb 91 false (bS 95 .neq 93 94),Za (.pick 96 (.s 91) cT (.s 95))] [2,13,96])
(.cond (.s 96) (Zs [.build 97 [pz,pz,pz] [],sS 3 2 97,.mv 3 cF] [2,3] .ret) .skip))
(Zs [lT 98 3 13,sS 3 2 98,.mv 3 cT] [2,3] .ret))))))))))))
set_option maxHeartbeats 1000000 in
theorem Cge(a:GAddress)(h:K11 a=true):Ctr Tryz.prog N68 [(false,[tS (bs (Kg a))])] [rS a.enc,rB true]:=by
 obtain⟨x,y,z,rfl,hx,hy,hz⟩:=K8l h
 have ht:=K40 h
 have hf:=paF_addr h
 have l1:=K1v (n:=x) (by omega)
 have l2:=K1v (n:=y) (by omega)
 have l3:=K1v (n:=z) (by omega)
 have hA:=C6j ⟨x,y,z⟩
 have lT:(tailQ z).length≤5:=by unfold tailQ;split<;>simp<;>omega
 have hsl:(Kg ⟨x,y,z⟩).length≤20:=by rw[ht];simp only[List.length_append,List.length_cons];omega
 generalize Kg ⟨x,y,z⟩=s at*
 refine cA M5t 3 99 [(.cell 2 true 3,[false,false,false]),(.tmp 3,[false])] Tryz.func154 rfl rfl ?_;unfold M5t
 intro hb
 clear hb
 simp only[go_sem]
 refine⟨⟨by simp,by decide⟩,?_⟩
 refine K3 s (fun i=>[(5,vI ((paF (s.take i)).2.2.2:Nat)),(6,vI i)]) (fun i=>[(1,⟨0,.row true 1 [[tS (bs (paF (s.take i)).1)],[tS (bs (paF (s.take i)).2.1)],[tS (bs (paF (s.take i)).2.2.1)]]⟩)]) (fun _=>True) (by simp only[roomB];omega) ?_
 simp only[go_sem]
 refine⟨?_,trivial,?_,?_⟩
 ·simp only[go_sem,List.take_zero]
  exact⟨rfl,rfl,rfl,rfl⟩
 ·intro i b hx2 _ h0 h1 hw
  have hi:=K9 hx2
  have hinv:=paF_ok (s.take i)
  have hti:=List.length_take_le i s
  have hone:=one_byte hx2
  rw[paF_snoc hx2]
  generalize paF (s.take i)=st at*
  obtain⟨p0,p1,p2,k⟩:=st
  simp only at hinv
  have e47:((47:UInt8).toNat:Int)=47:=rfl
  have e63:((63:UInt8).toNat:Int)=63:=rfl
  have w1:IntKind.i64.wrap (0+1)=((1:Nat):Int):=by rw[wI (by omega) (by omega)];omega
  have w2:IntKind.i64.wrap (1+1)=((2:Nat):Int):=by rw[wI (by omega) (by omega)];omega
  have w2':IntKind.i64.wrap 2=2:=wI (by omega) (by omega)
  have hk:k=0∨k=1∨k=2:=by omega
  by_cases hb47:b=47
  ·subst hb47
   rcases hk with rfl|rfl|rfl
   ·simp only[go_sem,K1 hx2,h0,h1,hw,e47,Kj,w1,Int.toNat_natCast]
   ·simp only[go_sem,K1 hx2,h0,h1,hw,e47,Kj,at3_1',Int.toNat_natCast,hone]
    simp<;>omega
   ·simp only[go_sem,K1 hx2,h0,h1,hw,e47,Kj,at3_2',Int.toNat_natCast,hone]
    simp<;>omega
  ·have n47:¬(b.toNat:Int)=47:=fun e=>hb47 (UInt8.toNat.inj (by show b.toNat=47;omega))
   by_cases hb63:b=63
   ·subst hb63
    rcases hk with rfl|rfl|rfl
    ·simp only[go_sem,K1 hx2,h0,h1,hw,e63,Kj,w1,Int.toNat_natCast,hone,hb47]
     simp[]<;>omega
    ·simp only[go_sem,K1 hx2,h0,h1,hw,e63,Kj,at3_1',Int.toNat_natCast,hone,hb47]
     simp[w2']<;>omega
    ·simp only[go_sem,K1 hx2,h0,h1,hw,e63,Kj,at3_2',Int.toNat_natCast,hone,hb47]
     simp[]<;>omega
   ·have n63:¬(b.toNat:Int)=63:=fun e=>hb63 (UInt8.toNat.inj (by show b.toNat=63;omega))
    rcases hk with rfl|rfl|rfl
    ·simp only[go_sem,K1 hx2,h0,h1,hw,Kj,w1,Int.toNat_natCast,hone,hb47,n47,hb63,n63]
     simp[]<;>omega
    ·simp only[go_sem,K1 hx2,h0,h1,hw,Kj,at3_1',Int.toNat_natCast,hone,hb47,n47,hb63,n63]
     simp[]<;>omega
    ·simp only[go_sem,K1 hx2,h0,h1,hw,Kj,at3_2',Int.toNat_natCast,hone,hb47,n47,hb63,n63]
     simp[]<;>omega
 ·intro _
  simp only[go_sem,List.take_length,hf]
  refine⟨⟨by decide,by decide⟩,?_⟩
  apply K0 (C32 x (by omega))
  simp only[go_sem,at3_1]
  intros
  refine⟨⟨by decide,by decide⟩,?_⟩
  apply K0 (C32 y (by omega))
  simp only[go_sem,at3_2]
  intros
  have e12:¬((1:Nat):Int)=2:=by omega
  have e22:((2:Nat):Int)=2:=rfl
  by_cases hz0:z=0
  ·subst hz0
   simp only[go_sem,e12]
   try intros
   apply K0 hA
   simp only[go_sem]
   try trivial
  ·simp only[go_sem,hz0,e22]
   refine⟨⟨by decide,by decide⟩,?_⟩
   apply K0 (C32 z (by omega))
   simp only[go_sem]
   try intros
   apply K0 hA
   simp only[go_sem]
   try trivial
end Go.Proofs.YtpeabgkoknjojaaGreatDoorR
namespace Go.Proofs.YtpeabgkoknjojaaGreatDoorR
open Go Go.RowKit Go.Proofs
open Nat (reduceEqDiff reduceLT reduceLeDiff reduceAdd reduceMul)
open List (reduceReplicate)
def mkL{α:Type}(mk:α→Int→α)(c:α→Nat):List α→Int→List α
 | [],_=>[]
 |x::l,k=>mk x k::mkL mk c l (k+(c x:Nat))
def ctL{α:Type}(c:α→Nat)(l:List α):Nat:=(l.map c).sum
def iMk(_:Int)(k:Int):Int:=k
def iCt(_:Int):Nat:=1
def bMk(_:Bool)(k:Int):Bool:=k.tmod 3==0
section
variable {α:Type} {mk:α→Int→α} {c:α→Nat} {l:List α} {k:Int} {i:Nat} {x:α} {f:α→List T}
theorem Kf:∀ {l:List α} {k:Int},(mkL mk c l k).length=l.length
 | [],_=>rfl
 |x::l,k=>by simp[mkL,Kf (l:=l)]
theorem K3x{sz:Nat}{es:List α}{rs:List RV}(h:bdVA (oL sz (es.map f)::rs)):es.length≤roomB:=by
 simp only[bdVA,List.map_cons,bdL,bdT,List.length_map]at h
 exact h.1.1.1
theorem K4s{s:α→Nat}(h:∀x,c x≤16*(1+s x)):∀l:List α,ctL c l≤16*(l.length+(l.map s).sum)
 | []=>by simp[ctL]
 |x::l=>by
  have h1:=h x
  have h2:=K4s h l
  simp only[ctL,List.map_cons,List.sum_cons,List.length_cons]at*
  omega
theorem ctL_le'(h:∀x,c x≤16):∀l:List α,ctL c l≤16*l.length
 | []=>by simp[ctL]
 |x::l=>by
  have h1:=h x
  have h2:=ctL_le' h l
  simp only[ctL,List.map_cons,List.sum_cons,List.length_cons]at*
  omega
end
abbrev oS(ts:List T):RV:=⟨true,own ts⟩
attribute [go_sem] oS
attribute [go_sem] Kf
def GAddress.mkd(x:GAddress)(k:Int):GAddress:=⟨k,(k+1),(k+2)⟩
def GAddress.ct(x:GAddress):Nat:=3
def GResource.mkd(x:GResource)(k:Int):GResource:=⟨k,(mkL iMk iCt x.Body (k+1)),⟨((k+1)+(ctL iCt x.Body:Nat)),(((k+1)+(ctL iCt x.Body:Nat))+1),(((k+1)+(ctL iCt x.Body:Nat))+2)⟩⟩
def GResource.ct(x:GResource):Nat:=4+ctL iCt x.Body
theorem GResource.ct_le(x:GResource):x.ct≤16*(1+x.size):=by
 simp only[GResource.ct,GResource.size]
 have h0:=ctL_le' (c:=iCt) (fun y=>by simp only[iCt];omega) x.Body
 omega
def GResource.mks(x:GResource)(k:Int):GResource:={x with Body:=mkL iMk iCt x.Body (k)}
def GResource.cts(x:GResource):Nat:=ctL iCt x.Body
theorem GResource.cts_le(x:GResource):x.cts≤16*x.size:=by
 simp only[GResource.cts,GResource.size]
 have hBody:=ctL_le' (c:=iCt) (fun y=>by simp only[iCt];omega) x.Body
 omega
@[go_sem] theorem GResource.mks_len0 (x:GResource) (k:Int):((x.mks k).Body).length=x.Body.length:=Kf
def GPart.mkd(x:GPart)(k:Int):GPart:=⟨k,⟨(k+1),(mkL iMk iCt x.Resource.Body (k+2)),⟨((k+2)+(ctL iCt x.Resource.Body:Nat)),(((k+2)+(ctL iCt x.Resource.Body:Nat))+1),(((k+2)+(ctL iCt x.Resource.Body:Nat))+2)⟩⟩,(((k+2)+(ctL iCt x.Resource.Body:Nat))+3)⟩
def GPart.ct(x:GPart):Nat:=6+ctL iCt x.Resource.Body
theorem GPart.ct_le(x:GPart):x.ct≤16*(1+x.size):=by
 simp only[GPart.ct,GPart.size,GResource.size]
 have h0:=ctL_le' (c:=iCt) (fun y=>by simp only[iCt];omega) x.Resource.Body
 omega
def GPart.mks(x:GPart)(k:Int):GPart:={x with Resource:=x.Resource.mks (k)}
def GPart.cts(x:GPart):Nat:=x.Resource.cts
theorem GPart.cts_le(x:GPart):x.cts≤16*x.size:=by
 simp only[GPart.cts,GPart.size]
 have hResource:=GResource.cts_le x.Resource
 omega
@[go_sem] theorem GPart.mks_len0 (x:GPart) (k:Int):((x.mks k).Resource.Body).length=x.Resource.Body.length:=Kf
def GPiece.mkd(x:GPiece)(k:Int):GPiece:=⟨k,(k+1),(mkL iMk iCt x.New (k+2))⟩
def GPiece.ct(x:GPiece):Nat:=2+ctL iCt x.New
theorem GPiece.ct_le(x:GPiece):x.ct≤16*(1+x.size):=by
 simp only[GPiece.ct,GPiece.size]
 have h0:=ctL_le' (c:=iCt) (fun y=>by simp only[iCt];omega) x.New
 omega
def GPiece.mks(x:GPiece)(k:Int):GPiece:={x with New:=mkL iMk iCt x.New (k)}
def GPiece.cts(x:GPiece):Nat:=ctL iCt x.New
theorem GPiece.cts_le(x:GPiece):x.cts≤16*x.size:=by
 simp only[GPiece.cts,GPiece.size]
 have hNew:=ctL_le' (c:=iCt) (fun y=>by simp only[iCt];omega) x.New
 omega
@[go_sem] theorem GPiece.mks_len0 (x:GPiece) (k:Int):((x.mks k).New).length=x.New.length:=Kf
def GVersion.mkd(x:GVersion)(k:Int):GVersion:=⟨⟨k,(k+1),(k+2)⟩,(k+3),⟨(k+4),(mkL iMk iCt x.Resource.Body (k+5)),⟨((k+5)+(ctL iCt x.Resource.Body:Nat)),(((k+5)+(ctL iCt x.Resource.Body:Nat))+1),(((k+5)+(ctL iCt x.Resource.Body:Nat))+2)⟩⟩⟩
def GVersion.ct(x:GVersion):Nat:=8+ctL iCt x.Resource.Body
theorem GVersion.ct_le(x:GVersion):x.ct≤16*(1+x.size):=by
 simp only[GVersion.ct,GVersion.size,GResource.size]
 have h0:=ctL_le' (c:=iCt) (fun y=>by simp only[iCt];omega) x.Resource.Body
 omega
def GVersion.mks(x:GVersion)(k:Int):GVersion:={x with Resource:=x.Resource.mks (k)}
def GVersion.cts(x:GVersion):Nat:=x.Resource.cts
theorem GVersion.cts_le(x:GVersion):x.cts≤16*x.size:=by
 simp only[GVersion.cts,GVersion.size]
 have hResource:=GResource.cts_le x.Resource
 omega
@[go_sem] theorem GVersion.mks_len0 (x:GVersion) (k:Int):((x.mks k).Resource.Body).length=x.Resource.Body.length:=Kf
def GOp.mkd(x:GOp)(k:Int):GOp:=⟨k,(k+1),(k+2),(k+3)⟩
def GOp.ct(x:GOp):Nat:=4
def GState.mkd(x:GState)(k:Int):GState:=⟨k,(mkL iMk iCt x.Regs (k+1)),(mkL iMk iCt x.Slots ((k+1)+(ctL iCt x.Regs:Nat))),(mkL iMk iCt x.Nodes (((k+1)+(ctL iCt x.Regs:Nat))+(ctL iCt x.Slots:Nat)))⟩
def GState.ct(x:GState):Nat:=1+ctL iCt x.Regs+ctL iCt x.Slots+ctL iCt x.Nodes
theorem GState.ct_le(x:GState):x.ct≤16*(1+x.size):=by
 simp only[GState.ct,GState.size]
 have h0:=ctL_le' (c:=iCt) (fun y=>by simp only[iCt];omega) x.Regs
 have h1:=ctL_le' (c:=iCt) (fun y=>by simp only[iCt];omega) x.Slots
 have h2:=ctL_le' (c:=iCt) (fun y=>by simp only[iCt];omega) x.Nodes
 omega
def GState.mks(x:GState)(k:Int):GState:={x with Regs:=mkL iMk iCt x.Regs (k),Slots:=mkL iMk iCt x.Slots (k+(ctL iCt x.Regs:Nat)),Nodes:=mkL iMk iCt x.Nodes (k+(ctL iCt x.Regs:Nat)+(ctL iCt x.Slots:Nat))}
def GState.cts(x:GState):Nat:=ctL iCt x.Regs+ctL iCt x.Slots+ctL iCt x.Nodes
theorem GState.cts_le(x:GState):x.cts≤16*x.size:=by
 simp only[GState.cts,GState.size]
 have hRegs:=ctL_le' (c:=iCt) (fun y=>by simp only[iCt];omega) x.Regs
 have hSlots:=ctL_le' (c:=iCt) (fun y=>by simp only[iCt];omega) x.Slots
 have hNodes:=ctL_le' (c:=iCt) (fun y=>by simp only[iCt];omega) x.Nodes
 omega
@[go_sem] theorem GState.mks_len0 (x:GState) (k:Int):((x.mks k).Regs).length=x.Regs.length:=Kf
@[go_sem] theorem GState.mks_len1 (x:GState) (k:Int):((x.mks k).Slots).length=x.Slots.length:=Kf
@[go_sem] theorem GState.mks_len2 (x:GState) (k:Int):((x.mks k).Nodes).length=x.Nodes.length:=Kf
def GWant.mkd(x:GWant)(k:Int):GWant:=⟨k,⟨(k+1),(k+2),(k+3)⟩⟩
def GWant.ct(x:GWant):Nat:=4
def GEntry.mkd(x:GEntry)(k:Int):GEntry:=⟨k,⟨(k+1),(k+2),(k+3)⟩,(k+4)⟩
def GEntry.ct(x:GEntry):Nat:=5
def GCapture.mkd(x:GCapture)(k:Int):GCapture:=⟨⟨k,(k+1),(k+2)⟩,(k+3),⟨(k+4),(mkL iMk iCt x.Resource.Body (k+5)),⟨((k+5)+(ctL iCt x.Resource.Body:Nat)),(((k+5)+(ctL iCt x.Resource.Body:Nat))+1),(((k+5)+(ctL iCt x.Resource.Body:Nat))+2)⟩⟩⟩
def GCapture.ct(x:GCapture):Nat:=8+ctL iCt x.Resource.Body
theorem GCapture.ct_le(x:GCapture):x.ct≤16*(1+x.size):=by
 simp only[GCapture.ct,GCapture.size,GResource.size]
 have h0:=ctL_le' (c:=iCt) (fun y=>by simp only[iCt];omega) x.Resource.Body
 omega
def GCapture.mks(x:GCapture)(k:Int):GCapture:={x with Resource:=x.Resource.mks (k)}
def GCapture.cts(x:GCapture):Nat:=x.Resource.cts
theorem GCapture.cts_le(x:GCapture):x.cts≤16*x.size:=by
 simp only[GCapture.cts,GCapture.size]
 have hResource:=GResource.cts_le x.Resource
 omega
@[go_sem] theorem GCapture.mks_len0 (x:GCapture) (k:Int):((x.mks k).Resource.Body).length=x.Resource.Body.length:=Kf
def GChoice.mkd(x:GChoice)(k:Int):GChoice:=⟨k,(k+1)⟩
def GChoice.ct(x:GChoice):Nat:=2
def GWander.mks(x:GWander)(k:Int):GWander:={x with State:=x.State.mks (k),Choices:=mkL GChoice.mkd GChoice.ct x.Choices (k+(x.State.cts:Nat)),Labels:=mkL iMk iCt x.Labels (k+(x.State.cts:Nat)+(ctL GChoice.ct x.Choices:Nat))}
def GWander.cts(x:GWander):Nat:=x.State.cts+ctL GChoice.ct x.Choices+ctL iCt x.Labels
theorem GWander.cts_le(x:GWander):x.cts≤16*x.size:=by
 simp only[GWander.cts,GWander.size]
 have hState:=GState.cts_le x.State
 have hChoices:=ctL_le' (c:=GChoice.ct) (fun y=>by simp only[GChoice.ct];omega) x.Choices
 have hLabels:=ctL_le' (c:=iCt) (fun y=>by simp only[iCt];omega) x.Labels
 omega
@[go_sem] theorem GWander.mks_len0 (x:GWander) (k:Int):((x.mks k).State.Regs).length=x.State.Regs.length:=Kf
@[go_sem] theorem GWander.mks_len1 (x:GWander) (k:Int):((x.mks k).State.Slots).length=x.State.Slots.length:=Kf
@[go_sem] theorem GWander.mks_len2 (x:GWander) (k:Int):((x.mks k).State.Nodes).length=x.State.Nodes.length:=Kf
@[go_sem] theorem GWander.mks_len3 (x:GWander) (k:Int):((x.mks k).Choices).length=x.Choices.length:=Kf
@[go_sem] theorem GWander.mks_len4 (x:GWander) (k:Int):((x.mks k).Labels).length=x.Labels.length:=Kf
def GModel.mkd(x:GModel)(k:Int):GModel:=⟨k,(k+1),(k+2),(bMk x.Fits (k+3))⟩
def GModel.ct(x:GModel):Nat:=4
def GShown.mkd(x:GShown)(k:Int):GShown:=⟨k,⟨(k+1),(k+2),(k+3)⟩⟩
def GShown.ct(x:GShown):Nat:=4
def GLeaf.mkd(x:GLeaf)(k:Int):GLeaf:=⟨k,(k+1),(bMk x.Hidden (k+2)),(k+3)⟩
def GLeaf.ct(x:GLeaf):Nat:=4
def GEdition.mks(x:GEdition)(k:Int):GEdition:={x with Captures:=mkL GCapture.mkd GCapture.ct x.Captures (k),Hidden:=mkL GAddress.mkd GAddress.ct x.Hidden (k+(ctL GCapture.ct x.Captures:Nat))}
def GEdition.cts(x:GEdition):Nat:=ctL GCapture.ct x.Captures+ctL GAddress.ct x.Hidden
theorem GEdition.cts_le(x:GEdition):x.cts≤16*x.size:=by
 simp only[GEdition.cts,GEdition.size]
 have hCaptures:=K4s (c:=GCapture.ct) (s:=GCapture.size) GCapture.ct_le x.Captures
 have hHidden:=ctL_le' (c:=GAddress.ct) (fun y=>by simp only[GAddress.ct];omega) x.Hidden
 omega
@[go_sem] theorem GEdition.mks_len0 (x:GEdition) (k:Int):((x.mks k).Captures).length=x.Captures.length:=Kf
@[go_sem] theorem GEdition.mks_len1 (x:GEdition) (k:Int):((x.mks k).Hidden).length=x.Hidden.length:=Kf
def GExclusion.mkd(x:GExclusion)(k:Int):GExclusion:=⟨k,(k+1),(k+2),(k+3),(k+4)⟩
def GExclusion.ct(x:GExclusion):Nat:=5
def GStatement.mkd(x:GStatement)(k:Int):GStatement:=⟨k,(k+1),(k+2),(k+3)⟩
def GStatement.ct(x:GStatement):Nat:=4
def GLibrary.mkd(x:GLibrary)(k:Int):GLibrary:=⟨k,(mkL iMk iCt x.Digests (k+1)),(bMk x.Up ((k+1)+(ctL iCt x.Digests:Nat))),(bMk x.Lies (((k+1)+(ctL iCt x.Digests:Nat))+1))⟩
def GLibrary.ct(x:GLibrary):Nat:=3+ctL iCt x.Digests
theorem GLibrary.ct_le(x:GLibrary):x.ct≤16*(1+x.size):=by
 simp only[GLibrary.ct,GLibrary.size]
 have h0:=ctL_le' (c:=iCt) (fun y=>by simp only[iCt];omega) x.Digests
 omega
def GLibrary.mks(x:GLibrary)(k:Int):GLibrary:={x with Digests:=mkL iMk iCt x.Digests (k)}
def GLibrary.cts(x:GLibrary):Nat:=ctL iCt x.Digests
theorem GLibrary.cts_le(x:GLibrary):x.cts≤16*x.size:=by
 simp only[GLibrary.cts,GLibrary.size]
 have hDigests:=ctL_le' (c:=iCt) (fun y=>by simp only[iCt];omega) x.Digests
 omega
@[go_sem] theorem GLibrary.mks_len0 (x:GLibrary) (k:Int):((x.mks k).Digests).length=x.Digests.length:=Kf
def GContainer.mkd(x:GContainer)(k:Int):GContainer:=⟨(mkL GOp.mkd GOp.ct x.Script k),(mkL GEntry.mkd GEntry.ct x.Entries (k+(ctL GOp.ct x.Script:Nat))),(mkL GCapture.mkd GCapture.ct x.Captures ((k+(ctL GOp.ct x.Script:Nat))+(ctL GEntry.ct x.Entries:Nat))),(((k+(ctL GOp.ct x.Script:Nat))+(ctL GEntry.ct x.Entries:Nat))+(ctL GCapture.ct x.Captures:Nat))⟩
def GContainer.ct(x:GContainer):Nat:=1+ctL GOp.ct x.Script+ctL GEntry.ct x.Entries+ctL GCapture.ct x.Captures
theorem GContainer.ct_le(x:GContainer):x.ct≤16*(1+x.size):=by
 simp only[GContainer.ct,GContainer.size]
 have h0:=ctL_le' (c:=GOp.ct) (fun y=>by simp only[GOp.ct];omega) x.Script
 have h1:=ctL_le' (c:=GEntry.ct) (fun y=>by simp only[GEntry.ct];omega) x.Entries
 have h2:=K4s (c:=GCapture.ct) (s:=GCapture.size) GCapture.ct_le x.Captures
 omega
def GContainer.mks(x:GContainer)(k:Int):GContainer:={x with Script:=mkL GOp.mkd GOp.ct x.Script (k),Entries:=mkL GEntry.mkd GEntry.ct x.Entries (k+(ctL GOp.ct x.Script:Nat)),Captures:=mkL GCapture.mkd GCapture.ct x.Captures (k+(ctL GOp.ct x.Script:Nat)+(ctL GEntry.ct x.Entries:Nat))}
def GContainer.cts(x:GContainer):Nat:=ctL GOp.ct x.Script+ctL GEntry.ct x.Entries+ctL GCapture.ct x.Captures
theorem GContainer.cts_le(x:GContainer):x.cts≤16*x.size:=by
 simp only[GContainer.cts,GContainer.size]
 have hScript:=ctL_le' (c:=GOp.ct) (fun y=>by simp only[GOp.ct];omega) x.Script
 have hEntries:=ctL_le' (c:=GEntry.ct) (fun y=>by simp only[GEntry.ct];omega) x.Entries
 have hCaptures:=K4s (c:=GCapture.ct) (s:=GCapture.size) GCapture.ct_le x.Captures
 omega
@[go_sem] theorem GContainer.mks_len0 (x:GContainer) (k:Int):((x.mks k).Script).length=x.Script.length:=Kf
@[go_sem] theorem GContainer.mks_len1 (x:GContainer) (k:Int):((x.mks k).Entries).length=x.Entries.length:=Kf
@[go_sem] theorem GContainer.mks_len2 (x:GContainer) (k:Int):((x.mks k).Captures).length=x.Captures.length:=Kf
def GFound.mkd(x:GFound)(k:Int):GFound:=⟨⟨k,(k+1),(k+2)⟩,(k+3),(k+4),(k+5)⟩
def GFound.ct(x:GFound):Nat:=6
def GDisk.mks(x:GDisk)(k:Int):GDisk:={x with Containers:=mkL GContainer.mkd GContainer.ct x.Containers (k),Index:=mkL GFound.mkd GFound.ct x.Index (k+(ctL GContainer.ct x.Containers:Nat)),Wanted:=mkL GContainer.mkd GContainer.ct x.Wanted (k+(ctL GContainer.ct x.Containers:Nat)+(ctL GFound.ct x.Index:Nat))}
def GDisk.cts(x:GDisk):Nat:=ctL GContainer.ct x.Containers+ctL GFound.ct x.Index+ctL GContainer.ct x.Wanted
theorem GDisk.cts_le(x:GDisk):x.cts≤16*x.size:=by
 simp only[GDisk.cts,GDisk.size]
 have hContainers:=K4s (c:=GContainer.ct) (s:=GContainer.size) GContainer.ct_le x.Containers
 have hIndex:=ctL_le' (c:=GFound.ct) (fun y=>by simp only[GFound.ct];omega) x.Index
 have hWanted:=K4s (c:=GContainer.ct) (s:=GContainer.size) GContainer.ct_le x.Wanted
 omega
@[go_sem] theorem GDisk.mks_len0 (x:GDisk) (k:Int):((x.mks k).Containers).length=x.Containers.length:=Kf
@[go_sem] theorem GDisk.mks_len1 (x:GDisk) (k:Int):((x.mks k).Index).length=x.Index.length:=Kf
@[go_sem] theorem GDisk.mks_len2 (x:GDisk) (k:Int):((x.mks k).Wanted).length=x.Wanted.length:=Kf
def GArchive.mks(x:GArchive)(k:Int):GArchive:={x with Site:=mkL GVersion.mkd GVersion.ct x.Site (k),Script:=mkL GOp.mkd GOp.ct x.Script (k+(ctL GVersion.ct x.Site:Nat)),Disk:=x.Disk.mks (k+(ctL GVersion.ct x.Site:Nat)+(ctL GOp.ct x.Script:Nat)),Exclusions:=mkL GExclusion.mkd GExclusion.ct x.Exclusions (k+(ctL GVersion.ct x.Site:Nat)+(ctL GOp.ct x.Script:Nat)+(x.Disk.cts:Nat)),Libraries:=mkL GLibrary.mkd GLibrary.ct x.Libraries (k+(ctL GVersion.ct x.Site:Nat)+(ctL GOp.ct x.Script:Nat)+(x.Disk.cts:Nat)+(ctL GExclusion.ct x.Exclusions:Nat)),Keys:=mkL iMk iCt x.Keys (k+(ctL GVersion.ct x.Site:Nat)+(ctL GOp.ct x.Script:Nat)+(x.Disk.cts:Nat)+(ctL GExclusion.ct x.Exclusions:Nat)+(ctL GLibrary.ct x.Libraries:Nat)),Statements:=mkL GStatement.mkd GStatement.ct x.Statements (k+(ctL GVersion.ct x.Site:Nat)+(ctL GOp.ct x.Script:Nat)+(x.Disk.cts:Nat)+(ctL GExclusion.ct x.Exclusions:Nat)+(ctL GLibrary.ct x.Libraries:Nat)+(ctL iCt x.Keys:Nat))}
def GArchive.cts(x:GArchive):Nat:=ctL GVersion.ct x.Site+ctL GOp.ct x.Script+x.Disk.cts+ctL GExclusion.ct x.Exclusions+ctL GLibrary.ct x.Libraries+ctL iCt x.Keys+ctL GStatement.ct x.Statements
theorem GArchive.cts_le(x:GArchive):x.cts≤16*x.size:=by
 simp only[GArchive.cts,GArchive.size]
 have hSite:=K4s (c:=GVersion.ct) (s:=GVersion.size) GVersion.ct_le x.Site
 have hScript:=ctL_le' (c:=GOp.ct) (fun y=>by simp only[GOp.ct];omega) x.Script
 have hDisk:=GDisk.cts_le x.Disk
 have hExclusions:=ctL_le' (c:=GExclusion.ct) (fun y=>by simp only[GExclusion.ct];omega) x.Exclusions
 have hLibraries:=K4s (c:=GLibrary.ct) (s:=GLibrary.size) GLibrary.ct_le x.Libraries
 have hKeys:=ctL_le' (c:=iCt) (fun y=>by simp only[iCt];omega) x.Keys
 have hStatements:=ctL_le' (c:=GStatement.ct) (fun y=>by simp only[GStatement.ct];omega) x.Statements
 omega
@[go_sem] theorem GArchive.mks_len0 (x:GArchive) (k:Int):((x.mks k).Site).length=x.Site.length:=Kf
@[go_sem] theorem GArchive.mks_len1 (x:GArchive) (k:Int):((x.mks k).Script).length=x.Script.length:=Kf
@[go_sem] theorem GArchive.mks_len2 (x:GArchive) (k:Int):((x.mks k).Disk.Containers).length=x.Disk.Containers.length:=Kf
@[go_sem] theorem GArchive.mks_len3 (x:GArchive) (k:Int):((x.mks k).Disk.Index).length=x.Disk.Index.length:=Kf
@[go_sem] theorem GArchive.mks_len4 (x:GArchive) (k:Int):((x.mks k).Disk.Wanted).length=x.Disk.Wanted.length:=Kf
@[go_sem] theorem GArchive.mks_len5 (x:GArchive) (k:Int):((x.mks k).Exclusions).length=x.Exclusions.length:=Kf
@[go_sem] theorem GArchive.mks_len6 (x:GArchive) (k:Int):((x.mks k).Libraries).length=x.Libraries.length:=Kf
@[go_sem] theorem GArchive.mks_len7 (x:GArchive) (k:Int):((x.mks k).Keys).length=x.Keys.length:=Kf
@[go_sem] theorem GArchive.mks_len8 (x:GArchive) (k:Int):((x.mks k).Statements).length=x.Statements.length:=Kf
def GChange.mkd(x:GChange)(k:Int):GChange:=⟨k,(k+1)⟩
def GChange.ct(x:GChange):Nat:=2
def GPlayed.mks(x:GPlayed)(k:Int):GPlayed:={x with State:=x.State.mks (k)}
def GPlayed.cts(x:GPlayed):Nat:=x.State.cts
theorem GPlayed.cts_le(x:GPlayed):x.cts≤16*x.size:=by
 simp only[GPlayed.cts,GPlayed.size]
 have hState:=GState.cts_le x.State
 omega
@[go_sem] theorem GPlayed.mks_len0 (x:GPlayed) (k:Int):((x.mks k).State.Regs).length=x.State.Regs.length:=Kf
@[go_sem] theorem GPlayed.mks_len1 (x:GPlayed) (k:Int):((x.mks k).State.Slots).length=x.State.Slots.length:=Kf
@[go_sem] theorem GPlayed.mks_len2 (x:GPlayed) (k:Int):((x.mks k).State.Nodes).length=x.State.Nodes.length:=Kf
end Go.Proofs.YtpeabgkoknjojaaGreatDoorR
namespace Go.Proofs.YtpeabgkoknjojaaGreatDoorR
namespace Srt
structure Swo {α:Type} (lt:α→α→Bool):Prop where
 asy:∀x y,lt x y=true→lt y x=false
 neg:∀x y z,lt x z=true→lt x y=true∨lt y z=true
variable {α:Type} {lt:α→α→Bool}
theorem Swo.tr(h:Swo lt){x y z:α}(h1:lt x y=true)(h2:lt y z=true):lt x z=true:=by
 rcases h.neg x z y h1 with k|k
 ·exact k
 ·rw[h.asy y z h2]at k;cases k
theorem Swo.ntr(h:Swo lt){x y z:α}(h1:lt x y=false)(h2:lt y z=false):lt x z=false:=by
 cases k:lt x z
 ·rfl
 ·rcases h.neg x y z k with k|k<;>simp_all
theorem Swo.irr(h:Swo lt)(x:α):lt x x=false:=by
 cases k:lt x x
 ·rfl
 ·have:=h.asy x x k;simp_all
theorem Swo.lf(h:Swo lt){x y z:α}(h1:lt x y=true)(h2:lt z y=false):lt x z=true:=by
 rcases h.neg x z y h1 with k|k<;>simp_all
theorem Swo.fl(h:Swo lt){x y z:α}(h1:lt y x=false)(h2:lt y z=true):lt x z=true:=by
 rcases h.neg y x z h2 with k|k<;>simp_all
variable (lt)
def ins(x:α):List α→List α
 | []=>[x]
 |z::zs=>if lt x z then x::z::zs else z::ins x zs
def mrg(A B:List α):List α:=B.foldl (fun acc x=>ins lt x acc) A
def isort(l:List α):List α:=mrg lt [] l
def srt(l:List α):Prop:=l.Pairwise fun x y=>lt y x=false
variable {lt}
theorem Ka4{x y:α}:∀ {l:List α},y∈ins lt x l↔y=x∨y∈l
 | []=>by simp[ins]
 |z::zs=>by
  simp only[ins]
  split
  ·simp
  ·rw[List.mem_cons,Ka4,List.mem_cons]
   constructor<;>rintro (h|h|h)<;>simp[h]
theorem len_ins{x:α}:∀ {l:List α},(ins lt x l).length=l.length+1
 | []=>rfl
 |z::zs=>by
  simp only[ins]
  split
  ·rfl
  ·simp[len_ins]
theorem mrg_nil{A:List α}:mrg lt A []=A:=rfl
theorem K2q{A B:List α}{x:α}:mrg lt A (x::B)=mrg lt (ins lt x A) B:=rfl
theorem K3c{A B C:List α}:mrg lt A (B++C)=mrg lt (mrg lt A B) C:=List.foldl_append
theorem mem_mrg{y:α}:∀ {B A:List α},y∈mrg lt A B↔y∈A∨y∈B
 | [],A=>by simp[mrg_nil]
 |x::B,A=>by
  rw[K2q,mem_mrg,Ka4,List.mem_cons]
  exact⟨fun h=>h.elim (fun h=>h.elim (fun h=> .inr (.inl h)) .inl) (fun h=> .inr (.inr h)),fun h=>h.elim (fun h=> .inl (.inr h)) (fun h=>h.elim (fun h=> .inl (.inl h)) .inr)⟩
theorem len_mrg:∀ {B A:List α},(mrg lt A B).length=A.length+B.length
 | [],A=>rfl
 |x::B,A=>by
  rw[K2q,len_mrg,len_ins,List.length_cons];omega
theorem len_isort{l:List α}:(isort lt l).length=l.length:=by
 unfold isort;rw[len_mrg];simp
theorem Kbj(h:Swo lt){x y:α}(hxy:lt x y=true):∀(A:List α),ins lt y (ins lt x A)=ins lt x (ins lt y A)
 | []=>by simp[ins,hxy,h.asy x y hxy]
 |z::zs=>by
  cases k1:lt x z<;>cases k2:lt y z
  ·simp[ins,k1,k2,Kbj h hxy zs]
  ·rw[h.tr hxy k2]at k1;cases k1
  ·simp[ins,k1,k2,h.asy x y hxy]
  ·simp[ins,k1,k2,hxy,h.asy x y hxy]
theorem Kbr(h:Swo lt){x:α}:∀ {s A:List α},(∀y∈s,lt x y=true)→mrg lt (ins lt x A) s=ins lt x (mrg lt A s)
 | [],A,_=>rfl
 |y::s,A,hs=>by
  rw[K2q,Kbj h (hs y (by simp)),Kbr h (fun z hz=>hs z (by simp[hz])),K2q]
theorem K74{x:α}{l:List α}:srt lt (x::l)↔(∀y∈l,lt y x=false)∧srt lt l:=List.pairwise_cons
theorem srt_append{A B:List α}:srt lt (A++B)↔srt lt A∧srt lt B∧∀a∈A,∀b∈B,lt b a=false:=List.pairwise_append
theorem srt_ins(h:Swo lt){x:α}:∀ {l:List α},srt lt l→srt lt (ins lt x l)
 | [],_=>by simp[ins,srt]
 |z::zs,hs=>by
  obtain⟨h1,h2⟩:=K74.1 hs
  simp only[ins]
  split
  ·rename_i k
   refine K74.2 ⟨fun y hy=>?_,hs⟩
   rcases List.mem_cons.1 hy with rfl|hy
   ·exact h.asy _ _ k
   ·exact h.ntr (h1 y hy) (h.asy _ _ k)
  ·rename_i k
   refine K74.2 ⟨fun y hy=>?_,srt_ins h h2⟩
   rcases Ka4.1 hy with rfl|hy
   ·simpa using k
   ·exact h1 y hy
theorem srt_mrg(h:Swo lt):∀ {B A:List α},srt lt A→srt lt (mrg lt A B)
 | [],A,hA=>hA
 |x::B,A,hA=>srt_mrg h (B:=B) (srt_ins h hA)
theorem srt_isort(h:Swo lt)(l:List α):srt lt (isort lt l):=srt_mrg h List.Pairwise.nil
theorem Kam(h:Swo lt){x:α}:∀ {l:List α},srt lt l→∃s t,l=s++t∧ins lt x l=s++x::t∧∀y∈t,lt x y=true
 | [],_=>⟨[],[],rfl,rfl,by simp⟩
 |z::zs,hs=>by
  obtain⟨h1,h2⟩:=K74.1 hs
  cases k:lt x z
  ·obtain⟨s,t,e,e2,h3⟩:=Kam h (x:=x) h2
   exact⟨z::s,t,by simp[e],by simp[ins,k,e2],h3⟩
  ·refine⟨[],z::zs,rfl,by simp[ins,k],fun y hy=>?_⟩
   rcases List.mem_cons.1 hy with rfl|hy
   ·exact k
   ·exact h.lf k (h1 y hy)
theorem mrg_ins(h:Swo lt){x:α}{A s:List α}(hs:srt lt s):mrg lt A (ins lt x s)=ins lt x (mrg lt A s):=by
 obtain⟨s1,s2,rfl,e,h2⟩:=Kam h (x:=x) hs
 rw[e,K3c,K2q,Kbr h h2,K3c]
theorem isort_snoc{l:List α}{x:α}:isort lt (l++[x])=ins lt x (isort lt l):=by
 unfold isort;rw[K3c];rfl
theorem mrg_isort(h:Swo lt){A:List α}(r:List α):mrg lt A (isort lt r)=mrg lt A r:=by
 suffices H:∀(n:Nat) (r:List α),r.length=n→mrg lt A (isort lt r)=mrg lt A r from H _ r rfl
 intro n
 induction n with
 |zero=>intro r hr;obtain rfl:=List.length_eq_zero_iff.1 hr;rfl
 |succ n ih=>
  intro r hr
  rcases List.eq_nil_or_concat r with rfl|⟨s,x,rfl⟩
  ·rfl
  ·rw[List.concat_eq_append]at*
   rw[isort_snoc,mrg_ins h (srt_isort h s),ih s (by simpa using hr),K3c];rfl
theorem K7n(h:Swo lt)(l r:List α):isort lt (l++r)=mrg lt (isort lt l) (isort lt r):=by
 rw[mrg_isort h];unfold isort;rw[K3c]
theorem Kbk{b:α}{A2:List α}(h:∀a∈A2.head?,lt b a=true):∀(A1:List α),ins lt b (A1++A2)=ins lt b A1++A2
 | []=>by
  cases A2 with
  |nil=>rfl
  |cons z zs=>simp[ins,h z (by simp)]
 |z::zs=>by
  simp only[List.cons_append,ins]
  split
  ·rfl
  ·rw[Kbk h zs,List.cons_append]
theorem K7m{b:α}{A2:List α}:∀ {A1:List α},(∀a∈A1,lt b a=false)→ins lt b (A1++A2)=A1++ins lt b A2
 | [],_=>rfl
 |z::zs,h=>by
  simp only[List.cons_append,ins,h z (by simp),K7m (A1:=zs) (fun a ha=>h a (by simp[ha]))]
  rfl
theorem ins_mid{x:α}{s t:List α}(h1:∀a∈s,lt x a=false)(h2:∀a∈t.head?,lt x a=true):ins lt x (s++t)=s++x::t:=by
 rw[K7m h1]
 cases t with
 |nil=>rfl
 |cons z zs=>simp[ins,h2 z (by simp)]
theorem Kbq{A2:List α}:∀ {B A1:List α},(∀b∈B,∀a∈A2.head?,lt b a=true)→mrg lt (A1++A2) B=mrg lt A1 B++A2
 | [],_,_=>rfl
 |b::B,A1,h=>by
  rw[K2q,Kbk (h b (by simp)),Kbq (fun b hb=>h b (by simp[hb])),K2q]
theorem K7p{A1:List α}:∀ {B A2:List α},(∀b∈B,∀a∈A1,lt b a=false)→mrg lt (A1++A2) B=A1++mrg lt A2 B
 | [],_,_=>rfl
 |b::B,A2,h=>by
  rw[K2q,K7m (h b (by simp)),K7p (fun b hb=>h b (by simp[hb])),K2q]
theorem mrg_nil_srt(h:Swo lt){l:List α}(hs:srt lt l):mrg lt [] l=l:=by
 suffices H:∀(l A:List α),srt lt (A++l)→mrg lt A l=A++l from H l [] (by simpa using hs)
 intro l
 induction l with
 |nil=>intro A _;simp[mrg_nil]
 |cons x l ih=>
  intro A hA
  have:=srt_append.1 hA
  rw[K2q,show ins lt x A=A++[x]from by
   have:=ins_mid (lt:=lt) (x:=x) (s:=A) (t:=[]) (fun a ha=>(srt_append.1 hA).2.2 a ha x (by simp)) (by simp)
   simpa using this,ih (A++[x]) (by simpa using hA)]
  simp
theorem Kap{A1 A2 B1 B2:List α}(h1:∀b∈B1,∀a∈A2.head?,lt b a=true)(h2:∀b∈B2,∀a∈A1,lt b a=false)(h3:∀b∈B2,∀a∈B1,lt b a=false):mrg lt (A1++A2) (B1++B2)=mrg lt A1 B1++mrg lt A2 B2:=by
 rw[K3c,Kbq h1,K7p]
 intro b hb a ha
 rcases mem_mrg.1 ha with k|k
 ·exact h2 b hb a k
 ·exact h3 b hb a k
def blk(lt:α→α→Bool)(s:Nat)(l:List α):List α:=
 if h:s=0∨l.length≤s then isort lt l else isort lt (l.take s)++blk lt s (l.drop s)
termination_by l.length
decreasing_by
 simp only[List.length_drop]
 omega
end Srt
end Go.Proofs.YtpeabgkoknjojaaGreatDoorR
namespace Go.Proofs.YtpeabgkoknjojaaGreatDoorR
open Go Go.RowKit Go.Proofs
open Nat (reduceEqDiff reduceLT reduceLeDiff reduceAdd reduceMul)
open List (reduceReplicate)
abbrev fI(f:FuncId):RV:=⟨false,[(false,.fn f [])]⟩
attribute [go_sem] fI
def two(A:List (List T))(e:List T)(B:List (List T))(e':List T)(C:List (List T)):List (List T):=A++e::(B++e'::C)
theorem K9x{A B C:List (List T)}{p q:Nat}(hp:A.length=p)(hq:p+1+B.length=q):
  (∀e e',(two A e B e' C)[p]? =some e)∧(∀e e',(two A e B e' C)[q]? =some e')∧
  (∀e e' u,(two A e B e' C).set p u=two A u B e' C)∧(∀e e' u,(two A e B e' C).set q u=two A e B u C)∧
  (∀e e',(two A e B e' C).length=A.length+B.length+C.length+2)∧
  (∀e e',(two A e B e' C).getD p []=e)∧(∀e e',(two A e B e' C).getD q []=e'):=by
 subst hp hq
 have h1:∀e e',(two A e B e' C)[A.length]? =some e:=fun e e'=>by simp[two]
 have h2:∀e e',(two A e B e' C)[A.length+1+B.length]? =some e':=fun e e'=>by
  unfold two
  rw[List.getElem?_append_right (by omega),show A.length+1+B.length-A.length=B.length+1 by omega,List.getElem?_cons_succ,List.getElem?_append_right (by omega),Nat.sub_self]
  rfl
 refine⟨h1,h2,fun e e' u=>by simp[two],fun e e' u=>?_,fun e e'=>by simp[two];omega,fun e e'=>by rw[List.getD_eq_getElem?_getD,h1];rfl,fun e e'=>by rw[List.getD_eq_getElem?_getD,h2];rfl⟩
 unfold two
 rw[List.set_append_right _ _ (by omega),show A.length+1+B.length-A.length=B.length+1 by omega,List.set_cons_succ,List.set_append_right _ _ (by omega),Nat.sub_self]
 rfl
def swp{α:Type}(P X M Y Q:List α)(i:Nat):List α:=(P++Y.take i)++(X.drop i++M++X.take i)++(Y.drop i++Q)
theorem swp_len{α:Type}{P X M Y Q:List α}{i:Nat}(h:X.length=Y.length):(swp P X M Y Q i).length=(P++X++M++Y++Q).length:=by
 simp[swp,List.length_take,List.length_drop];omega
theorem swp_two{α:Type}{P X M Y Q:List α}{i:Nat}{x y:α}{f:α→List T}(hx:X[i]? =some x)(hy:Y[i]? =some y):
  (swp P X M Y Q i).map f=two ((P++Y.take i).map f) (f x) ((X.drop (i+1)++M++X.take i).map f) (f y) ((Y.drop (i+1)++Q).map f)∧
  (swp P X M Y Q (i+1)).map f=two ((P++Y.take i).map f) (f y) ((X.drop (i+1)++M++X.take i).map f) (f x) ((Y.drop (i+1)++Q).map f):=by
 constructor
 ·simp[swp,two,K1t hx,K1t hy]
 ·simp[swp,two,K8 hx,K8 hy]
theorem wN{a b:Nat}(h:a+b≤9223372036854775807):IntKind.i64.wrap ((a:Int)+(b:Int))=((a+b:Nat):Int):=by
 rw[wI (by omega) (by omega)];omega
theorem wN1{a:Nat}(h:a+1≤9223372036854775807):IntKind.i64.wrap ((a:Int)+1)=((a+1:Nat):Int):=by
 rw[wI (by omega) (by omega)];omega
theorem wS{a b:Nat}(h:b≤a)(h2:a≤9223372036854775807):IntKind.i64.wrap ((a:Int)-(b:Int))=((a-b:Nat):Int):=by
 rw[wI (by omega) (by omega)];omega
theorem wS1{a:Nat}(h:1≤a)(h2:a≤9223372036854775807):IntKind.i64.wrap ((a:Int)-1)=((a-1:Nat):Int):=by
 rw[wI (by omega) (by omega)];omega
def M1g:MC:=
(Zs [.mv 10 (ci 0)] [0,1,2,3,10] (.block 0 (.loop ([0,1,2,3,10],[]) (.seq (Zs [mS 11 10,mS 12 3,bS 13 .lss 11 12] [0,1,2,3,10,13] (cX 13 0))
(.seq (.block 1 (.dreg [Zc [17,18,19,20,21,22,23,24,25,26,27,28,29,30,31,32,33,34,35] (mS 16 0),Zc [16,18,20,21,22,23,24,25,26,27,28,29,30,31,32,33,34,35] (mS 17 1),Zc [16,17,20,21,22,23,24,25,26,27,28,29,30,31,32,33,34,35] (mS 18 10),Zd [16,20,21,22,23,24,25,26,27,28,29,30,31,32,33,34,35] [1,2] (bS 19 .add 17 18),Zf [16,17,18,19,21,22,23,24,25,26,27,28,29,30,31,32,33,34,35,36] [0] (mS 20 0),Zf [16,17,18,19,20,22,24,25,26,27,28,29,30,31,32,33,34,35,36] [0] (mS 21 2),Zf [16,17,18,19,20,21,24,25,26,27,28,29,30,31,32,33,34,35,36] [0] (mS 22 10),Zg [16,17,18,19,20,24,25,26,27,28,29,30,31,32,33,34,35,36] [0] [5,6] (bS 23 .add 21 22),Zc [16,17,18,19,20,21,22,23,25,26,27,30,31,32,33,34,35] (mS 24 0),Zc [16,17,18,19,20,21,22,23,24,26,30,31,32,33,34,35] (mS 25 2),Zc [16,17,18,19,20,21,22,23,24,25,30,31,32,33,34,35] (mS 26 10),Zd [16,17,18,19,20,21,22,23,24,30,31,32,33,34,35] [9,10] (bS 27 .add 25 26),Zd [16,17,18,19,20,21,22,23,30,31,32,33,34,35] [8,9,10,11] (xS 28 6 24 27),Zd [16,17,18,19,20,21,22,23,30,31,32,33,34,35] [8,9,10,11,12] (lT 29 6 28),Zc [16,17,18,19,20,21,22,23,24,25,26,27,28,29,31,32,33] (mS 30 0),Zc [16,17,18,19,20,21,22,23,24,25,26,27,28,29,30,32] (mS 31 1),Zc [16,17,18,19,20,21,22,23,24,25,26,27,28,29,30,31] (mS 32 10),Zd [16,17,18,19,20,21,22,23,24,25,26,27,28,29,30] [15,16] (bS 33 .add 31 32),Zd [16,17,18,19,20,21,22,23,24,25,26,27,28,29] [14,15,16,17] (xS 34 6 30 33),Zd [16,17,18,19,20,21,22,23,24,25,26,27,28,29] [14,15,16,17,18] (lT 35 6 34),Zd [20,21,22,23] [0,1,2,3,8,9,10,11,12,13,14,15,16,17,18,19] (xS 36 6 16 19),{o:=sS 6 36 29,hs:=[20,21,22,23],ws:=[0],bf:=[0,1,2,3,8,9,10,11,12,13,14,15,16,17,18,19,20]},Ze (.range 22) (xS 37 6 20 23),{o:=sS 6 37 35,ws:=[0],bf:=(.range 23)}] [0,1,2,3,10]))
(pr [mS 14 10,bC 15 .add 14 1,mS 10 15] [0,1,2,3,10]))))))
theorem C1p(P X M Y Q:List GFound)(f:FuncId){a b n:Nat}(ha:P.length=a)(hb:(P++X++M).length=b)(hX:X.length=n)(hY:Y.length=n):CtrI Tryz.prog N8 [oL 6 ((P++X++M++Y++Q).map GFound.enc),iI a,iI b,iI n,fI f] [some (6,(P++Y++M++X++Q).map GFound.enc)] []:=by
 have hL0:(P++X++M++Y++Q).length=b+n+Q.length:=by rw[List.length_append,List.length_append,hb,hY]
 have hL1:(P++Y++M++X++Q).length=(P++X++M++Y++Q).length:=by simp;omega
 have hb':b=a+n+M.length:=by rw[←hb];simp;omega
 have hsw0:swp P X M Y Q 0=P++X++M++Y++Q:=by simp[swp]
 have hswn:swp P X M Y Q n=P++Y++M++X++Q:=by simp[swp,←hX,List.take_of_length_le (show Y.length≤X.length by omega),List.drop_of_length_le (show Y.length≤X.length by omega)]
 refine K56 (M:=M1g) (m:=0) (n:=38) (res:=[]) hmix Tryz.func281 rfl (by kernel_rfl) rfl (by kernel_rfl) (by kernel_rfl) (Nat.le_of_ble_eq_true rfl) rfl rfl ?_;unfold M1g
 intro hbd
 have hl:=K3x hbd
 clear hbd
 simp only[roomB]at hl
 rw[←hsw0,←hswn]
 rw[←hsw0,←hswn]at hL1
 rw[←hsw0]at hl hL0
 subst hX
 generalize hN:(swp P X M Y Q 0).length=N at*
 simp only[go_sem,hN]
 refine K3 X (fun i=>[(10,vI i)]) (fun i=>[(0,⟨1,.row true 6 ((swp P X M Y Q i).map GFound.enc)⟩)]) (fun _=>True) (by simp only[roomB];omega) ?_
 simp only[go_sem]
 refine⟨?_,trivial,?_,?_⟩
 ·simp only[go_sem]
 ·intro i x hx _ h0 h1 hw
  have hi:=K9 hx
  obtain⟨y,hy⟩:=K5 (show i<Y.length by omega)
  obtain⟨e1,e2⟩:=swp_two (P:=P) (M:=M) (Q:=Q) (f:=GFound.enc) hx hy
  have hlen:=swp_len (P:=P) (X:=X) (M:=M) (Y:=Y) (Q:=Q) (i:=i) hY.symm
  rw[e1,e2]
  generalize hAe:(P++Y.take i).map GFound.enc=A at e1 e2
  generalize hBe:(X.drop (i+1)++M++X.take i).map GFound.enc=B at e1 e2
  generalize hCe:(Y.drop (i+1)++Q).map GFound.enc=C at e1 e2
  have hA:A.length=a+i:=by subst hAe;simp;omega
  have hB:(a+i)+1+B.length=b+i:=by subst hBe;simp;omega
  have hC:C.length=Y.length-(i+1)+Q.length:=by subst hCe;simp
  obtain⟨g1,g2,s1,s2,hL,d1,d2⟩:=K9x (C:=C) hA hB
  have hL':∀e e',(two A e B e' C).length=N:=fun e e'=>by rw[hL];omega
  have k1:(0:Int)≤((a+i:Nat):Int):=by omega
  have k2:((a+i:Nat):Int)<(N:Int):=by omega
  have k3:(0:Int)≤((b+i:Nat):Int):=by omega
  have k4:((b+i:Nat):Int)<(N:Int):=by omega
  have k5:¬b+i=a+i:=by omega
  simp only[go_sem,g1,g2,s1,s2,hL',hw,h1,wN (a:=a) (b:=i) (by omega),wN (a:=b) (b:=i) (by omega),k1,k2,k3,k4]
 ·intro _
  simp only[go_sem]
def RotI(P X Y Q:List GFound)(m:Nat)(d:List GFound)(i j:Nat):Prop:=
 ∃C X' Y' D,d=P++C++X'++Y'++D++Q∧X'.length=i∧Y'.length=j∧P.length+C.length+i=m∧C++Y'++X'++D=Y++X∧0<i∧0<j
theorem RotI.gt{P X Y Q:List GFound}{m:Nat}{d:List GFound}{i j:Nat}(h:RotI P X Y Q m d i j)(hij:j<i):
  ∃P' X1 M Y' Q',d=P'++X1++M++Y'++Q'∧P'.length=m-i∧(P'++X1++M).length=m∧X1.length=j∧Y'.length=j∧RotI P X Y Q m (P'++Y'++M++X1++Q') (i-j) j:=by
 obtain⟨C,X',Y',D,rfl,rfl,rfl,h3,h4,h5,h6⟩:=h
 obtain⟨X1,X2,rfl,hX1⟩:∃X1 X2,X'=X1++X2∧X1.length=Y'.length:=⟨X'.take Y'.length,X'.drop Y'.length,(List.take_append_drop _ _).symm,by simp;omega⟩
 simp only[List.length_append]at*
 exact⟨P++C,X1,X2,Y',D++Q,by simp,by simp;omega,by simp;omega,hX1,rfl,C++Y',X2,X1,D,by simp,by omega,by omega,by simp;omega,by rw[←h4];simp,by omega,by omega⟩
theorem RotI.le{P X Y Q:List GFound}{m:Nat}{d:List GFound}{i j:Nat}(h:RotI P X Y Q m d i j)(hij:i<j):
  ∃P' X' M Y2 Q',d=P'++X'++M++Y2++Q'∧P'.length=m-i∧(P'++X'++M).length=m+j-i∧X'.length=i∧Y2.length=i∧RotI P X Y Q m (P'++Y2++M++X'++Q') i (j-i):=by
 obtain⟨C,X',Y',D,rfl,rfl,rfl,h3,h4,h5,h6⟩:=h
 obtain⟨Y1,Y2,rfl,hY2⟩:∃Y1 Y2,Y'=Y1++Y2∧Y2.length=X'.length:=⟨Y'.take (Y'.length-X'.length),Y'.drop (Y'.length-X'.length),(List.take_append_drop _ _).symm,by simp;omega⟩
 simp only[List.length_append]at*
 exact⟨P++C,X',Y1,Y2,D++Q,by simp,by simp;omega,by simp;omega,rfl,hY2,C,Y2,Y1,X'++D,by simp,by omega,by omega,by omega,by rw[←h4];simp,by omega,by omega⟩
theorem RotI.eq{P X Y Q:List GFound}{m:Nat}{d:List GFound}{i:Nat}(h:RotI P X Y Q m d i i):
  ∃P' X' Y' Q',d=P'++X'++[]++Y'++Q'∧P'.length=m-i∧(P'++X'++[]).length=m∧X'.length=i∧Y'.length=i∧P'++Y'++[]++X'++Q'=P++Y++X++Q:=by
 obtain⟨C,X',Y',D,rfl,rfl,h2,h3,h4,h5,h6⟩:=h
 refine⟨P++C,X',Y',D++Q,by simp,by simp;omega,by simp;omega,rfl,h2,?_⟩
 have:=congrArg (fun l=>P++(l++Q)) h4
 simpa using this
theorem RotI.len{P X Y Q:List GFound}{m:Nat}{d:List GFound}{i j:Nat}(h:RotI P X Y Q m d i j):d.length=(P++X++Y++Q).length∧i≤m∧m+j≤d.length∧0<i∧0<j:=by
 obtain⟨C,X',Y',D,rfl,rfl,rfl,h3,h4,h5,h6⟩:=h
 have:=congrArg List.length h4
 simp at this ⊢
 omega
theorem RotI.start{P X Y Q:List GFound}{m i j:Nat}(hm:P.length+X.length=m)(hi:X.length=i)(hj:Y.length=j)(hX:0<X.length)(hY:0<Y.length):RotI P X Y Q m (P++X++Y++Q) i j:=
 ⟨[],X,Y,[],by simp,hi,hj,by simp;omega,by simp,by omega,by omega⟩
def M1q:MC:=
(Zs [mS 12 2,mS 13 1,bS 14 .sub 12 13,mS 10 14] [0,2,3,4,10] (Zs [mS 15 3,mS 16 2,bS 17 .sub 15 16,mS 11 17] [0,2,4,10,11] (.seq (.block 0 (.loop ([0,2,4,10,11],[]) (.seq (Zs [mS 18 10,mS 19 11,bS 20 .neq 18 19] [0,2,4,10,11,20] (cX 20 0))
(.block 1 (Zs [mS 21 10,mS 22 11,bS 23 .gtr 21 22] [0,2,4,10,11,23] (.cond (.s 23) (Zs [mS 24 0,mS 25 2,mS 26 10,bS 27 .sub 25 26,mS 28 2,mS 29 11,mS 30 4,.callI 31 [] (.f N8) [.s 24,.s 27,.s 28,.s 29,.s 30] [0] []] [0,2,4,10,11] (pr [mS 32 10,mS 33 11,bS 34 .sub 32 33,mS 10 34] [0,2,4,10,11])) (Zs [mS 35 0,mS 36 2,mS 37 10,bS 38 .sub 36 37,mS 39 2,mS 40 11,bS 41 .add 39 40,mS 42 10,bS 43 .sub 41 42,mS 44 10,mS 45 4,.callI 46 [] (.f N8) [.s 35,.s 38,.s 43,.s 44,.s 45] [0] []] [0,2,4,10,11] (pr [mS 47 11,mS 48 10,bS 49 .sub 47 48,mS 11 49] [0,2,4,10,11]))))))))
(pr [mS 50 0,mS 51 2,mS 52 10,bS 53 .sub 51 52,mS 54 2,mS 55 10,mS 56 4,.callI 57 [] (.f N8) [.s 50,.s 53,.s 54,.s 55,.s 56] [0] []] []))))
theorem C7(P X Y Q:List GFound)(f:FuncId){a m b:Nat}(ha:P.length=a)(hm:(P++X).length=m)(hb:(P++X++Y).length=b)(hX:0<X.length)(hY:0<Y.length):CtrI Tryz.prog N1s [oL 6 ((P++X++Y++Q).map GFound.enc),iI a,iI m,iI b,fI f] [some (6,(P++Y++X++Q).map GFound.enc)] []:=by
 refine K56 (M:=M1q) (m:=0) (n:=58) (res:=[]) hmix Tryz.func272 rfl (by kernel_rfl) rfl (by kernel_rfl) (by kernel_rfl) (Nat.le_of_ble_eq_true rfl) rfl rfl ?_;unfold M1q
 intro hbd
 have hl:=K3x hbd
 clear hbd
 have hN2:(P++Y++X++Q).length=(P++X++Y++Q).length:=by simp;omega
 have hm':m=a+X.length:=by rw[←hm,←ha];simp
 have hb':b=m+Y.length:=by rw[←hb,←hm];simp;omega
 have hbN:b≤(P++X++Y++Q).length:=by rw[List.length_append,hb];omega
 generalize hN:(P++X++Y++Q).length=N at*
 simp only[roomB]at hl
 simp only[go_sem,hN,wS (a:=m) (b:=a) (by omega) (by omega),wS (a:=b) (b:=m) (by omega) (by omega)]
 refine Kq (ι:=List GFound×Nat×Nat) (fun s=>[(10,vI s.2.1),(11,vI s.2.2)]) (fun s=>[(0,⟨1,.row true 6 (s.1.map GFound.enc)⟩)]) (fun s=>RotI P X Y Q m s.1 s.2.1 s.2.2) (fun s=>s.2.1+s.2.2) (P++X++Y++Q,m-a,b-m) ?_
 simp only[go_sem]
 refine⟨?_,RotI.start (by omega) (show X.length=m-a by omega) (show Y.length=b-m by omega) hX hY,?_⟩
 ·simp only[go_sem]
 ·rintro ⟨d,i,j⟩ hI
  simp only at hI
  obtain⟨hd,h1,h2,h3,h4⟩:=hI.len
  rw[hN]at hd
  simp only[go_sem,hd]
  refine⟨fun hne=>⟨fun hgt=>?_,fun hle=>?_⟩,fun heq=>?_⟩
  ·obtain⟨P',X1,M,Y',Q',rfl,k1,k2,k3,k4,hR⟩:=hI.gt (by omega)
   have hd2:=hR.len.1
   rw[hN]at hd2
   rw[wS h1 (by omega)]
   apply Ka (C1p P' X1 M Y' Q' f k1 k2 k3 k4)
   simp only[go_sem,wS (a:=i) (b:=j) (by omega) (by omega)]
   exact⟨(_,i-j,j),⟨⟨rfl,rfl⟩,rfl⟩,hR,by show i-j+j<i+j;omega⟩
  ·obtain⟨P',X1,M,Y',Q',rfl,k1,k2,k3,k4,hR⟩:=hI.le (by omega)
   have hd2:=hR.len.1
   rw[hN]at hd2
   rw[wS h1 (by omega),wN (by omega),wS (a:=m+j) (b:=i) (by omega) (by omega)]
   apply Ka (C1p P' X1 M Y' Q' f k1 k2 k3 k4)
   simp only[go_sem,wS (a:=j) (b:=i) (by omega) (by omega)]
   exact⟨(_,i,j-i),⟨⟨rfl,rfl⟩,rfl⟩,hR,by show i+(j-i)<i+j;omega⟩
  ·obtain rfl:i=j:=by omega
   obtain⟨P',X1,Y',Q',rfl,k1,k2,k3,k4,hR⟩:=hI.eq
   rw[wS h1 (by omega)]
   apply Ka (C1p P' X1 [] Y' Q' f k1 k2 k3 k4)
   rw[hR]
   simp only[go_sem]
def ltc(c:GFound→GFound→Int)(x y:GFound):Bool:=decide (c x y<0)
def InsI(lt:GFound→GFound→Bool)(P S R:List GFound)(x:GFound)(d:List GFound)(j:Nat):Prop:=
 ∃s1 s2,d=P++s1++x::s2++R∧P.length+s1.length=j∧s1++s2=S∧∀y∈s2,lt x y=true
theorem InsI.len{lt:GFound→GFound→Bool}{P S R:List GFound}{x:GFound}{d:List GFound}{j:Nat}(h:InsI lt P S R x d j):d.length=P.length+S.length+1+R.length∧P.length≤j∧j≤P.length+S.length:=by
 obtain⟨s1,s2,rfl,rfl,rfl,h⟩:=h
 simp;omega
theorem InsI.done{lt:GFound→GFound→Bool}(hw:Srt.Swo lt){P S R:List GFound}{x:GFound}{d:List GFound}{j:Nat}(h:InsI lt P S R x d j)(hs:Srt.srt lt S)(hj:j=P.length∨∀z∈d[j-1]?,lt x z=false):d=P++Srt.ins lt x S++R:=by
 obtain⟨s1,s2,rfl,rfl,rfl,h⟩:=h
 rw[Srt.ins_mid]
 ·simp
 ·intro y hy
  rcases List.eq_nil_or_concat s1 with rfl|⟨s,z,rfl⟩
  ·simp at hy
  ·rcases hj with hj|hj
   ·simp at hj
   ·rw[List.concat_eq_append]at*
    have hz:lt x z=false:=hj z (by simp[])
    rcases List.mem_append.1 hy with k|k
    ·have:=(Srt.srt_append.1 (Srt.srt_append.1 hs).1).2.2 y k z (by simp)
     exact hw.ntr hz this
    ·obtain rfl:=List.mem_singleton.1 k
     exact hz
 ·intro y hy
  exact h y (List.mem_of_mem_head? hy)
theorem InsI.step{lt:GFound→GFound→Bool}{P S R:List GFound}{x:GFound}{d:List GFound}{j:Nat}(h:InsI lt P S R x d j)(hj:P.length<j):
  ∃A z C,d=A++z::([]++x::C)∧A.length=j-1∧d[j-1]? =some z∧(lt x z=true→InsI lt P S R x (A++x::([]++z::C)) (j-1)):=by
 obtain⟨s1,s2,rfl,rfl,rfl,h⟩:=h
 rcases List.eq_nil_or_concat s1 with rfl|⟨s,z,rfl⟩
 ·simp at hj
 ·rw[List.concat_eq_append]at*
  refine⟨P++s,z,s2++R,by simp,by simp,by simp[],fun hl=>⟨s,z::s2,by simp,by simp,by simp,?_⟩⟩
  intro y hy
  rcases List.mem_cons.1 hy with rfl|k
  ·exact hl
  ·exact h y k
def M11:MC:=
(Zs [mS 10 1,bC 11 .add 10 1,mS 8 11] [0,1,2,3,8] (.block 0 (.loop ([0,1,2,3,8],[]) (.seq (Zs [mS 12 8,mS 13 2,bS 14 .lss 12 13] [0,1,2,3,8,14] (cX 14 0))
(.seq (.block 1 (Zs [mS 17 8,mS 9 17] [0,1,2,3,8,9] (.block 2 (.loop ([0,1,2,3,8,9],[]) (.seq (.seq (.dreg [Zc [19] (mS 18 9),Zc [18] (mS 19 1),Ze [0,1] (bS 20 .gtr 18 19),Ze [0,1,2] (mS 21 20),{o:=mS 22 3,g:=some (21,true),hs:=[23,24,25,26,27,28,29,30,31],bf:=(.range 4)},{o:=mS 23 0,g:=some (21,true),hs:=[22,24,27,28,29,30,31],bf:=(.range 4)},{o:=mS 24 9,g:=some (21,true),hs:=[22,23,27,28,29,30,31],bf:=(.range 4)},{o:=xS 25 6 23 24,g:=some (21,true),hs:=[22,27,28,29,30,31],bf:=[0,1,2,3,5,6]},{o:=lT 26 6 25,g:=some (21,true),hs:=[22,27,28,29,30,31],bf:=[0,1,2,3,5,6,7]},{o:=mS 27 0,g:=some (21,true),hs:=[22,23,24,25,26,28,29],bf:=(.range 4)},{o:=mS 28 9,g:=some (21,true),hs:=[22,23,24,25,26,27],bf:=(.range 4)},{o:=bC 29 .sub 28 1,g:=some (21,true),hs:=[22,23,24,25,26,27],bf:=[0,1,2,3,10]},{o:=xS 30 6 27 29,g:=some (21,true),hs:=[22,23,24,25,26],bf:=[0,1,2,3,9,10,11]},{o:=lT 31 6 30,g:=some (21,true),hs:=[22,23,24,25,26],bf:=[0,1,2,3,9,10,11,12]},{o:= .call 32 [] (.s 22) [.s 26,.s 31],g:=some (21,true),bf:=(.range 14)},{o:=bC 33 .lss 32 0,g:=some (21,true),bf:=(.range 15)},Ze (.range 16) (.pick 34 (.s 21) (.s 33) cF)] [0,1,2,3,8,9,34])
(cX 34 2))
(.seq (.block 3 (.dreg [Zc [38,39,40,41,42,43,44,45,46,47,48,49,50] (mS 37 0),Zc [37,39,40,41,42,43,44,45,46,47,48,49,50] (mS 38 9),Zf [37,38,40,41,42,43,44,45,46,47,48,49,50,51] [0] (mS 39 0),Zf [37,38,39,42,43,44,45,46,47,48,49,50,51] [0] (mS 40 9),Zg [37,38,39,42,43,44,45,46,47,48,49,50,51] [0] [3] (bC 41 .sub 40 1),Zc [37,38,39,40,41,43,44,47,48,49,50] (mS 42 0),Zc [37,38,39,40,41,42,47,48,49,50] (mS 43 9),Zd [37,38,39,40,41,42,47,48,49,50] [6] (bC 44 .sub 43 1),Zd [37,38,39,40,41,47,48,49,50] [5,6,7] (xS 45 6 42 44),Zd [37,38,39,40,41,47,48,49,50] [5,6,7,8] (lT 46 6 45),Zc [37,38,39,40,41,42,43,44,45,46,48] (mS 47 0),Zc [37,38,39,40,41,42,43,44,45,46,47] (mS 48 9),Zd [37,38,39,40,41,42,43,44,45,46] [10,11] (xS 49 6 47 48),Zd [37,38,39,40,41,42,43,44,45,46] [10,11,12] (lT 50 6 49),Zd [39,40,41] [0,1,5,6,7,8,9,10,11,12,13] (xS 51 6 37 38),{o:=sS 6 51 46,hs:=[39,40,41],ws:=[0],bf:=[0,1,5,6,7,8,9,10,11,12,13,14]},Ze (.range 16) (xS 52 6 39 41),{o:=sS 6 52 50,ws:=[0],bf:=(.range 17)}] [0,1,2,3,8,9]))
(pr [mS 35 9,bC 36 .sub 35 1,mS 9 36] [0,1,2,3,8,9])))))))
(pr [mS 15 8,bC 16 .add 15 1,mS 8 16] [0,1,2,3,8]))))))
theorem C2c(P X Q:List GFound)(f:FuncId)(c:GFound→GFound→Int)(hc:∀x y,Ctr Tryz.prog f [aS x.enc,aS y.enc] [rI (c x y)])(hw:Srt.Swo (ltc c)){a b:Nat}(ha:P.length=a)(hb:(P++X).length=b):CtrI Tryz.prog N9 [oL 6 ((P++X++Q).map GFound.enc),iI a,iI b,fI f] [some (6,(P++Srt.isort (ltc c) X++Q).map GFound.enc)] []:=by
 have hlk:∀k,(P++Srt.isort (ltc c) (X.take k)++(X.drop k++Q)).length=(P++X++Q).length:=fun k=>by simp[Srt.len_isort];omega
 refine K56 (M:=M11) (m:=0) (n:=53) (res:=[]) hmix Tryz.func253 rfl (by kernel_rfl) rfl (by kernel_rfl) (by kernel_rfl) (Nat.le_of_ble_eq_true rfl) rfl rfl ?_;unfold M11
 intro hbd
 have hl:=K3x hbd
 clear hbd
 have hb':b=a+X.length:=by rw[←hb,←ha];simp
 have hbN:b≤(P++X++Q).length:=by rw[List.length_append,hb];omega
 generalize hN:(P++X++Q).length=N at*
 simp only[roomB]at hl
 simp only[go_sem,hN,wN1 (a:=a) (by omega)]
 refine Kq (fun k:Nat=>[(8,vI ((a+k:Nat):Int))]) (fun k=>[(0,⟨1,.row true 6 ((P++Srt.isort (ltc c) (X.take k)++(X.drop k++Q)).map GFound.enc)⟩)]) (fun k=>1≤k∧(k≤X.length∨k=1)) (fun k=>X.length-k) 1 ?_
 simp only[go_sem]
 refine⟨?_,⟨by omega,by omega⟩,?_⟩
 ·simp only[go_sem]
  cases X with
  |nil=>simp[Srt.isort,Srt.mrg]
  |cons x X=>simp[Srt.isort,Srt.mrg,Srt.ins]
 ·rintro k ⟨h1,h2⟩
  simp only[go_sem]
  refine⟨fun hlt=>?_,fun hge=>?_⟩
  ·obtain⟨x,hx⟩:=K5 (show k<X.length by omega)
   refine Kq (ι:=List GFound×Nat) (fun s=>[(9,vI s.2)]) (fun s=>[(0,⟨1,.row true 6 (s.1.map GFound.enc)⟩)]) (fun s=>InsI (ltc c) P (Srt.isort (ltc c) (X.take k)) (X.drop (k+1)++Q) x s.1 s.2) (fun s=>s.2) (P++Srt.isort (ltc c) (X.take k)++(X.drop k++Q),a+k) ?_
   simp only[go_sem]
   refine⟨?_,⟨Srt.isort (ltc c) (X.take k),[],by simp[K1t hx],by simp[Srt.len_isort];omega,by simp,by simp⟩,?_⟩
   ·simp only[go_sem]
   ·rintro ⟨d,j⟩ hI
    simp only at hI
    obtain⟨hd,h3,h4⟩:=hI.len
    have hdN:d.length=N:=by
     have:=hlk k
     simp[K1t hx]at this hd
     omega
    have hdone:(j=P.length∨∀z∈d[j-1]?,ltc c x z=false)→d.map GFound.enc=(P++Srt.isort (ltc c) (X.take (k+1))++(X.drop (k+1)++Q)).map GFound.enc:=fun h=>by
     rw[hI.done hw (Srt.srt_isort hw _) h,K8 hx,Srt.isort_snoc]
    by_cases hj:P.length<j
    ·obtain⟨A,z,C,e,k1,k2,k3⟩:=hI.step hj
     have e':d.map GFound.enc=two (A.map GFound.enc) z.enc [] x.enc (C.map GFound.enc):=by subst e;simp[two]
     have e2:(A++x::([]++z::C)).map GFound.enc=two (A.map GFound.enc) x.enc [] z.enc (C.map GFound.enc):=by simp[two]
     obtain⟨g1,g2,s1,s2,hL,d1,d2⟩:=K9x (A:=A.map GFound.enc) (B:=[]) (C:=C.map GFound.enc) (p:=j-1) (q:=j) (by simpa using k1) (by simp;omega)
     have hL':∀u v,(two (A.map GFound.enc) u [] v (C.map GFound.enc)).length=N:=fun u v=>by
      rw[←hdN,hL,e];simp;omega
     rw[e']
     have j0:(j:Int)>(a:Int):=by omega
     have j1:(0:Int)≤(j:Int):=by omega
     have j2:(j:Int)<(N:Int):=by omega
     have j3:(0:Int)≤((j-1:Nat):Int):=by omega
     have j4:((j-1:Nat):Int)<(N:Int):=by omega
     simp only[go_sem,hL',g1,g2,j0,j1,j2,j3,j4,wS1 (a:=j) (by omega) (by omega)]
     apply K0 (hc x z)
     simp only[go_sem,hL',g1,g2,s1,s2,j1,j2,j3,j4,wS1 (a:=j) (by omega) (by omega),wN1 (a:=a+k) (by omega)]
     intro _
     refine⟨fun hn=>⟨(A++x::([]++z::C),j-1),⟨rfl,e2.symm⟩,k3 (by simpa[ltc]using hn),by show j-1<j;omega⟩,fun hn=>?_⟩
     have hz:ltc c x z=false:=by simpa[ltc]using hn
     have:=hdone (.inr (by rw[k2];intro y hy;obtain rfl:=Option.some.inj hy;exact hz))
     rw[e']at this
     exact⟨k+1,⟨rfl,this⟩,⟨by omega,by omega⟩,by omega⟩
    ·have j0:¬(j:Int)>(a:Int):=by omega
     simp only[go_sem,j0,wN1 (a:=a+k) (by omega)]
     have:=hdone (.inl (by omega))
     exact⟨k+1,⟨rfl,this⟩,⟨by omega,by omega⟩,by omega⟩
  ·have hk:X.length≤k:=by omega
   rw[List.take_of_length_le hk,List.drop_of_length_le hk,List.nil_append]
end Go.Proofs.YtpeabgkoknjojaaGreatDoorR
